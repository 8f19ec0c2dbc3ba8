/-
  It is proved that YarnEntries returns true for all inputs. Conditions: those of the given row alone (the listed package variables hold what the program's text lays).
-/
import Derived.Test.YtcnioemfifogeaaGreatDoorQGenA1e
import Derived.Test.YtcnioemfifogeaaGreatDoorOePa
import Derived.Test.YtcnioemfifogeaaGreatDoorAvPt
import Derived.Test.YtcnioemfifogeaaGreatDoorAvAwkQ3
import Derived.Test.YtcnioemfifogeaaGreatDoorCards
import Derived.Test.YtcnioemfifogeaaGreatDoorTie
import Derived.Lay
import Derived.LaidMore
import Derived.LaidSub
import Derived.SevenTiedAt
import Derived.Stop.Joined
import Derived.Lib.LaidTab
import Derived.Lib.ItoaNum
noncomputable section
namespace Go.Av
open Go.Proofs Go.Proofs.YtcnioemfifogeaaGreatDoor
open Go.ChangeShapes Go.WideShapes Go.ChangeAt Go.RowKit
set_option linter.unusedSectionVars false
set_option maxRecDepth 100000
theorem ud28:Tryz.prog.underlying 28=some (.slice 74):=by kernel_rfl
theorem ud3:Tryz.prog.underlying 3=some (.int .i64):=by kernel_rfl
theorem rd3:jk Tryz.prog 3 encI:=jk.i64 ud3
theorem ud9:Tryz.prog.underlying 9=some (.string):=by kernel_rfl
theorem rd9:jk Tryz.prog 9 encS:=jk.str ud9
theorem ud74:Tryz.prog.underlying 74=some (.struct #[{name:= "Lot",type:=9,offset:=0,embedded:=false,tag:= "",pkgPath:= "",byteOffset:=0},{name:= "Order",type:=9,offset:=1,embedded:=false,tag:= "",pkgPath:= "",byteOffset:=16},{name:= "Reserved",type:=3,offset:=2,embedded:=false,tag:= "",pkgPath:= "",byteOffset:=32},{name:= "Taken",type:=3,offset:=3,embedded:=false,tag:= "",pkgPath:= "",byteOffset:=40}]):=by kernel_rfl
theorem rd74:jk Tryz.prog 74 qa:=jY.struct (fl:=[{name:= "Lot",type:=9,offset:=0,embedded:=false,tag:= "",pkgPath:= "",byteOffset:=0},{name:= "Order",type:=9,offset:=1,embedded:=false,tag:= "",pkgPath:= "",byteOffset:=16},{name:= "Reserved",type:=3,offset:=2,embedded:=false,tag:= "",pkgPath:= "",byteOffset:=32},{name:= "Taken",type:=3,offset:=3,embedded:=false,tag:= "",pkgPath:= "",byteOffset:=40}]) ud74 rfl (by kernel_rfl) (fun(x0,x1,x2,x3)=>(⟨x0,x1,x2,x3⟩:qd)) (fun _=>rfl) (jY.cons rfl (by kernel_rfl) rd9 (jY.cons rfl (by kernel_rfl) rd9 (jY.cons rfl (by kernel_rfl) rd3 (jY.last rfl (by kernel_rfl) rd3))))
theorem ud27:Tryz.prog.underlying 27=some (.slice 71):=by kernel_rfl
theorem ud71:Tryz.prog.underlying 71=some (.struct #[{name:= "Name",type:=9,offset:=0,embedded:=false,tag:= "",pkgPath:= "",byteOffset:=0},{name:= "Yarn",type:=9,offset:=1,embedded:=false,tag:= "",pkgPath:= "",byteOffset:=16},{name:= "Dye",type:=9,offset:=2,embedded:=false,tag:= "",pkgPath:= "",byteOffset:=32},{name:= "Stock",type:=3,offset:=3,embedded:=false,tag:= "",pkgPath:= "",byteOffset:=48}]):=by kernel_rfl
theorem rd71:jk Tryz.prog 71 qb:=jY.struct (fl:=[{name:= "Name",type:=9,offset:=0,embedded:=false,tag:= "",pkgPath:= "",byteOffset:=0},{name:= "Yarn",type:=9,offset:=1,embedded:=false,tag:= "",pkgPath:= "",byteOffset:=16},{name:= "Dye",type:=9,offset:=2,embedded:=false,tag:= "",pkgPath:= "",byteOffset:=32},{name:= "Stock",type:=3,offset:=3,embedded:=false,tag:= "",pkgPath:= "",byteOffset:=48}]) ud71 rfl (by kernel_rfl) (fun(x0,x1,x2,x3)=>(⟨x0,x1,x2,x3⟩:qj)) (fun _=>rfl) (jY.cons rfl (by kernel_rfl) rd9 (jY.cons rfl (by kernel_rfl) rd9 (jY.cons rfl (by kernel_rfl) rd9 (jY.last rfl (by kernel_rfl) rd3))))
theorem ud30:Tryz.prog.underlying 30=some (.struct #[{name:= "Day",type:=3,offset:=0,embedded:=false,tag:= "",pkgPath:= "",byteOffset:=0},{name:= "Lots",type:=27,offset:=1,embedded:=false,tag:= "",pkgPath:= "",byteOffset:=8},{name:= "Holds",type:=28,offset:=2,embedded:=false,tag:= "",pkgPath:= "",byteOffset:=32}]):=by kernel_rfl
theorem rw30:qaS Tryz.prog 30 qfS (fun x=>True/\x.Lots.length*Tryz.prog.bytesOf 71<=reachBytes/\x.Holds.length*Tryz.prog.bytesOf 74<=reachBytes):=by
 have h:=qae.struct (P:=Tryz.prog) (t:=30) (f:=fun(x:qm)=>(x.Day,x.Lots,x.Holds)) (fl:=[{name:= "Day",type:=3,offset:=0,embedded:=false,tag:= "",pkgPath:= "",byteOffset:=0},{name:= "Lots",type:=27,offset:=1,embedded:=false,tag:= "",pkgPath:= "",byteOffset:=8},{name:= "Holds",type:=28,offset:=2,embedded:=false,tag:= "",pkgPath:= "",byteOffset:=32}]) ud30 rfl (by kernel_rfl) (fun(x0,x1,x2)=>(⟨x0,x1,x2⟩:qm)) (fun _=>rfl) (qae.cons rfl (by kernel_rfl) (qaS.of rd3) (qae.cons rfl (by kernel_rfl) (qaS.list ud27 (by kernel_rfl) rd71) (qae.last rfl (by kernel_rfl) (qaS.list ud28 (by kernel_rfl) rd74))))
 exact h
theorem ud56:Tryz.prog.underlying 56=some (.struct #[{name:= "Kind",type:=9,offset:=0,embedded:=false,tag:= "",pkgPath:= "",byteOffset:=0},{name:= "Day",type:=3,offset:=1,embedded:=false,tag:= "",pkgPath:= "",byteOffset:=16},{name:= "Lot",type:=9,offset:=2,embedded:=false,tag:= "",pkgPath:= "",byteOffset:=24},{name:= "Amount",type:=3,offset:=3,embedded:=false,tag:= "",pkgPath:= "",byteOffset:=40},{name:= "Yarn",type:=9,offset:=4,embedded:=false,tag:= "",pkgPath:= "",byteOffset:=48},{name:= "Dye",type:=9,offset:=5,embedded:=false,tag:= "",pkgPath:= "",byteOffset:=64},{name:= "Order",type:=9,offset:=6,embedded:=false,tag:= "",pkgPath:= "",byteOffset:=80}]):=by kernel_rfl
theorem rd56:jk Tryz.prog 56 qgk:=jY.struct (fl:=[{name:= "Kind",type:=9,offset:=0,embedded:=false,tag:= "",pkgPath:= "",byteOffset:=0},{name:= "Day",type:=3,offset:=1,embedded:=false,tag:= "",pkgPath:= "",byteOffset:=16},{name:= "Lot",type:=9,offset:=2,embedded:=false,tag:= "",pkgPath:= "",byteOffset:=24},{name:= "Amount",type:=3,offset:=3,embedded:=false,tag:= "",pkgPath:= "",byteOffset:=40},{name:= "Yarn",type:=9,offset:=4,embedded:=false,tag:= "",pkgPath:= "",byteOffset:=48},{name:= "Dye",type:=9,offset:=5,embedded:=false,tag:= "",pkgPath:= "",byteOffset:=64},{name:= "Order",type:=9,offset:=6,embedded:=false,tag:= "",pkgPath:= "",byteOffset:=80}]) ud56 rfl (by kernel_rfl) (fun(x0,x1,x2,x3,x4,x5,x6)=>(⟨x0,x1,x2,x3,x4,x5,x6⟩:qh)) (fun _=>rfl) (jY.cons rfl (by kernel_rfl) rd9 (jY.cons rfl (by kernel_rfl) rd3 (jY.cons rfl (by kernel_rfl) rd9 (jY.cons rfl (by kernel_rfl) rd3 (jY.cons rfl (by kernel_rfl) rd9 (jY.cons rfl (by kernel_rfl) rd9 (jY.last rfl (by kernel_rfl) rd9)))))))
theorem tyB:Tryz.prog.underlying 4=some .bool:=by kernel_rfl
theorem laidOut:laidOutB Tryz.prog=true:=by kernel_rfl
theorem contract (H:Type) (enc:TypeId×Value->H) (W:World) (base:Nat) (args:Array Value) (ds gs:List (DataW H)) (before:List MemPlace)
 (hval: ∀(j:Nat) t v,Tryz.f4.params[j]? =some t->args[j]? =some v->Value.okWide Tryz.prog W .any base t v)
 (hW:DataW.Whole enc Tryz.prog Tryz.f4.params.toList Rows.yarnEntriesSpec.vars false W args.toList ds gs before)
 (hw:(DataW.weightsEach Tryz.prog (Tryz.f4.params.toList++Rows.yarnEntriesSpec.plain.varTypes Tryz.prog) (ds++gs)).all (· <=reachBytes)=true) (hG:Glob.G (AllOf W) W):
 Calls Tryz.prog 4 args W fun e W'=> ∃v,e= .returned v/\Rows.yarnEntriesSpec.post enc Tryz.prog Tryz.f4 false true false false W args v W':=by
 have hW':=hW
 obtain⟨p,q,hA0,hV,rfl,hfz,hnd⟩:=hW
 have r0:DataW.TrodAll enc Tryz.prog W 0 (fun _=>true) true Tryz.f4.params.toList args.toList ds p:=hA0
 rw[Tryz.params4]at r0 hval hw
 obtain⟨v0,vs0,d0,ds0,p0,q0,hargs,rfl,rfl,h0,r1⟩:=trodAll_cons r0
 obtain⟨v1,vs1,d1,ds1,p1,q1,rfl,rfl,rfl,h1,r2⟩:=trodAll_cons r1
 obtain⟨rfl,rfl,rfl⟩:=trodAll_nil r2
 obtain⟨hw0,hw⟩:=qeq (t:=30) (d:=d0) hw
 obtain⟨hw1,hw⟩:=qeq (t:=56) (d:=d1) hw
 obtain rfl:args=#[v0,v1]:=by cases args;simp_all
 obtain⟨a0,hu0,hq0⟩:=In.structW ud30 rw30 (hval 0 30 v0 rfl rfl) h0 hw0
 have hb0_0:a0.Lots.length*56<=140737488355328:=by
  have h:a0.Lots.length*Tryz.prog.bytesOf 71<=reachBytes:=hq0.2.1
  rw[show Tryz.prog.bytesOf 71=56 by kernel_rfl]at h
  exact Nat.le_trans h (by decide)
 have hb0_1:a0.Holds.length*48<=140737488355328:=by
  have h:a0.Holds.length*Tryz.prog.bytesOf 74<=reachBytes:=hq0.2.2
  rw[show Tryz.prog.bytesOf 74=48 by kernel_rfl]at h
  exact Nat.le_trans h (by decide)
 obtain⟨a1,hu1⟩:=In.struct ud56 rd56 (hval 1 56 v1 rfl rfl) h1
 refine qjE laidOut (fun t ht=>?_) rfl (show Tryz.f4.resultTypes=#[4]from rfl) tyB (fun ds hds=>?_) hW' (enters_of (by kernel_rfl)) (qcO (700000+a0.Lots.length+a0.Holds.length) a0 a1 (qec (N:=700000+a0.Lots.length+a0.Holds.length) a0 a1 (by omega) hb0_0 hb0_1)) hG (al:=[.agg [.i a0.Day,vl qb a0.Lots,vl qa a0.Holds],.agg [.str a1.Kind,.i a1.Day,.str a1.Lot,.i a1.Amount,.str a1.Yarn,.str a1.Dye,.str a1.Order]]) ⟨rfl,fun i a v ha hv=>?_⟩
 ·rw[Tryz.params4]at ht
  have ht:t=30\/t=56:=by simpa using ht
  rcases ht with rfl|rfl
  ·exact⟨by kernel_rfl,of_decide_eq_true (by kernel_rfl)⟩
  exact⟨by kernel_rfl,of_decide_eq_true (by kernel_rfl)⟩
 ·rw[Tryz.params4]at hds
  match ds,hds with
  |[d1,d2],_=>exact⟨rfl,rfl,rfl⟩
 match i with
 |0=>simp at ha hv;subst ha hv;exact hu0
 |1=>simp at ha hv;subst ha hv;exact hu1
 |i+2=>simp at ha
theorem qlC {W:World} (h:laidMetH Tryz.prog Rows.yarnEntriesRow.laid W):Glob.G (AllOf W) W:=by
 have h1:=h.filter fun x=>x.1==qcq
 have e:(Rows.yarnEntriesRow.laid.filter fun x=>x.1==qcq)=[(qcq,Lib.tabData .u64 Lib.pow10Tab)]:=by kernel_rfl
 rw[e]at h1
 have h2:laidMet Tryz.prog [(qcq,Lib.tabData .u64 Lib.pow10Tab)] W:=by
  rw[MakeChecks.laidMetH_plain _ _ _ (by kernel_rfl)]at h1
  exact h1
 have ht:Lib.TabIs Tryz.prog W qcq .u64 Lib.pow10Tab:=
  Lib.tabIs_of_head (rest:=[]) (t:=325) (e:=246) (n:=20) qeM (by kernel_rfl) (by kernel_rfl) (by kernel_rfl) (by kernel_rfl) (by kernel_rfl) h2
 refine⟨?_,ht⟩
 unfold Lib.TabIs World.var? at ht
 rw[qeM]at ht
 simp only[ZB]at ht
 show 5<W.heap.size
 rcases Nat.lt_or_ge 5 W.heap.size with h5|h5
 ·exact h5
 rw[Array.getElem?_eq_none h5]at ht
 cases ht
theorem own:ownKnob Tryz.prog.godebug=none:=by kernel_rfl
theorem lifted (os:Os) (started:os.Started) (H:Type) (enc:TypeId×Value->H):
 ReturnsInHanded {} Tryz.checked os 4 .any (fun w args=>(Rows.yarnEntriesSpec.pre enc Tryz.prog Tryz.f4 Rows.yarnEntriesRow.domain false w args/\laidMetH Tryz.prog Rows.yarnEntriesRow.laid w)/\sizedMet enc Tryz.prog Tryz.f4 (OpenSpec.ofChange Rows.yarnEntriesSpec) false w args)
  (Rows.yarnEntriesSpec.post enc Tryz.prog Tryz.f4 false true false false):=by
 refine returnsInHanded_of_change_and (C:=Tryz.checked) (X:=fun w _=>laidMetH Tryz.prog Rows.yarnEntriesRow.laid w) (fun _ _ _ hh h=>h.of_heap hh) own started (by kernel_rfl) Tryz.func4
  (ChangeSpec.witness_shaped (enc:=enc) (C:=Tryz.checked) (os:=os) (X:=fun w _=>laidMetH Tryz.prog Rows.yarnEntriesRow.laid w) false (World.laidAll Tryz.prog os Rows.yarnEntriesRow.laid) #[.agg #[.int .i64 0,.slice none 0 0,.slice none 0 0],.agg #[.string ⟨#[]⟩,.int .i64 0,.string ⟨#[]⟩,.int .i64 0,.string ⟨#[]⟩,.string ⟨#[]⟩,.string ⟨#[]⟩]] 8 (World.laidAll_os _ _ _)
   (World.shaped_of_ZipB (by kernel_rfl) (by kernel_rfl)) (by kernel_rfl) (by kernel_rfl) (by kernel_rfl)
   (by rw[MakeChecks.laidMetH_plain _ _ _ (by kernel_rfl)];exact laidMet_laidAll _ (by kernel_rfl) (by kernel_rfl))) ?_
 intro W base args ds gs before hval hW _ hw hL _
 exact contract H enc W base args ds gs before hval hW hw (qlC hL)
theorem factA:Tryz.pinned.checked.prog.funcNamed Rows.yarnEntriesRow.func=some 4:=by kernel_rfl
theorem fact0:(Rows.yarnEntriesRow.wf (OpenSpec.ofChange Rows.yarnEntriesSpec))=true:=by kernel_rfl
theorem fact1:(laidOutB Tryz.pinned.checked.prog)=true:=by kernel_rfl
theorem fact2:(mapsRowed Tryz.pinned.checked.prog)=true:=by kernel_rfl
theorem fact3:(Tryz.f4.params.all (Tryz.pinned.checked.prog.readableRec ·))=true:=by kernel_rfl
theorem fact4:(namedTie Tryz.pinned.checked.prog Rows.yarnEntriesRow.named Rows.yarnEntriesSpec.vars)=true:=by kernel_rfl
theorem fact5:((Rows.yarnEntriesRow.stops==[]))=true:=by kernel_rfl
theorem fact6:((Tryz.pinned.checked.prog.stops==[]))=true:=by kernel_rfl
theorem fact7:((Rows.yarnEntriesRow.knobs==[]))=true:=by kernel_rfl
theorem fact8:((Tryz.pinned.checked.prog.stopKnobs==[]))=true:=by kernel_rfl
theorem fact9:((Rows.yarnEntriesRow.inPlace==Tryz.pinned.checked.prog.inPlace 4))=true:=by kernel_rfl
theorem qmW:((Rows.yarnEntriesRow.unfollowed==Tryz.pinned.checked.prog.unfollowed 4))=true:=by kernel_rfl
theorem qmC:((Rows.yarnEntriesRow.recurses==Tryz.pinned.checked.prog.recurses 4))=true:=by kernel_rfl
theorem qmU:((Rows.yarnEntriesRow.named==Tryz.pinned.checked.prog.varsNamed 4))=true:=by kernel_rfl
theorem qmX:((Rows.yarnEntriesRow.maps==(Tryz.f4.params.toList++Rows.yarnEntriesSpec.plain.varTypes Tryz.pinned.checked.prog).any (Tryz.pinned.checked.prog.mapsRec ·)))=true:=by kernel_rfl
theorem qm2:((Rows.yarnEntriesRow.ifaces==(Tryz.f4.params.toList++Rows.yarnEntriesSpec.plain.varTypes Tryz.pinned.checked.prog).any (Tryz.pinned.checked.prog.ifacesRec ·)))=true:=by kernel_rfl
theorem qmG:((Rows.yarnEntriesRow.mapsOut==Tryz.pinned.checked.prog.mapsAmong Tryz.f4.resultTypes.toList))=true:=by kernel_rfl
theorem qmI:((Rows.yarnEntriesRow.loops==(Tryz.f4.params.toList++Rows.yarnEntriesSpec.plain.varTypes Tryz.pinned.checked.prog).any (Tryz.pinned.checked.prog.loopsFrom ·)))=true:=by kernel_rfl
theorem qmQ:((Rows.yarnEntriesRow.wideKeys==(Tryz.f4.params.toList++Rows.yarnEntriesSpec.plain.varTypes Tryz.pinned.checked.prog++Tryz.f4.resultTypes.toList).any (Tryz.pinned.checked.prog.wideKeysFrom ·)))=true:=by kernel_rfl
theorem qm9:(Rows.yarnEntriesSpec.vars.all (Tryz.pinned.checked.prog.varReadable ·))=true:=by kernel_rfl
theorem qmO:(Tryz.f4.resultTypes.all (fun t=>Tryz.pinned.checked.prog.readableRec t&&decide (t<Tryz.pinned.checked.prog.types.size)))=true:=by kernel_rfl
theorem qmz:((Rows.yarnEntriesRow.ifacesOut==Tryz.f4.resultTypes.toList.any (Tryz.pinned.checked.prog.ifacesRec ·)))=true:=by kernel_rfl
theorem qmV:((Rows.yarnEntriesRow.loopsOut==Tryz.f4.resultTypes.toList.any (Tryz.pinned.checked.prog.loopsFrom ·)))=true:=by kernel_rfl
theorem qmY:((Rows.yarnEntriesRow.plainKeys==Tryz.pinned.checked.prog.plainKeys))=true:=by kernel_rfl
theorem qnb:(Rows.yarnEntriesRow.shortTexts.isNone)=true:=by kernel_rfl
theorem qmx:(Tryz.pinned.checked.prog.stopsHeard)=true:=by kernel_rfl
theorem qm5:(Tryz.pinned.checked.prog.mayEnter)=true:=by kernel_rfl
theorem qmM:((Rows.yarnEntriesRow.lifted==Tryz.pinned.checked.prog.liftsFinal))=true:=by kernel_rfl
theorem qm1:((Tryz.pinned.checked.prog.make==some Rows.yarnEntriesRow.make))=true:=by kernel_rfl
theorem qm3:((Rows.yarnEntriesRow.kinds==(if Rows.yarnEntriesRow.domain.isEmpty then[]else Tryz.f4.params.toList.map fun t=>match Tryz.pinned.checked.prog.underlying t with|some (.int k)=>some k|_=>none)))=true:=by kernel_rfl
theorem qm6:((Rows.yarnEntriesRow.pinned==Rows.yarnEntriesRow.pinnedBy))=true:=by kernel_rfl
theorem qna:((Rows.yarnEntriesRow.veiled==(Tryz.f4.params.toList++Rows.yarnEntriesSpec.plain.varTypes Tryz.pinned.checked.prog++Tryz.f4.resultTypes.toList).any (Tryz.pinned.checked.prog.veiledRec ·)))=true:=by kernel_rfl
theorem qm4:(Rows.yarnEntriesRow.veiledFits Tryz.pinned.checked.prog Tryz.f4.params.toList (Tryz.f4.params.toList++Rows.yarnEntriesSpec.plain.varTypes Tryz.pinned.checked.prog++Tryz.f4.resultTypes.toList))=true:=by kernel_rfl
theorem factB:joinedFacts Tryz.pinned.checked.prog 4 Tryz.f4 Rows.yarnEntriesSpec Rows.yarnEntriesRow=true:=by
 unfold joinedFacts
 exact(xI (xI (xI (xI (xI (xI (xI (xI (xI (xI (xI (xI (xI (xI (xI (xI (xI (xI (xI (xI (xI (xI (xI (xI (xI (xI (xI (xI (xI (xI (xI fact0 fact1) fact2) fact3) fact4) fact5) fact6) fact7) fact8) fact9) qmW) qmC) qmU) qmX) qm2) qmG) qmI) qmQ) qm9) qmO) qmz) qmV) qmY) qnb) qmx) qm5) qmM) qm1) qm3) qm6) qna) qm4)
theorem factC:Tryz.f4.isInstance Tryz.pinned.checked.prog Rows.yarnEntriesRow.origin Rows.yarnEntriesRow.targs:=of_decide_eq_true (by kernel_rfl)
theorem factD:Tryz.f4.isWrapper Tryz.pinned.checked.prog Rows.yarnEntriesRow.wrapper Rows.yarnEntriesRow.mainSum:=by unfold Func.isWrapper;first|(rw[if_pos (by decide+kernel)];kernel_rfl)|(rw[if_neg (by decide+kernel)];exact⟨rfl,rfl⟩)
theorem said:Rows.YarnEntriesSaid:=
 OpenClaim.holds_of_wide 4 Tryz.f4 rfl rfl rfl rfl rfl rfl rfl ⟨rfl,rfl,rfl,rfl,rfl⟩ rfl rfl rfl rfl rfl factA Tryz.func4 factB factC factD
  (fun os started H enc _=>lifted os started H enc)
theorem qlI:Tryz.pinned.checked.prog.wantsStandIn 30=false:=by kernel_rfl
theorem ql8:Tryz.pinned.checked.prog.wantsStandIn 56=false:=by kernel_rfl
theorem qmy:true=Tryz.pinned.checked.prog.looks []:=by kernel_rfl
theorem plain (f:FuncId) (fn:Func) (hf:Tryz.pinned.checked.prog.funcNamed "becket/becketlaw02.YarnEntries" =some f) (hfn:Tryz.pinned.checked.prog.funcs[f]? =some fn):
 true=Tryz.pinned.checked.prog.looks []/\ ∀(j:Nat) t,fn.params[j]? =some t->Tryz.pinned.checked.prog.wantsStandIn t=false:=by
 obtain rfl:f=4:=Ye ((show Tryz.prog.funcNamed "becket/becketlaw02.YarnEntries" =some 4 by kernel_rfl).symm.trans hf)|>.symm
 obtain rfl:fn=Tryz.f4:=(Ye (Tryz.func4.symm.trans hfn)).symm
 refine⟨qmy,fun j t ht=>?_⟩
 rw[Tryz.params4]at ht
 have ht:t=30\/t=56:=by have:=Array.mem_of_getElem? ht;simpa using this
 rcases ht with rfl|rfl
 ·exact qlI
 exact ql8
theorem card:Rows.YarnEntriesCardSaid:=
 Claim7.holds_tied_plain_at .later [] _ _ _ _ said (fun _ h=>by cases h) (by kernel_rfl) (fun _ h=>by cases h) yarnEntries_row_tie rfl ⟨rfl,rfl⟩ (by kernel_rfl) rfl plain (by kernel_rfl)
end Go.Av
namespace Go.Proofs.YtcnioemfifogeaaGreatDoor
theorem yarnEntries_holds:Rows.YarnEntriesCardSaid:=Go.Av.card
end Go.Proofs.YtcnioemfifogeaaGreatDoor
