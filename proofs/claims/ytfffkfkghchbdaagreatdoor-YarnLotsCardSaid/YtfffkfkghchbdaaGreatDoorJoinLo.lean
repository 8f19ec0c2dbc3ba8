/-
  It is proved that YarnLots returns true for all inputs. Conditions: those of the given row alone (the listed package variables hold what the program's text lays).
-/
import Derived.Test.YtfffkfkghchbdaaGreatDoorQGenL
import Derived.Test.YtfffkfkghchbdaaGreatDoorMlPa
import Derived.Test.YtfffkfkghchbdaaGreatDoorAvPt
import Derived.Test.YtfffkfkghchbdaaGreatDoorAvAwkL
import Derived.Test.YtfffkfkghchbdaaGreatDoorCards
import Derived.Test.YtfffkfkghchbdaaGreatDoorTie
import Derived.Lay
import Derived.LaidMore
import Derived.LaidSub
import Derived.SevenTiedAt
import Derived.Stop.Joined
import Derived.Lib.LaidTab
import Derived.Lib.ItoaNum
noncomputable section
namespace Go.Av
open Go.Proofs Go.Proofs.YtfffkfkghchbdaaGreatDoor
open Go.ChangeShapes Go.WideShapes Go.ChangeAt Go.RowKit
set_option linter.unusedSectionVars false
set_option maxRecDepth 100000
theorem ud23:Tryz.prog.underlying 23=some (.slice 75):=by kernel_rfl
theorem ud3:Tryz.prog.underlying 3=some (.int .i64):=by kernel_rfl
theorem rd3:zz Tryz.prog 3 encI:=zz.i64 ud3
theorem ud9:Tryz.prog.underlying 9=some (.string):=by kernel_rfl
theorem rd9:zz Tryz.prog 9 encS:=zz.str ud9
theorem ud75:Tryz.prog.underlying 75=some (.struct #[{name:= "Lot",type:=9,offset:=0,embedded:=false,tag:= "",pkgPath:= "",byteOffset:=0},{name:= "Order",type:=9,offset:=1,embedded:=false,tag:= "",pkgPath:= "",byteOffset:=16},{name:= "Reserved",type:=3,offset:=2,embedded:=false,tag:= "",pkgPath:= "",byteOffset:=32},{name:= "Taken",type:=3,offset:=3,embedded:=false,tag:= "",pkgPath:= "",byteOffset:=40}]):=by kernel_rfl
theorem rd75:zz Tryz.prog 75 qb:=jB.struct (fl:=[{name:= "Lot",type:=9,offset:=0,embedded:=false,tag:= "",pkgPath:= "",byteOffset:=0},{name:= "Order",type:=9,offset:=1,embedded:=false,tag:= "",pkgPath:= "",byteOffset:=16},{name:= "Reserved",type:=3,offset:=2,embedded:=false,tag:= "",pkgPath:= "",byteOffset:=32},{name:= "Taken",type:=3,offset:=3,embedded:=false,tag:= "",pkgPath:= "",byteOffset:=40}]) ud75 rfl (by kernel_rfl) (fun(x0,x1,x2,x3)=>(⟨x0,x1,x2,x3⟩:qh)) (fun _=>rfl) (jB.cons rfl (by kernel_rfl) rd9 (jB.cons rfl (by kernel_rfl) rd9 (jB.cons rfl (by kernel_rfl) rd3 (jB.last rfl (by kernel_rfl) rd3))))
theorem ud22:Tryz.prog.underlying 22=some (.slice 72):=by kernel_rfl
theorem ud72:Tryz.prog.underlying 72=some (.struct #[{name:= "Name",type:=9,offset:=0,embedded:=false,tag:= "",pkgPath:= "",byteOffset:=0},{name:= "Yarn",type:=9,offset:=1,embedded:=false,tag:= "",pkgPath:= "",byteOffset:=16},{name:= "Dye",type:=9,offset:=2,embedded:=false,tag:= "",pkgPath:= "",byteOffset:=32},{name:= "Stock",type:=3,offset:=3,embedded:=false,tag:= "",pkgPath:= "",byteOffset:=48}]):=by kernel_rfl
theorem rd72:zz Tryz.prog 72 qa:=jB.struct (fl:=[{name:= "Name",type:=9,offset:=0,embedded:=false,tag:= "",pkgPath:= "",byteOffset:=0},{name:= "Yarn",type:=9,offset:=1,embedded:=false,tag:= "",pkgPath:= "",byteOffset:=16},{name:= "Dye",type:=9,offset:=2,embedded:=false,tag:= "",pkgPath:= "",byteOffset:=32},{name:= "Stock",type:=3,offset:=3,embedded:=false,tag:= "",pkgPath:= "",byteOffset:=48}]) ud72 rfl (by kernel_rfl) (fun(x0,x1,x2,x3)=>(⟨x0,x1,x2,x3⟩:qj)) (fun _=>rfl) (jB.cons rfl (by kernel_rfl) rd9 (jB.cons rfl (by kernel_rfl) rd9 (jB.cons rfl (by kernel_rfl) rd9 (jB.last rfl (by kernel_rfl) rd3))))
theorem ud25:Tryz.prog.underlying 25=some (.struct #[{name:= "Day",type:=3,offset:=0,embedded:=false,tag:= "",pkgPath:= "",byteOffset:=0},{name:= "Lots",type:=22,offset:=1,embedded:=false,tag:= "",pkgPath:= "",byteOffset:=8},{name:= "Holds",type:=23,offset:=2,embedded:=false,tag:= "",pkgPath:= "",byteOffset:=32}]):=by kernel_rfl
theorem rw25:yJ Tryz.prog 25 qdj (fun x=>True/\x.Lots.length*Tryz.prog.bytesOf 72<=reachBytes/\x.Holds.length*Tryz.prog.bytesOf 75<=reachBytes):=by
 have h:=vX.struct (P:=Tryz.prog) (t:=25) (f:=fun(x:StateT)=>(x.Day,x.Lots,x.Holds)) (fl:=[{name:= "Day",type:=3,offset:=0,embedded:=false,tag:= "",pkgPath:= "",byteOffset:=0},{name:= "Lots",type:=22,offset:=1,embedded:=false,tag:= "",pkgPath:= "",byteOffset:=8},{name:= "Holds",type:=23,offset:=2,embedded:=false,tag:= "",pkgPath:= "",byteOffset:=32}]) ud25 rfl (by kernel_rfl) (fun(x0,x1,x2)=>(⟨x0,x1,x2⟩:StateT)) (fun _=>rfl) (vX.cons rfl (by kernel_rfl) (yJ.of rd3) (vX.cons rfl (by kernel_rfl) (yJ.list ud22 (by kernel_rfl) rd72) (vX.last rfl (by kernel_rfl) (yJ.list ud23 (by kernel_rfl) rd75))))
 exact h
theorem ud27:Tryz.prog.underlying 27=some (.struct #[{name:= "Yarn",type:=9,offset:=0,embedded:=false,tag:= "",pkgPath:= "",byteOffset:=0},{name:= "Dye",type:=9,offset:=1,embedded:=false,tag:= "",pkgPath:= "",byteOffset:=16},{name:= "Amount",type:=3,offset:=2,embedded:=false,tag:= "",pkgPath:= "",byteOffset:=32}]):=by kernel_rfl
theorem rd27:zz Tryz.prog 27 qfE:=jB.struct (fl:=[{name:= "Yarn",type:=9,offset:=0,embedded:=false,tag:= "",pkgPath:= "",byteOffset:=0},{name:= "Dye",type:=9,offset:=1,embedded:=false,tag:= "",pkgPath:= "",byteOffset:=16},{name:= "Amount",type:=3,offset:=2,embedded:=false,tag:= "",pkgPath:= "",byteOffset:=32}]) ud27 rfl (by kernel_rfl) (fun(x0,x1,x2)=>(⟨x0,x1,x2⟩:qfo)) (fun _=>rfl) (jB.cons rfl (by kernel_rfl) rd9 (jB.cons rfl (by kernel_rfl) rd9 (jB.last rfl (by kernel_rfl) rd3)))
theorem tyB:Tryz.prog.underlying 4=some .bool:=by kernel_rfl
theorem laidOut:laidOutB Tryz.prog=true:=by kernel_rfl
theorem contract (H:Type) (enc:TypeId×Value->H) (W:World) (base:Nat) (args:Array Value) (ds gs:List (DataW H)) (before:List MemPlace)
 (hval: ∀(j:Nat) t v,Tryz.f3.params[j]? =some t->args[j]? =some v->Value.okWide Tryz.prog W .any base t v)
 (hW:DataW.Whole enc Tryz.prog Tryz.f3.params.toList Rows.yarnLotsSpec.vars false W args.toList ds gs before)
 (hw:(DataW.weightsEach Tryz.prog (Tryz.f3.params.toList++Rows.yarnLotsSpec.plain.varTypes Tryz.prog) (ds++gs)).all (· <=reachBytes)=true) (hG:Glob.G (AllOf W) W):
 Calls Tryz.prog 3 args W fun e W'=> ∃v,e= .returned v/\Rows.yarnLotsSpec.post enc Tryz.prog Tryz.f3 false true false false W args v W':=by
 have hW':=hW
 obtain⟨p,q,hA0,hV,rfl,hfz,hnd⟩:=hW
 have r0:DataW.TrodAll enc Tryz.prog W 0 (fun _=>true) true Tryz.f3.params.toList args.toList ds p:=hA0
 rw[Tryz.params3]at r0 hval hw
 obtain⟨v0,vs0,d0,ds0,p0,q0,hargs,rfl,rfl,h0,r1⟩:=trodAll_cons r0
 obtain⟨v1,vs1,d1,ds1,p1,q1,rfl,rfl,rfl,h1,r2⟩:=trodAll_cons r1
 obtain⟨v2,vs2,d2,ds2,p2,q2,rfl,rfl,rfl,h2,r3⟩:=trodAll_cons r2
 obtain⟨rfl,rfl,rfl⟩:=trodAll_nil r3
 obtain⟨hw0,hw⟩:=qax (t:=25) (d:=d0) hw
 obtain⟨hw1,hw⟩:=qax (t:=9) (d:=d1) hw
 obtain⟨hw2,hw⟩:=qax (t:=27) (d:=d2) hw
 obtain rfl:args=#[v0,v1,v2]:=by cases args;simp_all
 obtain⟨a0,hu0,hq0⟩:=In.structW ud25 rw25 (hval 0 25 v0 rfl rfl) h0 hw0
 have hb0_0:a0.Lots.length*56<=140737488355328:=by
  have h:a0.Lots.length*Tryz.prog.bytesOf 72<=reachBytes:=hq0.2.1
  rw[show Tryz.prog.bytesOf 72=56 by kernel_rfl]at h
  exact Nat.le_trans h (by decide)
 have hb0_1:a0.Holds.length*48<=140737488355328:=by
  have h:a0.Holds.length*Tryz.prog.bytesOf 75<=reachBytes:=hq0.2.2
  rw[show Tryz.prog.bytesOf 75=48 by kernel_rfl]at h
  exact Nat.le_trans h (by decide)
 obtain⟨a1,hu1⟩:=In.str ud9 (hval 1 9 v1 rfl rfl)
 obtain⟨a2,hu2⟩:=In.struct ud27 rd27 (hval 2 27 v2 rfl rfl) h2
 refine qf6 laidOut (fun t ht=>?_) rfl (show Tryz.f3.resultTypes=#[4]from rfl) tyB (fun ds hds=>?_) hW' (enters_of (by kernel_rfl)) (qbB (700000+a0.Lots.length+a0.Holds.length) a0 a1 a2 (qcv (N:=700000+a0.Lots.length+a0.Holds.length) a0 a1 a2 (by omega) hb0_0 hb0_1)) hG (al:=[.agg [.i a0.Day,vl qa a0.Lots,vl qb a0.Holds],.str a1,.agg [.str a2.Yarn,.str a2.Dye,.i a2.Amount]]) ⟨rfl,fun i a v ha hv=>?_⟩
 ·rw[Tryz.params3]at ht
  have ht:t=25\/t=9\/t=27:=by simpa using ht
  rcases ht with rfl|rfl|rfl
  ·exact⟨by kernel_rfl,of_decide_eq_true (by kernel_rfl)⟩
  ·exact⟨by kernel_rfl,of_decide_eq_true (by kernel_rfl)⟩
  exact⟨by kernel_rfl,of_decide_eq_true (by kernel_rfl)⟩
 ·rw[Tryz.params3]at hds
  match ds,hds with
  |[d1,d2,d3],_=>exact⟨rfl,rfl,rfl⟩
 match i with
 |0=>simp at ha hv;subst ha hv;exact hu0
 |1=>simp at ha hv;subst ha hv;exact hu1
 |2=>simp at ha hv;subst ha hv;exact hu2
 |i+3=>simp at ha
theorem qgA {W:World} (h:laidMetH Tryz.prog Rows.yarnLotsRow.laid W):Glob.G (AllOf W) W:=by
 have h1:=h.filter fun x=>x.1==qaf
 have e:(Rows.yarnLotsRow.laid.filter fun x=>x.1==qaf)=[(qaf,Lib.tabData .u64 Lib.pow10Tab)]:=by kernel_rfl
 rw[e]at h1
 have h2:laidMet Tryz.prog [(qaf,Lib.tabData .u64 Lib.pow10Tab)] W:=by
  rw[MakeChecks.laidMetH_plain _ _ _ (by kernel_rfl)]at h1
  exact h1
 have ht:Lib.TabIs Tryz.prog W qaf .u64 Lib.pow10Tab:=
  Lib.tabIs_of_head (rest:=[]) (t:=356) (e:=252) (n:=20) qbL (by kernel_rfl) (by kernel_rfl) (by kernel_rfl) (by kernel_rfl) (by kernel_rfl) h2
 refine⟨?_,ht⟩
 unfold Lib.TabIs World.var? at ht
 rw[qbL]at ht
 simp only[ZB]at ht
 show 5<W.heap.size
 rcases Nat.lt_or_ge 5 W.heap.size with h5|h5
 ·exact h5
 rw[Array.getElem?_eq_none h5]at ht
 cases ht
theorem own:ownKnob Tryz.prog.godebug=none:=by kernel_rfl
theorem lifted (os:Os) (started:os.Started) (H:Type) (enc:TypeId×Value->H):
 ReturnsInHanded {} Tryz.checked os 3 .any (fun w args=>(Rows.yarnLotsSpec.pre enc Tryz.prog Tryz.f3 Rows.yarnLotsRow.domain false w args/\laidMetH Tryz.prog Rows.yarnLotsRow.laid w)/\sizedMet enc Tryz.prog Tryz.f3 (OpenSpec.ofChange Rows.yarnLotsSpec) false w args)
  (Rows.yarnLotsSpec.post enc Tryz.prog Tryz.f3 false true false false):=by
 refine returnsInHanded_of_change_and (C:=Tryz.checked) (X:=fun w _=>laidMetH Tryz.prog Rows.yarnLotsRow.laid w) (fun _ _ _ hh h=>h.of_heap hh) own started (by kernel_rfl) Tryz.func3
  (ChangeSpec.witness_shaped (enc:=enc) (C:=Tryz.checked) (os:=os) (X:=fun w _=>laidMetH Tryz.prog Rows.yarnLotsRow.laid w) false (World.laidAll Tryz.prog os Rows.yarnLotsRow.laid) #[.agg #[.int .i64 0,.slice none 0 0,.slice none 0 0],.string ⟨#[]⟩,.agg #[.string ⟨#[]⟩,.string ⟨#[]⟩,.int .i64 0]] 8 (World.laidAll_os _ _ _)
   (World.shaped_of_ZipB (by kernel_rfl) (by kernel_rfl)) (by kernel_rfl) (by kernel_rfl) (by kernel_rfl)
   (by rw[MakeChecks.laidMetH_plain _ _ _ (by kernel_rfl)];exact laidMet_laidAll _ (by kernel_rfl) (by kernel_rfl))) ?_
 intro W base args ds gs before hval hW _ hw hL _
 exact contract H enc W base args ds gs before hval hW hw (qgA hL)
theorem factA:Tryz.pinned.checked.prog.funcNamed Rows.yarnLotsRow.func=some 3:=by kernel_rfl
theorem fact0:(Rows.yarnLotsRow.wf (OpenSpec.ofChange Rows.yarnLotsSpec))=true:=by kernel_rfl
theorem fact1:(laidOutB Tryz.pinned.checked.prog)=true:=by kernel_rfl
theorem fact2:(mapsRowed Tryz.pinned.checked.prog)=true:=by kernel_rfl
theorem fact3:(Tryz.f3.params.all (Tryz.pinned.checked.prog.readableRec ·))=true:=by kernel_rfl
theorem fact4:(namedTie Tryz.pinned.checked.prog Rows.yarnLotsRow.named Rows.yarnLotsSpec.vars)=true:=by kernel_rfl
theorem fact5:((Rows.yarnLotsRow.stops==[]))=true:=by kernel_rfl
theorem fact6:((Tryz.pinned.checked.prog.stops==[]))=true:=by kernel_rfl
theorem fact7:((Rows.yarnLotsRow.knobs==[]))=true:=by kernel_rfl
theorem fact8:((Tryz.pinned.checked.prog.stopKnobs==[]))=true:=by kernel_rfl
theorem fact9:((Rows.yarnLotsRow.inPlace==Tryz.pinned.checked.prog.inPlace 3))=true:=by kernel_rfl
theorem qiI:((Rows.yarnLotsRow.unfollowed==Tryz.pinned.checked.prog.unfollowed 3))=true:=by kernel_rfl
theorem qiK:((Rows.yarnLotsRow.recurses==Tryz.pinned.checked.prog.recurses 3))=true:=by kernel_rfl
theorem qi2:((Rows.yarnLotsRow.named==Tryz.pinned.checked.prog.varsNamed 3))=true:=by kernel_rfl
theorem qjf:((Rows.yarnLotsRow.maps==(Tryz.f3.params.toList++Rows.yarnLotsSpec.plain.varTypes Tryz.pinned.checked.prog).any (Tryz.pinned.checked.prog.mapsRec ·)))=true:=by kernel_rfl
theorem qiR:((Rows.yarnLotsRow.ifaces==(Tryz.f3.params.toList++Rows.yarnLotsSpec.plain.varTypes Tryz.pinned.checked.prog).any (Tryz.pinned.checked.prog.ifacesRec ·)))=true:=by kernel_rfl
theorem qiS:((Rows.yarnLotsRow.mapsOut==Tryz.pinned.checked.prog.mapsAmong Tryz.f3.resultTypes.toList))=true:=by kernel_rfl
theorem qi7:((Rows.yarnLotsRow.loops==(Tryz.f3.params.toList++Rows.yarnLotsSpec.plain.varTypes Tryz.pinned.checked.prog).any (Tryz.pinned.checked.prog.loopsFrom ·)))=true:=by kernel_rfl
theorem qi6:((Rows.yarnLotsRow.wideKeys==(Tryz.f3.params.toList++Rows.yarnLotsSpec.plain.varTypes Tryz.pinned.checked.prog++Tryz.f3.resultTypes.toList).any (Tryz.pinned.checked.prog.wideKeysFrom ·)))=true:=by kernel_rfl
theorem qiZ:(Rows.yarnLotsSpec.vars.all (Tryz.pinned.checked.prog.varReadable ·))=true:=by kernel_rfl
theorem qji:(Tryz.f3.resultTypes.all (fun t=>Tryz.pinned.checked.prog.readableRec t&&decide (t<Tryz.pinned.checked.prog.types.size)))=true:=by kernel_rfl
theorem qjn:((Rows.yarnLotsRow.ifacesOut==Tryz.f3.resultTypes.toList.any (Tryz.pinned.checked.prog.ifacesRec ·)))=true:=by kernel_rfl
theorem qjh:((Rows.yarnLotsRow.loopsOut==Tryz.f3.resultTypes.toList.any (Tryz.pinned.checked.prog.loopsFrom ·)))=true:=by kernel_rfl
theorem qiO:((Rows.yarnLotsRow.plainKeys==Tryz.pinned.checked.prog.plainKeys))=true:=by kernel_rfl
theorem qiT:(Rows.yarnLotsRow.shortTexts.isNone)=true:=by kernel_rfl
theorem qjl:(Tryz.pinned.checked.prog.stopsHeard)=true:=by kernel_rfl
theorem qi3:(Tryz.pinned.checked.prog.mayEnter)=true:=by kernel_rfl
theorem qiM:((Rows.yarnLotsRow.lifted==Tryz.pinned.checked.prog.liftsFinal))=true:=by kernel_rfl
theorem qiN:((Tryz.pinned.checked.prog.make==some Rows.yarnLotsRow.make))=true:=by kernel_rfl
theorem qjb:((Rows.yarnLotsRow.kinds==(if Rows.yarnLotsRow.domain.isEmpty then[]else Tryz.f3.params.toList.map fun t=>match Tryz.pinned.checked.prog.underlying t with|some (.int k)=>some k|_=>none)))=true:=by kernel_rfl
theorem qjm:((Rows.yarnLotsRow.pinned==Rows.yarnLotsRow.pinnedBy))=true:=by kernel_rfl
theorem qje:((Rows.yarnLotsRow.veiled==(Tryz.f3.params.toList++Rows.yarnLotsSpec.plain.varTypes Tryz.pinned.checked.prog++Tryz.f3.resultTypes.toList).any (Tryz.pinned.checked.prog.veiledRec ·)))=true:=by kernel_rfl
theorem qiX:(Rows.yarnLotsRow.veiledFits Tryz.pinned.checked.prog Tryz.f3.params.toList (Tryz.f3.params.toList++Rows.yarnLotsSpec.plain.varTypes Tryz.pinned.checked.prog++Tryz.f3.resultTypes.toList))=true:=by kernel_rfl
theorem factB:joinedFacts Tryz.pinned.checked.prog 3 Tryz.f3 Rows.yarnLotsSpec Rows.yarnLotsRow=true:=by
 unfold joinedFacts
 exact(vN (vN (vN (vN (vN (vN (vN (vN (vN (vN (vN (vN (vN (vN (vN (vN (vN (vN (vN (vN (vN (vN (vN (vN (vN (vN (vN (vN (vN (vN (vN fact0 fact1) fact2) fact3) fact4) fact5) fact6) fact7) fact8) fact9) qiI) qiK) qi2) qjf) qiR) qiS) qi7) qi6) qiZ) qji) qjn) qjh) qiO) qiT) qjl) qi3) qiM) qiN) qjb) qjm) qje) qiX)
theorem factC:Tryz.f3.isInstance Tryz.pinned.checked.prog Rows.yarnLotsRow.origin Rows.yarnLotsRow.targs:=of_decide_eq_true (by kernel_rfl)
theorem factD:Tryz.f3.isWrapper Tryz.pinned.checked.prog Rows.yarnLotsRow.wrapper Rows.yarnLotsRow.mainSum:=by unfold Func.isWrapper;first|(rw[if_pos (by decide+kernel)];kernel_rfl)|(rw[if_neg (by decide+kernel)];exact⟨rfl,rfl⟩)
theorem said:Rows.YarnLotsSaid:=
 OpenClaim.holds_of_wide 3 Tryz.f3 rfl rfl rfl rfl rfl rfl rfl ⟨rfl,rfl,rfl,rfl,rfl⟩ rfl rfl rfl rfl rfl factA Tryz.func3 factB factC factD
  (fun os started H enc _=>lifted os started H enc)
theorem qja:Tryz.pinned.checked.prog.wantsStandIn 9=false:=by kernel_rfl
theorem qip:Tryz.pinned.checked.prog.wantsStandIn 25=false:=by kernel_rfl
theorem qh1:Tryz.pinned.checked.prog.wantsStandIn 27=false:=by kernel_rfl
theorem qi8:true=Tryz.pinned.checked.prog.looks []:=by kernel_rfl
theorem plain (f:FuncId) (fn:Func) (hf:Tryz.pinned.checked.prog.funcNamed "becket/becketlaw02.YarnLots" =some f) (hfn:Tryz.pinned.checked.prog.funcs[f]? =some fn):
 true=Tryz.pinned.checked.prog.looks []/\ ∀(j:Nat) t,fn.params[j]? =some t->Tryz.pinned.checked.prog.wantsStandIn t=false:=by
 obtain rfl:f=3:=Ye ((show Tryz.prog.funcNamed "becket/becketlaw02.YarnLots" =some 3 by kernel_rfl).symm.trans hf)|>.symm
 obtain rfl:fn=Tryz.f3:=(Ye (Tryz.func3.symm.trans hfn)).symm
 refine⟨qi8,fun j t ht=>?_⟩
 rw[Tryz.params3]at ht
 have ht:t=25\/t=9\/t=27:=by have:=Array.mem_of_getElem? ht;simpa using this
 rcases ht with rfl|rfl|rfl
 ·exact qip
 ·exact qja
 exact qh1
theorem card:Rows.YarnLotsCardSaid:=
 Claim7.holds_tied_plain_at .later [] _ _ _ _ said (fun _ h=>by cases h) (by kernel_rfl) (fun _ h=>by cases h) yarnLots_row_tie rfl ⟨rfl,rfl⟩ (by kernel_rfl) rfl plain (by kernel_rfl)
end Go.Av
namespace Go.Proofs.YtfffkfkghchbdaaGreatDoor
theorem yarnLots_holds:Rows.YarnLotsCardSaid:=Go.Av.card
end Go.Proofs.YtfffkfkghchbdaaGreatDoor
