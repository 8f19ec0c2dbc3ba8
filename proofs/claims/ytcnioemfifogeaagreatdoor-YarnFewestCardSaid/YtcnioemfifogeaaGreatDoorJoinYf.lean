/-
  It is proved that YarnFewest returns true for all inputs. Conditions: those of the given row alone (the listed package variables hold what the program's text lays).
-/
import Derived.Test.YtcnioemfifogeaaGreatDoorQGenA1f
import Derived.Test.YtcnioemfifogeaaGreatDoorOfPa
import Derived.Test.YtcnioemfifogeaaGreatDoorAvPt
import Derived.Test.YtcnioemfifogeaaGreatDoorAvAwkQ3
import Derived.Test.YtcnioemfifogeaaGreatDoorCards
import Derived.Test.YtcnioemfifogeaaGreatDoorTie
import Derived.Lay
import Derived.LaidMore
import Derived.LaidSub
import Derived.SevenTiedAt
import Derived.Stop.Joined
import Derived.Lib.LaidTab
import Derived.Lib.ItoaNum
noncomputable section
namespace Go.Av
open Go.Proofs Go.Proofs.YtcnioemfifogeaaGreatDoor
open Go.ChangeShapes Go.WideShapes Go.ChangeAt Go.RowKit
set_option linter.unusedSectionVars false
set_option maxRecDepth 100000
theorem ud28:Tryz.prog.underlying 28=some (.slice 74):=by kernel_rfl
theorem ud3:Tryz.prog.underlying 3=some (.int .i64):=by kernel_rfl
theorem rd3:qfP Tryz.prog 3 encI:=qfP.i64 ud3
theorem ud9:Tryz.prog.underlying 9=some (.string):=by kernel_rfl
theorem rd9:qfP Tryz.prog 9 encS:=qfP.str ud9
theorem ud74:Tryz.prog.underlying 74=some (.struct #[{name:= "Lot",type:=9,offset:=0,embedded:=false,tag:= "",pkgPath:= "",byteOffset:=0},{name:= "Order",type:=9,offset:=1,embedded:=false,tag:= "",pkgPath:= "",byteOffset:=16},{name:= "Reserved",type:=3,offset:=2,embedded:=false,tag:= "",pkgPath:= "",byteOffset:=32},{name:= "Taken",type:=3,offset:=3,embedded:=false,tag:= "",pkgPath:= "",byteOffset:=40}]):=by kernel_rfl
theorem rd74:qfP Tryz.prog 74 qE:=qh0.struct (fl:=[{name:= "Lot",type:=9,offset:=0,embedded:=false,tag:= "",pkgPath:= "",byteOffset:=0},{name:= "Order",type:=9,offset:=1,embedded:=false,tag:= "",pkgPath:= "",byteOffset:=16},{name:= "Reserved",type:=3,offset:=2,embedded:=false,tag:= "",pkgPath:= "",byteOffset:=32},{name:= "Taken",type:=3,offset:=3,embedded:=false,tag:= "",pkgPath:= "",byteOffset:=40}]) ud74 rfl (by kernel_rfl) (fun(x0,x1,x2,x3)=>(⟨x0,x1,x2,x3⟩:qG)) (fun _=>rfl) (qh0.cons rfl (by kernel_rfl) rd9 (qh0.cons rfl (by kernel_rfl) rd9 (qh0.cons rfl (by kernel_rfl) rd3 (qh0.last rfl (by kernel_rfl) rd3))))
theorem ud27:Tryz.prog.underlying 27=some (.slice 71):=by kernel_rfl
theorem ud71:Tryz.prog.underlying 71=some (.struct #[{name:= "Name",type:=9,offset:=0,embedded:=false,tag:= "",pkgPath:= "",byteOffset:=0},{name:= "Yarn",type:=9,offset:=1,embedded:=false,tag:= "",pkgPath:= "",byteOffset:=16},{name:= "Dye",type:=9,offset:=2,embedded:=false,tag:= "",pkgPath:= "",byteOffset:=32},{name:= "Stock",type:=3,offset:=3,embedded:=false,tag:= "",pkgPath:= "",byteOffset:=48}]):=by kernel_rfl
theorem rd71:qfP Tryz.prog 71 qg:=qh0.struct (fl:=[{name:= "Name",type:=9,offset:=0,embedded:=false,tag:= "",pkgPath:= "",byteOffset:=0},{name:= "Yarn",type:=9,offset:=1,embedded:=false,tag:= "",pkgPath:= "",byteOffset:=16},{name:= "Dye",type:=9,offset:=2,embedded:=false,tag:= "",pkgPath:= "",byteOffset:=32},{name:= "Stock",type:=3,offset:=3,embedded:=false,tag:= "",pkgPath:= "",byteOffset:=48}]) ud71 rfl (by kernel_rfl) (fun(x0,x1,x2,x3)=>(⟨x0,x1,x2,x3⟩:qP)) (fun _=>rfl) (qh0.cons rfl (by kernel_rfl) rd9 (qh0.cons rfl (by kernel_rfl) rd9 (qh0.cons rfl (by kernel_rfl) rd9 (qh0.last rfl (by kernel_rfl) rd3))))
theorem ud30:Tryz.prog.underlying 30=some (.struct #[{name:= "Day",type:=3,offset:=0,embedded:=false,tag:= "",pkgPath:= "",byteOffset:=0},{name:= "Lots",type:=27,offset:=1,embedded:=false,tag:= "",pkgPath:= "",byteOffset:=8},{name:= "Holds",type:=28,offset:=2,embedded:=false,tag:= "",pkgPath:= "",byteOffset:=32}]):=by kernel_rfl
theorem rw30:qnj Tryz.prog 30 qwA (fun x=>True/\x.Lots.length*Tryz.prog.bytesOf 71<=reachBytes/\x.Holds.length*Tryz.prog.bytesOf 74<=reachBytes):=by
 have h:=qlw.struct (P:=Tryz.prog) (t:=30) (f:=fun(x:StateT)=>(x.Day,x.Lots,x.Holds)) (fl:=[{name:= "Day",type:=3,offset:=0,embedded:=false,tag:= "",pkgPath:= "",byteOffset:=0},{name:= "Lots",type:=27,offset:=1,embedded:=false,tag:= "",pkgPath:= "",byteOffset:=8},{name:= "Holds",type:=28,offset:=2,embedded:=false,tag:= "",pkgPath:= "",byteOffset:=32}]) ud30 rfl (by kernel_rfl) (fun(x0,x1,x2)=>(⟨x0,x1,x2⟩:StateT)) (fun _=>rfl) (qlw.cons rfl (by kernel_rfl) (qnj.of rd3) (qlw.cons rfl (by kernel_rfl) (qnj.list ud27 (by kernel_rfl) rd71) (qlw.last rfl (by kernel_rfl) (qnj.list ud28 (by kernel_rfl) rd74))))
 exact h
theorem ud77:Tryz.prog.underlying 77=some (.struct #[{name:= "Yarn",type:=9,offset:=0,embedded:=false,tag:= "",pkgPath:= "",byteOffset:=0},{name:= "Dye",type:=9,offset:=1,embedded:=false,tag:= "",pkgPath:= "",byteOffset:=16},{name:= "Amount",type:=3,offset:=2,embedded:=false,tag:= "",pkgPath:= "",byteOffset:=32}]):=by kernel_rfl
theorem rd77:qfP Tryz.prog 77 qzu:=qh0.struct (fl:=[{name:= "Yarn",type:=9,offset:=0,embedded:=false,tag:= "",pkgPath:= "",byteOffset:=0},{name:= "Dye",type:=9,offset:=1,embedded:=false,tag:= "",pkgPath:= "",byteOffset:=16},{name:= "Amount",type:=3,offset:=2,embedded:=false,tag:= "",pkgPath:= "",byteOffset:=32}]) ud77 rfl (by kernel_rfl) (fun(x0,x1,x2)=>(⟨x0,x1,x2⟩:qvz)) (fun _=>rfl) (qh0.cons rfl (by kernel_rfl) rd9 (qh0.cons rfl (by kernel_rfl) rd9 (qh0.last rfl (by kernel_rfl) rd3)))
theorem tyB:Tryz.prog.underlying 4=some .bool:=by kernel_rfl
theorem laidOut:laidOutB Tryz.prog=true:=by kernel_rfl
theorem contract (H:Type) (enc:TypeId×Value->H) (W:World) (base:Nat) (args:Array Value) (ds gs:List (DataW H)) (before:List MemPlace)
 (hval: ∀(j:Nat) t v,Tryz.f6.params[j]? =some t->args[j]? =some v->Value.okWide Tryz.prog W .any base t v)
 (hW:DataW.Whole enc Tryz.prog Tryz.f6.params.toList Rows.yarnFewestSpec.vars false W args.toList ds gs before)
 (hw:(DataW.weightsEach Tryz.prog (Tryz.f6.params.toList++Rows.yarnFewestSpec.plain.varTypes Tryz.prog) (ds++gs)).all (· <=reachBytes)=true) (hG:Glob.G (AllOf W) W):
 Calls Tryz.prog 6 args W fun e W'=> ∃v,e= .returned v/\Rows.yarnFewestSpec.post enc Tryz.prog Tryz.f6 false true false false W args v W':=by
 have hW':=hW
 obtain⟨p,q,hA0,hV,rfl,hfz,hnd⟩:=hW
 have r0:DataW.TrodAll enc Tryz.prog W 0 (fun _=>true) true Tryz.f6.params.toList args.toList ds p:=hA0
 rw[Tryz.params6]at r0 hval hw
 obtain⟨v0,vs0,d0,ds0,p0,q0,hargs,rfl,rfl,h0,r1⟩:=trodAll_cons r0
 obtain⟨v1,vs1,d1,ds1,p1,q1,rfl,rfl,rfl,h1,r2⟩:=trodAll_cons r1
 obtain⟨rfl,rfl,rfl⟩:=trodAll_nil r2
 obtain⟨hw0,hw⟩:=qtI (t:=30) (d:=d0) hw
 obtain⟨hw1,hw⟩:=qtI (t:=77) (d:=d1) hw
 obtain rfl:args=#[v0,v1]:=by cases args;simp_all
 obtain⟨a0,hu0,hq0⟩:=In.structW ud30 rw30 (hval 0 30 v0 rfl rfl) h0 hw0
 have hb0_0:a0.Lots.length*56<=140737488355328:=by
  have h:a0.Lots.length*Tryz.prog.bytesOf 71<=reachBytes:=hq0.2.1
  rw[show Tryz.prog.bytesOf 71=56 by kernel_rfl]at h
  exact Nat.le_trans h (by decide)
 have hb0_1:a0.Holds.length*48<=140737488355328:=by
  have h:a0.Holds.length*Tryz.prog.bytesOf 74<=reachBytes:=hq0.2.2
  rw[show Tryz.prog.bytesOf 74=48 by kernel_rfl]at h
  exact Nat.le_trans h (by decide)
 obtain⟨a1,hu1⟩:=In.struct ud77 rd77 (hval 1 77 v1 rfl rfl) h1
 refine qAw laidOut (fun t ht=>?_) rfl (show Tryz.f6.resultTypes=#[4]from rfl) tyB (fun ds hds=>?_) hW' (enters_of (by kernel_rfl)) (qse (700000+a0.Lots.length+a0.Holds.length) a0 a1 (qtW (N:=700000+a0.Lots.length+a0.Holds.length) a0 a1 (by omega) hb0_0 hb0_1)) hG (al:=[.agg [.i a0.Day,vl qg a0.Lots,vl qE a0.Holds],.agg [.str a1.Yarn,.str a1.Dye,.i a1.Amount]]) ⟨rfl,fun i a v ha hv=>?_⟩
 ·rw[Tryz.params6]at ht
  have ht:t=30\/t=77:=by simpa using ht
  rcases ht with rfl|rfl
  ·exact⟨by kernel_rfl,of_decide_eq_true (by kernel_rfl)⟩
  exact⟨by kernel_rfl,of_decide_eq_true (by kernel_rfl)⟩
 ·rw[Tryz.params6]at hds
  match ds,hds with
  |[d1,d2],_=>exact⟨rfl,rfl,rfl⟩
 match i with
 |0=>simp at ha hv;subst ha hv;exact hu0
 |1=>simp at ha hv;subst ha hv;exact hu1
 |i+2=>simp at ha
theorem qAZ {W:World} (h:laidMetH Tryz.prog Rows.yarnFewestRow.laid W):Glob.G (AllOf W) W:=by
 have h1:=h.filter fun x=>x.1==qqo
 have e:(Rows.yarnFewestRow.laid.filter fun x=>x.1==qqo)=[(qqo,Lib.tabData .u64 Lib.pow10Tab)]:=by kernel_rfl
 rw[e]at h1
 have h2:laidMet Tryz.prog [(qqo,Lib.tabData .u64 Lib.pow10Tab)] W:=by
  rw[MakeChecks.laidMetH_plain _ _ _ (by kernel_rfl)]at h1
  exact h1
 have ht:Lib.TabIs Tryz.prog W qqo .u64 Lib.pow10Tab:=
  Lib.tabIs_of_head (rest:=[]) (t:=325) (e:=246) (n:=20) quf (by kernel_rfl) (by kernel_rfl) (by kernel_rfl) (by kernel_rfl) (by kernel_rfl) h2
 refine⟨?_,ht⟩
 unfold Lib.TabIs World.var? at ht
 rw[quf]at ht
 simp only[ZB]at ht
 show 5<W.heap.size
 rcases Nat.lt_or_ge 5 W.heap.size with h5|h5
 ·exact h5
 rw[Array.getElem?_eq_none h5]at ht
 cases ht
theorem own:ownKnob Tryz.prog.godebug=none:=by kernel_rfl
theorem lifted (os:Os) (started:os.Started) (H:Type) (enc:TypeId×Value->H):
 ReturnsInHanded {} Tryz.checked os 6 .any (fun w args=>(Rows.yarnFewestSpec.pre enc Tryz.prog Tryz.f6 Rows.yarnFewestRow.domain false w args/\laidMetH Tryz.prog Rows.yarnFewestRow.laid w)/\sizedMet enc Tryz.prog Tryz.f6 (OpenSpec.ofChange Rows.yarnFewestSpec) false w args)
  (Rows.yarnFewestSpec.post enc Tryz.prog Tryz.f6 false true false false):=by
 refine returnsInHanded_of_change_and (C:=Tryz.checked) (X:=fun w _=>laidMetH Tryz.prog Rows.yarnFewestRow.laid w) (fun _ _ _ hh h=>h.of_heap hh) own started (by kernel_rfl) Tryz.func6
  (ChangeSpec.witness_shaped (enc:=enc) (C:=Tryz.checked) (os:=os) (X:=fun w _=>laidMetH Tryz.prog Rows.yarnFewestRow.laid w) false (World.laidAll Tryz.prog os Rows.yarnFewestRow.laid) #[.agg #[.int .i64 0,.slice none 0 0,.slice none 0 0],.agg #[.string ⟨#[]⟩,.string ⟨#[]⟩,.int .i64 0]] 8 (World.laidAll_os _ _ _)
   (World.shaped_of_ZipB (by kernel_rfl) (by kernel_rfl)) (by kernel_rfl) (by kernel_rfl) (by kernel_rfl)
   (by rw[MakeChecks.laidMetH_plain _ _ _ (by kernel_rfl)];exact laidMet_laidAll _ (by kernel_rfl) (by kernel_rfl))) ?_
 intro W base args ds gs before hval hW _ hw hL _
 exact contract H enc W base args ds gs before hval hW hw (qAZ hL)
theorem factA:Tryz.pinned.checked.prog.funcNamed Rows.yarnFewestRow.func=some 6:=by kernel_rfl
theorem fact0:(Rows.yarnFewestRow.wf (OpenSpec.ofChange Rows.yarnFewestSpec))=true:=by kernel_rfl
theorem fact1:(laidOutB Tryz.pinned.checked.prog)=true:=by kernel_rfl
theorem fact2:(mapsRowed Tryz.pinned.checked.prog)=true:=by kernel_rfl
theorem fact3:(Tryz.f6.params.all (Tryz.pinned.checked.prog.readableRec ·))=true:=by kernel_rfl
theorem fact4:(namedTie Tryz.pinned.checked.prog Rows.yarnFewestRow.named Rows.yarnFewestSpec.vars)=true:=by kernel_rfl
theorem fact5:((Rows.yarnFewestRow.stops==[]))=true:=by kernel_rfl
theorem fact6:((Tryz.pinned.checked.prog.stops==[]))=true:=by kernel_rfl
theorem fact7:((Rows.yarnFewestRow.knobs==[]))=true:=by kernel_rfl
theorem fact8:((Tryz.pinned.checked.prog.stopKnobs==[]))=true:=by kernel_rfl
theorem fact9:((Rows.yarnFewestRow.inPlace==Tryz.pinned.checked.prog.inPlace 6))=true:=by kernel_rfl
theorem qDQ:((Rows.yarnFewestRow.unfollowed==Tryz.pinned.checked.prog.unfollowed 6))=true:=by kernel_rfl
theorem qDw:((Rows.yarnFewestRow.recurses==Tryz.pinned.checked.prog.recurses 6))=true:=by kernel_rfl
theorem qD1:((Rows.yarnFewestRow.named==Tryz.pinned.checked.prog.varsNamed 6))=true:=by kernel_rfl
theorem qDP:((Rows.yarnFewestRow.maps==(Tryz.f6.params.toList++Rows.yarnFewestSpec.plain.varTypes Tryz.pinned.checked.prog).any (Tryz.pinned.checked.prog.mapsRec ·)))=true:=by kernel_rfl
theorem qDX:((Rows.yarnFewestRow.ifaces==(Tryz.f6.params.toList++Rows.yarnFewestSpec.plain.varTypes Tryz.pinned.checked.prog).any (Tryz.pinned.checked.prog.ifacesRec ·)))=true:=by kernel_rfl
theorem qDT:((Rows.yarnFewestRow.mapsOut==Tryz.pinned.checked.prog.mapsAmong Tryz.f6.resultTypes.toList))=true:=by kernel_rfl
theorem qDG:((Rows.yarnFewestRow.loops==(Tryz.f6.params.toList++Rows.yarnFewestSpec.plain.varTypes Tryz.pinned.checked.prog).any (Tryz.pinned.checked.prog.loopsFrom ·)))=true:=by kernel_rfl
theorem qDI:((Rows.yarnFewestRow.wideKeys==(Tryz.f6.params.toList++Rows.yarnFewestSpec.plain.varTypes Tryz.pinned.checked.prog++Tryz.f6.resultTypes.toList).any (Tryz.pinned.checked.prog.wideKeysFrom ·)))=true:=by kernel_rfl
theorem qDK:(Rows.yarnFewestSpec.vars.all (Tryz.pinned.checked.prog.varReadable ·))=true:=by kernel_rfl
theorem qDD:(Tryz.f6.resultTypes.all (fun t=>Tryz.pinned.checked.prog.readableRec t&&decide (t<Tryz.pinned.checked.prog.types.size)))=true:=by kernel_rfl
theorem qD2:((Rows.yarnFewestRow.ifacesOut==Tryz.f6.resultTypes.toList.any (Tryz.pinned.checked.prog.ifacesRec ·)))=true:=by kernel_rfl
theorem qDz:((Rows.yarnFewestRow.loopsOut==Tryz.f6.resultTypes.toList.any (Tryz.pinned.checked.prog.loopsFrom ·)))=true:=by kernel_rfl
theorem qDM:((Rows.yarnFewestRow.plainKeys==Tryz.pinned.checked.prog.plainKeys))=true:=by kernel_rfl
theorem qDH:(Rows.yarnFewestRow.shortTexts.isNone)=true:=by kernel_rfl
theorem qDY:(Tryz.pinned.checked.prog.stopsHeard)=true:=by kernel_rfl
theorem qDZ:(Tryz.pinned.checked.prog.mayEnter)=true:=by kernel_rfl
theorem qDv:((Rows.yarnFewestRow.lifted==Tryz.pinned.checked.prog.liftsFinal))=true:=by kernel_rfl
theorem qDL:((Tryz.pinned.checked.prog.make==some Rows.yarnFewestRow.make))=true:=by kernel_rfl
theorem qDt:((Rows.yarnFewestRow.kinds==(if Rows.yarnFewestRow.domain.isEmpty then[]else Tryz.f6.params.toList.map fun t=>match Tryz.pinned.checked.prog.underlying t with|some (.int k)=>some k|_=>none)))=true:=by kernel_rfl
theorem qD7:((Rows.yarnFewestRow.pinned==Rows.yarnFewestRow.pinnedBy))=true:=by kernel_rfl
theorem qDS:((Rows.yarnFewestRow.veiled==(Tryz.f6.params.toList++Rows.yarnFewestSpec.plain.varTypes Tryz.pinned.checked.prog++Tryz.f6.resultTypes.toList).any (Tryz.pinned.checked.prog.veiledRec ·)))=true:=by kernel_rfl
theorem qDy:(Rows.yarnFewestRow.veiledFits Tryz.pinned.checked.prog Tryz.f6.params.toList (Tryz.f6.params.toList++Rows.yarnFewestSpec.plain.varTypes Tryz.pinned.checked.prog++Tryz.f6.resultTypes.toList))=true:=by kernel_rfl
theorem factB:joinedFacts Tryz.pinned.checked.prog 6 Tryz.f6 Rows.yarnFewestSpec Rows.yarnFewestRow=true:=by
 unfold joinedFacts
 exact(qkT (qkT (qkT (qkT (qkT (qkT (qkT (qkT (qkT (qkT (qkT (qkT (qkT (qkT (qkT (qkT (qkT (qkT (qkT (qkT (qkT (qkT (qkT (qkT (qkT (qkT (qkT (qkT (qkT (qkT (qkT fact0 fact1) fact2) fact3) fact4) fact5) fact6) fact7) fact8) fact9) qDQ) qDw) qD1) qDP) qDX) qDT) qDG) qDI) qDK) qDD) qD2) qDz) qDM) qDH) qDY) qDZ) qDv) qDL) qDt) qD7) qDS) qDy)
theorem factC:Tryz.f6.isInstance Tryz.pinned.checked.prog Rows.yarnFewestRow.origin Rows.yarnFewestRow.targs:=of_decide_eq_true (by kernel_rfl)
theorem factD:Tryz.f6.isWrapper Tryz.pinned.checked.prog Rows.yarnFewestRow.wrapper Rows.yarnFewestRow.mainSum:=by unfold Func.isWrapper;first|(rw[if_pos (by decide+kernel)];kernel_rfl)|(rw[if_neg (by decide+kernel)];exact⟨rfl,rfl⟩)
theorem said:Rows.YarnFewestSaid:=
 OpenClaim.holds_of_wide 6 Tryz.f6 rfl rfl rfl rfl rfl rfl rfl ⟨rfl,rfl,rfl,rfl,rfl⟩ rfl rfl rfl rfl rfl factA Tryz.func6 factB factC factD
  (fun os started H enc _=>lifted os started H enc)
theorem qCQ:Tryz.pinned.checked.prog.wantsStandIn 30=false:=by kernel_rfl
theorem qC3:Tryz.pinned.checked.prog.wantsStandIn 77=false:=by kernel_rfl
theorem qD4:true=Tryz.pinned.checked.prog.looks []:=by kernel_rfl
theorem plain (f:FuncId) (fn:Func) (hf:Tryz.pinned.checked.prog.funcNamed "becket/becketlaw02.YarnFewest" =some f) (hfn:Tryz.pinned.checked.prog.funcs[f]? =some fn):
 true=Tryz.pinned.checked.prog.looks []/\ ∀(j:Nat) t,fn.params[j]? =some t->Tryz.pinned.checked.prog.wantsStandIn t=false:=by
 obtain rfl:f=6:=Ye ((show Tryz.prog.funcNamed "becket/becketlaw02.YarnFewest" =some 6 by kernel_rfl).symm.trans hf)|>.symm
 obtain rfl:fn=Tryz.f6:=(Ye (Tryz.func6.symm.trans hfn)).symm
 refine⟨qD4,fun j t ht=>?_⟩
 rw[Tryz.params6]at ht
 have ht:t=30\/t=77:=by have:=Array.mem_of_getElem? ht;simpa using this
 rcases ht with rfl|rfl
 ·exact qCQ
 exact qC3
theorem card:Rows.YarnFewestCardSaid:=
 Claim7.holds_tied_plain_at .later [] _ _ _ _ said (fun _ h=>by cases h) (by kernel_rfl) (fun _ h=>by cases h) yarnFewest_row_tie rfl ⟨rfl,rfl⟩ (by kernel_rfl) rfl plain (by kernel_rfl)
end Go.Av
namespace Go.Proofs.YtcnioemfifogeaaGreatDoor
theorem yarnFewest_holds:Rows.YarnFewestCardSaid:=Go.Av.card
end Go.Proofs.YtcnioemfifogeaaGreatDoor
