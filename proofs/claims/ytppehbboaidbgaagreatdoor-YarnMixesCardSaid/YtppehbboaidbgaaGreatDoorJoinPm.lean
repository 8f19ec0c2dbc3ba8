/-
  It is proved that YarnMixes returns true for all inputs. Conditions: those of the given row alone (the listed package variables hold what the program's text lays).
-/
import Derived.Test.YtppehbboaidbgaaGreatDoorQGenP
import Derived.Test.YtppehbboaidbgaaGreatDoorMqPc
import Derived.Test.YtppehbboaidbgaaGreatDoorAvPt
import Derived.Test.YtppehbboaidbgaaGreatDoorAvAwkP
import Derived.Test.YtppehbboaidbgaaGreatDoorCards
import Derived.Test.YtppehbboaidbgaaGreatDoorTie
import Derived.Lay
import Derived.LaidMore
import Derived.LaidSub
import Derived.SevenTiedAt
import Derived.Stop.Joined
import Derived.Lib.LaidTab
import Derived.Lib.ItoaNum
noncomputable section
namespace Go.Av
open Go.Proofs Go.Proofs.YtppehbboaidbgaaGreatDoor
open Go.ChangeShapes Go.WideShapes Go.ChangeAt Go.RowKit
set_option linter.unusedSectionVars false
set_option maxRecDepth 100000
theorem ud22:Tryz.prog.underlying 22=some (.slice 32):=by kernel_rfl
theorem ud9:Tryz.prog.underlying 9=some (.string):=by kernel_rfl
theorem rd9:xP Tryz.prog 9 encS:=xP.str ud9
theorem ud30:Tryz.prog.underlying 30=some (.slice 45):=by kernel_rfl
theorem ud23:Tryz.prog.underlying 23=some (.string):=by kernel_rfl
theorem rd23:xP Tryz.prog 23 encS:=xP.str ud23
theorem ud45:Tryz.prog.underlying 45=some (.struct #[{name:= "X",type:=23,offset:=0,embedded:=false,tag:= "",pkgPath:= "",byteOffset:=0},{name:= "Y",type:=23,offset:=1,embedded:=false,tag:= "",pkgPath:= "",byteOffset:=16}]):=by kernel_rfl
theorem rd45:xP Tryz.prog 45 qg:=qaW.struct (fl:=[{name:= "X",type:=23,offset:=0,embedded:=false,tag:= "",pkgPath:= "",byteOffset:=0},{name:= "Y",type:=23,offset:=1,embedded:=false,tag:= "",pkgPath:= "",byteOffset:=16}]) ud45 rfl (by kernel_rfl) (fun(x0,x1)=>(⟨x0,x1⟩:qL)) (fun _=>rfl) (qaW.cons rfl (by kernel_rfl) rd23 (qaW.last rfl (by kernel_rfl) rd23))
theorem rd30:xP Tryz.prog 30 (qlQ qg):=xP.list ud30 (by kernel_rfl) rd45
theorem ud32:Tryz.prog.underlying 32=some (.struct #[{name:= "Name",type:=9,offset:=0,embedded:=false,tag:= "",pkgPath:= "",byteOffset:=0},{name:= "Density",type:=23,offset:=1,embedded:=false,tag:= "",pkgPath:= "",byteOffset:=16},{name:= "Twist",type:=23,offset:=2,embedded:=false,tag:= "",pkgPath:= "",byteOffset:=32},{name:= "Strength",type:=30,offset:=3,embedded:=false,tag:= "",pkgPath:= "",byteOffset:=48},{name:= "Dye",type:=9,offset:=4,embedded:=false,tag:= "",pkgPath:= "",byteOffset:=72}]):=by kernel_rfl
theorem rd32:xP Tryz.prog 32 qc:=qaW.struct (fl:=[{name:= "Name",type:=9,offset:=0,embedded:=false,tag:= "",pkgPath:= "",byteOffset:=0},{name:= "Density",type:=23,offset:=1,embedded:=false,tag:= "",pkgPath:= "",byteOffset:=16},{name:= "Twist",type:=23,offset:=2,embedded:=false,tag:= "",pkgPath:= "",byteOffset:=32},{name:= "Strength",type:=30,offset:=3,embedded:=false,tag:= "",pkgPath:= "",byteOffset:=48},{name:= "Dye",type:=9,offset:=4,embedded:=false,tag:= "",pkgPath:= "",byteOffset:=72}]) ud32 rfl (by kernel_rfl) (fun(x0,x1,x2,x3,x4)=>(⟨x0,x1,x2,x3,x4⟩:qh)) (fun _=>rfl) (qaW.cons rfl (by kernel_rfl) rd9 (qaW.cons rfl (by kernel_rfl) rd23 (qaW.cons rfl (by kernel_rfl) rd23 (qaW.cons rfl (by kernel_rfl) rd30 (qaW.last rfl (by kernel_rfl) rd9)))))
theorem tyB:Tryz.prog.underlying 4=some .bool:=by kernel_rfl
theorem laidOut:laidOutB Tryz.prog=true:=by kernel_rfl
theorem contract (H:Type) (enc:TypeId×Value->H) (W:World) (base:Nat) (args:Array Value) (ds gs:List (DataW H)) (before:List MemPlace)
 (hval: ∀(j:Nat) t v,Tryz.f4.params[j]? =some t->args[j]? =some v->Value.okWide Tryz.prog W .any base t v)
 (hW:DataW.Whole enc Tryz.prog Tryz.f4.params.toList Rows.yarnMixesSpec.vars false W args.toList ds gs before)
 (hw:(DataW.weightsEach Tryz.prog (Tryz.f4.params.toList++Rows.yarnMixesSpec.plain.varTypes Tryz.prog) (ds++gs)).all (· <=reachBytes)=true) (hG:Glob.G (AllOf W) W):
 Calls Tryz.prog 4 args W fun e W'=> ∃v,e= .returned v/\Rows.yarnMixesSpec.post enc Tryz.prog Tryz.f4 false true false false W args v W':=by
 have hW':=hW;obtain⟨p,q,hA0,hV,rfl,hfz,hnd⟩:=hW;have r0:DataW.TrodAll enc Tryz.prog W 0 (fun _=>true) true Tryz.f4.params.toList args.toList ds p:=hA0;rw[Tryz.params4]at r0 hval hw;obtain⟨v0,vs0,d0,ds0,p0,q0,hargs,rfl,rfl,h0,r1⟩:=trodAll_cons r0;obtain⟨v1,vs1,d1,ds1,p1,q1,rfl,rfl,rfl,h1,r2⟩:=trodAll_cons r1;obtain⟨v2,vs2,d2,ds2,p2,q2,rfl,rfl,rfl,h2,r3⟩:=trodAll_cons r2;obtain⟨rfl,rfl,rfl⟩:=trodAll_nil r3;obtain⟨hw0,hw⟩:=qii (t:=22) (d:=d0) hw;obtain⟨hw1,hw⟩:=qii (t:=23) (d:=d1) hw;obtain⟨hw2,hw⟩:=qii (t:=23) (d:=d2) hw
 obtain rfl:args=#[v0,v1,v2]:=by cases args;simp_all
 obtain⟨a0,hu0,hb0⟩:=In.listW ud22 (by kernel_rfl) rd32 (hval 0 22 v0 rfl rfl) h0 hw0
 have hb0:a0.length*88<=140737488355328:=by
  rw[show Tryz.prog.bytesOf 32=88 by kernel_rfl]at hb0;exact Nat.le_trans hb0 (by decide)
 obtain⟨a1,hu1⟩:=In.str ud23 (hval 1 23 v1 rfl rfl);obtain⟨a2,hu2⟩:=In.str ud23 (hval 2 23 v2 rfl rfl);refine qnU laidOut (fun t ht=>?_) rfl (show Tryz.f4.resultTypes=#[4]from rfl) tyB (fun ds hds=>?_) hW' (enters_of (by kernel_rfl)) (qfQ (700000+a0.length) a0 a1 a2 (qhp (N:=700000+a0.length) a0 a1 a2 (by omega) hb0)) hG (al:=[vl qc a0,.str a1,.str a2]) ⟨rfl,fun i a v ha hv=>?_⟩
 ·rw[Tryz.params4]at ht
  have ht:t=22\/t=23\/t=23:=by simpa using ht
  rcases ht with rfl|rfl|rfl
  ·exact⟨by kernel_rfl,of_decide_eq_true (by kernel_rfl)⟩
  ·exact⟨by kernel_rfl,of_decide_eq_true (by kernel_rfl)⟩
  exact⟨by kernel_rfl,of_decide_eq_true (by kernel_rfl)⟩
 ·rw[Tryz.params4]at hds
  match ds,hds with
  |[d1,d2,d3],_=>exact⟨rfl,rfl,rfl⟩
 match i with
 |0=>simp at ha hv;subst ha hv;exact hu0
 |1=>simp at ha hv;subst ha hv;exact hu1
 |2=>simp at ha hv;subst ha hv;exact hu2
 |i+3=>simp at ha
theorem qoc {W:World} (h:laidMetH Tryz.prog Rows.yarnMixesRow.laid W):Glob.G (AllOf W) W:=by
 have h1:=h.filter fun x=>x.1==qdQ
 have e:(Rows.yarnMixesRow.laid.filter fun x=>x.1==qdQ)=[(qdQ,Lib.tabData .u64 Lib.pow10Tab)]:=by kernel_rfl
 rw[e]at h1
 have h2:laidMet Tryz.prog [(qdQ,Lib.tabData .u64 Lib.pow10Tab)] W:=by
  rw[MakeChecks.laidMetH_plain _ _ _ (by kernel_rfl)]at h1;exact h1
 have ht:Lib.TabIs Tryz.prog W qdQ .u64 Lib.pow10Tab:=
  Lib.tabIs_of_head (rest:=[]) (t:=339) (e:=222) (n:=20) qgR (by kernel_rfl) (by kernel_rfl) (by kernel_rfl) (by kernel_rfl) (by kernel_rfl) h2
 refine⟨?_,ht⟩;unfold Lib.TabIs World.var? at ht;rw[qgR]at ht;simp only[ZB]at ht;show 7<W.heap.size;rcases Nat.lt_or_ge 7 W.heap.size with h5|h5
 ·exact h5
 rw[Array.getElem?_eq_none h5]at ht;cases ht
theorem own:ownKnob Tryz.prog.godebug=none:=by kernel_rfl
theorem lifted (os:Os) (started:os.Started) (H:Type) (enc:TypeId×Value->H):
 ReturnsInHanded {} Tryz.checked os 4 .any (fun w args=>(Rows.yarnMixesSpec.pre enc Tryz.prog Tryz.f4 Rows.yarnMixesRow.domain false w args/\laidMetH Tryz.prog Rows.yarnMixesRow.laid w)/\sizedMet enc Tryz.prog Tryz.f4 (OpenSpec.ofChange Rows.yarnMixesSpec) false w args)
  (Rows.yarnMixesSpec.post enc Tryz.prog Tryz.f4 false true false false):=by
 refine returnsInHanded_of_change_and (C:=Tryz.checked) (X:=fun w _=>laidMetH Tryz.prog Rows.yarnMixesRow.laid w) (fun _ _ _ hh h=>h.of_heap hh) own started (by kernel_rfl) Tryz.func4
  (ChangeSpec.witness_shaped (enc:=enc) (C:=Tryz.checked) (os:=os) (X:=fun w _=>laidMetH Tryz.prog Rows.yarnMixesRow.laid w) false (World.laidAll Tryz.prog os Rows.yarnMixesRow.laid) #[.slice none 0 0,.string ⟨#[]⟩,.string ⟨#[]⟩] 8 (World.laidAll_os _ _ _)
   (World.shaped_of_ZipB (by kernel_rfl) (by kernel_rfl)) (by kernel_rfl) (by kernel_rfl) (by kernel_rfl)
   (by rw[MakeChecks.laidMetH_plain _ _ _ (by kernel_rfl)];exact laidMet_laidAll _ (by kernel_rfl) (by kernel_rfl))) ?_
 intro W base args ds gs before hval hW _ hw hL _;exact contract H enc W base args ds gs before hval hW hw (qoc hL)
theorem factA:Tryz.pinned.checked.prog.funcNamed Rows.yarnMixesRow.func=some 4:=by kernel_rfl
theorem fact0:(Rows.yarnMixesRow.wf (OpenSpec.ofChange Rows.yarnMixesSpec))=true:=by kernel_rfl
theorem fact1:(laidOutB Tryz.pinned.checked.prog)=true:=by kernel_rfl
theorem fact2:(mapsRowed Tryz.pinned.checked.prog)=true:=by kernel_rfl
theorem fact3:(Tryz.f4.params.all (Tryz.pinned.checked.prog.readableRec ·))=true:=by kernel_rfl
theorem fact4:(namedTie Tryz.pinned.checked.prog Rows.yarnMixesRow.named Rows.yarnMixesSpec.vars)=true:=by kernel_rfl
theorem fact5:((Rows.yarnMixesRow.stops==[]))=true:=by kernel_rfl
theorem fact6:((Tryz.pinned.checked.prog.stops==[]))=true:=by kernel_rfl
theorem fact7:((Rows.yarnMixesRow.knobs==[]))=true:=by kernel_rfl
theorem fact8:((Tryz.pinned.checked.prog.stopKnobs==[]))=true:=by kernel_rfl
theorem fact9:((Rows.yarnMixesRow.inPlace==Tryz.pinned.checked.prog.inPlace 4))=true:=by kernel_rfl
theorem qrY:((Rows.yarnMixesRow.unfollowed==Tryz.pinned.checked.prog.unfollowed 4))=true:=by kernel_rfl
theorem qrI:((Rows.yarnMixesRow.recurses==Tryz.pinned.checked.prog.recurses 4))=true:=by kernel_rfl
theorem qsj:((Rows.yarnMixesRow.named==Tryz.pinned.checked.prog.varsNamed 4))=true:=by kernel_rfl
theorem qrZ:((Rows.yarnMixesRow.maps==(Tryz.f4.params.toList++Rows.yarnMixesSpec.plain.varTypes Tryz.pinned.checked.prog).any (Tryz.pinned.checked.prog.mapsRec ·)))=true:=by kernel_rfl
theorem qrH:((Rows.yarnMixesRow.ifaces==(Tryz.f4.params.toList++Rows.yarnMixesSpec.plain.varTypes Tryz.pinned.checked.prog).any (Tryz.pinned.checked.prog.ifacesRec ·)))=true:=by kernel_rfl
theorem qsg:((Rows.yarnMixesRow.mapsOut==Tryz.pinned.checked.prog.mapsAmong Tryz.f4.resultTypes.toList))=true:=by kernel_rfl
theorem qrV:((Rows.yarnMixesRow.loops==(Tryz.f4.params.toList++Rows.yarnMixesSpec.plain.varTypes Tryz.pinned.checked.prog).any (Tryz.pinned.checked.prog.loopsFrom ·)))=true:=by kernel_rfl
theorem qrP:((Rows.yarnMixesRow.wideKeys==(Tryz.f4.params.toList++Rows.yarnMixesSpec.plain.varTypes Tryz.pinned.checked.prog++Tryz.f4.resultTypes.toList).any (Tryz.pinned.checked.prog.wideKeysFrom ·)))=true:=by kernel_rfl
theorem qr7:(Rows.yarnMixesSpec.vars.all (Tryz.pinned.checked.prog.varReadable ·))=true:=by kernel_rfl
theorem qr5:(Tryz.f4.resultTypes.all (fun t=>Tryz.pinned.checked.prog.readableRec t&&decide (t<Tryz.pinned.checked.prog.types.size)))=true:=by kernel_rfl
theorem qsh:((Rows.yarnMixesRow.ifacesOut==Tryz.f4.resultTypes.toList.any (Tryz.pinned.checked.prog.ifacesRec ·)))=true:=by kernel_rfl
theorem qsb:((Rows.yarnMixesRow.loopsOut==Tryz.f4.resultTypes.toList.any (Tryz.pinned.checked.prog.loopsFrom ·)))=true:=by kernel_rfl
theorem qr8:((Rows.yarnMixesRow.plainKeys==Tryz.pinned.checked.prog.plainKeys))=true:=by kernel_rfl
theorem qr0:(Rows.yarnMixesRow.shortTexts.isNone)=true:=by kernel_rfl
theorem qrD:(Tryz.pinned.checked.prog.stopsHeard)=true:=by kernel_rfl
theorem qr1:(Tryz.pinned.checked.prog.mayEnter)=true:=by kernel_rfl
theorem qrU:((Rows.yarnMixesRow.lifted==Tryz.pinned.checked.prog.liftsFinal))=true:=by kernel_rfl
theorem qr9:((Tryz.pinned.checked.prog.make==some Rows.yarnMixesRow.make))=true:=by kernel_rfl
theorem qrG:((Rows.yarnMixesRow.kinds==(if Rows.yarnMixesRow.domain.isEmpty then[]else Tryz.f4.params.toList.map fun t=>match Tryz.pinned.checked.prog.underlying t with|some (.int k)=>some k|_=>none)))=true:=by kernel_rfl
theorem qrT:((Rows.yarnMixesRow.pinned==Rows.yarnMixesRow.pinnedBy))=true:=by kernel_rfl
theorem qrL:((Rows.yarnMixesRow.veiled==(Tryz.f4.params.toList++Rows.yarnMixesSpec.plain.varTypes Tryz.pinned.checked.prog++Tryz.f4.resultTypes.toList).any (Tryz.pinned.checked.prog.veiledRec ·)))=true:=by kernel_rfl
theorem qse:(Rows.yarnMixesRow.veiledFits Tryz.pinned.checked.prog Tryz.f4.params.toList (Tryz.f4.params.toList++Rows.yarnMixesSpec.plain.varTypes Tryz.pinned.checked.prog++Tryz.f4.resultTypes.toList))=true:=by kernel_rfl
theorem factB:joinedFacts Tryz.pinned.checked.prog 4 Tryz.f4 Rows.yarnMixesSpec Rows.yarnMixesRow=true:=by
 unfold joinedFacts;exact(qa9 (qa9 (qa9 (qa9 (qa9 (qa9 (qa9 (qa9 (qa9 (qa9 (qa9 (qa9 (qa9 (qa9 (qa9 (qa9 (qa9 (qa9 (qa9 (qa9 (qa9 (qa9 (qa9 (qa9 (qa9 (qa9 (qa9 (qa9 (qa9 (qa9 (qa9 fact0 fact1) fact2) fact3) fact4) fact5) fact6) fact7) fact8) fact9) qrY) qrI) qsj) qrZ) qrH) qsg) qrV) qrP) qr7) qr5) qsh) qsb) qr8) qr0) qrD) qr1) qrU) qr9) qrG) qrT) qrL) qse)
theorem factC:Tryz.f4.isInstance Tryz.pinned.checked.prog Rows.yarnMixesRow.origin Rows.yarnMixesRow.targs:=of_decide_eq_true (by kernel_rfl)
theorem factD:Tryz.f4.isWrapper Tryz.pinned.checked.prog Rows.yarnMixesRow.wrapper Rows.yarnMixesRow.mainSum:=by unfold Func.isWrapper;first|(rw[if_pos (by decide+kernel)];kernel_rfl)|(rw[if_neg (by decide+kernel)];exact⟨rfl,rfl⟩)
theorem said:Rows.YarnMixesSaid:=
 OpenClaim.holds_of_wide 4 Tryz.f4 rfl rfl rfl rfl rfl rfl rfl ⟨rfl,rfl,rfl,rfl,rfl⟩ rfl rfl rfl rfl rfl factA Tryz.func4 factB factC factD
  (fun os started H enc _=>lifted os started H enc)
theorem qq7:Tryz.pinned.checked.prog.wantsStandIn 22=false:=by kernel_rfl
theorem qmS:Tryz.pinned.checked.prog.wantsStandIn 23=false:=by kernel_rfl
theorem qrM:true=Tryz.pinned.checked.prog.looks []:=by kernel_rfl
theorem plain (f:FuncId) (fn:Func) (hf:Tryz.pinned.checked.prog.funcNamed "becket/becketlaw02.YarnMixes" =some f) (hfn:Tryz.pinned.checked.prog.funcs[f]? =some fn):
 true=Tryz.pinned.checked.prog.looks []/\ ∀(j:Nat) t,fn.params[j]? =some t->Tryz.pinned.checked.prog.wantsStandIn t=false:=by
 obtain rfl:f=4:=Ye ((show Tryz.prog.funcNamed "becket/becketlaw02.YarnMixes" =some 4 by kernel_rfl).symm.trans hf)|>.symm;obtain rfl:fn=Tryz.f4:=(Ye (Tryz.func4.symm.trans hfn)).symm;refine⟨qrM,fun j t ht=>?_⟩;rw[Tryz.params4]at ht
 have ht:t=22\/t=23\/t=23:=by have:=Array.mem_of_getElem? ht;simpa using this
 rcases ht with rfl|rfl|rfl
 ·exact qq7
 ·exact qmS
 exact qmS
theorem card:Rows.YarnMixesCardSaid:=
 Claim7.holds_tied_plain_at .later [] _ _ _ _ said (fun _ h=>by cases h) (by kernel_rfl) (fun _ h=>by cases h) yarnMixes_row_tie rfl ⟨rfl,rfl⟩ (by kernel_rfl) rfl plain (by kernel_rfl)
end Go.Av
namespace Go.Proofs.YtppehbboaidbgaaGreatDoor
theorem yarnMixes_holds:Rows.YarnMixesCardSaid:=Go.Av.card
end Go.Proofs.YtppehbboaidbgaaGreatDoor
