/-
  It is proved that NumberEncloses returns true for all inputs. Conditions: those of the given row alone (the listed package variables hold what the program's text lays).
-/
import Derived.Test.YtbjpmhdicbgjkaaGreatDoorQGenE
import Derived.Test.YtbjpmhdicbgjkaaGreatDoorNuPb
import Derived.Test.YtbjpmhdicbgjkaaGreatDoorAvPt
import Derived.Test.YtbjpmhdicbgjkaaGreatDoorAvAwkE
import Derived.Test.YtbjpmhdicbgjkaaGreatDoorCards
import Derived.Test.YtbjpmhdicbgjkaaGreatDoorTie
import Derived.Lay
import Derived.LaidMore
import Derived.LaidSub
import Derived.SevenTiedAt
import Derived.Stop.Joined
import Derived.Lib.LaidTab
import Derived.Lib.ItoaNum
noncomputable section
namespace Go.Av
open Go.Proofs Go.Proofs.YtbjpmhdicbgjkaaGreatDoor
open Go.ChangeShapes Go.WideShapes Go.ChangeAt Go.RowKit
set_option linter.unusedSectionVars false
set_option maxRecDepth 100000
theorem ud23:Tryz.prog.underlying 23=some (.string):=by kernel_rfl
theorem rd23:y9 Tryz.prog 23 encS:=y9.str ud23
theorem ud44:Tryz.prog.underlying 44=some (.struct #[{name:= "Low",type:=23,offset:=0,embedded:=false,tag:= "",pkgPath:= "",byteOffset:=0},{name:= "High",type:=23,offset:=1,embedded:=false,tag:= "",pkgPath:= "",byteOffset:=16}]):=by kernel_rfl
theorem rd44:y9 Tryz.prog 44 qk7:=qcR.struct (fl:=[{name:= "Low",type:=23,offset:=0,embedded:=false,tag:= "",pkgPath:= "",byteOffset:=0},{name:= "High",type:=23,offset:=1,embedded:=false,tag:= "",pkgPath:= "",byteOffset:=16}]) ud44 rfl (by kernel_rfl) (fun(x0,x1)=>(⟨x0,x1⟩:qA)) (fun _=>rfl) (qcR.cons rfl (by kernel_rfl) rd23 (qcR.last rfl (by kernel_rfl) rd23))
theorem ud64:Tryz.prog.underlying 64=some (.struct #[{name:= "A",type:=5,offset:=0,embedded:=false,tag:= "",pkgPath:= "",byteOffset:=0},{name:= "B",type:=5,offset:=1,embedded:=false,tag:= "",pkgPath:= "",byteOffset:=1}]):=by kernel_rfl
theorem ud5:Tryz.prog.underlying 5=some (.int .u8):=by kernel_rfl
theorem tyB:Tryz.prog.underlying 4=some .bool:=by kernel_rfl
theorem laidOut:laidOutB Tryz.prog=true:=by kernel_rfl
theorem contract (H:Type) (enc:TypeId×Value->H) (W:World) (base:Nat) (args:Array Value) (ds gs:List (DataW H)) (before:List MemPlace)
 (hval: ∀(j:Nat) t v,Tryz.f7.params[j]? =some t->args[j]? =some v->Value.okWide Tryz.prog W .any base t v)
 (hW:DataW.Whole enc Tryz.prog Tryz.f7.params.toList Rows.numberEnclosesSpec.vars false W args.toList ds gs before) (hG:Glob.G (AllOf W) W):
 Calls Tryz.prog 7 args W fun e W'=> ∃v,e= .returned v/\Rows.numberEnclosesSpec.post enc Tryz.prog Tryz.f7 false true false false W args v W':=by
 have hW':=hW
 obtain⟨p,q,hA0,hV,rfl,hfz,hnd⟩:=hW
 have r0:DataW.TrodAll enc Tryz.prog W 0 (fun _=>true) true Tryz.f7.params.toList args.toList ds p:=hA0
 rw[Tryz.params7]at r0 hval
 obtain⟨v0,vs0,d0,ds0,p0,q0,hargs,rfl,rfl,h0,r1⟩:=trodAll_cons r0
 obtain⟨v1,vs1,d1,ds1,p1,q1,rfl,rfl,rfl,h1,r2⟩:=trodAll_cons r1
 obtain⟨v2,vs2,d2,ds2,p2,q2,rfl,rfl,rfl,h2,r3⟩:=trodAll_cons r2
 obtain⟨rfl,rfl,rfl⟩:=trodAll_nil r3
 obtain rfl:args=#[v0,v1,v2]:=by cases args;simp_all
 obtain⟨a0,hu0⟩:=In.struct ud44 rd44 (hval 0 44 v0 rfl rfl) h0
 obtain⟨a1,hu1⟩:=In.struct ud44 rd44 (hval 1 44 v1 rfl rfl) h1
 obtain⟨⟨a2a,a2b⟩,⟨hb2,hc2⟩,hu2⟩:=In.two ud64 ud5 ud5 rfl rfl (by kernel_rfl) (by kernel_rfl) (by kernel_rfl) (hval 2 64 v2 rfl rfl) h2
 refine qm6 laidOut (fun t ht=>?_) rfl (show Tryz.f7.resultTypes=#[4]from rfl) tyB (fun ds hds=>?_) hW' (enters_of (by kernel_rfl)) (qdl 700000 a0 a1 (⟨a2a,a2b⟩:qiR) (qeI (N:=700000) (by decide) a0 a1 (⟨a2a,a2b⟩:qiR) hb2 hc2)) hG (al:=[.agg [.str a0.Low,.str a0.High],.agg [.str a1.Low,.str a1.High],.agg [.int .u8 a2a,.int .u8 a2b]]) ⟨rfl,fun i a v ha hv=>?_⟩
 ·rw[Tryz.params7]at ht
  have ht:t=44\/t=44\/t=64:=by simpa using ht
  rcases ht with rfl|rfl|rfl
  ·exact⟨by kernel_rfl,of_decide_eq_true (by kernel_rfl)⟩
  ·exact⟨by kernel_rfl,of_decide_eq_true (by kernel_rfl)⟩
  exact⟨by kernel_rfl,of_decide_eq_true (by kernel_rfl)⟩
 ·rw[Tryz.params7]at hds
  match ds,hds with
  |[d1,d2,d3],_=>exact⟨rfl,rfl,rfl⟩
 match i with
 |0=>simp at ha hv;subst ha hv;exact hu0
 |1=>simp at ha hv;subst ha hv;exact hu1
 |2=>simp at ha hv;subst ha hv;exact hu2
 |i+3=>simp at ha
theorem qnO {W:World} (h:laidMetH Tryz.prog Rows.numberEnclosesRow.laid W):Glob.G (AllOf W) W:=by
 have h1:=h.filter fun x=>x.1==qdW
 have e:(Rows.numberEnclosesRow.laid.filter fun x=>x.1==qdW)=[(qdW,Lib.tabData .u64 Lib.pow10Tab)]:=by kernel_rfl
 rw[e]at h1
 have h2:laidMet Tryz.prog [(qdW,Lib.tabData .u64 Lib.pow10Tab)] W:=by
  rw[MakeChecks.laidMetH_plain _ _ _ (by kernel_rfl)]at h1
  exact h1
 have ht:Lib.TabIs Tryz.prog W qdW .u64 Lib.pow10Tab:=
  Lib.tabIs_of_head (rest:=[]) (t:=286) (e:=212) (n:=20) qgt (by kernel_rfl) (by kernel_rfl) (by kernel_rfl) (by kernel_rfl) (by kernel_rfl) h2
 refine⟨?_,ht⟩
 unfold Lib.TabIs World.var? at ht
 rw[qgt]at ht
 simp only[ZB]at ht
 show 7<W.heap.size
 rcases Nat.lt_or_ge 7 W.heap.size with h5|h5
 ·exact h5
 rw[Array.getElem?_eq_none h5]at ht
 cases ht
theorem own:ownKnob Tryz.prog.godebug=none:=by kernel_rfl
theorem lifted (os:Os) (started:os.Started) (H:Type) (enc:TypeId×Value->H):
 ReturnsInHanded {} Tryz.checked os 7 .any (fun w args=>(Rows.numberEnclosesSpec.pre enc Tryz.prog Tryz.f7 Rows.numberEnclosesRow.domain false w args/\laidMetH Tryz.prog Rows.numberEnclosesRow.laid w)/\sizedMet enc Tryz.prog Tryz.f7 (OpenSpec.ofChange Rows.numberEnclosesSpec) false w args)
  (Rows.numberEnclosesSpec.post enc Tryz.prog Tryz.f7 false true false false):=by
 refine returnsInHanded_of_change_and (C:=Tryz.checked) (X:=fun w _=>laidMetH Tryz.prog Rows.numberEnclosesRow.laid w) (fun _ _ _ hh h=>h.of_heap hh) own started (by kernel_rfl) Tryz.func7
  (ChangeSpec.witness_shaped (enc:=enc) (C:=Tryz.checked) (os:=os) (X:=fun w _=>laidMetH Tryz.prog Rows.numberEnclosesRow.laid w) false (World.laidAll Tryz.prog os Rows.numberEnclosesRow.laid) #[.agg #[.string ⟨#[]⟩,.string ⟨#[]⟩],.agg #[.string ⟨#[]⟩,.string ⟨#[]⟩],.agg #[.int .u8 0,.int .u8 0]] 8 (World.laidAll_os _ _ _)
   (World.shaped_of_ZipB (by kernel_rfl) (by kernel_rfl)) (by kernel_rfl) (by kernel_rfl) (by kernel_rfl)
   (by rw[MakeChecks.laidMetH_plain _ _ _ (by kernel_rfl)];exact laidMet_laidAll _ (by kernel_rfl) (by kernel_rfl))) ?_
 intro W base args ds gs before hval hW _ _ hL _
 exact contract H enc W base args ds gs before hval hW (qnO hL)
theorem factA:Tryz.pinned.checked.prog.funcNamed Rows.numberEnclosesRow.func=some 7:=by kernel_rfl
theorem fact0:(Rows.numberEnclosesRow.wf (OpenSpec.ofChange Rows.numberEnclosesSpec))=true:=by kernel_rfl
theorem fact1:(laidOutB Tryz.pinned.checked.prog)=true:=by kernel_rfl
theorem fact2:(mapsRowed Tryz.pinned.checked.prog)=true:=by kernel_rfl
theorem fact3:(Tryz.f7.params.all (Tryz.pinned.checked.prog.readableRec ·))=true:=by kernel_rfl
theorem fact4:(namedTie Tryz.pinned.checked.prog Rows.numberEnclosesRow.named Rows.numberEnclosesSpec.vars)=true:=by kernel_rfl
theorem fact5:((Rows.numberEnclosesRow.stops==[]))=true:=by kernel_rfl
theorem fact6:((Tryz.pinned.checked.prog.stops==[]))=true:=by kernel_rfl
theorem fact7:((Rows.numberEnclosesRow.knobs==[]))=true:=by kernel_rfl
theorem fact8:((Tryz.pinned.checked.prog.stopKnobs==[]))=true:=by kernel_rfl
theorem fact9:((Rows.numberEnclosesRow.inPlace==Tryz.pinned.checked.prog.inPlace 7))=true:=by kernel_rfl
theorem qqF:((Rows.numberEnclosesRow.unfollowed==Tryz.pinned.checked.prog.unfollowed 7))=true:=by kernel_rfl
theorem qq2:((Rows.numberEnclosesRow.recurses==Tryz.pinned.checked.prog.recurses 7))=true:=by kernel_rfl
theorem qqQ:((Rows.numberEnclosesRow.named==Tryz.pinned.checked.prog.varsNamed 7))=true:=by kernel_rfl
theorem qqW:((Rows.numberEnclosesRow.maps==(Tryz.f7.params.toList++Rows.numberEnclosesSpec.plain.varTypes Tryz.pinned.checked.prog).any (Tryz.pinned.checked.prog.mapsRec ·)))=true:=by kernel_rfl
theorem qqz:((Rows.numberEnclosesRow.ifaces==(Tryz.f7.params.toList++Rows.numberEnclosesSpec.plain.varTypes Tryz.pinned.checked.prog).any (Tryz.pinned.checked.prog.ifacesRec ·)))=true:=by kernel_rfl
theorem qqx:((Rows.numberEnclosesRow.mapsOut==Tryz.pinned.checked.prog.mapsAmong Tryz.f7.resultTypes.toList))=true:=by kernel_rfl
theorem qq3:((Rows.numberEnclosesRow.loops==(Tryz.f7.params.toList++Rows.numberEnclosesSpec.plain.varTypes Tryz.pinned.checked.prog).any (Tryz.pinned.checked.prog.loopsFrom ·)))=true:=by kernel_rfl
theorem qqA:((Rows.numberEnclosesRow.wideKeys==(Tryz.f7.params.toList++Rows.numberEnclosesSpec.plain.varTypes Tryz.pinned.checked.prog++Tryz.f7.resultTypes.toList).any (Tryz.pinned.checked.prog.wideKeysFrom ·)))=true:=by kernel_rfl
theorem qqR:(Rows.numberEnclosesSpec.vars.all (Tryz.pinned.checked.prog.varReadable ·))=true:=by kernel_rfl
theorem qqX:(Tryz.f7.resultTypes.all (fun t=>Tryz.pinned.checked.prog.readableRec t&&decide (t<Tryz.pinned.checked.prog.types.size)))=true:=by kernel_rfl
theorem qqv:((Rows.numberEnclosesRow.ifacesOut==Tryz.f7.resultTypes.toList.any (Tryz.pinned.checked.prog.ifacesRec ·)))=true:=by kernel_rfl
theorem qqK:((Rows.numberEnclosesRow.loopsOut==Tryz.f7.resultTypes.toList.any (Tryz.pinned.checked.prog.loopsFrom ·)))=true:=by kernel_rfl
theorem qqT:((Rows.numberEnclosesRow.plainKeys==Tryz.pinned.checked.prog.plainKeys))=true:=by kernel_rfl
theorem qqY:(Rows.numberEnclosesRow.shortTexts.isNone)=true:=by kernel_rfl
theorem qqr:(Tryz.pinned.checked.prog.stopsHeard)=true:=by kernel_rfl
theorem qqD:(Tryz.pinned.checked.prog.mayEnter)=true:=by kernel_rfl
theorem qqn:((Rows.numberEnclosesRow.lifted==Tryz.pinned.checked.prog.liftsFinal))=true:=by kernel_rfl
theorem qqL:((Tryz.pinned.checked.prog.make==some Rows.numberEnclosesRow.make))=true:=by kernel_rfl
theorem qqS:((Rows.numberEnclosesRow.kinds==(if Rows.numberEnclosesRow.domain.isEmpty then[]else Tryz.f7.params.toList.map fun t=>match Tryz.pinned.checked.prog.underlying t with|some (.int k)=>some k|_=>none)))=true:=by kernel_rfl
theorem qqE:((Rows.numberEnclosesRow.pinned==Rows.numberEnclosesRow.pinnedBy))=true:=by kernel_rfl
theorem qqw:((Rows.numberEnclosesRow.veiled==(Tryz.f7.params.toList++Rows.numberEnclosesSpec.plain.varTypes Tryz.pinned.checked.prog++Tryz.f7.resultTypes.toList).any (Tryz.pinned.checked.prog.veiledRec ·)))=true:=by kernel_rfl
theorem qqs:(Rows.numberEnclosesRow.veiledFits Tryz.pinned.checked.prog Tryz.f7.params.toList (Tryz.f7.params.toList++Rows.numberEnclosesSpec.plain.varTypes Tryz.pinned.checked.prog++Tryz.f7.resultTypes.toList))=true:=by kernel_rfl
theorem factB:joinedFacts Tryz.pinned.checked.prog 7 Tryz.f7 Rows.numberEnclosesSpec Rows.numberEnclosesRow=true:=by
 unfold joinedFacts
 exact(qaY (qaY (qaY (qaY (qaY (qaY (qaY (qaY (qaY (qaY (qaY (qaY (qaY (qaY (qaY (qaY (qaY (qaY (qaY (qaY (qaY (qaY (qaY (qaY (qaY (qaY (qaY (qaY (qaY (qaY (qaY fact0 fact1) fact2) fact3) fact4) fact5) fact6) fact7) fact8) fact9) qqF) qq2) qqQ) qqW) qqz) qqx) qq3) qqA) qqR) qqX) qqv) qqK) qqT) qqY) qqr) qqD) qqn) qqL) qqS) qqE) qqw) qqs)
theorem factC:Tryz.f7.isInstance Tryz.pinned.checked.prog Rows.numberEnclosesRow.origin Rows.numberEnclosesRow.targs:=of_decide_eq_true (by kernel_rfl)
theorem factD:Tryz.f7.isWrapper Tryz.pinned.checked.prog Rows.numberEnclosesRow.wrapper Rows.numberEnclosesRow.mainSum:=by unfold Func.isWrapper;first|(rw[if_pos (by decide+kernel)];kernel_rfl)|(rw[if_neg (by decide+kernel)];exact⟨rfl,rfl⟩)
theorem said:Rows.NumberEnclosesSaid:=
 OpenClaim.holds_of_wide 7 Tryz.f7 rfl rfl rfl rfl rfl rfl rfl ⟨rfl,rfl,rfl,rfl,rfl⟩ rfl rfl rfl rfl rfl factA Tryz.func7 factB factC factD
  (fun os started H enc _=>lifted os started H enc)
theorem qmy:Tryz.pinned.checked.prog.wantsStandIn 44=false:=by kernel_rfl
theorem qpx:Tryz.pinned.checked.prog.wantsStandIn 64=false:=by kernel_rfl
theorem qqq:true=Tryz.pinned.checked.prog.looks []:=by kernel_rfl
theorem plain (f:FuncId) (fn:Func) (hf:Tryz.pinned.checked.prog.funcNamed "becket/becketlaw01.NumberEncloses" =some f) (hfn:Tryz.pinned.checked.prog.funcs[f]? =some fn):
 true=Tryz.pinned.checked.prog.looks []/\ ∀(j:Nat) t,fn.params[j]? =some t->Tryz.pinned.checked.prog.wantsStandIn t=false:=by
 obtain rfl:f=7:=Ye ((show Tryz.prog.funcNamed "becket/becketlaw01.NumberEncloses" =some 7 by kernel_rfl).symm.trans hf)|>.symm
 obtain rfl:fn=Tryz.f7:=(Ye (Tryz.func7.symm.trans hfn)).symm
 refine⟨qqq,fun j t ht=>?_⟩
 rw[Tryz.params7]at ht
 have ht:t=44\/t=44\/t=64:=by have:=Array.mem_of_getElem? ht;simpa using this
 rcases ht with rfl|rfl|rfl
 ·exact qmy
 ·exact qmy
 exact qpx
theorem card:Rows.NumberEnclosesCardSaid:=
 Claim7.holds_tied_plain_at .later [] _ _ _ _ said (fun _ h=>by cases h) (by kernel_rfl) (fun _ h=>by cases h) numberEncloses_row_tie rfl ⟨rfl,rfl⟩ (by kernel_rfl) rfl plain (by kernel_rfl)
end Go.Av
namespace Go.Proofs.YtbjpmhdicbgjkaaGreatDoor
theorem numberEncloses_holds:Rows.NumberEnclosesCardSaid:=Go.Av.card
end Go.Proofs.YtbjpmhdicbgjkaaGreatDoor
