/-
  It is proved that NumberSpans returns true for all inputs. Conditions: those of the given row alone (the listed package variables hold what the program's text lays).
-/
import Derived.Test.YtbjpmhdicbgjkaaGreatDoorQGenE
import Derived.Test.YtbjpmhdicbgjkaaGreatDoorNuPb
import Derived.Test.YtbjpmhdicbgjkaaGreatDoorAvPt
import Derived.Test.YtbjpmhdicbgjkaaGreatDoorAvAwkE
import Derived.Test.YtbjpmhdicbgjkaaGreatDoorCards
import Derived.Test.YtbjpmhdicbgjkaaGreatDoorTie
import Derived.Lay
import Derived.LaidMore
import Derived.LaidSub
import Derived.SevenTiedAt
import Derived.Stop.Joined
import Derived.Lib.LaidTab
import Derived.Lib.ItoaNum
noncomputable section
namespace Go.Av
open Go.Proofs Go.Proofs.YtbjpmhdicbgjkaaGreatDoor
open Go.ChangeShapes Go.WideShapes Go.ChangeAt Go.RowKit
set_option linter.unusedSectionVars false
set_option maxRecDepth 100000
theorem ud23:Tryz.prog.underlying 23=some (.string):=by kernel_rfl
theorem rd23:xk Tryz.prog 23 encS:=xk.str ud23
theorem ud44:Tryz.prog.underlying 44=some (.struct #[{name:= "Low",type:=23,offset:=0,embedded:=false,tag:= "",pkgPath:= "",byteOffset:=0},{name:= "High",type:=23,offset:=1,embedded:=false,tag:= "",pkgPath:= "",byteOffset:=16}]):=by kernel_rfl
theorem rd44:xk Tryz.prog 44 qkX:=qc8.struct (fl:=[{name:= "Low",type:=23,offset:=0,embedded:=false,tag:= "",pkgPath:= "",byteOffset:=0},{name:= "High",type:=23,offset:=1,embedded:=false,tag:= "",pkgPath:= "",byteOffset:=16}]) ud44 rfl (by kernel_rfl) (fun(x0,x1)=>(⟨x0,x1⟩:qo)) (fun _=>rfl) (qc8.cons rfl (by kernel_rfl) rd23 (qc8.last rfl (by kernel_rfl) rd23))
theorem tyB:Tryz.prog.underlying 4=some .bool:=by kernel_rfl
theorem laidOut:laidOutB Tryz.prog=true:=by kernel_rfl
theorem contract (H:Type) (enc:TypeId×Value->H) (W:World) (base:Nat) (args:Array Value) (ds gs:List (DataW H)) (before:List MemPlace)
 (hval: ∀(j:Nat) t v,Tryz.f6.params[j]? =some t->args[j]? =some v->Value.okWide Tryz.prog W .any base t v)
 (hW:DataW.Whole enc Tryz.prog Tryz.f6.params.toList Rows.numberSpansSpec.vars false W args.toList ds gs before) (hG:Glob.G (AllOf W) W):
 Calls Tryz.prog 6 args W fun e W'=> ∃v,e= .returned v/\Rows.numberSpansSpec.post enc Tryz.prog Tryz.f6 false true false false W args v W':=by
 have hW':=hW
 obtain⟨p,q,hA0,hV,rfl,hfz,hnd⟩:=hW
 have r0:DataW.TrodAll enc Tryz.prog W 0 (fun _=>true) true Tryz.f6.params.toList args.toList ds p:=hA0
 rw[Tryz.params6]at r0 hval
 obtain⟨v0,vs0,d0,ds0,p0,q0,hargs,rfl,rfl,h0,r1⟩:=trodAll_cons r0
 obtain⟨v1,vs1,d1,ds1,p1,q1,rfl,rfl,rfl,h1,r2⟩:=trodAll_cons r1
 obtain⟨rfl,rfl,rfl⟩:=trodAll_nil r2
 obtain rfl:args=#[v0,v1]:=by cases args;simp_all
 obtain⟨a0,hu0⟩:=In.struct ud44 rd44 (hval 0 44 v0 rfl rfl) h0
 obtain⟨a1,hu1⟩:=In.struct ud44 rd44 (hval 1 44 v1 rfl rfl) h1
 refine qnb laidOut (fun t ht=>?_) rfl (show Tryz.f6.resultTypes=#[4]from rfl) tyB (fun ds hds=>?_) hW' (enters_of (by kernel_rfl)) (qes 700000 a0 a1 (qf2 (N:=700000) (by decide) a0 a1)) hG (al:=[.agg [.str a0.Low,.str a0.High],.agg [.str a1.Low,.str a1.High]]) ⟨rfl,fun i a v ha hv=>?_⟩
 ·rw[Tryz.params6]at ht
  have ht:t=44\/t=44:=by simpa using ht
  rcases ht with rfl|rfl
  ·exact⟨by kernel_rfl,of_decide_eq_true (by kernel_rfl)⟩
  exact⟨by kernel_rfl,of_decide_eq_true (by kernel_rfl)⟩
 ·rw[Tryz.params6]at hds
  match ds,hds with
  |[d1,d2],_=>exact⟨rfl,rfl,rfl⟩
 match i with
 |0=>simp at ha hv;subst ha hv;exact hu0
 |1=>simp at ha hv;subst ha hv;exact hu1
 |i+2=>simp at ha
theorem qoj {W:World} (h:laidMetH Tryz.prog Rows.numberSpansRow.laid W):Glob.G (AllOf W) W:=by
 have h1:=h.filter fun x=>x.1==qdJ
 have e:(Rows.numberSpansRow.laid.filter fun x=>x.1==qdJ)=[(qdJ,Lib.tabData .u64 Lib.pow10Tab)]:=by kernel_rfl
 rw[e]at h1
 have h2:laidMet Tryz.prog [(qdJ,Lib.tabData .u64 Lib.pow10Tab)] W:=by
  rw[MakeChecks.laidMetH_plain _ _ _ (by kernel_rfl)]at h1
  exact h1
 have ht:Lib.TabIs Tryz.prog W qdJ .u64 Lib.pow10Tab:=
  Lib.tabIs_of_head (rest:=[]) (t:=286) (e:=212) (n:=20) qgv (by kernel_rfl) (by kernel_rfl) (by kernel_rfl) (by kernel_rfl) (by kernel_rfl) h2
 refine⟨?_,ht⟩
 unfold Lib.TabIs World.var? at ht
 rw[qgv]at ht
 simp only[ZB]at ht
 show 7<W.heap.size
 rcases Nat.lt_or_ge 7 W.heap.size with h5|h5
 ·exact h5
 rw[Array.getElem?_eq_none h5]at ht
 cases ht
theorem own:ownKnob Tryz.prog.godebug=none:=by kernel_rfl
theorem lifted (os:Os) (started:os.Started) (H:Type) (enc:TypeId×Value->H):
 ReturnsInHanded {} Tryz.checked os 6 .any (fun w args=>(Rows.numberSpansSpec.pre enc Tryz.prog Tryz.f6 Rows.numberSpansRow.domain false w args/\laidMetH Tryz.prog Rows.numberSpansRow.laid w)/\sizedMet enc Tryz.prog Tryz.f6 (OpenSpec.ofChange Rows.numberSpansSpec) false w args)
  (Rows.numberSpansSpec.post enc Tryz.prog Tryz.f6 false true false false):=by
 refine returnsInHanded_of_change_and (C:=Tryz.checked) (X:=fun w _=>laidMetH Tryz.prog Rows.numberSpansRow.laid w) (fun _ _ _ hh h=>h.of_heap hh) own started (by kernel_rfl) Tryz.func6
  (ChangeSpec.witness_shaped (enc:=enc) (C:=Tryz.checked) (os:=os) (X:=fun w _=>laidMetH Tryz.prog Rows.numberSpansRow.laid w) false (World.laidAll Tryz.prog os Rows.numberSpansRow.laid) #[.agg #[.string ⟨#[]⟩,.string ⟨#[]⟩],.agg #[.string ⟨#[]⟩,.string ⟨#[]⟩]] 8 (World.laidAll_os _ _ _)
   (World.shaped_of_ZipB (by kernel_rfl) (by kernel_rfl)) (by kernel_rfl) (by kernel_rfl) (by kernel_rfl)
   (by rw[MakeChecks.laidMetH_plain _ _ _ (by kernel_rfl)];exact laidMet_laidAll _ (by kernel_rfl) (by kernel_rfl))) ?_
 intro W base args ds gs before hval hW _ _ hL _
 exact contract H enc W base args ds gs before hval hW (qoj hL)
theorem factA:Tryz.pinned.checked.prog.funcNamed Rows.numberSpansRow.func=some 6:=by kernel_rfl
theorem fact0:(Rows.numberSpansRow.wf (OpenSpec.ofChange Rows.numberSpansSpec))=true:=by kernel_rfl
theorem fact1:(laidOutB Tryz.pinned.checked.prog)=true:=by kernel_rfl
theorem fact2:(mapsRowed Tryz.pinned.checked.prog)=true:=by kernel_rfl
theorem fact3:(Tryz.f6.params.all (Tryz.pinned.checked.prog.readableRec ·))=true:=by kernel_rfl
theorem fact4:(namedTie Tryz.pinned.checked.prog Rows.numberSpansRow.named Rows.numberSpansSpec.vars)=true:=by kernel_rfl
theorem fact5:((Rows.numberSpansRow.stops==[]))=true:=by kernel_rfl
theorem fact6:((Tryz.pinned.checked.prog.stops==[]))=true:=by kernel_rfl
theorem fact7:((Rows.numberSpansRow.knobs==[]))=true:=by kernel_rfl
theorem fact8:((Tryz.pinned.checked.prog.stopKnobs==[]))=true:=by kernel_rfl
theorem fact9:((Rows.numberSpansRow.inPlace==Tryz.pinned.checked.prog.inPlace 6))=true:=by kernel_rfl
theorem qrg:((Rows.numberSpansRow.unfollowed==Tryz.pinned.checked.prog.unfollowed 6))=true:=by kernel_rfl
theorem qrd:((Rows.numberSpansRow.recurses==Tryz.pinned.checked.prog.recurses 6))=true:=by kernel_rfl
theorem qqK:((Rows.numberSpansRow.named==Tryz.pinned.checked.prog.varsNamed 6))=true:=by kernel_rfl
theorem qqY:((Rows.numberSpansRow.maps==(Tryz.f6.params.toList++Rows.numberSpansSpec.plain.varTypes Tryz.pinned.checked.prog).any (Tryz.pinned.checked.prog.mapsRec ·)))=true:=by kernel_rfl
theorem qqU:((Rows.numberSpansRow.ifaces==(Tryz.f6.params.toList++Rows.numberSpansSpec.plain.varTypes Tryz.pinned.checked.prog).any (Tryz.pinned.checked.prog.ifacesRec ·)))=true:=by kernel_rfl
theorem qq6:((Rows.numberSpansRow.mapsOut==Tryz.pinned.checked.prog.mapsAmong Tryz.f6.resultTypes.toList))=true:=by kernel_rfl
theorem qrb:((Rows.numberSpansRow.loops==(Tryz.f6.params.toList++Rows.numberSpansSpec.plain.varTypes Tryz.pinned.checked.prog).any (Tryz.pinned.checked.prog.loopsFrom ·)))=true:=by kernel_rfl
theorem qqD:((Rows.numberSpansRow.wideKeys==(Tryz.f6.params.toList++Rows.numberSpansSpec.plain.varTypes Tryz.pinned.checked.prog++Tryz.f6.resultTypes.toList).any (Tryz.pinned.checked.prog.wideKeysFrom ·)))=true:=by kernel_rfl
theorem qqM:(Rows.numberSpansSpec.vars.all (Tryz.pinned.checked.prog.varReadable ·))=true:=by kernel_rfl
theorem qq9:(Tryz.f6.resultTypes.all (fun t=>Tryz.pinned.checked.prog.readableRec t&&decide (t<Tryz.pinned.checked.prog.types.size)))=true:=by kernel_rfl
theorem qqR:((Rows.numberSpansRow.ifacesOut==Tryz.f6.resultTypes.toList.any (Tryz.pinned.checked.prog.ifacesRec ·)))=true:=by kernel_rfl
theorem qq3:((Rows.numberSpansRow.loopsOut==Tryz.f6.resultTypes.toList.any (Tryz.pinned.checked.prog.loopsFrom ·)))=true:=by kernel_rfl
theorem qri:((Rows.numberSpansRow.plainKeys==Tryz.pinned.checked.prog.plainKeys))=true:=by kernel_rfl
theorem qqS:(Rows.numberSpansRow.shortTexts.isNone)=true:=by kernel_rfl
theorem qqI:(Tryz.pinned.checked.prog.stopsHeard)=true:=by kernel_rfl
theorem qqV:(Tryz.pinned.checked.prog.mayEnter)=true:=by kernel_rfl
theorem qq2:((Rows.numberSpansRow.lifted==Tryz.pinned.checked.prog.liftsFinal))=true:=by kernel_rfl
theorem qrj:((Tryz.pinned.checked.prog.make==some Rows.numberSpansRow.make))=true:=by kernel_rfl
theorem qq4:((Rows.numberSpansRow.kinds==(if Rows.numberSpansRow.domain.isEmpty then[]else Tryz.f6.params.toList.map fun t=>match Tryz.pinned.checked.prog.underlying t with|some (.int k)=>some k|_=>none)))=true:=by kernel_rfl
theorem qrl:((Rows.numberSpansRow.pinned==Rows.numberSpansRow.pinnedBy))=true:=by kernel_rfl
theorem qqW:((Rows.numberSpansRow.veiled==(Tryz.f6.params.toList++Rows.numberSpansSpec.plain.varTypes Tryz.pinned.checked.prog++Tryz.f6.resultTypes.toList).any (Tryz.pinned.checked.prog.veiledRec ·)))=true:=by kernel_rfl
theorem qrh:(Rows.numberSpansRow.veiledFits Tryz.pinned.checked.prog Tryz.f6.params.toList (Tryz.f6.params.toList++Rows.numberSpansSpec.plain.varTypes Tryz.pinned.checked.prog++Tryz.f6.resultTypes.toList))=true:=by kernel_rfl
theorem factB:joinedFacts Tryz.pinned.checked.prog 6 Tryz.f6 Rows.numberSpansSpec Rows.numberSpansRow=true:=by
 unfold joinedFacts
 exact(qa3 (qa3 (qa3 (qa3 (qa3 (qa3 (qa3 (qa3 (qa3 (qa3 (qa3 (qa3 (qa3 (qa3 (qa3 (qa3 (qa3 (qa3 (qa3 (qa3 (qa3 (qa3 (qa3 (qa3 (qa3 (qa3 (qa3 (qa3 (qa3 (qa3 (qa3 fact0 fact1) fact2) fact3) fact4) fact5) fact6) fact7) fact8) fact9) qrg) qrd) qqK) qqY) qqU) qq6) qrb) qqD) qqM) qq9) qqR) qq3) qri) qqS) qqI) qqV) qq2) qrj) qq4) qrl) qqW) qrh)
theorem factC:Tryz.f6.isInstance Tryz.pinned.checked.prog Rows.numberSpansRow.origin Rows.numberSpansRow.targs:=of_decide_eq_true (by kernel_rfl)
theorem factD:Tryz.f6.isWrapper Tryz.pinned.checked.prog Rows.numberSpansRow.wrapper Rows.numberSpansRow.mainSum:=by unfold Func.isWrapper;first|(rw[if_pos (by decide+kernel)];kernel_rfl)|(rw[if_neg (by decide+kernel)];exact⟨rfl,rfl⟩)
theorem said:Rows.NumberSpansSaid:=
 OpenClaim.holds_of_wide 6 Tryz.f6 rfl rfl rfl rfl rfl rfl rfl ⟨rfl,rfl,rfl,rfl,rfl⟩ rfl rfl rfl rfl rfl factA Tryz.func6 factB factC factD
  (fun os started H enc _=>lifted os started H enc)
theorem ql1:Tryz.pinned.checked.prog.wantsStandIn 44=false:=by kernel_rfl
theorem qq5:true=Tryz.pinned.checked.prog.looks []:=by kernel_rfl
theorem plain (f:FuncId) (fn:Func) (hf:Tryz.pinned.checked.prog.funcNamed "becket/becketlaw01.NumberSpans" =some f) (hfn:Tryz.pinned.checked.prog.funcs[f]? =some fn):
 true=Tryz.pinned.checked.prog.looks []/\ ∀(j:Nat) t,fn.params[j]? =some t->Tryz.pinned.checked.prog.wantsStandIn t=false:=by
 obtain rfl:f=6:=Ye ((show Tryz.prog.funcNamed "becket/becketlaw01.NumberSpans" =some 6 by kernel_rfl).symm.trans hf)|>.symm
 obtain rfl:fn=Tryz.f6:=(Ye (Tryz.func6.symm.trans hfn)).symm
 refine⟨qq5,fun j t ht=>?_⟩
 rw[Tryz.params6]at ht
 have ht:t=44\/t=44:=by have:=Array.mem_of_getElem? ht;simpa using this
 rcases ht with rfl|rfl
 ·exact ql1
 exact ql1
theorem card:Rows.NumberSpansCardSaid:=
 Claim7.holds_tied_plain_at .later [] _ _ _ _ said (fun _ h=>by cases h) (by kernel_rfl) (fun _ h=>by cases h) numberSpans_row_tie rfl ⟨rfl,rfl⟩ (by kernel_rfl) rfl plain (by kernel_rfl)
end Go.Av
namespace Go.Proofs.YtbjpmhdicbgjkaaGreatDoor
theorem numberSpans_holds:Rows.NumberSpansCardSaid:=Go.Av.card
end Go.Proofs.YtbjpmhdicbgjkaaGreatDoor
