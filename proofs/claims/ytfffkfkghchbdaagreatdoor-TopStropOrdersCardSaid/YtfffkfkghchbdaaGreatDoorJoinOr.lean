/-
  It is proved that TopStropOrders returns true for all inputs. Conditions: those of the given row alone (the listed package variables hold what the program's text lays).
-/
import Derived.Test.YtfffkfkghchbdaaGreatDoorQGenO
import Derived.Test.YtfffkfkghchbdaaGreatDoorMoPb
import Derived.Test.YtfffkfkghchbdaaGreatDoorAvPt
import Derived.Test.YtfffkfkghchbdaaGreatDoorAvAwkK
import Derived.Test.YtfffkfkghchbdaaGreatDoorCards
import Derived.Test.YtfffkfkghchbdaaGreatDoorTie
import Derived.Lay
import Derived.LaidMore
import Derived.LaidSub
import Derived.SevenTiedAt
import Derived.Stop.Joined
import Derived.Lib.LaidTab
import Derived.Lib.ItoaNum
noncomputable section
namespace Go.Av
open Go.Proofs Go.Proofs.YtfffkfkghchbdaaGreatDoor
open Go.ChangeShapes Go.WideShapes Go.ChangeAt Go.RowKit
set_option linter.unusedSectionVars false
set_option maxRecDepth 100000
theorem ud40:Tryz.prog.underlying 40=some (.slice 3):=by kernel_rfl
theorem ud3:Tryz.prog.underlying 3=some (.int .i64):=by kernel_rfl
theorem rd3:yF Tryz.prog 3 encI:=yF.i64 ud3
theorem tyB:Tryz.prog.underlying 4=some .bool:=by kernel_rfl
theorem laidOut:laidOutB Tryz.prog=true:=by kernel_rfl
theorem contract (H:Type) (enc:TypeId×Value->H) (W:World) (base:Nat) (args:Array Value) (ds gs:List (DataW H)) (before:List MemPlace)
 (hval: ∀(j:Nat) t v,Tryz.f4.params[j]? =some t->args[j]? =some v->Value.okWide Tryz.prog W .any base t v)
 (hW:DataW.Whole enc Tryz.prog Tryz.f4.params.toList Rows.topStropOrdersSpec.vars false W args.toList ds gs before) (hG:Glob.G (AllOf W) W):
 Calls Tryz.prog 4 args W fun e W'=> ∃v,e= .returned v/\Rows.topStropOrdersSpec.post enc Tryz.prog Tryz.f4 false true false false W args v W':=by
 have hW':=hW
 obtain⟨p,q,hA0,hV,rfl,hfz,hnd⟩:=hW
 have r0:DataW.TrodAll enc Tryz.prog W 0 (fun _=>true) true Tryz.f4.params.toList args.toList ds p:=hA0
 rw[Tryz.params4]at r0 hval
 obtain⟨v0,vs0,d0,ds0,p0,q0,hargs,rfl,rfl,h0,r1⟩:=trodAll_cons r0
 obtain⟨v1,vs1,d1,ds1,p1,q1,rfl,rfl,rfl,h1,r2⟩:=trodAll_cons r1
 obtain⟨v2,vs2,d2,ds2,p2,q2,rfl,rfl,rfl,h2,r3⟩:=trodAll_cons r2
 obtain⟨rfl,rfl,rfl⟩:=trodAll_nil r3
 obtain rfl:args=#[v0,v1,v2]:=by cases args;simp_all
 obtain⟨a0,hu0⟩:=In.list ud40 (by kernel_rfl) rd3 (hval 0 40 v0 rfl rfl) h0
 obtain⟨a1,hu1⟩:=In.list ud40 (by kernel_rfl) rd3 (hval 1 40 v1 rfl rfl) h1
 obtain⟨a2,hu2⟩:=In.i64 ud3 (hval 2 3 v2 rfl rfl)
 refine qkj laidOut (fun t ht=>?_) rfl (show Tryz.f4.resultTypes=#[4]from rfl) tyB (fun ds hds=>?_) hW' (enters_of (by kernel_rfl)) (qaM 700000 a0 a1 a2 (qcx (N:=700000) (by decide) a0 a1 a2)) hG (al:=[vl encI a0,vl encI a1,.int .i64 a2]) ⟨rfl,fun i a v ha hv=>?_⟩
 ·rw[Tryz.params4]at ht
  have ht:t=40\/t=40\/t=3:=by simpa using ht
  rcases ht with rfl|rfl|rfl
  ·exact⟨by kernel_rfl,of_decide_eq_true (by kernel_rfl)⟩
  ·exact⟨by kernel_rfl,of_decide_eq_true (by kernel_rfl)⟩
  exact⟨by kernel_rfl,of_decide_eq_true (by kernel_rfl)⟩
 ·rw[Tryz.params4]at hds
  match ds,hds with
  |[d1,d2,d3],_=>exact⟨rfl,rfl,rfl⟩
 match i with
 |0=>simp at ha hv;subst ha hv;exact hu0
 |1=>simp at ha hv;subst ha hv;exact hu1
 |2=>simp at ha hv;subst ha hv;exact hu2
 |i+3=>simp at ha
theorem qk2 {W:World} (h:laidMetH Tryz.prog Rows.topStropOrdersRow.laid W):Glob.G (AllOf W) W:=by
 have h1:=h.filter fun x=>x.1==qbQ
 have e:(Rows.topStropOrdersRow.laid.filter fun x=>x.1==qbQ)=[(qbQ,Lib.tabData .u64 Lib.pow10Tab)]:=by kernel_rfl
 rw[e]at h1
 have h2:laidMet Tryz.prog [(qbQ,Lib.tabData .u64 Lib.pow10Tab)] W:=by
  rw[MakeChecks.laidMetH_plain _ _ _ (by kernel_rfl)]at h1
  exact h1
 have ht:Lib.TabIs Tryz.prog W qbQ .u64 Lib.pow10Tab:=
  Lib.tabIs_of_head (rest:=[]) (t:=356) (e:=252) (n:=20) qeb (by kernel_rfl) (by kernel_rfl) (by kernel_rfl) (by kernel_rfl) (by kernel_rfl) h2
 refine⟨?_,ht⟩
 unfold Lib.TabIs World.var? at ht
 rw[qeb]at ht
 simp only[ZB]at ht
 show 5<W.heap.size
 rcases Nat.lt_or_ge 5 W.heap.size with h5|h5
 ·exact h5
 rw[Array.getElem?_eq_none h5]at ht
 cases ht
theorem own:ownKnob Tryz.prog.godebug=none:=by kernel_rfl
theorem lifted (os:Os) (started:os.Started) (H:Type) (enc:TypeId×Value->H):
 ReturnsInHanded {} Tryz.checked os 4 .any (fun w args=>(Rows.topStropOrdersSpec.pre enc Tryz.prog Tryz.f4 Rows.topStropOrdersRow.domain false w args/\laidMetH Tryz.prog Rows.topStropOrdersRow.laid w)/\sizedMet enc Tryz.prog Tryz.f4 (OpenSpec.ofChange Rows.topStropOrdersSpec) false w args)
  (Rows.topStropOrdersSpec.post enc Tryz.prog Tryz.f4 false true false false):=by
 refine returnsInHanded_of_change_and (C:=Tryz.checked) (X:=fun w _=>laidMetH Tryz.prog Rows.topStropOrdersRow.laid w) (fun _ _ _ hh h=>h.of_heap hh) own started (by kernel_rfl) Tryz.func4
  (ChangeSpec.witness_shaped (enc:=enc) (C:=Tryz.checked) (os:=os) (X:=fun w _=>laidMetH Tryz.prog Rows.topStropOrdersRow.laid w) false (World.laidAll Tryz.prog os Rows.topStropOrdersRow.laid) #[.slice none 0 0,.slice none 0 0,.int .i64 0] 8 (World.laidAll_os _ _ _)
   (World.shaped_of_ZipB (by kernel_rfl) (by kernel_rfl)) (by kernel_rfl) (by kernel_rfl) (by kernel_rfl)
   (by rw[MakeChecks.laidMetH_plain _ _ _ (by kernel_rfl)];exact laidMet_laidAll _ (by kernel_rfl) (by kernel_rfl))) ?_
 intro W base args ds gs before hval hW _ _ hL _
 exact contract H enc W base args ds gs before hval hW (qk2 hL)
theorem factA:Tryz.pinned.checked.prog.funcNamed Rows.topStropOrdersRow.func=some 4:=by kernel_rfl
theorem fact0:(Rows.topStropOrdersRow.wf (OpenSpec.ofChange Rows.topStropOrdersSpec))=true:=by kernel_rfl
theorem fact1:(laidOutB Tryz.pinned.checked.prog)=true:=by kernel_rfl
theorem fact2:(mapsRowed Tryz.pinned.checked.prog)=true:=by kernel_rfl
theorem fact3:(Tryz.f4.params.all (Tryz.pinned.checked.prog.readableRec ·))=true:=by kernel_rfl
theorem fact4:(namedTie Tryz.pinned.checked.prog Rows.topStropOrdersRow.named Rows.topStropOrdersSpec.vars)=true:=by kernel_rfl
theorem fact5:((Rows.topStropOrdersRow.stops==[]))=true:=by kernel_rfl
theorem fact6:((Tryz.pinned.checked.prog.stops==[]))=true:=by kernel_rfl
theorem fact7:((Rows.topStropOrdersRow.knobs==[]))=true:=by kernel_rfl
theorem fact8:((Tryz.pinned.checked.prog.stopKnobs==[]))=true:=by kernel_rfl
theorem fact9:((Rows.topStropOrdersRow.inPlace==Tryz.pinned.checked.prog.inPlace 4))=true:=by kernel_rfl
theorem qoe:((Rows.topStropOrdersRow.unfollowed==Tryz.pinned.checked.prog.unfollowed 4))=true:=by kernel_rfl
theorem qod:((Rows.topStropOrdersRow.recurses==Tryz.pinned.checked.prog.recurses 4))=true:=by kernel_rfl
theorem qn6:((Rows.topStropOrdersRow.named==Tryz.pinned.checked.prog.varsNamed 4))=true:=by kernel_rfl
theorem qoj:((Rows.topStropOrdersRow.maps==(Tryz.f4.params.toList++Rows.topStropOrdersSpec.plain.varTypes Tryz.pinned.checked.prog).any (Tryz.pinned.checked.prog.mapsRec ·)))=true:=by kernel_rfl
theorem qoh:((Rows.topStropOrdersRow.ifaces==(Tryz.f4.params.toList++Rows.topStropOrdersSpec.plain.varTypes Tryz.pinned.checked.prog).any (Tryz.pinned.checked.prog.ifacesRec ·)))=true:=by kernel_rfl
theorem qnP:((Rows.topStropOrdersRow.mapsOut==Tryz.pinned.checked.prog.mapsAmong Tryz.f4.resultTypes.toList))=true:=by kernel_rfl
theorem qoq:((Rows.topStropOrdersRow.loops==(Tryz.f4.params.toList++Rows.topStropOrdersSpec.plain.varTypes Tryz.pinned.checked.prog).any (Tryz.pinned.checked.prog.loopsFrom ·)))=true:=by kernel_rfl
theorem qn2:((Rows.topStropOrdersRow.wideKeys==(Tryz.f4.params.toList++Rows.topStropOrdersSpec.plain.varTypes Tryz.pinned.checked.prog++Tryz.f4.resultTypes.toList).any (Tryz.pinned.checked.prog.wideKeysFrom ·)))=true:=by kernel_rfl
theorem qn7:(Rows.topStropOrdersSpec.vars.all (Tryz.pinned.checked.prog.varReadable ·))=true:=by kernel_rfl
theorem qnM:(Tryz.f4.resultTypes.all (fun t=>Tryz.pinned.checked.prog.readableRec t&&decide (t<Tryz.pinned.checked.prog.types.size)))=true:=by kernel_rfl
theorem qnY:((Rows.topStropOrdersRow.ifacesOut==Tryz.f4.resultTypes.toList.any (Tryz.pinned.checked.prog.ifacesRec ·)))=true:=by kernel_rfl
theorem qn0:((Rows.topStropOrdersRow.loopsOut==Tryz.f4.resultTypes.toList.any (Tryz.pinned.checked.prog.loopsFrom ·)))=true:=by kernel_rfl
theorem qnR:((Rows.topStropOrdersRow.plainKeys==Tryz.pinned.checked.prog.plainKeys))=true:=by kernel_rfl
theorem qnO:(Rows.topStropOrdersRow.shortTexts.isNone)=true:=by kernel_rfl
theorem qn8:(Tryz.pinned.checked.prog.stopsHeard)=true:=by kernel_rfl
theorem qnJ:(Tryz.pinned.checked.prog.mayEnter)=true:=by kernel_rfl
theorem qn4:((Rows.topStropOrdersRow.lifted==Tryz.pinned.checked.prog.liftsFinal))=true:=by kernel_rfl
theorem qn3:((Tryz.pinned.checked.prog.make==some Rows.topStropOrdersRow.make))=true:=by kernel_rfl
theorem qoi:((Rows.topStropOrdersRow.kinds==(if Rows.topStropOrdersRow.domain.isEmpty then[]else Tryz.f4.params.toList.map fun t=>match Tryz.pinned.checked.prog.underlying t with|some (.int k)=>some k|_=>none)))=true:=by kernel_rfl
theorem qn9:((Rows.topStropOrdersRow.pinned==Rows.topStropOrdersRow.pinnedBy))=true:=by kernel_rfl
theorem qnQ:((Rows.topStropOrdersRow.veiled==(Tryz.f4.params.toList++Rows.topStropOrdersSpec.plain.varTypes Tryz.pinned.checked.prog++Tryz.f4.resultTypes.toList).any (Tryz.pinned.checked.prog.veiledRec ·)))=true:=by kernel_rfl
theorem qnS:(Rows.topStropOrdersRow.veiledFits Tryz.pinned.checked.prog Tryz.f4.params.toList (Tryz.f4.params.toList++Rows.topStropOrdersSpec.plain.varTypes Tryz.pinned.checked.prog++Tryz.f4.resultTypes.toList))=true:=by kernel_rfl
theorem factB:joinedFacts Tryz.pinned.checked.prog 4 Tryz.f4 Rows.topStropOrdersSpec Rows.topStropOrdersRow=true:=by
 unfold joinedFacts
 exact(xy (xy (xy (xy (xy (xy (xy (xy (xy (xy (xy (xy (xy (xy (xy (xy (xy (xy (xy (xy (xy (xy (xy (xy (xy (xy (xy (xy (xy (xy (xy fact0 fact1) fact2) fact3) fact4) fact5) fact6) fact7) fact8) fact9) qoe) qod) qn6) qoj) qoh) qnP) qoq) qn2) qn7) qnM) qnY) qn0) qnR) qnO) qn8) qnJ) qn4) qn3) qoi) qn9) qnQ) qnS)
theorem factC:Tryz.f4.isInstance Tryz.pinned.checked.prog Rows.topStropOrdersRow.origin Rows.topStropOrdersRow.targs:=of_decide_eq_true (by kernel_rfl)
theorem factD:Tryz.f4.isWrapper Tryz.pinned.checked.prog Rows.topStropOrdersRow.wrapper Rows.topStropOrdersRow.mainSum:=by unfold Func.isWrapper;first|(rw[if_pos (by decide+kernel)];kernel_rfl)|(rw[if_neg (by decide+kernel)];exact⟨rfl,rfl⟩)
theorem said:Rows.TopStropOrdersSaid:=
 OpenClaim.holds_of_wide 4 Tryz.f4 rfl rfl rfl rfl rfl rfl rfl ⟨rfl,rfl,rfl,rfl,rfl⟩ rfl rfl rfl rfl rfl factA Tryz.func4 factB factC factD
  (fun os started H enc _=>lifted os started H enc)
theorem qnH:Tryz.pinned.checked.prog.wantsStandIn 3=false:=by kernel_rfl
theorem qi7:Tryz.pinned.checked.prog.wantsStandIn 40=false:=by kernel_rfl
theorem qnT:true=Tryz.pinned.checked.prog.looks []:=by kernel_rfl
theorem plain (f:FuncId) (fn:Func) (hf:Tryz.pinned.checked.prog.funcNamed "becket/beckettop.TopStropOrders" =some f) (hfn:Tryz.pinned.checked.prog.funcs[f]? =some fn):
 true=Tryz.pinned.checked.prog.looks []/\ ∀(j:Nat) t,fn.params[j]? =some t->Tryz.pinned.checked.prog.wantsStandIn t=false:=by
 obtain rfl:f=4:=Ye ((show Tryz.prog.funcNamed "becket/beckettop.TopStropOrders" =some 4 by kernel_rfl).symm.trans hf)|>.symm
 obtain rfl:fn=Tryz.f4:=(Ye (Tryz.func4.symm.trans hfn)).symm
 refine⟨qnT,fun j t ht=>?_⟩
 rw[Tryz.params4]at ht
 have ht:t=40\/t=40\/t=3:=by have:=Array.mem_of_getElem? ht;simpa using this
 rcases ht with rfl|rfl|rfl
 ·exact qi7
 ·exact qi7
 exact qnH
theorem card:Rows.TopStropOrdersCardSaid:=
 Claim7.holds_tied_plain_at .later [] _ _ _ _ said (fun _ h=>by cases h) (by kernel_rfl) (fun _ h=>by cases h) topStropOrders_row_tie rfl ⟨rfl,rfl⟩ (by kernel_rfl) rfl plain (by kernel_rfl)
end Go.Av
namespace Go.Proofs.YtfffkfkghchbdaaGreatDoor
theorem topStropOrders_holds:Rows.TopStropOrdersCardSaid:=Go.Av.card
end Go.Proofs.YtfffkfkghchbdaaGreatDoor
