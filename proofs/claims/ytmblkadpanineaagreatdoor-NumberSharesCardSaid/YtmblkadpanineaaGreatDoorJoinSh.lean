/-
  It is proved that NumberShares returns true for all inputs. Conditions: those of the given row alone (the listed package variables hold what the program's text lays).
-/
import Derived.Test.YtmblkadpanineaaGreatDoorQGenSh
import Derived.Test.YtmblkadpanineaaGreatDoorPtPa
import Derived.Test.YtmblkadpanineaaGreatDoorAvPt
import Derived.Test.YtmblkadpanineaaGreatDoorAvAwkN1
import Derived.Test.YtmblkadpanineaaGreatDoorCards
import Derived.Test.YtmblkadpanineaaGreatDoorTie
import Derived.Lay
import Derived.LaidMore
import Derived.LaidSub
import Derived.SevenTiedAt
import Derived.Stop.Joined
import Derived.Lib.LaidTab
import Derived.Lib.ItoaNum
noncomputable section
namespace Go.Av
open Go.Proofs Go.Proofs.YtmblkadpanineaaGreatDoor
open Go.ChangeShapes Go.WideShapes Go.ChangeAt Go.RowKit
set_option linter.unusedSectionVars false
set_option maxRecDepth 100000
theorem ud3:Tryz.prog.underlying 3=some (.int .i64):=by kernel_rfl
theorem ud22:Tryz.prog.underlying 22=some (.slice 3):=by kernel_rfl
theorem rd3:zZ Tryz.prog 3 encI:=zZ.i64 ud3
theorem ud23:Tryz.prog.underlying 23=some (.array 2 3):=by kernel_rfl
theorem rd23:zZ Tryz.prog 23 (encI.prod encI):=zZ.arr2 ud23 (by kernel_rfl) (by kernel_rfl) rd3
theorem tyB:Tryz.prog.underlying 4=some .bool:=by kernel_rfl
theorem laidOut:laidOutB Tryz.prog=true:=by kernel_rfl
theorem contract (H:Type) (enc:TypeId×Value->H) (W:World) (base:Nat) (args:Array Value) (ds gs:List (DataW H)) (before:List MemPlace)
 (hval: ∀(j:Nat) t v,Tryz.f3.params[j]? =some t->args[j]? =some v->Value.okWide Tryz.prog W .any base t v)
 (hW:DataW.Whole enc Tryz.prog Tryz.f3.params.toList Rows.numberSharesSpec.vars false W args.toList ds gs before) (hG:Glob.G (AllOf W) W):
 Calls Tryz.prog 3 args W fun e W'=> ∃v,e= .returned v/\Rows.numberSharesSpec.post enc Tryz.prog Tryz.f3 false true false false W args v W':=by
 have hW':=hW
 obtain⟨p,q,hA0,hV,rfl,hfz,hnd⟩:=hW
 have r0:DataW.TrodAll enc Tryz.prog W 0 (fun _=>true) true Tryz.f3.params.toList args.toList ds p:=hA0
 rw[Tryz.params3]at r0 hval
 obtain⟨v0,vs0,d0,ds0,p0,q0,hargs,rfl,rfl,h0,r1⟩:=trodAll_cons r0
 obtain⟨v1,vs1,d1,ds1,p1,q1,rfl,rfl,rfl,h1,r2⟩:=trodAll_cons r1
 obtain⟨v2,vs2,d2,ds2,p2,q2,rfl,rfl,rfl,h2,r3⟩:=trodAll_cons r2
 obtain⟨rfl,rfl,rfl⟩:=trodAll_nil r3
 obtain rfl:args=#[v0,v1,v2]:=by cases args;simp_all
 obtain⟨a0,hu0⟩:=In.i64 ud3 (hval 0 3 v0 rfl rfl)
 obtain⟨a1,hu1⟩:=In.list ud22 (by kernel_rfl) rd3 (hval 1 22 v1 rfl rfl) h1
 obtain⟨a2,hu2⟩:=In.arr ud23 rd23 (hval 2 23 v2 rfl rfl) h2
 refine qew laidOut (fun t ht=>?_) rfl (show Tryz.f3.resultTypes=#[4]from rfl) tyB (fun ds hds=>?_) hW' (enters_of (by kernel_rfl)) (xc 700000 a0 a1 a2 (qab (N:=700000) (by decide) a0 a1 a2)) hG (al:=[.int .i64 a0,vl encI a1,.agg [.i a2.1,.i a2.2]]) ⟨rfl,fun i a v ha hv=>?_⟩
 ·rw[Tryz.params3]at ht
  have ht:t=3\/t=22\/t=23:=by simpa using ht
  rcases ht with rfl|rfl|rfl
  ·exact⟨by kernel_rfl,of_decide_eq_true (by kernel_rfl)⟩
  ·exact⟨by kernel_rfl,of_decide_eq_true (by kernel_rfl)⟩
  exact⟨by kernel_rfl,of_decide_eq_true (by kernel_rfl)⟩
 ·rw[Tryz.params3]at hds
  match ds,hds with
  |[d1,d2,d3],_=>exact⟨rfl,rfl,rfl⟩
 match i with
 |0=>simp at ha hv;subst ha hv;exact hu0
 |1=>simp at ha hv;subst ha hv;exact hu1
 |2=>simp at ha hv;subst ha hv;exact hu2
 |i+3=>simp at ha
theorem qfO {W:World} (h:laidMetH Tryz.prog Rows.numberSharesRow.laid W):Glob.G (AllOf W) W:=by
 have h1:=h.filter fun x=>x.1==yT
 have e:(Rows.numberSharesRow.laid.filter fun x=>x.1==yT)=[(yT,Lib.tabData .u64 Lib.pow10Tab)]:=by kernel_rfl
 rw[e]at h1
 have h2:laidMet Tryz.prog [(yT,Lib.tabData .u64 Lib.pow10Tab)] W:=by
  rw[MakeChecks.laidMetH_plain _ _ _ (by kernel_rfl)]at h1
  exact h1
 have ht:Lib.TabIs Tryz.prog W yT .u64 Lib.pow10Tab:=
  Lib.tabIs_of_head (rest:=[]) (t:=226) (e:=167) (n:=20) qaJ (by kernel_rfl) (by kernel_rfl) (by kernel_rfl) (by kernel_rfl) (by kernel_rfl) h2
 refine⟨?_,ht⟩
 unfold Lib.TabIs World.var? at ht
 rw[qaJ]at ht
 simp only[ZB]at ht
 show 5<W.heap.size
 rcases Nat.lt_or_ge 5 W.heap.size with h5|h5
 ·exact h5
 rw[Array.getElem?_eq_none h5]at ht
 cases ht
theorem own:ownKnob Tryz.prog.godebug=none:=by kernel_rfl
theorem lifted (os:Os) (started:os.Started) (H:Type) (enc:TypeId×Value->H):
 ReturnsInHanded {} Tryz.checked os 3 .any (fun w args=>(Rows.numberSharesSpec.pre enc Tryz.prog Tryz.f3 Rows.numberSharesRow.domain false w args/\laidMetH Tryz.prog Rows.numberSharesRow.laid w)/\sizedMet enc Tryz.prog Tryz.f3 (OpenSpec.ofChange Rows.numberSharesSpec) false w args)
  (Rows.numberSharesSpec.post enc Tryz.prog Tryz.f3 false true false false):=by
 refine returnsInHanded_of_change_and (C:=Tryz.checked) (X:=fun w _=>laidMetH Tryz.prog Rows.numberSharesRow.laid w) (fun _ _ _ hh h=>h.of_heap hh) own started (by kernel_rfl) Tryz.func3
  (ChangeSpec.witness_shaped (enc:=enc) (C:=Tryz.checked) (os:=os) (X:=fun w _=>laidMetH Tryz.prog Rows.numberSharesRow.laid w) false (World.laidAll Tryz.prog os Rows.numberSharesRow.laid) #[.int .i64 0,.slice none 0 0,.agg #[.int .i64 0,.int .i64 0]] 8 (World.laidAll_os _ _ _)
   (World.shaped_of_ZipB (by kernel_rfl) (by kernel_rfl)) (by kernel_rfl) (by kernel_rfl) (by kernel_rfl)
   (by rw[MakeChecks.laidMetH_plain _ _ _ (by kernel_rfl)];exact laidMet_laidAll _ (by kernel_rfl) (by kernel_rfl))) ?_
 intro W base args ds gs before hval hW _ _ hL _
 exact contract H enc W base args ds gs before hval hW (qfO hL)
theorem factA:Tryz.pinned.checked.prog.funcNamed Rows.numberSharesRow.func=some 3:=by kernel_rfl
theorem fact0:(Rows.numberSharesRow.wf (OpenSpec.ofChange Rows.numberSharesSpec))=true:=by kernel_rfl
theorem fact1:(laidOutB Tryz.pinned.checked.prog)=true:=by kernel_rfl
theorem fact2:(mapsRowed Tryz.pinned.checked.prog)=true:=by kernel_rfl
theorem fact3:(Tryz.f3.params.all (Tryz.pinned.checked.prog.readableRec ·))=true:=by kernel_rfl
theorem fact4:(namedTie Tryz.pinned.checked.prog Rows.numberSharesRow.named Rows.numberSharesSpec.vars)=true:=by kernel_rfl
theorem fact5:((Rows.numberSharesRow.stops==[]))=true:=by kernel_rfl
theorem fact6:((Tryz.pinned.checked.prog.stops==[]))=true:=by kernel_rfl
theorem fact7:((Rows.numberSharesRow.knobs==[]))=true:=by kernel_rfl
theorem fact8:((Tryz.pinned.checked.prog.stopKnobs==[]))=true:=by kernel_rfl
theorem fact9:((Rows.numberSharesRow.inPlace==Tryz.pinned.checked.prog.inPlace 3))=true:=by kernel_rfl
theorem qhv:((Rows.numberSharesRow.unfollowed==Tryz.pinned.checked.prog.unfollowed 3))=true:=by kernel_rfl
theorem qg0:((Rows.numberSharesRow.recurses==Tryz.pinned.checked.prog.recurses 3))=true:=by kernel_rfl
theorem qhh:((Rows.numberSharesRow.named==Tryz.pinned.checked.prog.varsNamed 3))=true:=by kernel_rfl
theorem qho:((Rows.numberSharesRow.maps==(Tryz.f3.params.toList++Rows.numberSharesSpec.plain.varTypes Tryz.pinned.checked.prog).any (Tryz.pinned.checked.prog.mapsRec ·)))=true:=by kernel_rfl
theorem qgU:((Rows.numberSharesRow.ifaces==(Tryz.f3.params.toList++Rows.numberSharesSpec.plain.varTypes Tryz.pinned.checked.prog).any (Tryz.pinned.checked.prog.ifacesRec ·)))=true:=by kernel_rfl
theorem qgW:((Rows.numberSharesRow.mapsOut==Tryz.pinned.checked.prog.mapsAmong Tryz.f3.resultTypes.toList))=true:=by kernel_rfl
theorem qg4:((Rows.numberSharesRow.loops==(Tryz.f3.params.toList++Rows.numberSharesSpec.plain.varTypes Tryz.pinned.checked.prog).any (Tryz.pinned.checked.prog.loopsFrom ·)))=true:=by kernel_rfl
theorem qhq:((Rows.numberSharesRow.wideKeys==(Tryz.f3.params.toList++Rows.numberSharesSpec.plain.varTypes Tryz.pinned.checked.prog++Tryz.f3.resultTypes.toList).any (Tryz.pinned.checked.prog.wideKeysFrom ·)))=true:=by kernel_rfl
theorem qhl:(Rows.numberSharesSpec.vars.all (Tryz.pinned.checked.prog.varReadable ·))=true:=by kernel_rfl
theorem qhj:(Tryz.f3.resultTypes.all (fun t=>Tryz.pinned.checked.prog.readableRec t&&decide (t<Tryz.pinned.checked.prog.types.size)))=true:=by kernel_rfl
theorem qha:((Rows.numberSharesRow.ifacesOut==Tryz.f3.resultTypes.toList.any (Tryz.pinned.checked.prog.ifacesRec ·)))=true:=by kernel_rfl
theorem qgX:((Rows.numberSharesRow.loopsOut==Tryz.f3.resultTypes.toList.any (Tryz.pinned.checked.prog.loopsFrom ·)))=true:=by kernel_rfl
theorem qhi:((Rows.numberSharesRow.plainKeys==Tryz.pinned.checked.prog.plainKeys))=true:=by kernel_rfl
theorem qhb:(Rows.numberSharesRow.shortTexts.isNone)=true:=by kernel_rfl
theorem qgV:(Tryz.pinned.checked.prog.stopsHeard)=true:=by kernel_rfl
theorem qhw:(Tryz.pinned.checked.prog.mayEnter)=true:=by kernel_rfl
theorem qhg:((Rows.numberSharesRow.lifted==Tryz.pinned.checked.prog.liftsFinal))=true:=by kernel_rfl
theorem qg1:((Tryz.pinned.checked.prog.make==some Rows.numberSharesRow.make))=true:=by kernel_rfl
theorem qhu:((Rows.numberSharesRow.kinds==(if Rows.numberSharesRow.domain.isEmpty then[]else Tryz.f3.params.toList.map fun t=>match Tryz.pinned.checked.prog.underlying t with|some (.int k)=>some k|_=>none)))=true:=by kernel_rfl
theorem qg8:((Rows.numberSharesRow.pinned==Rows.numberSharesRow.pinnedBy))=true:=by kernel_rfl
theorem qgY:((Rows.numberSharesRow.veiled==(Tryz.f3.params.toList++Rows.numberSharesSpec.plain.varTypes Tryz.pinned.checked.prog++Tryz.f3.resultTypes.toList).any (Tryz.pinned.checked.prog.veiledRec ·)))=true:=by kernel_rfl
theorem qg7:(Rows.numberSharesRow.veiledFits Tryz.pinned.checked.prog Tryz.f3.params.toList (Tryz.f3.params.toList++Rows.numberSharesSpec.plain.varTypes Tryz.pinned.checked.prog++Tryz.f3.resultTypes.toList))=true:=by kernel_rfl
theorem factB:joinedFacts Tryz.pinned.checked.prog 3 Tryz.f3 Rows.numberSharesSpec Rows.numberSharesRow=true:=by
 unfold joinedFacts
 exact(jX (jX (jX (jX (jX (jX (jX (jX (jX (jX (jX (jX (jX (jX (jX (jX (jX (jX (jX (jX (jX (jX (jX (jX (jX (jX (jX (jX (jX (jX (jX fact0 fact1) fact2) fact3) fact4) fact5) fact6) fact7) fact8) fact9) qhv) qg0) qhh) qho) qgU) qgW) qg4) qhq) qhl) qhj) qha) qgX) qhi) qhb) qgV) qhw) qhg) qg1) qhu) qg8) qgY) qg7)
theorem factC:Tryz.f3.isInstance Tryz.pinned.checked.prog Rows.numberSharesRow.origin Rows.numberSharesRow.targs:=of_decide_eq_true (by kernel_rfl)
theorem factD:Tryz.f3.isWrapper Tryz.pinned.checked.prog Rows.numberSharesRow.wrapper Rows.numberSharesRow.mainSum:=by unfold Func.isWrapper;first|(rw[if_pos (by decide+kernel)];kernel_rfl)|(rw[if_neg (by decide+kernel)];exact⟨rfl,rfl⟩)
theorem said:Rows.NumberSharesSaid:=
 OpenClaim.holds_of_wide 3 Tryz.f3 rfl rfl rfl rfl rfl rfl rfl ⟨rfl,rfl,rfl,rfl,rfl⟩ rfl rfl rfl rfl rfl factA Tryz.func3 factB factC factD
  (fun os started H enc _=>lifted os started H enc)
theorem qg3:Tryz.pinned.checked.prog.wantsStandIn 3=false:=by kernel_rfl
theorem qgo:Tryz.pinned.checked.prog.wantsStandIn 22=false:=by kernel_rfl
theorem qgz:Tryz.pinned.checked.prog.wantsStandIn 23=false:=by kernel_rfl
theorem qhc:true=Tryz.pinned.checked.prog.looks []:=by kernel_rfl
theorem plain (f:FuncId) (fn:Func) (hf:Tryz.pinned.checked.prog.funcNamed "becket/becketlaw01.NumberShares" =some f) (hfn:Tryz.pinned.checked.prog.funcs[f]? =some fn):
 true=Tryz.pinned.checked.prog.looks []/\ ∀(j:Nat) t,fn.params[j]? =some t->Tryz.pinned.checked.prog.wantsStandIn t=false:=by
 obtain rfl:f=3:=Ye ((show Tryz.prog.funcNamed "becket/becketlaw01.NumberShares" =some 3 by kernel_rfl).symm.trans hf)|>.symm
 obtain rfl:fn=Tryz.f3:=(Ye (Tryz.func3.symm.trans hfn)).symm
 refine⟨qhc,fun j t ht=>?_⟩
 rw[Tryz.params3]at ht
 have ht:t=3\/t=22\/t=23:=by have:=Array.mem_of_getElem? ht;simpa using this
 rcases ht with rfl|rfl|rfl
 ·exact qg3
 ·exact qgo
 exact qgz
theorem card:Rows.NumberSharesCardSaid:=
 Claim7.holds_tied_plain_at .later [] _ _ _ _ said (fun _ h=>by cases h) (by kernel_rfl) (fun _ h=>by cases h) numberShares_row_tie rfl ⟨rfl,rfl⟩ (by kernel_rfl) rfl plain (by kernel_rfl)
end Go.Av
namespace Go.Proofs.YtmblkadpanineaaGreatDoor
theorem numberShares_holds:Rows.NumberSharesCardSaid:=Go.Av.card
end Go.Proofs.YtmblkadpanineaaGreatDoor
