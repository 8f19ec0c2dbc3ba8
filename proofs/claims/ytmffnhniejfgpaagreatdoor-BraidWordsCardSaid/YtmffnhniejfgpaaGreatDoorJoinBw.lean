/-
  It is proved that BraidWords returns true for all inputs. Conditions: those of the given row alone (the listed package variables hold what the program's text lays).
-/
import Derived.Test.YtmffnhniejfgpaaGreatDoorQGenB
import Derived.Test.YtmffnhniejfgpaaGreatDoorQlBPa
import Derived.Test.YtmffnhniejfgpaaGreatDoorAvPt
import Derived.Test.YtmffnhniejfgpaaGreatDoorAvAwkB5
import Derived.Test.YtmffnhniejfgpaaGreatDoorCards
import Derived.Test.YtmffnhniejfgpaaGreatDoorTie
import Derived.Lay
import Derived.LaidMore
import Derived.LaidSub
import Derived.SevenTiedAt
import Derived.Stop.Joined
import Derived.Lib.LaidTab
import Derived.Lib.ItoaNum
noncomputable section
namespace Go.Av
open Go.Proofs Go.Proofs.YtmffnhniejfgpaaGreatDoor
open Go.ChangeShapes Go.WideShapes Go.ChangeAt Go.RowKit
set_option linter.unusedSectionVars false
set_option maxRecDepth 100000
theorem ud3:Tryz.prog.underlying 3=some (.int .i64):=by kernel_rfl
theorem ud22:Tryz.prog.underlying 22=some (.slice 3):=by kernel_rfl
theorem rd3:zX Tryz.prog 3 encI:=zX.i64 ud3
theorem tyB:Tryz.prog.underlying 4=some .bool:=by kernel_rfl
theorem laidOut:laidOutB Tryz.prog=true:=by kernel_rfl
theorem contract (H:Type) (enc:TypeId×Value->H) (W:World) (base:Nat) (args:Array Value) (ds gs:List (DataW H)) (before:List MemPlace)
 (hval: ∀(j:Nat) t v,Tryz.f6.params[j]? =some t->args[j]? =some v->Value.okWide Tryz.prog W .any base t v)
 (hW:DataW.Whole enc Tryz.prog Tryz.f6.params.toList Rows.braidWordsSpec.vars false W args.toList ds gs before) (hG:Glob.G (AllOf W) W):
 Calls Tryz.prog 6 args W fun e W'=> ∃v,e= .returned v/\Rows.braidWordsSpec.post enc Tryz.prog Tryz.f6 false true false false W args v W':=by
 have hW':=hW
 obtain⟨p,q,hA0,hV,rfl,hfz,hnd⟩:=hW
 have r0:DataW.TrodAll enc Tryz.prog W 0 (fun _=>true) true Tryz.f6.params.toList args.toList ds p:=hA0
 rw[Tryz.params6]at r0 hval
 obtain⟨v0,vs0,d0,ds0,p0,q0,hargs,rfl,rfl,h0,r1⟩:=trodAll_cons r0
 obtain⟨v1,vs1,d1,ds1,p1,q1,rfl,rfl,rfl,h1,r2⟩:=trodAll_cons r1
 obtain⟨rfl,rfl,rfl⟩:=trodAll_nil r2
 obtain rfl:args=#[v0,v1]:=by cases args;simp_all
 obtain⟨a0,hu0⟩:=In.i64 ud3 (hval 0 3 v0 rfl rfl)
 obtain⟨a1,hu1⟩:=In.list ud22 (by kernel_rfl) rd3 (hval 1 22 v1 rfl rfl) h1
 refine qei laidOut (fun t ht=>?_) rfl (show Tryz.f6.resultTypes=#[4]from rfl) tyB (fun ds hds=>?_) hW' (enters_of (by kernel_rfl)) (xJ 700000 a0 a1 (qax (N:=700000) (by decide) a0 a1)) hG (al:=[.int .i64 a0,vl encI a1]) ⟨rfl,fun i a v ha hv=>?_⟩
 ·rw[Tryz.params6]at ht
  have ht:t=3\/t=22:=by simpa using ht
  rcases ht with rfl|rfl
  ·exact⟨by kernel_rfl,of_decide_eq_true (by kernel_rfl)⟩
  exact⟨by kernel_rfl,of_decide_eq_true (by kernel_rfl)⟩
 ·rw[Tryz.params6]at hds
  match ds,hds with
  |[d1,d2],_=>exact⟨rfl,rfl,rfl⟩
 match i with
 |0=>simp at ha hv;subst ha hv;exact hu0
 |1=>simp at ha hv;subst ha hv;exact hu1
 |i+2=>simp at ha
theorem qfb {W:World} (h:laidMetH Tryz.prog Rows.braidWordsRow.laid W):Glob.G (AllOf W) W:=by
 have h1:=h.filter fun x=>x.1==yN
 have e:(Rows.braidWordsRow.laid.filter fun x=>x.1==yN)=[(yN,Lib.tabData .u64 Lib.pow10Tab)]:=by kernel_rfl
 rw[e]at h1
 have h2:laidMet Tryz.prog [(yN,Lib.tabData .u64 Lib.pow10Tab)] W:=by
  rw[MakeChecks.laidMetH_plain _ _ _ (by kernel_rfl)]at h1
  exact h1
 have ht:Lib.TabIs Tryz.prog W yN .u64 Lib.pow10Tab:=
  Lib.tabIs_of_head (rest:=[]) (t:=308) (e:=206) (n:=20) qaA (by kernel_rfl) (by kernel_rfl) (by kernel_rfl) (by kernel_rfl) (by kernel_rfl) h2
 refine⟨?_,ht⟩
 unfold Lib.TabIs World.var? at ht
 rw[qaA]at ht
 simp only[ZB]at ht
 show 7<W.heap.size
 rcases Nat.lt_or_ge 7 W.heap.size with h5|h5
 ·exact h5
 rw[Array.getElem?_eq_none h5]at ht
 cases ht
theorem own:ownKnob Tryz.prog.godebug=none:=by kernel_rfl
theorem lifted (os:Os) (started:os.Started) (H:Type) (enc:TypeId×Value->H):
 ReturnsInHanded {} Tryz.checked os 6 .any (fun w args=>(Rows.braidWordsSpec.pre enc Tryz.prog Tryz.f6 Rows.braidWordsRow.domain false w args/\laidMetH Tryz.prog Rows.braidWordsRow.laid w)/\sizedMet enc Tryz.prog Tryz.f6 (OpenSpec.ofChange Rows.braidWordsSpec) false w args)
  (Rows.braidWordsSpec.post enc Tryz.prog Tryz.f6 false true false false):=by
 refine returnsInHanded_of_change_and (C:=Tryz.checked) (X:=fun w _=>laidMetH Tryz.prog Rows.braidWordsRow.laid w) (fun _ _ _ hh h=>h.of_heap hh) own started (by kernel_rfl) Tryz.func6
  (ChangeSpec.witness_shaped (enc:=enc) (C:=Tryz.checked) (os:=os) (X:=fun w _=>laidMetH Tryz.prog Rows.braidWordsRow.laid w) false (World.laidAll Tryz.prog os Rows.braidWordsRow.laid) #[.int .i64 0,.slice none 0 0] 8 (World.laidAll_os _ _ _)
   (World.shaped_of_ZipB (by kernel_rfl) (by kernel_rfl)) (by kernel_rfl) (by kernel_rfl) (by kernel_rfl)
   (by rw[MakeChecks.laidMetH_plain _ _ _ (by kernel_rfl)];exact laidMet_laidAll _ (by kernel_rfl) (by kernel_rfl))) ?_
 intro W base args ds gs before hval hW _ _ hL _
 exact contract H enc W base args ds gs before hval hW (qfb hL)
theorem factA:Tryz.pinned.checked.prog.funcNamed Rows.braidWordsRow.func=some 6:=by kernel_rfl
theorem fact0:(Rows.braidWordsRow.wf (OpenSpec.ofChange Rows.braidWordsSpec))=true:=by kernel_rfl
theorem fact1:(laidOutB Tryz.pinned.checked.prog)=true:=by kernel_rfl
theorem fact2:(mapsRowed Tryz.pinned.checked.prog)=true:=by kernel_rfl
theorem fact3:(Tryz.f6.params.all (Tryz.pinned.checked.prog.readableRec ·))=true:=by kernel_rfl
theorem fact4:(namedTie Tryz.pinned.checked.prog Rows.braidWordsRow.named Rows.braidWordsSpec.vars)=true:=by kernel_rfl
theorem fact5:((Rows.braidWordsRow.stops==[]))=true:=by kernel_rfl
theorem fact6:((Tryz.pinned.checked.prog.stops==[]))=true:=by kernel_rfl
theorem fact7:((Rows.braidWordsRow.knobs==[]))=true:=by kernel_rfl
theorem fact8:((Tryz.pinned.checked.prog.stopKnobs==[]))=true:=by kernel_rfl
theorem fact9:((Rows.braidWordsRow.inPlace==Tryz.pinned.checked.prog.inPlace 6))=true:=by kernel_rfl
theorem qgQ:((Rows.braidWordsRow.unfollowed==Tryz.pinned.checked.prog.unfollowed 6))=true:=by kernel_rfl
theorem qg1:((Rows.braidWordsRow.recurses==Tryz.pinned.checked.prog.recurses 6))=true:=by kernel_rfl
theorem qhb:((Rows.braidWordsRow.named==Tryz.pinned.checked.prog.varsNamed 6))=true:=by kernel_rfl
theorem qha:((Rows.braidWordsRow.maps==(Tryz.f6.params.toList++Rows.braidWordsSpec.plain.varTypes Tryz.pinned.checked.prog).any (Tryz.pinned.checked.prog.mapsRec ·)))=true:=by kernel_rfl
theorem qgR:((Rows.braidWordsRow.ifaces==(Tryz.f6.params.toList++Rows.braidWordsSpec.plain.varTypes Tryz.pinned.checked.prog).any (Tryz.pinned.checked.prog.ifacesRec ·)))=true:=by kernel_rfl
theorem qgV:((Rows.braidWordsRow.mapsOut==Tryz.pinned.checked.prog.mapsAmong Tryz.f6.resultTypes.toList))=true:=by kernel_rfl
theorem qhc:((Rows.braidWordsRow.loops==(Tryz.f6.params.toList++Rows.braidWordsSpec.plain.varTypes Tryz.pinned.checked.prog).any (Tryz.pinned.checked.prog.loopsFrom ·)))=true:=by kernel_rfl
theorem qhk:((Rows.braidWordsRow.wideKeys==(Tryz.f6.params.toList++Rows.braidWordsSpec.plain.varTypes Tryz.pinned.checked.prog++Tryz.f6.resultTypes.toList).any (Tryz.pinned.checked.prog.wideKeysFrom ·)))=true:=by kernel_rfl
theorem qgS:(Rows.braidWordsSpec.vars.all (Tryz.pinned.checked.prog.varReadable ·))=true:=by kernel_rfl
theorem qgK:(Tryz.f6.resultTypes.all (fun t=>Tryz.pinned.checked.prog.readableRec t&&decide (t<Tryz.pinned.checked.prog.types.size)))=true:=by kernel_rfl
theorem qg2:((Rows.braidWordsRow.ifacesOut==Tryz.f6.resultTypes.toList.any (Tryz.pinned.checked.prog.ifacesRec ·)))=true:=by kernel_rfl
theorem qg3:((Rows.braidWordsRow.loopsOut==Tryz.f6.resultTypes.toList.any (Tryz.pinned.checked.prog.loopsFrom ·)))=true:=by kernel_rfl
theorem qhe:((Rows.braidWordsRow.plainKeys==Tryz.pinned.checked.prog.plainKeys))=true:=by kernel_rfl
theorem qhi:(Rows.braidWordsRow.shortTexts.isNone)=true:=by kernel_rfl
theorem qgY:(Tryz.pinned.checked.prog.stopsHeard)=true:=by kernel_rfl
theorem qg4:(Tryz.pinned.checked.prog.mayEnter)=true:=by kernel_rfl
theorem qhg:((Rows.braidWordsRow.lifted==Tryz.pinned.checked.prog.liftsFinal))=true:=by kernel_rfl
theorem qg9:((Tryz.pinned.checked.prog.make==some Rows.braidWordsRow.make))=true:=by kernel_rfl
theorem qgL:((Rows.braidWordsRow.kinds==(if Rows.braidWordsRow.domain.isEmpty then[]else Tryz.f6.params.toList.map fun t=>match Tryz.pinned.checked.prog.underlying t with|some (.int k)=>some k|_=>none)))=true:=by kernel_rfl
theorem qgP:((Rows.braidWordsRow.pinned==Rows.braidWordsRow.pinnedBy))=true:=by kernel_rfl
theorem qhf:((Rows.braidWordsRow.veiled==(Tryz.f6.params.toList++Rows.braidWordsSpec.plain.varTypes Tryz.pinned.checked.prog++Tryz.f6.resultTypes.toList).any (Tryz.pinned.checked.prog.veiledRec ·)))=true:=by kernel_rfl
theorem qgO:(Rows.braidWordsRow.veiledFits Tryz.pinned.checked.prog Tryz.f6.params.toList (Tryz.f6.params.toList++Rows.braidWordsSpec.plain.varTypes Tryz.pinned.checked.prog++Tryz.f6.resultTypes.toList))=true:=by kernel_rfl
theorem factB:joinedFacts Tryz.pinned.checked.prog 6 Tryz.f6 Rows.braidWordsSpec Rows.braidWordsRow=true:=by
 unfold joinedFacts
 exact(jB (jB (jB (jB (jB (jB (jB (jB (jB (jB (jB (jB (jB (jB (jB (jB (jB (jB (jB (jB (jB (jB (jB (jB (jB (jB (jB (jB (jB (jB (jB fact0 fact1) fact2) fact3) fact4) fact5) fact6) fact7) fact8) fact9) qgQ) qg1) qhb) qha) qgR) qgV) qhc) qhk) qgS) qgK) qg2) qg3) qhe) qhi) qgY) qg4) qhg) qg9) qgL) qgP) qhf) qgO)
theorem factC:Tryz.f6.isInstance Tryz.pinned.checked.prog Rows.braidWordsRow.origin Rows.braidWordsRow.targs:=of_decide_eq_true (by kernel_rfl)
theorem factD:Tryz.f6.isWrapper Tryz.pinned.checked.prog Rows.braidWordsRow.wrapper Rows.braidWordsRow.mainSum:=by unfold Func.isWrapper;first|(rw[if_pos (by decide+kernel)];kernel_rfl)|(rw[if_neg (by decide+kernel)];exact⟨rfl,rfl⟩)
theorem said:Rows.BraidWordsSaid:=
 OpenClaim.holds_of_wide 6 Tryz.f6 rfl rfl rfl rfl rfl rfl rfl ⟨rfl,rfl,rfl,rfl,rfl⟩ rfl rfl rfl rfl rfl factA Tryz.func6 factB factC factD
  (fun os started H enc _=>lifted os started H enc)
theorem qgN:Tryz.pinned.checked.prog.wantsStandIn 3=false:=by kernel_rfl
theorem qgc:Tryz.pinned.checked.prog.wantsStandIn 22=false:=by kernel_rfl
theorem qgI:true=Tryz.pinned.checked.prog.looks []:=by kernel_rfl
theorem plain (f:FuncId) (fn:Func) (hf:Tryz.pinned.checked.prog.funcNamed "becket/becketlaw05.BraidWords" =some f) (hfn:Tryz.pinned.checked.prog.funcs[f]? =some fn):
 true=Tryz.pinned.checked.prog.looks []/\ ∀(j:Nat) t,fn.params[j]? =some t->Tryz.pinned.checked.prog.wantsStandIn t=false:=by
 obtain rfl:f=6:=Ye ((show Tryz.prog.funcNamed "becket/becketlaw05.BraidWords" =some 6 by kernel_rfl).symm.trans hf)|>.symm
 obtain rfl:fn=Tryz.f6:=(Ye (Tryz.func6.symm.trans hfn)).symm
 refine⟨qgI,fun j t ht=>?_⟩
 rw[Tryz.params6]at ht
 have ht:t=3\/t=22:=by have:=Array.mem_of_getElem? ht;simpa using this
 rcases ht with rfl|rfl
 ·exact qgN
 exact qgc
theorem card:Rows.BraidWordsCardSaid:=
 Claim7.holds_tied_plain_at .later [] _ _ _ _ said (fun _ h=>by cases h) (by kernel_rfl) (fun _ h=>by cases h) braidWords_row_tie rfl ⟨rfl,rfl⟩ (by kernel_rfl) rfl plain (by kernel_rfl)
end Go.Av
namespace Go.Proofs.YtmffnhniejfgpaaGreatDoor
theorem braidWords_holds:Rows.BraidWordsCardSaid:=Go.Av.card
end Go.Proofs.YtmffnhniejfgpaaGreatDoor
