/-
  It is proved that NumberSystems returns true for all inputs. Conditions: those of the given row alone (the listed package variables hold what the program's text lays).
-/
import Derived.Test.YtbiegoecmfgjlaaGreatDoorQGenSyB
import Derived.Test.YtbiegoecmfgjlaaGreatDoorMnPb
import Derived.Test.YtbiegoecmfgjlaaGreatDoorAvD
import Derived.Test.YtbiegoecmfgjlaaGreatDoorAvAwkS2
import Derived.Test.YtbiegoecmfgjlaaGreatDoorCards
import Derived.Test.YtbiegoecmfgjlaaGreatDoorTie
import Derived.Lay
import Derived.LaidMore
import Derived.LaidSub
import Derived.SevenTiedAt
import Derived.Stop.Joined
import Derived.Lib.LaidTab
import Derived.Lib.ItoaNum
set_option linter.all false
noncomputable section
namespace Go.Av
open Go.Proofs Go.Proofs.YtbiegoecmfgjlaaGreatDoor
open Go.ChangeShapes Go.WideShapes Go.ChangeAt Go.RowKit
set_option maxRecDepth 100000
def ud22:Tryz.prog.underlying 22=some (.slice 23):=by kernel_rfl
def ud23:Tryz.prog.underlying 23=some (.slice 42):=by kernel_rfl
def ud42:Tryz.prog.underlying 42=some (.string):=by kernel_rfl
def rd42:qdV Tryz.prog 42 encS:=qdV.str ud42
def rd23:qdV Tryz.prog 23 (qbo encS):=qdV.list ud23 (by kernel_rfl) rd42
def tyB:Tryz.prog.underlying 4=some .bool:=by kernel_rfl
def laidOut:laidOutB Tryz.prog=true:=by kernel_rfl
def contract (H:Type) (enc:TypeId×Value->H) (W:World) (base:Nat) (args:Array Value) (ds gs:List (DataW H)) (before:List MemPlace)
 (hval:∀(j:Nat) t v,Tryz.f3.params[j]? =some t->args[j]? =some v->Value.okWide Tryz.prog W .any base t v)
 (hW:DataW.Whole enc Tryz.prog Tryz.f3.params.toList Rows.numberSystemsSpec.vars false W args.toList ds gs before) (hG:Glob.G (AllOf W) W):
 Calls Tryz.prog 3 args W λe W'=>∃v,e= .returned v/\Rows.numberSystemsSpec.post enc Tryz.prog Tryz.f3 false true false false W args v W':=by
 have hW':=hW;obtain⟨p,q,hA0,hV,rfl,hfz,hnd⟩:=hW;have r0:DataW.TrodAll enc Tryz.prog W 0 (λ_=>true) true Tryz.f3.params.toList args.toList ds p:=hA0;rw[Tryz.params3]at r0 hval;obtain⟨v0,vs0,d0,ds0,p0,q0,hargs,rfl,rfl,h0,r1⟩:=trodAll_cons r0;obtain⟨v1,vs1,d1,ds1,p1,q1,rfl,rfl,rfl,h1,r2⟩:=trodAll_cons r1;obtain⟨v2,vs2,d2,ds2,p2,q2,rfl,rfl,rfl,h2,r3⟩:=trodAll_cons r2;obtain⟨rfl,rfl,rfl⟩:=trodAll_nil r3
 obtain rfl:args=#[v0,v1,v2]:=by cases args;simp_all
 obtain⟨a0,hu0⟩:=In.list ud22 (by kernel_rfl) rd23 (hval 0 22 v0 rfl rfl) h0;obtain⟨a1,hu1⟩:=In.list ud23 (by kernel_rfl) rd42 (hval 1 23 v1 rfl rfl) h1;obtain⟨a2,hu2⟩:=In.list ud23 (by kernel_rfl) rd42 (hval 2 23 v2 rfl rfl) h2;refine qpB laidOut (λt ht=>?_) rfl (show Tryz.f3.resultTypes=#[4]from rfl) tyB (λds hds=>?_) hW' (enters_of (by kernel_rfl)) (qeQ 700000 a0 a1 a2 (qgn (N:=700000) (by decide) a0 a1 a2)) hG (al:=[vl (qbo encS) a0,vl encS a1,vl encS a2]) ⟨rfl,λi a v ha hv=>?_⟩
 ·rw[Tryz.params3]at ht
  have ht:t=22\/t=23\/t=23:=by simpa using ht
  rcases ht with rfl|rfl|rfl
  ·exact⟨by kernel_rfl,aP (by kernel_rfl)⟩
  ·exact⟨by kernel_rfl,aP (by kernel_rfl)⟩
  exact⟨by kernel_rfl,aP (by kernel_rfl)⟩
 ·rw[Tryz.params3]at hds
  match ds,hds with
  |[d1,d2,d3],_=>exact⟨rfl,rfl,rfl⟩
 match i with
 |0=>simp at ha hv;subst ha hv;exact hu0
 |1=>simp at ha hv;subst ha hv;exact hu1
 |2=>simp at ha hv;subst ha hv;exact hu2
 |i+3=>simp at ha
def qpM {W:World}(h:laidMetH Tryz.prog Rows.numberSystemsRow.laid W):Glob.G (AllOf W) W:=by
 have h1:=h.filter λx=>x.1==qe6
 have e:(Rows.numberSystemsRow.laid.filter λx=>x.1==qe6)=[(qe6,Lib.tabData .u64 Lib.pow10Tab)]:=by kernel_rfl
 rw[e]at h1
 have h2:laidMet Tryz.prog [(qe6,Lib.tabData .u64 Lib.pow10Tab)] W:=by
  rw[MakeChecks.laidMetH_plain _ _ _ (by kernel_rfl)]at h1;exact h1
 have ht:Lib.TabIs Tryz.prog W qe6 .u64 Lib.pow10Tab:=
  Lib.tabIs_of_head (rest:=[]) (t:=268) (e:=193) (n:=20) qhL (by kernel_rfl) (by kernel_rfl) (by kernel_rfl) (by kernel_rfl) (by kernel_rfl) h2
 refine⟨?_,ht⟩;unfold Lib.TabIs World.var? at ht;rw[qhL]at ht;simp only[ZB]at ht;show 5<W.heap.size;rcases aw 5 W.heap.size with h5|h5
 ·exact h5
 rw[Array.getElem?_eq_none h5]at ht;cases ht
def own:ownKnob Tryz.prog.godebug=none:=by kernel_rfl
def lifted (os:Os) (started:os.Started) (H:Type) (enc:TypeId×Value->H):
 ReturnsInHanded {} Tryz.checked os 3 .any (λw args=>(Rows.numberSystemsSpec.pre enc Tryz.prog Tryz.f3 Rows.numberSystemsRow.domain false w args/\laidMetH Tryz.prog Rows.numberSystemsRow.laid w)/\sizedMet enc Tryz.prog Tryz.f3 (OpenSpec.ofChange Rows.numberSystemsSpec) false w args)
  (Rows.numberSystemsSpec.post enc Tryz.prog Tryz.f3 false true false false):=by
 refine returnsInHanded_of_change_and (C:=Tryz.checked) (X:=λw _=>laidMetH Tryz.prog Rows.numberSystemsRow.laid w) (λ_ _ _ hh h=>h.of_heap hh) own started (by kernel_rfl) Tryz.func3
  (ChangeSpec.witness_shaped (enc:=enc) (C:=Tryz.checked) (os:=os) (X:=λw _=>laidMetH Tryz.prog Rows.numberSystemsRow.laid w) false (World.laidAll Tryz.prog os Rows.numberSystemsRow.laid) #[.slice none 0 0,.slice none 0 0,.slice none 0 0] 8 (World.laidAll_os _ _ _)
   (World.shaped_of_ZipB (by kernel_rfl) (by kernel_rfl)) (by kernel_rfl) (by kernel_rfl) (by kernel_rfl)
   (by rw[MakeChecks.laidMetH_plain _ _ _ (by kernel_rfl)];exact laidMet_laidAll _ (by kernel_rfl) (by kernel_rfl))) ?_
 intro W base args ds gs before hval hW _ _ hL _;exact contract H enc W base args ds gs before hval hW (qpM hL)
def factA:Tryz.pinned.checked.prog.funcNamed Rows.numberSystemsRow.func=some 3:=by kernel_rfl
def fact0:(Rows.numberSystemsRow.wf (OpenSpec.ofChange Rows.numberSystemsSpec))=true:=by kernel_rfl
def fact1:(laidOutB Tryz.pinned.checked.prog)=true:=by kernel_rfl
def fact2:(mapsRowed Tryz.pinned.checked.prog)=true:=by kernel_rfl
def fact3:(Tryz.f3.params.all (Tryz.pinned.checked.prog.readableRec ·))=true:=by kernel_rfl
def fact4:(namedTie Tryz.pinned.checked.prog Rows.numberSystemsRow.named Rows.numberSystemsSpec.vars)=true:=by kernel_rfl
def fact5:((Rows.numberSystemsRow.stops==[]))=true:=by kernel_rfl
def fact6:((Tryz.pinned.checked.prog.stops==[]))=true:=by kernel_rfl
def fact7:((Rows.numberSystemsRow.knobs==[]))=true:=by kernel_rfl
def fact8:((Tryz.pinned.checked.prog.stopKnobs==[]))=true:=by kernel_rfl
def fact9:((Rows.numberSystemsRow.inPlace==Tryz.pinned.checked.prog.inPlace 3))=true:=by kernel_rfl
def qtF:((Rows.numberSystemsRow.unfollowed==Tryz.pinned.checked.prog.unfollowed 3))=true:=by kernel_rfl
def quz:((Rows.numberSystemsRow.recurses==Tryz.pinned.checked.prog.recurses 3))=true:=by kernel_rfl
def quh:((Rows.numberSystemsRow.named==Tryz.pinned.checked.prog.varsNamed 3))=true:=by kernel_rfl
def qt3:((Rows.numberSystemsRow.maps==(Tryz.f3.params.toList++Rows.numberSystemsSpec.plain.varTypes Tryz.pinned.checked.prog).any (Tryz.pinned.checked.prog.mapsRec ·)))=true:=by kernel_rfl
def qt1:((Rows.numberSystemsRow.ifaces==(Tryz.f3.params.toList++Rows.numberSystemsSpec.plain.varTypes Tryz.pinned.checked.prog).any (Tryz.pinned.checked.prog.ifacesRec ·)))=true:=by kernel_rfl
def qut:((Rows.numberSystemsRow.mapsOut==Tryz.pinned.checked.prog.mapsAmong Tryz.f3.resultTypes.toList))=true:=by kernel_rfl
def qtZ:((Rows.numberSystemsRow.loops==(Tryz.f3.params.toList++Rows.numberSystemsSpec.plain.varTypes Tryz.pinned.checked.prog).any (Tryz.pinned.checked.prog.loopsFrom ·)))=true:=by kernel_rfl
def quw:((Rows.numberSystemsRow.wideKeys==(Tryz.f3.params.toList++Rows.numberSystemsSpec.plain.varTypes Tryz.pinned.checked.prog++Tryz.f3.resultTypes.toList).any (Tryz.pinned.checked.prog.wideKeysFrom ·)))=true:=by kernel_rfl
def qux:(Rows.numberSystemsSpec.vars.all (Tryz.pinned.checked.prog.varReadable ·))=true:=by kernel_rfl
def qud:(Tryz.f3.resultTypes.all (λt=>Tryz.pinned.checked.prog.readableRec t&&decide (t<Tryz.pinned.checked.prog.types.size)))=true:=by kernel_rfl
def qt2:((Rows.numberSystemsRow.ifacesOut==Tryz.f3.resultTypes.toList.any (Tryz.pinned.checked.prog.ifacesRec ·)))=true:=by kernel_rfl
def quf:((Rows.numberSystemsRow.loopsOut==Tryz.f3.resultTypes.toList.any (Tryz.pinned.checked.prog.loopsFrom ·)))=true:=by kernel_rfl
def qun:((Rows.numberSystemsRow.plainKeys==Tryz.pinned.checked.prog.plainKeys))=true:=by kernel_rfl
def que:(Rows.numberSystemsRow.shortTexts.isNone)=true:=by kernel_rfl
def quq:(Tryz.pinned.checked.prog.stopsHeard)=true:=by kernel_rfl
def qtQ:(Tryz.pinned.checked.prog.mayEnter)=true:=by kernel_rfl
def qtW:((Rows.numberSystemsRow.lifted==Tryz.pinned.checked.prog.liftsFinal))=true:=by kernel_rfl
def qtV:((Tryz.pinned.checked.prog.make==some Rows.numberSystemsRow.make))=true:=by kernel_rfl
def qt0:((Rows.numberSystemsRow.kinds==(if Rows.numberSystemsRow.domain.isEmpty then[]else Tryz.f3.params.toList.map λt=>match Tryz.pinned.checked.prog.underlying t with|some (.int k)=>some k|_=>none)))=true:=by kernel_rfl
def qtG:((Rows.numberSystemsRow.pinned==Rows.numberSystemsRow.pinnedBy))=true:=by kernel_rfl
def qtY:((Rows.numberSystemsRow.veiled==(Tryz.f3.params.toList++Rows.numberSystemsSpec.plain.varTypes Tryz.pinned.checked.prog++Tryz.f3.resultTypes.toList).any (Tryz.pinned.checked.prog.veiledRec ·)))=true:=by kernel_rfl
def qur:(Rows.numberSystemsRow.veiledFits Tryz.pinned.checked.prog Tryz.f3.params.toList (Tryz.f3.params.toList++Rows.numberSystemsSpec.plain.varTypes Tryz.pinned.checked.prog++Tryz.f3.resultTypes.toList))=true:=by kernel_rfl
def factB:joinedFacts Tryz.pinned.checked.prog 3 Tryz.f3 Rows.numberSystemsSpec Rows.numberSystemsRow=true:=by
 unfold joinedFacts;exact(qbW (qbW (qbW (qbW (qbW (qbW (qbW (qbW (qbW (qbW (qbW (qbW (qbW (qbW (qbW (qbW (qbW (qbW (qbW (qbW (qbW (qbW (qbW (qbW (qbW (qbW (qbW (qbW (qbW (qbW (qbW fact0 fact1) fact2) fact3) fact4) fact5) fact6) fact7) fact8) fact9) qtF) quz) quh) qt3) qt1) qut) qtZ) quw) qux) qud) qt2) quf) qun) que) quq) qtQ) qtW) qtV) qt0) qtG) qtY) qur)
def factC:Tryz.f3.isInstance Tryz.pinned.checked.prog Rows.numberSystemsRow.origin Rows.numberSystemsRow.targs:=aP (by kernel_rfl)
def factD:Tryz.f3.isWrapper Tryz.pinned.checked.prog Rows.numberSystemsRow.wrapper Rows.numberSystemsRow.mainSum:=by unfold Func.isWrapper;first|(rw[ae (by decide+kernel)];kernel_rfl)|(rw[aa (by decide+kernel)];exact⟨rfl,rfl⟩)
def said:Rows.NumberSystemsSaid:=
 OpenClaim.holds_of_wide 3 Tryz.f3 rfl rfl rfl rfl rfl rfl rfl ⟨rfl,rfl,rfl,rfl,rfl⟩ rfl rfl rfl rfl rfl factA Tryz.func3 factB factC factD
  (λos started H enc _=>lifted os started H enc)
def qsk:Tryz.pinned.checked.prog.wantsStandIn 22=false:=by kernel_rfl
def qoy:Tryz.pinned.checked.prog.wantsStandIn 23=false:=by kernel_rfl
def qtL:true=Tryz.pinned.checked.prog.looks []:=by kernel_rfl
def plain (f:FuncId) (fn:Func) (hf:Tryz.pinned.checked.prog.funcNamed "becket/becketlaw01.NumberSystems" =some f) (hfn:Tryz.pinned.checked.prog.funcs[f]? =some fn):
 true=Tryz.pinned.checked.prog.looks []/\∀(j:Nat) t,fn.params[j]? =some t->Tryz.pinned.checked.prog.wantsStandIn t=false:=by
 obtain rfl:f=3:=Ye ((show Tryz.prog.funcNamed "becket/becketlaw01.NumberSystems" =some 3 by kernel_rfl).symm.trans hf)|>.symm;obtain rfl:fn=Tryz.f3:=(Ye (Tryz.func3.symm.trans hfn)).symm;refine⟨qtL,λj t ht=>?_⟩;rw[Tryz.params3]at ht
 have ht:t=22\/t=23\/t=23:=by have:=Array.mem_of_getElem? ht;simpa using this
 rcases ht with rfl|rfl|rfl
 ·exact qsk
 ·exact qoy
 exact qoy
def card:Rows.NumberSystemsCardSaid:=
 Claim7.holds_tied_plain_at .later [] _ _ _ _ said (λ_ h=>by cases h) (by kernel_rfl) (λ_ h=>by cases h) numberSystems_row_tie rfl ⟨rfl,rfl⟩ (by kernel_rfl) rfl plain (by kernel_rfl)
end Go.Av
namespace Go.Proofs.YtbiegoecmfgjlaaGreatDoor
theorem numberSystems_holds:Rows.NumberSystemsCardSaid:=Go.Av.card
end Go.Proofs.YtbiegoecmfgjlaaGreatDoor
