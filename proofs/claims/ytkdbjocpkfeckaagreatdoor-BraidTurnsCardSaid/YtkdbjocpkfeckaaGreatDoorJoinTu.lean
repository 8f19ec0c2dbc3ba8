/-
  It is proved that BraidTurns returns true for all inputs. Conditions: those of the given row alone (the listed package variables hold what the program's text lays).
-/
import Derived.Test.YtkdbjocpkfeckaaGreatDoorQGenTu
import Derived.Test.YtkdbjocpkfeckaaGreatDoorMdPc
import Derived.Test.YtkdbjocpkfeckaaGreatDoorAvPt
import Derived.Test.YtkdbjocpkfeckaaGreatDoorAvAwkB9
import Derived.Test.YtkdbjocpkfeckaaGreatDoorCards
import Derived.Test.YtkdbjocpkfeckaaGreatDoorTie
import Derived.Lay
import Derived.LaidMore
import Derived.LaidSub
import Derived.SevenTiedAt
import Derived.Stop.Joined
import Derived.Lib.LaidTab
import Derived.Lib.ItoaNum
noncomputable section
namespace Go.Av
open Go.Proofs Go.Proofs.YtkdbjocpkfeckaaGreatDoor
open Go.ChangeShapes Go.WideShapes Go.ChangeAt Go.RowKit
set_option linter.unusedSectionVars false
set_option maxRecDepth 100000
theorem ud3:Tryz.prog.underlying 3=some (.int .i64):=by kernel_rfl
theorem ud22:Tryz.prog.underlying 22=some (.slice 3):=by kernel_rfl
theorem rd3:qaQ Tryz.prog 3 encI:=qaQ.i64 ud3
theorem ud23:Tryz.prog.underlying 23=some (.slice 79):=by kernel_rfl
theorem ud9:Tryz.prog.underlying 9=some (.string):=by kernel_rfl
theorem rd9:qaQ Tryz.prog 9 encS:=qaQ.str ud9
theorem ud79:Tryz.prog.underlying 79=some (.struct #[{name:= "Kind",type:=9,offset:=0,embedded:=false,tag:= "",pkgPath:= "",byteOffset:=0},{name:= "At",type:=3,offset:=1,embedded:=false,tag:= "",pkgPath:= "",byteOffset:=16},{name:= "Letter",type:=3,offset:=2,embedded:=false,tag:= "",pkgPath:= "",byteOffset:=24}]):=by kernel_rfl
theorem rd79:qaQ Tryz.prog 79 qG:=qdE.struct (fl:=[{name:= "Kind",type:=9,offset:=0,embedded:=false,tag:= "",pkgPath:= "",byteOffset:=0},{name:= "At",type:=3,offset:=1,embedded:=false,tag:= "",pkgPath:= "",byteOffset:=16},{name:= "Letter",type:=3,offset:=2,embedded:=false,tag:= "",pkgPath:= "",byteOffset:=24}]) ud79 rfl (by kernel_rfl) (fun(x0,x1,x2)=>(⟨x0,x1,x2⟩:zy)) (fun _=>rfl) (qdE.cons rfl (by kernel_rfl) rd9 (qdE.cons rfl (by kernel_rfl) rd3 (qdE.last rfl (by kernel_rfl) rd3)))
theorem tyB:Tryz.prog.underlying 4=some .bool:=by kernel_rfl
theorem laidOut:laidOutB Tryz.prog=true:=by kernel_rfl
theorem contract (H:Type) (enc:TypeId×Value->H) (W:World) (base:Nat) (args:Array Value) (ds gs:List (DataW H)) (before:List MemPlace)
 (hval: ∀(j:Nat) t v,Tryz.f3.params[j]? =some t->args[j]? =some v->Value.okWide Tryz.prog W .any base t v)
 (hW:DataW.Whole enc Tryz.prog Tryz.f3.params.toList Rows.braidTurnsSpec.vars false W args.toList ds gs before) (hG:Glob.G (AllOf W) W):
 Calls Tryz.prog 3 args W fun e W'=> ∃v,e= .returned v/\Rows.braidTurnsSpec.post enc Tryz.prog Tryz.f3 false true false false W args v W':=by
 have hW':=hW;obtain⟨p,q,hA0,hV,rfl,hfz,hnd⟩:=hW;have r0:DataW.TrodAll enc Tryz.prog W 0 (fun _=>true) true Tryz.f3.params.toList args.toList ds p:=hA0;rw[Tryz.params3]at r0 hval;obtain⟨v0,vs0,d0,ds0,p0,q0,hargs,rfl,rfl,h0,r1⟩:=trodAll_cons r0;obtain⟨v1,vs1,d1,ds1,p1,q1,rfl,rfl,rfl,h1,r2⟩:=trodAll_cons r1;obtain⟨v2,vs2,d2,ds2,p2,q2,rfl,rfl,rfl,h2,r3⟩:=trodAll_cons r2;obtain⟨rfl,rfl,rfl⟩:=trodAll_nil r3
 obtain rfl:args=#[v0,v1,v2]:=by cases args;simp_all
 obtain⟨a0,hu0⟩:=In.i64 ud3 (hval 0 3 v0 rfl rfl);obtain⟨a1,hu1⟩:=In.list ud22 (by kernel_rfl) rd3 (hval 1 22 v1 rfl rfl) h1;obtain⟨a2,hu2⟩:=In.list ud23 (by kernel_rfl) rd79 (hval 2 23 v2 rfl rfl) h2;refine qpA laidOut (fun t ht=>?_) rfl (show Tryz.f3.resultTypes=#[4]from rfl) tyB (fun ds hds=>?_) hW' (enters_of (by kernel_rfl)) (qgc 2000000200 a0 a1 a2 (qhB (N:=2000000200) (by decide) a0 a1 a2)) hG (al:=[.int .i64 a0,vl encI a1,vl qG a2]) ⟨rfl,fun i a v ha hv=>?_⟩
 ·rw[Tryz.params3]at ht
  have ht:t=3\/t=22\/t=23:=by simpa using ht
  rcases ht with rfl|rfl|rfl
  ·exact⟨by kernel_rfl,of_decide_eq_true (by kernel_rfl)⟩
  ·exact⟨by kernel_rfl,of_decide_eq_true (by kernel_rfl)⟩
  exact⟨by kernel_rfl,of_decide_eq_true (by kernel_rfl)⟩
 ·rw[Tryz.params3]at hds
  match ds,hds with
  |[d1,d2,d3],_=>exact⟨rfl,rfl,rfl⟩
 match i with
 |0=>simp at ha hv;subst ha hv;exact hu0
 |1=>simp at ha hv;subst ha hv;exact hu1
 |2=>simp at ha hv;subst ha hv;exact hu2
 |i+3=>simp at ha
theorem qrK {W:World} (h:laidMetH Tryz.prog Rows.braidTurnsRow.laid W):Glob.G (AllOf W) W:=by
 have h1:=h.filter fun x=>x.1==qeD
 have e:(Rows.braidTurnsRow.laid.filter fun x=>x.1==qeD)=[(qeD,Lib.tabData .u64 Lib.pow10Tab)]:=by kernel_rfl
 rw[e]at h1
 have h2:laidMet Tryz.prog [(qeD,Lib.tabData .u64 Lib.pow10Tab)] W:=by
  rw[MakeChecks.laidMetH_plain _ _ _ (by kernel_rfl)]at h1;exact h1
 have ht:Lib.TabIs Tryz.prog W qeD .u64 Lib.pow10Tab:=
  Lib.tabIs_of_head (rest:=[]) (t:=324) (e:=241) (n:=20) qhH (by kernel_rfl) (by kernel_rfl) (by kernel_rfl) (by kernel_rfl) (by kernel_rfl) h2
 refine⟨?_,ht⟩;unfold Lib.TabIs World.var? at ht;rw[qhH]at ht;simp only[ZB]at ht;show 7<W.heap.size;rcases Nat.lt_or_ge 7 W.heap.size with h5|h5
 ·exact h5
 rw[Array.getElem?_eq_none h5]at ht;cases ht
theorem own:ownKnob Tryz.prog.godebug=none:=by kernel_rfl
theorem lifted (os:Os) (started:os.Started) (H:Type) (enc:TypeId×Value->H):
 ReturnsInHanded {} Tryz.checked os 3 .any (fun w args=>(Rows.braidTurnsSpec.pre enc Tryz.prog Tryz.f3 Rows.braidTurnsRow.domain false w args/\laidMetH Tryz.prog Rows.braidTurnsRow.laid w)/\sizedMet enc Tryz.prog Tryz.f3 (OpenSpec.ofChange Rows.braidTurnsSpec) false w args)
  (Rows.braidTurnsSpec.post enc Tryz.prog Tryz.f3 false true false false):=by
 refine returnsInHanded_of_change_and (C:=Tryz.checked) (X:=fun w _=>laidMetH Tryz.prog Rows.braidTurnsRow.laid w) (fun _ _ _ hh h=>h.of_heap hh) own started (by kernel_rfl) Tryz.func3
  (ChangeSpec.witness_shaped (enc:=enc) (C:=Tryz.checked) (os:=os) (X:=fun w _=>laidMetH Tryz.prog Rows.braidTurnsRow.laid w) false (World.laidAll Tryz.prog os Rows.braidTurnsRow.laid) #[.int .i64 0,.slice none 0 0,.slice none 0 0] 8 (World.laidAll_os _ _ _)
   (World.shaped_of_ZipB (by kernel_rfl) (by kernel_rfl)) (by kernel_rfl) (by kernel_rfl) (by kernel_rfl)
   (by rw[MakeChecks.laidMetH_plain _ _ _ (by kernel_rfl)];exact laidMet_laidAll _ (by kernel_rfl) (by kernel_rfl))) ?_
 intro W base args ds gs before hval hW _ _ hL _;exact contract H enc W base args ds gs before hval hW (qrK hL)
theorem factA:Tryz.pinned.checked.prog.funcNamed Rows.braidTurnsRow.func=some 3:=by kernel_rfl
theorem fact0:(Rows.braidTurnsRow.wf (OpenSpec.ofChange Rows.braidTurnsSpec))=true:=by kernel_rfl
theorem fact1:(laidOutB Tryz.pinned.checked.prog)=true:=by kernel_rfl
theorem fact2:(mapsRowed Tryz.pinned.checked.prog)=true:=by kernel_rfl
theorem fact3:(Tryz.f3.params.all (Tryz.pinned.checked.prog.readableRec ·))=true:=by kernel_rfl
theorem fact4:(namedTie Tryz.pinned.checked.prog Rows.braidTurnsRow.named Rows.braidTurnsSpec.vars)=true:=by kernel_rfl
theorem fact5:((Rows.braidTurnsRow.stops==[]))=true:=by kernel_rfl
theorem fact6:((Tryz.pinned.checked.prog.stops==[]))=true:=by kernel_rfl
theorem fact7:((Rows.braidTurnsRow.knobs==[]))=true:=by kernel_rfl
theorem fact8:((Tryz.pinned.checked.prog.stopKnobs==[]))=true:=by kernel_rfl
theorem fact9:((Rows.braidTurnsRow.inPlace==Tryz.pinned.checked.prog.inPlace 3))=true:=by kernel_rfl
theorem quJ:((Rows.braidTurnsRow.unfollowed==Tryz.pinned.checked.prog.unfollowed 3))=true:=by kernel_rfl
theorem qun:((Rows.braidTurnsRow.recurses==Tryz.pinned.checked.prog.recurses 3))=true:=by kernel_rfl
theorem quH:((Rows.braidTurnsRow.named==Tryz.pinned.checked.prog.varsNamed 3))=true:=by kernel_rfl
theorem qt6:((Rows.braidTurnsRow.maps==(Tryz.f3.params.toList++Rows.braidTurnsSpec.plain.varTypes Tryz.pinned.checked.prog).any (Tryz.pinned.checked.prog.mapsRec ·)))=true:=by kernel_rfl
theorem quT:((Rows.braidTurnsRow.ifaces==(Tryz.f3.params.toList++Rows.braidTurnsSpec.plain.varTypes Tryz.pinned.checked.prog).any (Tryz.pinned.checked.prog.ifacesRec ·)))=true:=by kernel_rfl
theorem qtS:((Rows.braidTurnsRow.mapsOut==Tryz.pinned.checked.prog.mapsAmong Tryz.f3.resultTypes.toList))=true:=by kernel_rfl
theorem qt7:((Rows.braidTurnsRow.loops==(Tryz.f3.params.toList++Rows.braidTurnsSpec.plain.varTypes Tryz.pinned.checked.prog).any (Tryz.pinned.checked.prog.loopsFrom ·)))=true:=by kernel_rfl
theorem quQ:((Rows.braidTurnsRow.wideKeys==(Tryz.f3.params.toList++Rows.braidTurnsSpec.plain.varTypes Tryz.pinned.checked.prog++Tryz.f3.resultTypes.toList).any (Tryz.pinned.checked.prog.wideKeysFrom ·)))=true:=by kernel_rfl
theorem quS:(Rows.braidTurnsSpec.vars.all (Tryz.pinned.checked.prog.varReadable ·))=true:=by kernel_rfl
theorem quL:(Tryz.f3.resultTypes.all (fun t=>Tryz.pinned.checked.prog.readableRec t&&decide (t<Tryz.pinned.checked.prog.types.size)))=true:=by kernel_rfl
theorem quU:((Rows.braidTurnsRow.ifacesOut==Tryz.f3.resultTypes.toList.any (Tryz.pinned.checked.prog.ifacesRec ·)))=true:=by kernel_rfl
theorem quZ:((Rows.braidTurnsRow.loopsOut==Tryz.f3.resultTypes.toList.any (Tryz.pinned.checked.prog.loopsFrom ·)))=true:=by kernel_rfl
theorem quw:((Rows.braidTurnsRow.plainKeys==Tryz.pinned.checked.prog.plainKeys))=true:=by kernel_rfl
theorem qtW:(Rows.braidTurnsRow.shortTexts.isNone)=true:=by kernel_rfl
theorem qus:(Tryz.pinned.checked.prog.stopsHeard)=true:=by kernel_rfl
theorem quP:(Tryz.pinned.checked.prog.mayEnter)=true:=by kernel_rfl
theorem qui:((Rows.braidTurnsRow.lifted==Tryz.pinned.checked.prog.liftsFinal))=true:=by kernel_rfl
theorem quv:((Tryz.pinned.checked.prog.make==some Rows.braidTurnsRow.make))=true:=by kernel_rfl
theorem quI:((Rows.braidTurnsRow.kinds==(if Rows.braidTurnsRow.domain.isEmpty then[]else Tryz.f3.params.toList.map fun t=>match Tryz.pinned.checked.prog.underlying t with|some (.int k)=>some k|_=>none)))=true:=by kernel_rfl
theorem qtT:((Rows.braidTurnsRow.pinned==Rows.braidTurnsRow.pinnedBy))=true:=by kernel_rfl
theorem qum:((Rows.braidTurnsRow.veiled==(Tryz.f3.params.toList++Rows.braidTurnsSpec.plain.varTypes Tryz.pinned.checked.prog++Tryz.f3.resultTypes.toList).any (Tryz.pinned.checked.prog.veiledRec ·)))=true:=by kernel_rfl
theorem qtQ:(Rows.braidTurnsRow.veiledFits Tryz.pinned.checked.prog Tryz.f3.params.toList (Tryz.f3.params.toList++Rows.braidTurnsSpec.plain.varTypes Tryz.pinned.checked.prog++Tryz.f3.resultTypes.toList))=true:=by kernel_rfl
theorem factB:joinedFacts Tryz.pinned.checked.prog 3 Tryz.f3 Rows.braidTurnsSpec Rows.braidTurnsRow=true:=by
 unfold joinedFacts;exact(qbD (qbD (qbD (qbD (qbD (qbD (qbD (qbD (qbD (qbD (qbD (qbD (qbD (qbD (qbD (qbD (qbD (qbD (qbD (qbD (qbD (qbD (qbD (qbD (qbD (qbD (qbD (qbD (qbD (qbD (qbD fact0 fact1) fact2) fact3) fact4) fact5) fact6) fact7) fact8) fact9) quJ) qun) quH) qt6) quT) qtS) qt7) quQ) quS) quL) quU) quZ) quw) qtW) qus) quP) qui) quv) quI) qtT) qum) qtQ)
theorem factC:Tryz.f3.isInstance Tryz.pinned.checked.prog Rows.braidTurnsRow.origin Rows.braidTurnsRow.targs:=of_decide_eq_true (by kernel_rfl)
theorem factD:Tryz.f3.isWrapper Tryz.pinned.checked.prog Rows.braidTurnsRow.wrapper Rows.braidTurnsRow.mainSum:=by unfold Func.isWrapper;first|(rw[if_pos (by decide+kernel)];kernel_rfl)|(rw[if_neg (by decide+kernel)];exact⟨rfl,rfl⟩)
theorem said:Rows.BraidTurnsSaid:=
 OpenClaim.holds_of_wide 3 Tryz.f3 rfl rfl rfl rfl rfl rfl rfl ⟨rfl,rfl,rfl,rfl,rfl⟩ rfl rfl rfl rfl rfl factA Tryz.func3 factB factC factD
  (fun os started H enc _=>lifted os started H enc)
theorem quD:Tryz.pinned.checked.prog.wantsStandIn 3=false:=by kernel_rfl
theorem qsO:Tryz.pinned.checked.prog.wantsStandIn 22=false:=by kernel_rfl
theorem qsR:Tryz.pinned.checked.prog.wantsStandIn 23=false:=by kernel_rfl
theorem quc:true=Tryz.pinned.checked.prog.looks []:=by kernel_rfl
theorem plain (f:FuncId) (fn:Func) (hf:Tryz.pinned.checked.prog.funcNamed "becket/becketlaw05.BraidTurns" =some f) (hfn:Tryz.pinned.checked.prog.funcs[f]? =some fn):
 true=Tryz.pinned.checked.prog.looks []/\ ∀(j:Nat) t,fn.params[j]? =some t->Tryz.pinned.checked.prog.wantsStandIn t=false:=by
 obtain rfl:f=3:=Ye ((show Tryz.prog.funcNamed "becket/becketlaw05.BraidTurns" =some 3 by kernel_rfl).symm.trans hf)|>.symm;obtain rfl:fn=Tryz.f3:=(Ye (Tryz.func3.symm.trans hfn)).symm;refine⟨quc,fun j t ht=>?_⟩;rw[Tryz.params3]at ht
 have ht:t=3\/t=22\/t=23:=by have:=Array.mem_of_getElem? ht;simpa using this
 rcases ht with rfl|rfl|rfl
 ·exact quD
 ·exact qsO
 exact qsR
theorem card:Rows.BraidTurnsCardSaid:=
 Claim7.holds_tied_plain_at .later [] _ _ _ _ said (fun _ h=>by cases h) (by kernel_rfl) (fun _ h=>by cases h) braidTurns_row_tie rfl ⟨rfl,rfl⟩ (by kernel_rfl) rfl plain (by kernel_rfl)
end Go.Av
namespace Go.Proofs.YtkdbjocpkfeckaaGreatDoor
theorem braidTurns_holds:Rows.BraidTurnsCardSaid:=Go.Av.card
end Go.Proofs.YtkdbjocpkfeckaaGreatDoor
