/-
  It is proved that TopThimbleCuts returns true for all inputs. Conditions: those of the given row alone (the listed package variables hold what the program's text lays).
-/
import Derived.Test.YtphbhegcojmijaaGreatDoorQGenC
import Derived.Test.YtphbhegcojmijaaGreatDoorPuA
import Derived.Test.YtphbhegcojmijaaGreatDoorAvInI
import Derived.Test.YtphbhegcojmijaaGreatDoorAvAwkC
import Derived.Test.YtphbhegcojmijaaGreatDoorCards
import Derived.Test.YtphbhegcojmijaaGreatDoorTie
import Derived.Lay
import Derived.LaidMore
import Derived.LaidSub
import Derived.SevenTiedAt
import Derived.Stop.Joined
import Derived.Lib.LaidTab
import Derived.Lib.ItoaNum
noncomputable section
namespace Go.Av
open Go.Proofs Go.Proofs.YtphbhegcojmijaaGreatDoor
open Go.ChangeShapes Go.WideShapes Go.ChangeAt Go.RowKit
set_option linter.unusedSectionVars false
set_option maxRecDepth 100000
theorem ud22:Tryz.prog.underlying 22=some (.slice 40):=by kernel_rfl
theorem ud9:Tryz.prog.underlying 9=some (.string):=by kernel_rfl
theorem rd9:j4 Tryz.prog 9 encS:=j4.str ud9
theorem ud38:Tryz.prog.underlying 38=some (.slice 3):=by kernel_rfl
theorem ud3:Tryz.prog.underlying 3=some (.int .i64):=by kernel_rfl
theorem rd3:j4 Tryz.prog 3 encI:=j4.i64 ud3
theorem rd38:j4 Tryz.prog 38 (vF encI):=j4.list ud38 (by kernel_rfl) rd3
theorem ud37:Tryz.prog.underlying 37=some (.slice 9):=by kernel_rfl
theorem rd37:j4 Tryz.prog 37 (vF encS):=j4.list ud37 (by kernel_rfl) rd9
theorem ud40:Tryz.prog.underlying 40=some (.struct #[{name:= "Number",type:=3,offset:=0,embedded:=false,tag:= "",pkgPath:= "",byteOffset:=0},{name:= "Kind",type:=9,offset:=1,embedded:=false,tag:= "",pkgPath:= "",byteOffset:=8},{name:= "Names",type:=37,offset:=2,embedded:=false,tag:= "",pkgPath:= "",byteOffset:=24},{name:= "Values",type:=38,offset:=3,embedded:=false,tag:= "",pkgPath:= "",byteOffset:=48},{name:= "Text",type:=9,offset:=4,embedded:=false,tag:= "",pkgPath:= "",byteOffset:=72}]):=by kernel_rfl
theorem rd40:j4 Tryz.prog 40 qa:=qaC.struct (fl:=[{name:= "Number",type:=3,offset:=0,embedded:=false,tag:= "",pkgPath:= "",byteOffset:=0},{name:= "Kind",type:=9,offset:=1,embedded:=false,tag:= "",pkgPath:= "",byteOffset:=8},{name:= "Names",type:=37,offset:=2,embedded:=false,tag:= "",pkgPath:= "",byteOffset:=24},{name:= "Values",type:=38,offset:=3,embedded:=false,tag:= "",pkgPath:= "",byteOffset:=48},{name:= "Text",type:=9,offset:=4,embedded:=false,tag:= "",pkgPath:= "",byteOffset:=72}]) ud40 rfl (by kernel_rfl) (fun(x0,x1,x2,x3,x4)=>(⟨x0,x1,x2,x3,x4⟩:qb)) (fun _=>rfl) (qaC.cons rfl (by kernel_rfl) rd3 (qaC.cons rfl (by kernel_rfl) rd9 (qaC.cons rfl (by kernel_rfl) rd37 (qaC.cons rfl (by kernel_rfl) rd38 (qaC.last rfl (by kernel_rfl) rd9)))))
theorem ud23:Tryz.prog.underlying 23=some (.int .u16):=by kernel_rfl
theorem tyB:Tryz.prog.underlying 4=some .bool:=by kernel_rfl
theorem laidOut:laidOutB Tryz.prog=true:=by kernel_rfl
theorem contract (H:Type) (enc:TypeId×Value→H) (W:World) (base:Nat) (args:Array Value) (ds gs:List (DataW H)) (before:List MemPlace)
 (hval: ∀(j:Nat) t v,Tryz.f3.params[j]? =some t→args[j]? =some v→Value.okWide Tryz.prog W .any base t v)
 (hW:DataW.Whole enc Tryz.prog Tryz.f3.params.toList Rows.topThimbleCutsSpec.vars false W args.toList ds gs before) (hG:Glob.G (AllOf W) W):
 Calls Tryz.prog 3 args W fun e W'=> ∃v,e= .returned v∧Rows.topThimbleCutsSpec.post enc Tryz.prog Tryz.f3 false true false false W args v W':=by
 have hW':=hW
 obtain⟨p,q,hA0,hV,rfl,hfz,hnd⟩:=hW
 have r0:DataW.TrodAll enc Tryz.prog W 0 (fun _=>true) true Tryz.f3.params.toList args.toList ds p:=hA0
 rw[Tryz.params3]at r0 hval
 obtain⟨v0,vs0,d0,ds0,p0,q0,hargs,rfl,rfl,h0,r1⟩:=trodAll_cons r0
 obtain⟨v1,vs1,d1,ds1,p1,q1,rfl,rfl,rfl,h1,r2⟩:=trodAll_cons r1
 obtain⟨v2,vs2,d2,ds2,p2,q2,rfl,rfl,rfl,h2,r3⟩:=trodAll_cons r2
 obtain⟨rfl,rfl,rfl⟩:=trodAll_nil r3
 obtain rfl:args=#[v0,v1,v2]:=by cases args;simp_all
 obtain⟨a0,hu0⟩:=In.list ud22 (by kernel_rfl) rd40 (hval 0 22 v0 rfl rfl) h0
 obtain⟨a1,hu1⟩:=In.rng ud23 (hval 1 23 v1 rfl rfl) h1
 obtain⟨hr1,hu1⟩:=hu1
 obtain⟨a2,hu2⟩:=In.i64 ud3 (hval 2 3 v2 rfl rfl)
 refine qlx laidOut (fun t ht=>?_) rfl (show Tryz.f3.resultTypes=#[4]from rfl) tyB (fun ds hds=>?_) hW' (enters_of (by kernel_rfl)) (qbc 10000 a0 a1 a2 (qc8 a0 a1 a2 hr1)) hG (al:=[vl qa a0,.int .u16 a1,.int .i64 a2]) ⟨rfl,fun i a v ha hv=>?_⟩
 ·rw[Tryz.params3]at ht
  have ht:t=22∨t=23∨t=3:=by simpa using ht
  rcases ht with rfl|rfl|rfl
  ·exact⟨by kernel_rfl,of_decide_eq_true (by kernel_rfl)⟩
  ·exact⟨by kernel_rfl,of_decide_eq_true (by kernel_rfl)⟩
  ·exact⟨by kernel_rfl,of_decide_eq_true (by kernel_rfl)⟩
 ·rw[Tryz.params3]at hds
  match ds,hds with
  |[d1,d2,d3],_=>exact⟨rfl,rfl,rfl⟩
 ·match i with
  |0=>simp at ha hv;subst ha hv;exact hu0
  |1=>simp at ha hv;subst ha hv;exact hu1
  |2=>simp at ha hv;subst ha hv;exact hu2
  |i+3=>simp at ha
theorem qnu {W:World} (h:laidMetH Tryz.prog Rows.topThimbleCutsRow.laid W):Glob.G (AllOf W) W:=by
 have h1:=h.filter fun x=>x.1==qcu
 have e:(Rows.topThimbleCutsRow.laid.filter fun x=>x.1==qcu)=[(qcu,Lib.tabData .u64 Lib.pow10Tab)]:=by kernel_rfl
 rw[e]at h1
 have h2:laidMet Tryz.prog [(qcu,Lib.tabData .u64 Lib.pow10Tab)] W:=by
  rw[MakeChecks.laidMetH_plain _ _ _ (by kernel_rfl)]at h1
  exact h1
 have ht:Lib.TabIs Tryz.prog W qcu .u64 Lib.pow10Tab:=
  Lib.tabIs_of_head (rest:=[]) (t:=323) (e:=216) (n:=20) qfc (by kernel_rfl) (by kernel_rfl) (by kernel_rfl) (by kernel_rfl) (by kernel_rfl) h2
 refine⟨?_,ht⟩
 unfold Lib.TabIs World.var? at ht
 rw[qfc]at ht
 simp only[Option.bind_some]at ht
 show 5<W.heap.size
 rcases Nat.lt_or_ge 5 W.heap.size with h5|h5
 ·exact h5
 ·rw[Array.getElem?_eq_none h5]at ht
  cases ht
theorem own:ownKnob Tryz.prog.godebug=none:=by kernel_rfl
theorem lifted (os:Os) (started:os.Started) (H:Type) (enc:TypeId×Value→H):
 ReturnsInHanded {} Tryz.checked os 3 .any (fun w args=>(Rows.topThimbleCutsSpec.pre enc Tryz.prog Tryz.f3 Rows.topThimbleCutsRow.domain false w args∧laidMetH Tryz.prog Rows.topThimbleCutsRow.laid w)∧sizedMet enc Tryz.prog Tryz.f3 (OpenSpec.ofChange Rows.topThimbleCutsSpec) false w args)
  (Rows.topThimbleCutsSpec.post enc Tryz.prog Tryz.f3 false true false false):=by
 refine returnsInHanded_of_change_and (C:=Tryz.checked) (X:=fun w _=>laidMetH Tryz.prog Rows.topThimbleCutsRow.laid w) (fun _ _ _ hh h=>h.of_heap hh) own started (by kernel_rfl) Tryz.func3
  (ChangeSpec.witness_shaped (enc:=enc) (C:=Tryz.checked) (os:=os) (X:=fun w _=>laidMetH Tryz.prog Rows.topThimbleCutsRow.laid w) false (World.laidAll Tryz.prog os Rows.topThimbleCutsRow.laid) #[.slice none 0 0,.int .u16 0,.int .i64 0] 8 (World.laidAll_os _ _ _)
   (World.shaped_of_ZipB (by kernel_rfl) (by kernel_rfl)) (by kernel_rfl) (by kernel_rfl) (by kernel_rfl)
   (by rw[MakeChecks.laidMetH_plain _ _ _ (by kernel_rfl)];exact laidMet_laidAll _ (by kernel_rfl) (by kernel_rfl))) ?_
 intro W base args ds gs before hval hW _ _ hL _
 exact contract H enc W base args ds gs before hval hW (qnu hL)
theorem factA:Tryz.pinned.checked.prog.funcNamed Rows.topThimbleCutsRow.func=some 3:=by kernel_rfl
theorem fact0:(Rows.topThimbleCutsRow.wf (OpenSpec.ofChange Rows.topThimbleCutsSpec))=true:=by kernel_rfl
theorem fact1:(laidOutB Tryz.pinned.checked.prog)=true:=by kernel_rfl
theorem fact2:(mapsRowed Tryz.pinned.checked.prog)=true:=by kernel_rfl
theorem fact3:(Tryz.f3.params.all (Tryz.pinned.checked.prog.readableRec ·))=true:=by kernel_rfl
theorem fact4:(namedTie Tryz.pinned.checked.prog Rows.topThimbleCutsRow.named Rows.topThimbleCutsSpec.vars)=true:=by kernel_rfl
theorem fact5:((Rows.topThimbleCutsRow.stops==[]))=true:=by kernel_rfl
theorem fact6:((Tryz.pinned.checked.prog.stops==[]))=true:=by kernel_rfl
theorem fact7:((Rows.topThimbleCutsRow.knobs==[]))=true:=by kernel_rfl
theorem fact8:((Tryz.pinned.checked.prog.stopKnobs==[]))=true:=by kernel_rfl
theorem fact9:((Rows.topThimbleCutsRow.inPlace==Tryz.pinned.checked.prog.inPlace 3))=true:=by kernel_rfl
theorem qoM:((Rows.topThimbleCutsRow.unfollowed==Tryz.pinned.checked.prog.unfollowed 3))=true:=by kernel_rfl
theorem qpk:((Rows.topThimbleCutsRow.recurses==Tryz.pinned.checked.prog.recurses 3))=true:=by kernel_rfl
theorem qoK:((Rows.topThimbleCutsRow.named==Tryz.pinned.checked.prog.varsNamed 3))=true:=by kernel_rfl
theorem qoW:((Rows.topThimbleCutsRow.maps==(Tryz.f3.params.toList++Rows.topThimbleCutsSpec.plain.varTypes Tryz.pinned.checked.prog).any (Tryz.pinned.checked.prog.mapsRec ·)))=true:=by kernel_rfl
theorem qoT:((Rows.topThimbleCutsRow.ifaces==(Tryz.f3.params.toList++Rows.topThimbleCutsSpec.plain.varTypes Tryz.pinned.checked.prog).any (Tryz.pinned.checked.prog.ifacesRec ·)))=true:=by kernel_rfl
theorem qpa:((Rows.topThimbleCutsRow.mapsOut==Tryz.pinned.checked.prog.mapsAmong Tryz.f3.resultTypes.toList))=true:=by kernel_rfl
theorem qoO:((Rows.topThimbleCutsRow.loops==(Tryz.f3.params.toList++Rows.topThimbleCutsSpec.plain.varTypes Tryz.pinned.checked.prog).any (Tryz.pinned.checked.prog.loopsFrom ·)))=true:=by kernel_rfl
theorem qoF:((Rows.topThimbleCutsRow.wideKeys==(Tryz.f3.params.toList++Rows.topThimbleCutsSpec.plain.varTypes Tryz.pinned.checked.prog++Tryz.f3.resultTypes.toList).any (Tryz.pinned.checked.prog.wideKeysFrom ·)))=true:=by kernel_rfl
theorem qoD:(Rows.topThimbleCutsSpec.vars.all (Tryz.pinned.checked.prog.varReadable ·))=true:=by kernel_rfl
theorem qoV:(Tryz.f3.resultTypes.all (fun t=>Tryz.pinned.checked.prog.readableRec t&&decide (t<Tryz.pinned.checked.prog.types.size)))=true:=by kernel_rfl
theorem qo7:((Rows.topThimbleCutsRow.ifacesOut==Tryz.f3.resultTypes.toList.any (Tryz.pinned.checked.prog.ifacesRec ·)))=true:=by kernel_rfl
theorem qoX:((Rows.topThimbleCutsRow.loopsOut==Tryz.f3.resultTypes.toList.any (Tryz.pinned.checked.prog.loopsFrom ·)))=true:=by kernel_rfl
theorem qoP:((Rows.topThimbleCutsRow.plainKeys==Tryz.pinned.checked.prog.plainKeys))=true:=by kernel_rfl
theorem qoR:(Rows.topThimbleCutsRow.shortTexts.isNone)=true:=by kernel_rfl
theorem qpe:(Tryz.pinned.checked.prog.stopsHeard)=true:=by kernel_rfl
theorem qoS:(Tryz.pinned.checked.prog.mayEnter)=true:=by kernel_rfl
theorem qo2:((Rows.topThimbleCutsRow.lifted==Tryz.pinned.checked.prog.liftsFinal))=true:=by kernel_rfl
theorem qpo:((Tryz.pinned.checked.prog.make==some Rows.topThimbleCutsRow.make))=true:=by kernel_rfl
theorem qoJ:((Rows.topThimbleCutsRow.kinds==(if Rows.topThimbleCutsRow.domain.isEmpty then[]else Tryz.f3.params.toList.map fun t=>match Tryz.pinned.checked.prog.underlying t with|some (.int k)=>some k|_=>none)))=true:=by kernel_rfl
theorem qo9:((Rows.topThimbleCutsRow.pinned==Rows.topThimbleCutsRow.pinnedBy))=true:=by kernel_rfl
theorem qpm:((Rows.topThimbleCutsRow.veiled==(Tryz.f3.params.toList++Rows.topThimbleCutsSpec.plain.varTypes Tryz.pinned.checked.prog++Tryz.f3.resultTypes.toList).any (Tryz.pinned.checked.prog.veiledRec ·)))=true:=by kernel_rfl
theorem qoH:(Rows.topThimbleCutsRow.veiledFits Tryz.pinned.checked.prog Tryz.f3.params.toList (Tryz.f3.params.toList++Rows.topThimbleCutsSpec.plain.varTypes Tryz.pinned.checked.prog++Tryz.f3.resultTypes.toList))=true:=by kernel_rfl
theorem factB:joinedFacts Tryz.pinned.checked.prog 3 Tryz.f3 Rows.topThimbleCutsSpec Rows.topThimbleCutsRow=true:=by
 unfold joinedFacts
 exact(xZ (xZ (xZ (xZ (xZ (xZ (xZ (xZ (xZ (xZ (xZ (xZ (xZ (xZ (xZ (xZ (xZ (xZ (xZ (xZ (xZ (xZ (xZ (xZ (xZ (xZ (xZ (xZ (xZ (xZ (xZ fact0 fact1) fact2) fact3) fact4) fact5) fact6) fact7) fact8) fact9) qoM) qpk) qoK) qoW) qoT) qpa) qoO) qoF) qoD) qoV) qo7) qoX) qoP) qoR) qpe) qoS) qo2) qpo) qoJ) qo9) qpm) qoH)
theorem factC:Tryz.f3.isInstance Tryz.pinned.checked.prog Rows.topThimbleCutsRow.origin Rows.topThimbleCutsRow.targs:=of_decide_eq_true (by kernel_rfl)
theorem factD:Tryz.f3.isWrapper Tryz.pinned.checked.prog Rows.topThimbleCutsRow.wrapper Rows.topThimbleCutsRow.mainSum:=by unfold Func.isWrapper;first|(rw[if_pos (by decide+kernel)];kernel_rfl)|(rw[if_neg (by decide+kernel)];exact⟨rfl,rfl⟩)
theorem said:Rows.TopThimbleCutsSaid:=
 OpenClaim.holds_of_wide 3 Tryz.f3 rfl rfl rfl rfl rfl rfl rfl ⟨rfl,rfl,rfl,rfl,rfl⟩ rfl rfl rfl rfl rfl factA Tryz.func3 factB factC factD
  (fun os started H enc _=>lifted os started H enc)
theorem qpg:Tryz.pinned.checked.prog.wantsStandIn 3=false:=by kernel_rfl
theorem qol:Tryz.pinned.checked.prog.wantsStandIn 22=false:=by kernel_rfl
theorem qod:Tryz.pinned.checked.prog.wantsStandIn 23=false:=by kernel_rfl
theorem qo8:true=Tryz.pinned.checked.prog.looks []:=by kernel_rfl
theorem plain (f:FuncId) (fn:Func) (hf:Tryz.pinned.checked.prog.funcNamed "becket/beckettop.TopThimbleCuts" =some f) (hfn:Tryz.pinned.checked.prog.funcs[f]? =some fn):
 true=Tryz.pinned.checked.prog.looks []∧ ∀(j:Nat) t,fn.params[j]? =some t→Tryz.pinned.checked.prog.wantsStandIn t=false:=by
 obtain rfl:f=3:=Option.some.inj ((show Tryz.prog.funcNamed "becket/beckettop.TopThimbleCuts" =some 3 by kernel_rfl).symm.trans hf)|>.symm
 obtain rfl:fn=Tryz.f3:=(Option.some.inj (Tryz.func3.symm.trans hfn)).symm
 refine⟨qo8,fun j t ht=>?_⟩
 rw[Tryz.params3]at ht
 have ht:t=22∨t=23∨t=3:=by have:=Array.mem_of_getElem? ht;simpa using this
 rcases ht with rfl|rfl|rfl
 ·exact qol
 ·exact qod
 ·exact qpg
theorem card:Rows.TopThimbleCutsCardSaid:=
 Claim7.holds_tied_plain_at .later [] _ _ _ _ said (fun _ h=>by cases h) (by kernel_rfl) (fun _ h=>by cases h) topThimbleCuts_row_tie rfl ⟨rfl,rfl⟩ (by kernel_rfl) rfl plain (by kernel_rfl)
end Go.Av
namespace Go.Proofs.YtphbhegcojmijaaGreatDoor
theorem topThimbleCuts_holds:Rows.TopThimbleCutsCardSaid:=Go.Av.card
end Go.Proofs.YtphbhegcojmijaaGreatDoor
