/-
  It is proved that TopStropImages returns true for all inputs. Conditions: those of the given row alone.
-/
import Derived.Test.YthfnnbgiclognaaGreatQGenI
import Derived.Test.YthfnnbgiclognaaGreatQfPa
import Derived.Test.YthfnnbgiclognaaGreatAvPt
import Derived.Test.YthfnnbgiclognaaGreatAvAwkI
import Derived.Test.YthfnnbgiclognaaGreatRows
import Derived.Lay
import Derived.LaidMore
import Derived.LaidSub
import Derived.SevenTiedAt
import Derived.Stop.Joined
import Derived.Lib.LaidTab
import Derived.Lib.ItoaNum
noncomputable section
namespace Go.Av
open Go.Proofs Go.Proofs.YthfnnbgiclognaaGreat
open Go.ChangeShapes Go.WideShapes Go.ChangeAt Go.RowKit
set_option linter.unusedSectionVars false
set_option maxRecDepth 100000
theorem ud3:Tryz.prog.underlying 3=some (.int .i64):=by kernel_rfl
theorem ud22:Tryz.prog.underlying 22=some (.slice 3):=by kernel_rfl
theorem rd3:jK Tryz.prog 3 encI:=jK.i64 ud3
theorem tyB:Tryz.prog.underlying 4=some .bool:=by kernel_rfl
theorem laidOut:laidOutB Tryz.prog=true:=by kernel_rfl
theorem contract (H:Type) (enc:TypeId×Value->H) (W:World) (base:Nat) (args:Array Value) (ds gs:List (DataW H)) (before:List MemPlace)
 (hval: ∀(j:Nat) t v,Tryz.f3.params[j]? =some t->args[j]? =some v->Value.okWide Tryz.prog W .any base t v)
 (hW:DataW.Whole enc Tryz.prog Tryz.f3.params.toList Rows.topStropImagesSpec.vars false W args.toList ds gs before) (hG:Glob.G (AllOf W) W):
 Calls Tryz.prog 3 args W fun e W'=> ∃v,e= .returned v/\Rows.topStropImagesSpec.post enc Tryz.prog Tryz.f3 false true false false W args v W':=by
 have hW':=hW
 obtain⟨p,q,hA0,hV,rfl,hfz,hnd⟩:=hW
 have r0:DataW.TrodAll enc Tryz.prog W 0 (fun _=>true) true Tryz.f3.params.toList args.toList ds p:=hA0
 rw[Tryz.params3]at r0 hval
 obtain⟨v0,vs0,d0,ds0,p0,q0,hargs,rfl,rfl,h0,r1⟩:=trodAll_cons r0
 obtain⟨v1,vs1,d1,ds1,p1,q1,rfl,rfl,rfl,h1,r2⟩:=trodAll_cons r1
 obtain⟨v2,vs2,d2,ds2,p2,q2,rfl,rfl,rfl,h2,r3⟩:=trodAll_cons r2
 obtain⟨rfl,rfl,rfl⟩:=trodAll_nil r3
 obtain rfl:args=#[v0,v1,v2]:=by cases args;simp_all
 obtain⟨a0,hu0⟩:=In.i64 ud3 (hval 0 3 v0 rfl rfl)
 obtain⟨a1,hu1⟩:=In.list ud22 (by kernel_rfl) rd3 (hval 1 22 v1 rfl rfl) h1
 obtain⟨a2,hu2⟩:=In.list ud22 (by kernel_rfl) rd3 (hval 2 22 v2 rfl rfl) h2
 refine qfH laidOut (fun t ht=>?_) rfl (show Tryz.f3.resultTypes=#[4]from rfl) tyB (fun ds hds=>?_) hW' (enters_of (by kernel_rfl)) (yG 700000 a0 a1 a2 (qaE (N:=700000) (by decide) a0 a1 a2)) hG (al:=[.int .i64 a0,vl encI a1,vl encI a2]) ⟨rfl,fun i a v ha hv=>?_⟩
 ·rw[Tryz.params3]at ht
  have ht:t=3\/t=22\/t=22:=by simpa using ht
  rcases ht with rfl|rfl|rfl
  ·exact⟨by kernel_rfl,of_decide_eq_true (by kernel_rfl)⟩
  ·exact⟨by kernel_rfl,of_decide_eq_true (by kernel_rfl)⟩
  exact⟨by kernel_rfl,of_decide_eq_true (by kernel_rfl)⟩
 ·rw[Tryz.params3]at hds
  match ds,hds with
  |[d1,d2,d3],_=>exact⟨rfl,rfl,rfl⟩
 match i with
 |0=>simp at ha hv;subst ha hv;exact hu0
 |1=>simp at ha hv;subst ha hv;exact hu1
 |2=>simp at ha hv;subst ha hv;exact hu2
 |i+3=>simp at ha
theorem qgL {W:World} (_:True):Glob.G (AllOf W) W:=trivial
theorem own:ownKnob Tryz.prog.godebug=none:=by kernel_rfl
theorem lifted (os:Os) (started:os.Started) (H:Type) (enc:TypeId×Value->H):
 ReturnsInHanded {} Tryz.checked os 3 .any (fun w args=>(Rows.topStropImagesSpec.pre enc Tryz.prog Tryz.f3 Rows.topStropImagesRow.domain false w args/\True)/\sizedMet enc Tryz.prog Tryz.f3 (OpenSpec.ofChange Rows.topStropImagesSpec) false w args)
  (Rows.topStropImagesSpec.post enc Tryz.prog Tryz.f3 false true false false):=by
 refine returnsInHanded_of_change_and (C:=Tryz.checked) (X:=fun _ _=>True) (fun _ _ _ _ h=>h) own started (by kernel_rfl) Tryz.func3
  (ChangeSpec.witness_shaped (enc:=enc) (C:=Tryz.checked) (os:=os) (X:=fun _ _=>True) false (World.laidAll Tryz.prog os Rows.topStropImagesRow.laid) #[.int .i64 0,.slice none 0 0,.slice none 0 0] 8 (World.laidAll_os _ _ _)
   (World.shaped_of_ZipB (by kernel_rfl) (by kernel_rfl)) (by kernel_rfl) (by kernel_rfl) (by kernel_rfl)
   trivial) ?_
 intro W base args ds gs before hval hW _ _ hL _
 exact contract H enc W base args ds gs before hval hW (qgL hL)
theorem factA:Tryz.pinned.checked.prog.funcNamed Rows.topStropImagesRow.func=some 3:=by kernel_rfl
theorem fact0:(Rows.topStropImagesRow.wf (OpenSpec.ofChange Rows.topStropImagesSpec))=true:=by kernel_rfl
theorem fact1:(laidOutB Tryz.pinned.checked.prog)=true:=by kernel_rfl
theorem fact2:(mapsRowed Tryz.pinned.checked.prog)=true:=by kernel_rfl
theorem fact3:(Tryz.f3.params.all (Tryz.pinned.checked.prog.readableRec ·))=true:=by kernel_rfl
theorem fact4:(namedTie Tryz.pinned.checked.prog Rows.topStropImagesRow.named Rows.topStropImagesSpec.vars)=true:=by kernel_rfl
theorem fact5:((Rows.topStropImagesRow.stops==[]))=true:=by kernel_rfl
theorem fact6:((Tryz.pinned.checked.prog.stops==[]))=true:=by kernel_rfl
theorem fact7:((Rows.topStropImagesRow.knobs==[]))=true:=by kernel_rfl
theorem fact8:((Tryz.pinned.checked.prog.stopKnobs==[]))=true:=by kernel_rfl
theorem fact9:((Rows.topStropImagesRow.inPlace==Tryz.pinned.checked.prog.inPlace 3))=true:=by kernel_rfl
theorem qik:((Rows.topStropImagesRow.unfollowed==Tryz.pinned.checked.prog.unfollowed 3))=true:=by kernel_rfl
theorem qiD:((Rows.topStropImagesRow.recurses==Tryz.pinned.checked.prog.recurses 3))=true:=by kernel_rfl
theorem qii:((Rows.topStropImagesRow.named==Tryz.pinned.checked.prog.varsNamed 3))=true:=by kernel_rfl
theorem qiA:((Rows.topStropImagesRow.maps==(Tryz.f3.params.toList++Rows.topStropImagesSpec.plain.varTypes Tryz.pinned.checked.prog).any (Tryz.pinned.checked.prog.mapsRec ·)))=true:=by kernel_rfl
theorem qh8:((Rows.topStropImagesRow.ifaces==(Tryz.f3.params.toList++Rows.topStropImagesSpec.plain.varTypes Tryz.pinned.checked.prog).any (Tryz.pinned.checked.prog.ifacesRec ·)))=true:=by kernel_rfl
theorem qh9:((Rows.topStropImagesRow.mapsOut==Tryz.pinned.checked.prog.mapsAmong Tryz.f3.resultTypes.toList))=true:=by kernel_rfl
theorem qie:((Rows.topStropImagesRow.loops==(Tryz.f3.params.toList++Rows.topStropImagesSpec.plain.varTypes Tryz.pinned.checked.prog).any (Tryz.pinned.checked.prog.loopsFrom ·)))=true:=by kernel_rfl
theorem qiG:((Rows.topStropImagesRow.wideKeys==(Tryz.f3.params.toList++Rows.topStropImagesSpec.plain.varTypes Tryz.pinned.checked.prog++Tryz.f3.resultTypes.toList).any (Tryz.pinned.checked.prog.wideKeysFrom ·)))=true:=by kernel_rfl
theorem qin:(Rows.topStropImagesSpec.vars.all (Tryz.pinned.checked.prog.varReadable ·))=true:=by kernel_rfl
theorem qih:(Tryz.f3.resultTypes.all (fun t=>Tryz.pinned.checked.prog.readableRec t&&decide (t<Tryz.pinned.checked.prog.types.size)))=true:=by kernel_rfl
theorem qiF:((Rows.topStropImagesRow.ifacesOut==Tryz.f3.resultTypes.toList.any (Tryz.pinned.checked.prog.ifacesRec ·)))=true:=by kernel_rfl
theorem qip:((Rows.topStropImagesRow.loopsOut==Tryz.f3.resultTypes.toList.any (Tryz.pinned.checked.prog.loopsFrom ·)))=true:=by kernel_rfl
theorem qiu:((Rows.topStropImagesRow.plainKeys==Tryz.pinned.checked.prog.plainKeys))=true:=by kernel_rfl
theorem qif:(Rows.topStropImagesRow.shortTexts.isNone)=true:=by kernel_rfl
theorem qiq:(Tryz.pinned.checked.prog.stopsHeard)=true:=by kernel_rfl
theorem qir:(Tryz.pinned.checked.prog.mayEnter)=true:=by kernel_rfl
theorem qic:((Rows.topStropImagesRow.lifted==Tryz.pinned.checked.prog.liftsFinal))=true:=by kernel_rfl
theorem qio:((Tryz.pinned.checked.prog.make==some Rows.topStropImagesRow.make))=true:=by kernel_rfl
theorem qix:((Rows.topStropImagesRow.kinds==(if Rows.topStropImagesRow.domain.isEmpty then[]else Tryz.f3.params.toList.map fun t=>match Tryz.pinned.checked.prog.underlying t with|some (.int k)=>some k|_=>none)))=true:=by kernel_rfl
theorem qig:((Rows.topStropImagesRow.pinned==Rows.topStropImagesRow.pinnedBy))=true:=by kernel_rfl
theorem qiB:((Rows.topStropImagesRow.veiled==(Tryz.f3.params.toList++Rows.topStropImagesSpec.plain.varTypes Tryz.pinned.checked.prog++Tryz.f3.resultTypes.toList).any (Tryz.pinned.checked.prog.veiledRec ·)))=true:=by kernel_rfl
theorem qiz:(Rows.topStropImagesRow.veiledFits Tryz.pinned.checked.prog Tryz.f3.params.toList (Tryz.f3.params.toList++Rows.topStropImagesSpec.plain.varTypes Tryz.pinned.checked.prog++Tryz.f3.resultTypes.toList))=true:=by kernel_rfl
theorem factB:joinedFacts Tryz.pinned.checked.prog 3 Tryz.f3 Rows.topStropImagesSpec Rows.topStropImagesRow=true:=by
 unfold joinedFacts
 exact(vw (vw (vw (vw (vw (vw (vw (vw (vw (vw (vw (vw (vw (vw (vw (vw (vw (vw (vw (vw (vw (vw (vw (vw (vw (vw (vw (vw (vw (vw (vw fact0 fact1) fact2) fact3) fact4) fact5) fact6) fact7) fact8) fact9) qik) qiD) qii) qiA) qh8) qh9) qie) qiG) qin) qih) qiF) qip) qiu) qif) qiq) qir) qic) qio) qix) qig) qiB) qiz)
theorem factC:Tryz.f3.isInstance Tryz.pinned.checked.prog Rows.topStropImagesRow.origin Rows.topStropImagesRow.targs:=of_decide_eq_true (by kernel_rfl)
theorem factD:Tryz.f3.isWrapper Tryz.pinned.checked.prog Rows.topStropImagesRow.wrapper Rows.topStropImagesRow.mainSum:=by unfold Func.isWrapper;first|(rw[if_pos (by decide+kernel)];kernel_rfl)|(rw[if_neg (by decide+kernel)];exact⟨rfl,rfl⟩)
theorem said:Rows.TopStropImagesSaid:=
 OpenClaim.holds_of_wide 3 Tryz.f3 rfl rfl rfl rfl rfl rfl rfl ⟨rfl,rfl,rfl,rfl,rfl⟩ rfl rfl rfl rfl rfl factA Tryz.func3 factB factC factD
  (fun os started H enc _=>by
   have h:=lifted os started H enc
   simp only[and_true]at h
   exact h)
end Go.Av
namespace Go.Proofs.YthfnnbgiclognaaGreat
theorem topStropImages_holds:Rows.TopStropImagesSaid:=Go.Av.said
end Go.Proofs.YthfnnbgiclognaaGreat
