/-
  It is proved that TopStropWanders returns true for all inputs. Conditions: those of the given row alone.
-/
import Derived.Test.YtjilgbgaeeielaaGreatQGenW
import Derived.Test.YtjilgbgaeeielaaGreatQnPb
import Derived.Test.YtjilgbgaeeielaaGreatAvPt
import Derived.Test.YtjilgbgaeeielaaGreatAvAwkW2
import Derived.Test.YtjilgbgaeeielaaGreatRows
import Derived.Lay
import Derived.LaidMore
import Derived.LaidSub
import Derived.SevenTiedAt
import Derived.Stop.Joined
import Derived.Lib.LaidTab
import Derived.Lib.ItoaNum
noncomputable section
namespace Go.Av
open Go.Proofs Go.Proofs.YtjilgbgaeeielaaGreat
open Go.ChangeShapes Go.WideShapes Go.ChangeAt Go.RowKit
set_option linter.unusedSectionVars false
set_option maxRecDepth 100000
theorem ud5:Tryz.prog.underlying 5=some (.int .u8):=by kernel_rfl
theorem ud23:Tryz.prog.underlying 23=some (.slice 57):=by kernel_rfl
theorem ud3:Tryz.prog.underlying 3=some (.int .i64):=by kernel_rfl
theorem rd3:jF Tryz.prog 3 encI:=jF.i64 ud3
theorem ud9:Tryz.prog.underlying 9=some (.string):=by kernel_rfl
theorem rd9:jF Tryz.prog 9 encS:=jF.str ud9
theorem ud57:Tryz.prog.underlying 57=some (.struct #[{name:= "Kind",type:=9,offset:=0,embedded:=false,tag:= "",pkgPath:= "",byteOffset:=0},{name:= "At",type:=3,offset:=1,embedded:=false,tag:= "",pkgPath:= "",byteOffset:=16},{name:= "Letter",type:=3,offset:=2,embedded:=false,tag:= "",pkgPath:= "",byteOffset:=24}]):=by kernel_rfl
theorem rd57:jF Tryz.prog 57 qx:=qa9.struct (fl:=[{name:= "Kind",type:=9,offset:=0,embedded:=false,tag:= "",pkgPath:= "",byteOffset:=0},{name:= "At",type:=3,offset:=1,embedded:=false,tag:= "",pkgPath:= "",byteOffset:=16},{name:= "Letter",type:=3,offset:=2,embedded:=false,tag:= "",pkgPath:= "",byteOffset:=24}]) ud57 rfl (by kernel_rfl) (fun(x0,x1,x2)=>(⟨x0,x1,x2⟩:zw)) (fun _=>rfl) (qa9.cons rfl (by kernel_rfl) rd9 (qa9.cons rfl (by kernel_rfl) rd3 (qa9.last rfl (by kernel_rfl) rd3)))
theorem rd23:jF Tryz.prog 23 (qc qx):=jF.list ud23 (by kernel_rfl) rd57
theorem ud22:Tryz.prog.underlying 22=some (.slice 3):=by kernel_rfl
theorem rd22:jF Tryz.prog 22 (qc encI):=jF.list ud22 (by kernel_rfl) rd3
theorem ud25:Tryz.prog.underlying 25=some (.struct #[{name:= "Strands",type:=3,offset:=0,embedded:=false,tag:= "",pkgPath:= "",byteOffset:=0},{name:= "Word",type:=22,offset:=1,embedded:=false,tag:= "",pkgPath:= "",byteOffset:=8},{name:= "Moves",type:=23,offset:=2,embedded:=false,tag:= "",pkgPath:= "",byteOffset:=32},{name:= "Shift",type:=5,offset:=3,embedded:=false,tag:= "",pkgPath:= "",byteOffset:=56}]):=by kernel_rfl
theorem rq25:qas Tryz.prog 25 qeY (fun x=>True/\True/\True/\(IntKind.min .u8<=x.Shift/\x.Shift<=IntKind.max .u8)):=by
 have h:=xE.struct (P:=Tryz.prog) (t:=25) (f:=fun(x:qcX)=>(x.Strands,x.Word,x.Moves,x.Shift)) (fl:=[{name:= "Strands",type:=3,offset:=0,embedded:=false,tag:= "",pkgPath:= "",byteOffset:=0},{name:= "Word",type:=22,offset:=1,embedded:=false,tag:= "",pkgPath:= "",byteOffset:=8},{name:= "Moves",type:=23,offset:=2,embedded:=false,tag:= "",pkgPath:= "",byteOffset:=32},{name:= "Shift",type:=5,offset:=3,embedded:=false,tag:= "",pkgPath:= "",byteOffset:=56}]) ud25 rfl (by kernel_rfl) (fun(x0,x1,x2,x3)=>(⟨x0,x1,x2,x3⟩:qcX)) (fun _=>rfl) (xE.cons rfl (by kernel_rfl) (qas.of rd3) (xE.cons rfl (by kernel_rfl) (qas.of rd22) (xE.cons rfl (by kernel_rfl) (qas.of rd23) (xE.last rfl (by kernel_rfl) (qas.rng ud5)))))
 exact h
theorem tyB:Tryz.prog.underlying 4=some .bool:=by kernel_rfl
theorem laidOut:laidOutB Tryz.prog=true:=by kernel_rfl
theorem contract (H:Type) (enc:TypeId×Value->H) (W:World) (base:Nat) (args:Array Value) (ds gs:List (DataW H)) (before:List MemPlace)
 (hval: ∀(j:Nat) t v,Tryz.f3.params[j]? =some t->args[j]? =some v->Value.okWide Tryz.prog W .any base t v)
 (hW:DataW.Whole enc Tryz.prog Tryz.f3.params.toList Rows.topStropWandersSpec.vars false W args.toList ds gs before) (hG:Glob.G (AllOf W) W):
 Calls Tryz.prog 3 args W fun e W'=> ∃v,e= .returned v/\Rows.topStropWandersSpec.post enc Tryz.prog Tryz.f3 false true false false W args v W':=by
 have hW':=hW
 obtain⟨p,q,hA0,hV,rfl,hfz,hnd⟩:=hW
 have r0:DataW.TrodAll enc Tryz.prog W 0 (fun _=>true) true Tryz.f3.params.toList args.toList ds p:=hA0
 rw[Tryz.params3]at r0 hval
 obtain⟨v0,vs0,d0,ds0,p0,q0,hargs,rfl,rfl,h0,r1⟩:=trodAll_cons r0
 obtain⟨rfl,rfl,rfl⟩:=trodAll_nil r1
 obtain rfl:args=#[v0]:=by cases args;simp_all
 obtain⟨a0,hu0,hq0⟩:=In.structQ ud25 rq25 (hval 0 25 v0 rfl rfl) h0
 refine qkw laidOut (fun t ht=>?_) rfl (show Tryz.f3.resultTypes=#[4]from rfl) tyB (fun ds hds=>?_) hW' (enters_of (by kernel_rfl)) (qaO 700000 a0 (qcf (N:=700000) (by decide) a0 (hq0.2.2.2))) hG (al:=[.agg [.i a0.Strands,vl encI a0.Word,vl qx a0.Moves,.int .u8 a0.Shift]]) ⟨rfl,fun i a v ha hv=>?_⟩
 ·rw[Tryz.params3]at ht
  have ht:t=25:=by simpa using ht
  rcases ht with rfl
  exact⟨by kernel_rfl,of_decide_eq_true (by kernel_rfl)⟩
 ·rw[Tryz.params3]at hds
  match ds,hds with
  |[d1],_=>exact⟨rfl,rfl,rfl⟩
 match i with
 |0=>simp at ha hv;subst ha hv;exact hu0
 |i+1=>simp at ha
theorem ql0 {W:World} (_:True):Glob.G (AllOf W) W:=trivial
theorem own:ownKnob Tryz.prog.godebug=none:=by kernel_rfl
theorem lifted (os:Os) (started:os.Started) (H:Type) (enc:TypeId×Value->H):
 ReturnsInHanded {} Tryz.checked os 3 .any (fun w args=>(Rows.topStropWandersSpec.pre enc Tryz.prog Tryz.f3 Rows.topStropWandersRow.domain false w args/\True)/\sizedMet enc Tryz.prog Tryz.f3 (OpenSpec.ofChange Rows.topStropWandersSpec) false w args)
  (Rows.topStropWandersSpec.post enc Tryz.prog Tryz.f3 false true false false):=by
 refine returnsInHanded_of_change_and (C:=Tryz.checked) (X:=fun _ _=>True) (fun _ _ _ _ h=>h) own started (by kernel_rfl) Tryz.func3
  (ChangeSpec.witness_shaped (enc:=enc) (C:=Tryz.checked) (os:=os) (X:=fun _ _=>True) false (World.laidAll Tryz.prog os Rows.topStropWandersRow.laid) #[.agg #[.int .i64 0,.slice none 0 0,.slice none 0 0,.int .u8 0]] 8 (World.laidAll_os _ _ _)
   (World.shaped_of_ZipB (by kernel_rfl) (by kernel_rfl)) (by kernel_rfl) (by kernel_rfl) (by kernel_rfl)
   trivial) ?_
 intro W base args ds gs before hval hW _ _ hL _
 exact contract H enc W base args ds gs before hval hW (ql0 hL)
theorem factA:Tryz.pinned.checked.prog.funcNamed Rows.topStropWandersRow.func=some 3:=by kernel_rfl
theorem fact0:(Rows.topStropWandersRow.wf (OpenSpec.ofChange Rows.topStropWandersSpec))=true:=by kernel_rfl
theorem fact1:(laidOutB Tryz.pinned.checked.prog)=true:=by kernel_rfl
theorem fact2:(mapsRowed Tryz.pinned.checked.prog)=true:=by kernel_rfl
theorem fact3:(Tryz.f3.params.all (Tryz.pinned.checked.prog.readableRec ·))=true:=by kernel_rfl
theorem fact4:(namedTie Tryz.pinned.checked.prog Rows.topStropWandersRow.named Rows.topStropWandersSpec.vars)=true:=by kernel_rfl
theorem fact5:((Rows.topStropWandersRow.stops==[]))=true:=by kernel_rfl
theorem fact6:((Tryz.pinned.checked.prog.stops==[]))=true:=by kernel_rfl
theorem fact7:((Rows.topStropWandersRow.knobs==[]))=true:=by kernel_rfl
theorem fact8:((Tryz.pinned.checked.prog.stopKnobs==[]))=true:=by kernel_rfl
theorem fact9:((Rows.topStropWandersRow.inPlace==Tryz.pinned.checked.prog.inPlace 3))=true:=by kernel_rfl
theorem qnH:((Rows.topStropWandersRow.unfollowed==Tryz.pinned.checked.prog.unfollowed 3))=true:=by kernel_rfl
theorem qnE:((Rows.topStropWandersRow.recurses==Tryz.pinned.checked.prog.recurses 3))=true:=by kernel_rfl
theorem qnV:((Rows.topStropWandersRow.named==Tryz.pinned.checked.prog.varsNamed 3))=true:=by kernel_rfl
theorem qn6:((Rows.topStropWandersRow.maps==(Tryz.f3.params.toList++Rows.topStropWandersSpec.plain.varTypes Tryz.pinned.checked.prog).any (Tryz.pinned.checked.prog.mapsRec ·)))=true:=by kernel_rfl
theorem qnA:((Rows.topStropWandersRow.ifaces==(Tryz.f3.params.toList++Rows.topStropWandersSpec.plain.varTypes Tryz.pinned.checked.prog).any (Tryz.pinned.checked.prog.ifacesRec ·)))=true:=by kernel_rfl
theorem qnu:((Rows.topStropWandersRow.mapsOut==Tryz.pinned.checked.prog.mapsAmong Tryz.f3.resultTypes.toList))=true:=by kernel_rfl
theorem qnP:((Rows.topStropWandersRow.loops==(Tryz.f3.params.toList++Rows.topStropWandersSpec.plain.varTypes Tryz.pinned.checked.prog).any (Tryz.pinned.checked.prog.loopsFrom ·)))=true:=by kernel_rfl
theorem qn7:((Rows.topStropWandersRow.wideKeys==(Tryz.f3.params.toList++Rows.topStropWandersSpec.plain.varTypes Tryz.pinned.checked.prog++Tryz.f3.resultTypes.toList).any (Tryz.pinned.checked.prog.wideKeysFrom ·)))=true:=by kernel_rfl
theorem qn3:(Rows.topStropWandersSpec.vars.all (Tryz.pinned.checked.prog.varReadable ·))=true:=by kernel_rfl
theorem qoj:(Tryz.f3.resultTypes.all (fun t=>Tryz.pinned.checked.prog.readableRec t&&decide (t<Tryz.pinned.checked.prog.types.size)))=true:=by kernel_rfl
theorem qnZ:((Rows.topStropWandersRow.ifacesOut==Tryz.f3.resultTypes.toList.any (Tryz.pinned.checked.prog.ifacesRec ·)))=true:=by kernel_rfl
theorem qn2:((Rows.topStropWandersRow.loopsOut==Tryz.f3.resultTypes.toList.any (Tryz.pinned.checked.prog.loopsFrom ·)))=true:=by kernel_rfl
theorem qnN:((Rows.topStropWandersRow.plainKeys==Tryz.pinned.checked.prog.plainKeys))=true:=by kernel_rfl
theorem qn8:(Rows.topStropWandersRow.shortTexts.isNone)=true:=by kernel_rfl
theorem qoh:(Tryz.pinned.checked.prog.stopsHeard)=true:=by kernel_rfl
theorem qnX:(Tryz.pinned.checked.prog.mayEnter)=true:=by kernel_rfl
theorem qn5:((Rows.topStropWandersRow.lifted==Tryz.pinned.checked.prog.liftsFinal))=true:=by kernel_rfl
theorem qnR:((Tryz.pinned.checked.prog.make==some Rows.topStropWandersRow.make))=true:=by kernel_rfl
theorem qnB:((Rows.topStropWandersRow.kinds==(if Rows.topStropWandersRow.domain.isEmpty then[]else Tryz.f3.params.toList.map fun t=>match Tryz.pinned.checked.prog.underlying t with|some (.int k)=>some k|_=>none)))=true:=by kernel_rfl
theorem qoc:((Rows.topStropWandersRow.pinned==Rows.topStropWandersRow.pinnedBy))=true:=by kernel_rfl
theorem qnU:((Rows.topStropWandersRow.veiled==(Tryz.f3.params.toList++Rows.topStropWandersSpec.plain.varTypes Tryz.pinned.checked.prog++Tryz.f3.resultTypes.toList).any (Tryz.pinned.checked.prog.veiledRec ·)))=true:=by kernel_rfl
theorem qnI:(Rows.topStropWandersRow.veiledFits Tryz.pinned.checked.prog Tryz.f3.params.toList (Tryz.f3.params.toList++Rows.topStropWandersSpec.plain.varTypes Tryz.pinned.checked.prog++Tryz.f3.resultTypes.toList))=true:=by kernel_rfl
theorem factB:joinedFacts Tryz.pinned.checked.prog 3 Tryz.f3 Rows.topStropWandersSpec Rows.topStropWandersRow=true:=by
 unfold joinedFacts
 exact(xS (xS (xS (xS (xS (xS (xS (xS (xS (xS (xS (xS (xS (xS (xS (xS (xS (xS (xS (xS (xS (xS (xS (xS (xS (xS (xS (xS (xS (xS (xS fact0 fact1) fact2) fact3) fact4) fact5) fact6) fact7) fact8) fact9) qnH) qnE) qnV) qn6) qnA) qnu) qnP) qn7) qn3) qoj) qnZ) qn2) qnN) qn8) qoh) qnX) qn5) qnR) qnB) qoc) qnU) qnI)
theorem factC:Tryz.f3.isInstance Tryz.pinned.checked.prog Rows.topStropWandersRow.origin Rows.topStropWandersRow.targs:=of_decide_eq_true (by kernel_rfl)
theorem factD:Tryz.f3.isWrapper Tryz.pinned.checked.prog Rows.topStropWandersRow.wrapper Rows.topStropWandersRow.mainSum:=by unfold Func.isWrapper;first|(rw[if_pos (by decide+kernel)];kernel_rfl)|(rw[if_neg (by decide+kernel)];exact⟨rfl,rfl⟩)
theorem said:Rows.TopStropWandersSaid:=
 OpenClaim.holds_of_wide 3 Tryz.f3 rfl rfl rfl rfl rfl rfl rfl ⟨rfl,rfl,rfl,rfl,rfl⟩ rfl rfl rfl rfl rfl factA Tryz.func3 factB factC factD
  (fun os started H enc _=>by
   have h:=lifted os started H enc
   simp only[and_true]at h
   exact h)
end Go.Av
namespace Go.Proofs.YtjilgbgaeeielaaGreat
theorem topStropWanders_holds:Rows.TopStropWandersSaid:=Go.Av.said
end Go.Proofs.YtjilgbgaeeielaaGreat
