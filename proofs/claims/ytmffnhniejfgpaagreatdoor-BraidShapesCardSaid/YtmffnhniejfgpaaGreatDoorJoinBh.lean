/-
  It is proved that BraidShapes returns true for all inputs. Conditions: those of the given row alone (the listed package variables hold what the program's text lays).
-/
import Derived.Test.YtmffnhniejfgpaaGreatDoorQGenB
import Derived.Test.YtmffnhniejfgpaaGreatDoorQlBPa
import Derived.Test.YtmffnhniejfgpaaGreatDoorAvPt
import Derived.Test.YtmffnhniejfgpaaGreatDoorAvAwkB5
import Derived.Test.YtmffnhniejfgpaaGreatDoorCards
import Derived.Test.YtmffnhniejfgpaaGreatDoorTie
import Derived.Lay
import Derived.LaidMore
import Derived.LaidSub
import Derived.SevenTiedAt
import Derived.Stop.Joined
import Derived.Lib.LaidTab
import Derived.Lib.ItoaNum
noncomputable section
namespace Go.Av
open Go.Proofs Go.Proofs.YtmffnhniejfgpaaGreatDoor
open Go.ChangeShapes Go.WideShapes Go.ChangeAt Go.RowKit
set_option linter.unusedSectionVars false
set_option maxRecDepth 100000
theorem ud3:Tryz.prog.underlying 3=some (.int .i64):=by kernel_rfl
theorem rd3:zq Tryz.prog 3 encI:=zq.i64 ud3
theorem ud22:Tryz.prog.underlying 22=some (.slice 3):=by kernel_rfl
theorem rd22:zq Tryz.prog 22 (zi encI):=zq.list ud22 (by kernel_rfl) rd3
theorem ud52:Tryz.prog.underlying 52=some (.struct #[{name:= "A",type:=22,offset:=0,embedded:=false,tag:= "",pkgPath:= "",byteOffset:=0},{name:= "B",type:=22,offset:=1,embedded:=false,tag:= "",pkgPath:= "",byteOffset:=24},{name:= "K",type:=3,offset:=2,embedded:=false,tag:= "",pkgPath:= "",byteOffset:=48}]):=by kernel_rfl
theorem rd52:zq Tryz.prog 52 qcs:=vD.struct (fl:=[{name:= "A",type:=22,offset:=0,embedded:=false,tag:= "",pkgPath:= "",byteOffset:=0},{name:= "B",type:=22,offset:=1,embedded:=false,tag:= "",pkgPath:= "",byteOffset:=24},{name:= "K",type:=3,offset:=2,embedded:=false,tag:= "",pkgPath:= "",byteOffset:=48}]) ud52 rfl (by kernel_rfl) (fun(x0,x1,x2)=>(⟨x0,x1,x2⟩:qcj)) (fun _=>rfl) (vD.cons rfl (by kernel_rfl) rd22 (vD.cons rfl (by kernel_rfl) rd22 (vD.last rfl (by kernel_rfl) rd3)))
theorem tyB:Tryz.prog.underlying 4=some .bool:=by kernel_rfl
theorem laidOut:laidOutB Tryz.prog=true:=by kernel_rfl
theorem contract (H:Type) (enc:TypeId×Value->H) (W:World) (base:Nat) (args:Array Value) (ds gs:List (DataW H)) (before:List MemPlace)
 (hval: ∀(j:Nat) t v,Tryz.f7.params[j]? =some t->args[j]? =some v->Value.okWide Tryz.prog W .any base t v)
 (hW:DataW.Whole enc Tryz.prog Tryz.f7.params.toList Rows.braidShapesSpec.vars false W args.toList ds gs before) (hG:Glob.G (AllOf W) W):
 Calls Tryz.prog 7 args W fun e W'=> ∃v,e= .returned v/\Rows.braidShapesSpec.post enc Tryz.prog Tryz.f7 false true false false W args v W':=by
 have hW':=hW
 obtain⟨p,q,hA0,hV,rfl,hfz,hnd⟩:=hW
 have r0:DataW.TrodAll enc Tryz.prog W 0 (fun _=>true) true Tryz.f7.params.toList args.toList ds p:=hA0
 rw[Tryz.params7]at r0 hval
 obtain⟨v0,vs0,d0,ds0,p0,q0,hargs,rfl,rfl,h0,r1⟩:=trodAll_cons r0
 obtain⟨v1,vs1,d1,ds1,p1,q1,rfl,rfl,rfl,h1,r2⟩:=trodAll_cons r1
 obtain⟨rfl,rfl,rfl⟩:=trodAll_nil r2
 obtain rfl:args=#[v0,v1]:=by cases args;simp_all
 obtain⟨a0,hu0⟩:=In.i64 ud3 (hval 0 3 v0 rfl rfl)
 obtain⟨a1,hu1⟩:=In.struct ud52 rd52 (hval 1 52 v1 rfl rfl) h1
 refine qd6 laidOut (fun t ht=>?_) rfl (show Tryz.f7.resultTypes=#[4]from rfl) tyB (fun ds hds=>?_) hW' (enters_of (by kernel_rfl)) (y9 700000 a0 a1 (qaf (N:=700000) (by decide) a0 a1)) hG (al:=[.int .i64 a0,.agg [vl encI a1.A,vl encI a1.B,.i a1.K]]) ⟨rfl,fun i a v ha hv=>?_⟩
 ·rw[Tryz.params7]at ht
  have ht:t=3\/t=52:=by simpa using ht
  rcases ht with rfl|rfl
  ·exact⟨by kernel_rfl,of_decide_eq_true (by kernel_rfl)⟩
  exact⟨by kernel_rfl,of_decide_eq_true (by kernel_rfl)⟩
 ·rw[Tryz.params7]at hds
  match ds,hds with
  |[d1,d2],_=>exact⟨rfl,rfl,rfl⟩
 match i with
 |0=>simp at ha hv;subst ha hv;exact hu0
 |1=>simp at ha hv;subst ha hv;exact hu1
 |i+2=>simp at ha
theorem qex {W:World} (h:laidMetH Tryz.prog Rows.braidShapesRow.laid W):Glob.G (AllOf W) W:=by
 have h1:=h.filter fun x=>x.1==yl
 have e:(Rows.braidShapesRow.laid.filter fun x=>x.1==yl)=[(yl,Lib.tabData .u64 Lib.pow10Tab)]:=by kernel_rfl
 rw[e]at h1
 have h2:laidMet Tryz.prog [(yl,Lib.tabData .u64 Lib.pow10Tab)] W:=by
  rw[MakeChecks.laidMetH_plain _ _ _ (by kernel_rfl)]at h1
  exact h1
 have ht:Lib.TabIs Tryz.prog W yl .u64 Lib.pow10Tab:=
  Lib.tabIs_of_head (rest:=[]) (t:=308) (e:=206) (n:=20) qaw (by kernel_rfl) (by kernel_rfl) (by kernel_rfl) (by kernel_rfl) (by kernel_rfl) h2
 refine⟨?_,ht⟩
 unfold Lib.TabIs World.var? at ht
 rw[qaw]at ht
 simp only[ZB]at ht
 show 7<W.heap.size
 rcases Nat.lt_or_ge 7 W.heap.size with h5|h5
 ·exact h5
 rw[Array.getElem?_eq_none h5]at ht
 cases ht
theorem own:ownKnob Tryz.prog.godebug=none:=by kernel_rfl
theorem lifted (os:Os) (started:os.Started) (H:Type) (enc:TypeId×Value->H):
 ReturnsInHanded {} Tryz.checked os 7 .any (fun w args=>(Rows.braidShapesSpec.pre enc Tryz.prog Tryz.f7 Rows.braidShapesRow.domain false w args/\laidMetH Tryz.prog Rows.braidShapesRow.laid w)/\sizedMet enc Tryz.prog Tryz.f7 (OpenSpec.ofChange Rows.braidShapesSpec) false w args)
  (Rows.braidShapesSpec.post enc Tryz.prog Tryz.f7 false true false false):=by
 refine returnsInHanded_of_change_and (C:=Tryz.checked) (X:=fun w _=>laidMetH Tryz.prog Rows.braidShapesRow.laid w) (fun _ _ _ hh h=>h.of_heap hh) own started (by kernel_rfl) Tryz.func7
  (ChangeSpec.witness_shaped (enc:=enc) (C:=Tryz.checked) (os:=os) (X:=fun w _=>laidMetH Tryz.prog Rows.braidShapesRow.laid w) false (World.laidAll Tryz.prog os Rows.braidShapesRow.laid) #[.int .i64 0,.agg #[.slice none 0 0,.slice none 0 0,.int .i64 0]] 8 (World.laidAll_os _ _ _)
   (World.shaped_of_ZipB (by kernel_rfl) (by kernel_rfl)) (by kernel_rfl) (by kernel_rfl) (by kernel_rfl)
   (by rw[MakeChecks.laidMetH_plain _ _ _ (by kernel_rfl)];exact laidMet_laidAll _ (by kernel_rfl) (by kernel_rfl))) ?_
 intro W base args ds gs before hval hW _ _ hL _
 exact contract H enc W base args ds gs before hval hW (qex hL)
theorem factA:Tryz.pinned.checked.prog.funcNamed Rows.braidShapesRow.func=some 7:=by kernel_rfl
theorem fact0:(Rows.braidShapesRow.wf (OpenSpec.ofChange Rows.braidShapesSpec))=true:=by kernel_rfl
theorem fact1:(laidOutB Tryz.pinned.checked.prog)=true:=by kernel_rfl
theorem fact2:(mapsRowed Tryz.pinned.checked.prog)=true:=by kernel_rfl
theorem fact3:(Tryz.f7.params.all (Tryz.pinned.checked.prog.readableRec ·))=true:=by kernel_rfl
theorem fact4:(namedTie Tryz.pinned.checked.prog Rows.braidShapesRow.named Rows.braidShapesSpec.vars)=true:=by kernel_rfl
theorem fact5:((Rows.braidShapesRow.stops==[]))=true:=by kernel_rfl
theorem fact6:((Tryz.pinned.checked.prog.stops==[]))=true:=by kernel_rfl
theorem fact7:((Rows.braidShapesRow.knobs==[]))=true:=by kernel_rfl
theorem fact8:((Tryz.pinned.checked.prog.stopKnobs==[]))=true:=by kernel_rfl
theorem fact9:((Rows.braidShapesRow.inPlace==Tryz.pinned.checked.prog.inPlace 7))=true:=by kernel_rfl
theorem qhd:((Rows.braidShapesRow.unfollowed==Tryz.pinned.checked.prog.unfollowed 7))=true:=by kernel_rfl
theorem qg0:((Rows.braidShapesRow.recurses==Tryz.pinned.checked.prog.recurses 7))=true:=by kernel_rfl
theorem qg2:((Rows.braidShapesRow.named==Tryz.pinned.checked.prog.varsNamed 7))=true:=by kernel_rfl
theorem qgR:((Rows.braidShapesRow.maps==(Tryz.f7.params.toList++Rows.braidShapesSpec.plain.varTypes Tryz.pinned.checked.prog).any (Tryz.pinned.checked.prog.mapsRec ·)))=true:=by kernel_rfl
theorem qg7:((Rows.braidShapesRow.ifaces==(Tryz.f7.params.toList++Rows.braidShapesSpec.plain.varTypes Tryz.pinned.checked.prog).any (Tryz.pinned.checked.prog.ifacesRec ·)))=true:=by kernel_rfl
theorem qgX:((Rows.braidShapesRow.mapsOut==Tryz.pinned.checked.prog.mapsAmong Tryz.f7.resultTypes.toList))=true:=by kernel_rfl
theorem qgH:((Rows.braidShapesRow.loops==(Tryz.f7.params.toList++Rows.braidShapesSpec.plain.varTypes Tryz.pinned.checked.prog).any (Tryz.pinned.checked.prog.loopsFrom ·)))=true:=by kernel_rfl
theorem qgQ:((Rows.braidShapesRow.wideKeys==(Tryz.f7.params.toList++Rows.braidShapesSpec.plain.varTypes Tryz.pinned.checked.prog++Tryz.f7.resultTypes.toList).any (Tryz.pinned.checked.prog.wideKeysFrom ·)))=true:=by kernel_rfl
theorem qhf:(Rows.braidShapesSpec.vars.all (Tryz.pinned.checked.prog.varReadable ·))=true:=by kernel_rfl
theorem qgW:(Tryz.f7.resultTypes.all (fun t=>Tryz.pinned.checked.prog.readableRec t&&decide (t<Tryz.pinned.checked.prog.types.size)))=true:=by kernel_rfl
theorem qgM:((Rows.braidShapesRow.ifacesOut==Tryz.f7.resultTypes.toList.any (Tryz.pinned.checked.prog.ifacesRec ·)))=true:=by kernel_rfl
theorem qgT:((Rows.braidShapesRow.loopsOut==Tryz.f7.resultTypes.toList.any (Tryz.pinned.checked.prog.loopsFrom ·)))=true:=by kernel_rfl
theorem qg4:((Rows.braidShapesRow.plainKeys==Tryz.pinned.checked.prog.plainKeys))=true:=by kernel_rfl
theorem qgY:(Rows.braidShapesRow.shortTexts.isNone)=true:=by kernel_rfl
theorem qgF:(Tryz.pinned.checked.prog.stopsHeard)=true:=by kernel_rfl
theorem qg9:(Tryz.pinned.checked.prog.mayEnter)=true:=by kernel_rfl
theorem qhg:((Rows.braidShapesRow.lifted==Tryz.pinned.checked.prog.liftsFinal))=true:=by kernel_rfl
theorem qg1:((Tryz.pinned.checked.prog.make==some Rows.braidShapesRow.make))=true:=by kernel_rfl
theorem qg5:((Rows.braidShapesRow.kinds==(if Rows.braidShapesRow.domain.isEmpty then[]else Tryz.f7.params.toList.map fun t=>match Tryz.pinned.checked.prog.underlying t with|some (.int k)=>some k|_=>none)))=true:=by kernel_rfl
theorem qhb:((Rows.braidShapesRow.pinned==Rows.braidShapesRow.pinnedBy))=true:=by kernel_rfl
theorem qgU:((Rows.braidShapesRow.veiled==(Tryz.f7.params.toList++Rows.braidShapesSpec.plain.varTypes Tryz.pinned.checked.prog++Tryz.f7.resultTypes.toList).any (Tryz.pinned.checked.prog.veiledRec ·)))=true:=by kernel_rfl
theorem qgS:(Rows.braidShapesRow.veiledFits Tryz.pinned.checked.prog Tryz.f7.params.toList (Tryz.f7.params.toList++Rows.braidShapesSpec.plain.varTypes Tryz.pinned.checked.prog++Tryz.f7.resultTypes.toList))=true:=by kernel_rfl
theorem factB:joinedFacts Tryz.pinned.checked.prog 7 Tryz.f7 Rows.braidShapesSpec Rows.braidShapesRow=true:=by
 unfold joinedFacts
 exact(jh (jh (jh (jh (jh (jh (jh (jh (jh (jh (jh (jh (jh (jh (jh (jh (jh (jh (jh (jh (jh (jh (jh (jh (jh (jh (jh (jh (jh (jh (jh fact0 fact1) fact2) fact3) fact4) fact5) fact6) fact7) fact8) fact9) qhd) qg0) qg2) qgR) qg7) qgX) qgH) qgQ) qhf) qgW) qgM) qgT) qg4) qgY) qgF) qg9) qhg) qg1) qg5) qhb) qgU) qgS)
theorem factC:Tryz.f7.isInstance Tryz.pinned.checked.prog Rows.braidShapesRow.origin Rows.braidShapesRow.targs:=of_decide_eq_true (by kernel_rfl)
theorem factD:Tryz.f7.isWrapper Tryz.pinned.checked.prog Rows.braidShapesRow.wrapper Rows.braidShapesRow.mainSum:=by unfold Func.isWrapper;first|(rw[if_pos (by decide+kernel)];kernel_rfl)|(rw[if_neg (by decide+kernel)];exact⟨rfl,rfl⟩)
theorem said:Rows.BraidShapesSaid:=
 OpenClaim.holds_of_wide 7 Tryz.f7 rfl rfl rfl rfl rfl rfl rfl ⟨rfl,rfl,rfl,rfl,rfl⟩ rfl rfl rfl rfl rfl factA Tryz.func7 factB factC factD
  (fun os started H enc _=>lifted os started H enc)
theorem qhj:Tryz.pinned.checked.prog.wantsStandIn 3=false:=by kernel_rfl
theorem qgn:Tryz.pinned.checked.prog.wantsStandIn 52=false:=by kernel_rfl
theorem qg8:true=Tryz.pinned.checked.prog.looks []:=by kernel_rfl
theorem plain (f:FuncId) (fn:Func) (hf:Tryz.pinned.checked.prog.funcNamed "becket/becketlaw05.BraidShapes" =some f) (hfn:Tryz.pinned.checked.prog.funcs[f]? =some fn):
 true=Tryz.pinned.checked.prog.looks []/\ ∀(j:Nat) t,fn.params[j]? =some t->Tryz.pinned.checked.prog.wantsStandIn t=false:=by
 obtain rfl:f=7:=Ye ((show Tryz.prog.funcNamed "becket/becketlaw05.BraidShapes" =some 7 by kernel_rfl).symm.trans hf)|>.symm
 obtain rfl:fn=Tryz.f7:=(Ye (Tryz.func7.symm.trans hfn)).symm
 refine⟨qg8,fun j t ht=>?_⟩
 rw[Tryz.params7]at ht
 have ht:t=3\/t=52:=by have:=Array.mem_of_getElem? ht;simpa using this
 rcases ht with rfl|rfl
 ·exact qhj
 exact qgn
theorem card:Rows.BraidShapesCardSaid:=
 Claim7.holds_tied_plain_at .later [] _ _ _ _ said (fun _ h=>by cases h) (by kernel_rfl) (fun _ h=>by cases h) braidShapes_row_tie rfl ⟨rfl,rfl⟩ (by kernel_rfl) rfl plain (by kernel_rfl)
end Go.Av
namespace Go.Proofs.YtmffnhniejfgpaaGreatDoor
theorem braidShapes_holds:Rows.BraidShapesCardSaid:=Go.Av.card
end Go.Proofs.YtmffnhniejfgpaaGreatDoor
