/-
  It is proved that BraidMoves returns true for all inputs. Conditions: those of the given row alone (the listed package variables hold what the program's text lays).
-/
import Derived.Test.YtmffnhniejfgpaaGreatDoorQGenB
import Derived.Test.YtmffnhniejfgpaaGreatDoorQlBPa
import Derived.Test.YtmffnhniejfgpaaGreatDoorAvPt
import Derived.Test.YtmffnhniejfgpaaGreatDoorAvAwkB5
import Derived.Test.YtmffnhniejfgpaaGreatDoorCards
import Derived.Test.YtmffnhniejfgpaaGreatDoorTie
import Derived.Lay
import Derived.LaidMore
import Derived.LaidSub
import Derived.SevenTiedAt
import Derived.Stop.Joined
import Derived.Lib.LaidTab
import Derived.Lib.ItoaNum
noncomputable section
namespace Go.Av
open Go.Proofs Go.Proofs.YtmffnhniejfgpaaGreatDoor
open Go.ChangeShapes Go.WideShapes Go.ChangeAt Go.RowKit
set_option linter.unusedSectionVars false
set_option maxRecDepth 100000
theorem ud3:Tryz.prog.underlying 3=some (.int .i64):=by kernel_rfl
theorem rd3:kG Tryz.prog 3 encI:=kG.i64 ud3
theorem ud22:Tryz.prog.underlying 22=some (.slice 3):=by kernel_rfl
theorem rd22:kG Tryz.prog 22 (qbf encI):=kG.list ud22 (by kernel_rfl) rd3
theorem ud52:Tryz.prog.underlying 52=some (.struct #[{name:= "A",type:=22,offset:=0,embedded:=false,tag:= "",pkgPath:= "",byteOffset:=0},{name:= "B",type:=22,offset:=1,embedded:=false,tag:= "",pkgPath:= "",byteOffset:=24},{name:= "K",type:=3,offset:=2,embedded:=false,tag:= "",pkgPath:= "",byteOffset:=48}]):=by kernel_rfl
theorem rd52:kG Tryz.prog 52 qc7:=jH.struct (fl:=[{name:= "A",type:=22,offset:=0,embedded:=false,tag:= "",pkgPath:= "",byteOffset:=0},{name:= "B",type:=22,offset:=1,embedded:=false,tag:= "",pkgPath:= "",byteOffset:=24},{name:= "K",type:=3,offset:=2,embedded:=false,tag:= "",pkgPath:= "",byteOffset:=48}]) ud52 rfl (by kernel_rfl) (fun(x0,x1,x2)=>(⟨x0,x1,x2⟩:qcJ)) (fun _=>rfl) (jH.cons rfl (by kernel_rfl) rd22 (jH.cons rfl (by kernel_rfl) rd22 (jH.last rfl (by kernel_rfl) rd3)))
theorem ud53:Tryz.prog.underlying 53=some (.slice 84):=by kernel_rfl
theorem ud9:Tryz.prog.underlying 9=some (.string):=by kernel_rfl
theorem rd9:kG Tryz.prog 9 encS:=kG.str ud9
theorem ud84:Tryz.prog.underlying 84=some (.struct #[{name:= "Kind",type:=9,offset:=0,embedded:=false,tag:= "",pkgPath:= "",byteOffset:=0},{name:= "At",type:=3,offset:=1,embedded:=false,tag:= "",pkgPath:= "",byteOffset:=16},{name:= "Letter",type:=3,offset:=2,embedded:=false,tag:= "",pkgPath:= "",byteOffset:=24}]):=by kernel_rfl
theorem rd84:kG Tryz.prog 84 qm:=jH.struct (fl:=[{name:= "Kind",type:=9,offset:=0,embedded:=false,tag:= "",pkgPath:= "",byteOffset:=0},{name:= "At",type:=3,offset:=1,embedded:=false,tag:= "",pkgPath:= "",byteOffset:=16},{name:= "Letter",type:=3,offset:=2,embedded:=false,tag:= "",pkgPath:= "",byteOffset:=24}]) ud84 rfl (by kernel_rfl) (fun(x0,x1,x2)=>(⟨x0,x1,x2⟩:qW)) (fun _=>rfl) (jH.cons rfl (by kernel_rfl) rd9 (jH.cons rfl (by kernel_rfl) rd3 (jH.last rfl (by kernel_rfl) rd3)))
theorem tyB:Tryz.prog.underlying 4=some .bool:=by kernel_rfl
theorem laidOut:laidOutB Tryz.prog=true:=by kernel_rfl
theorem contract (H:Type) (enc:TypeId×Value->H) (W:World) (base:Nat) (args:Array Value) (ds gs:List (DataW H)) (before:List MemPlace)
 (hval: ∀(j:Nat) t v,Tryz.f5.params[j]? =some t->args[j]? =some v->Value.okWide Tryz.prog W .any base t v)
 (hW:DataW.Whole enc Tryz.prog Tryz.f5.params.toList Rows.braidMovesSpec.vars false W args.toList ds gs before)
 (hw:(DataW.weightsEach Tryz.prog (Tryz.f5.params.toList++Rows.braidMovesSpec.plain.varTypes Tryz.prog) (ds++gs)).all (· <=reachBytes)=true) (hG:Glob.G (AllOf W) W):
 Calls Tryz.prog 5 args W fun e W'=> ∃v,e= .returned v/\Rows.braidMovesSpec.post enc Tryz.prog Tryz.f5 false true false false W args v W':=by
 have hW':=hW
 obtain⟨p,q,hA0,hV,rfl,hfz,hnd⟩:=hW
 have r0:DataW.TrodAll enc Tryz.prog W 0 (fun _=>true) true Tryz.f5.params.toList args.toList ds p:=hA0
 rw[Tryz.params5]at r0 hval hw
 obtain⟨v0,vs0,d0,ds0,p0,q0,hargs,rfl,rfl,h0,r1⟩:=trodAll_cons r0
 obtain⟨v1,vs1,d1,ds1,p1,q1,rfl,rfl,rfl,h1,r2⟩:=trodAll_cons r1
 obtain⟨v2,vs2,d2,ds2,p2,q2,rfl,rfl,rfl,h2,r3⟩:=trodAll_cons r2
 obtain⟨rfl,rfl,rfl⟩:=trodAll_nil r3
 obtain⟨hw0,hw⟩:=xh (t:=3) (d:=d0) hw
 obtain⟨hw1,hw⟩:=xh (t:=52) (d:=d1) hw
 obtain⟨hw2,hw⟩:=xh (t:=53) (d:=d2) hw
 obtain rfl:args=#[v0,v1,v2]:=by cases args;simp_all
 obtain⟨a0,hu0⟩:=In.i64 ud3 (hval 0 3 v0 rfl rfl)
 obtain⟨a1,hu1⟩:=In.struct ud52 rd52 (hval 1 52 v1 rfl rfl) h1
 obtain⟨a2,hu2,hb2⟩:=In.listW ud53 (by kernel_rfl) rd84 (hval 2 53 v2 rfl rfl) h2 hw2
 have hb2:a2.length*32<=140737488355328:=by
  rw[show Tryz.prog.bytesOf 84=32 by kernel_rfl]at hb2
  exact Nat.le_trans hb2 (by decide)
 refine qeC laidOut (fun t ht=>?_) rfl (show Tryz.f5.resultTypes=#[4]from rfl) tyB (fun ds hds=>?_) hW' (enters_of (by kernel_rfl)) (xR (700000+a2.length) a0 a1 a2 (qaL (N:=700000+a2.length) a0 a1 a2 (by omega) hb2)) hG (al:=[.int .i64 a0,.agg [vl encI a1.A,vl encI a1.B,.i a1.K],vl qm a2]) ⟨rfl,fun i a v ha hv=>?_⟩
 ·rw[Tryz.params5]at ht
  have ht:t=3\/t=52\/t=53:=by simpa using ht
  rcases ht with rfl|rfl|rfl
  ·exact⟨by kernel_rfl,of_decide_eq_true (by kernel_rfl)⟩
  ·exact⟨by kernel_rfl,of_decide_eq_true (by kernel_rfl)⟩
  exact⟨by kernel_rfl,of_decide_eq_true (by kernel_rfl)⟩
 ·rw[Tryz.params5]at hds
  match ds,hds with
  |[d1,d2,d3],_=>exact⟨rfl,rfl,rfl⟩
 match i with
 |0=>simp at ha hv;subst ha hv;exact hu0
 |1=>simp at ha hv;subst ha hv;exact hu1
 |2=>simp at ha hv;subst ha hv;exact hu2
 |i+3=>simp at ha
theorem qfY {W:World} (h:laidMetH Tryz.prog Rows.braidMovesRow.laid W):Glob.G (AllOf W) W:=by
 have h1:=h.filter fun x=>x.1==yB
 have e:(Rows.braidMovesRow.laid.filter fun x=>x.1==yB)=[(yB,Lib.tabData .u64 Lib.pow10Tab)]:=by kernel_rfl
 rw[e]at h1
 have h2:laidMet Tryz.prog [(yB,Lib.tabData .u64 Lib.pow10Tab)] W:=by
  rw[MakeChecks.laidMetH_plain _ _ _ (by kernel_rfl)]at h1
  exact h1
 have ht:Lib.TabIs Tryz.prog W yB .u64 Lib.pow10Tab:=
  Lib.tabIs_of_head (rest:=[]) (t:=308) (e:=206) (n:=20) qaP (by kernel_rfl) (by kernel_rfl) (by kernel_rfl) (by kernel_rfl) (by kernel_rfl) h2
 refine⟨?_,ht⟩
 unfold Lib.TabIs World.var? at ht
 rw[qaP]at ht
 simp only[ZB]at ht
 show 7<W.heap.size
 rcases Nat.lt_or_ge 7 W.heap.size with h5|h5
 ·exact h5
 rw[Array.getElem?_eq_none h5]at ht
 cases ht
theorem own:ownKnob Tryz.prog.godebug=none:=by kernel_rfl
theorem lifted (os:Os) (started:os.Started) (H:Type) (enc:TypeId×Value->H):
 ReturnsInHanded {} Tryz.checked os 5 .any (fun w args=>(Rows.braidMovesSpec.pre enc Tryz.prog Tryz.f5 Rows.braidMovesRow.domain false w args/\laidMetH Tryz.prog Rows.braidMovesRow.laid w)/\sizedMet enc Tryz.prog Tryz.f5 (OpenSpec.ofChange Rows.braidMovesSpec) false w args)
  (Rows.braidMovesSpec.post enc Tryz.prog Tryz.f5 false true false false):=by
 refine returnsInHanded_of_change_and (C:=Tryz.checked) (X:=fun w _=>laidMetH Tryz.prog Rows.braidMovesRow.laid w) (fun _ _ _ hh h=>h.of_heap hh) own started (by kernel_rfl) Tryz.func5
  (ChangeSpec.witness_shaped (enc:=enc) (C:=Tryz.checked) (os:=os) (X:=fun w _=>laidMetH Tryz.prog Rows.braidMovesRow.laid w) false (World.laidAll Tryz.prog os Rows.braidMovesRow.laid) #[.int .i64 0,.agg #[.slice none 0 0,.slice none 0 0,.int .i64 0],.slice none 0 0] 8 (World.laidAll_os _ _ _)
   (World.shaped_of_ZipB (by kernel_rfl) (by kernel_rfl)) (by kernel_rfl) (by kernel_rfl) (by kernel_rfl)
   (by rw[MakeChecks.laidMetH_plain _ _ _ (by kernel_rfl)];exact laidMet_laidAll _ (by kernel_rfl) (by kernel_rfl))) ?_
 intro W base args ds gs before hval hW _ hw hL _
 exact contract H enc W base args ds gs before hval hW hw (qfY hL)
theorem factA:Tryz.pinned.checked.prog.funcNamed Rows.braidMovesRow.func=some 5:=by kernel_rfl
theorem fact0:(Rows.braidMovesRow.wf (OpenSpec.ofChange Rows.braidMovesSpec))=true:=by kernel_rfl
theorem fact1:(laidOutB Tryz.pinned.checked.prog)=true:=by kernel_rfl
theorem fact2:(mapsRowed Tryz.pinned.checked.prog)=true:=by kernel_rfl
theorem fact3:(Tryz.f5.params.all (Tryz.pinned.checked.prog.readableRec ·))=true:=by kernel_rfl
theorem fact4:(namedTie Tryz.pinned.checked.prog Rows.braidMovesRow.named Rows.braidMovesSpec.vars)=true:=by kernel_rfl
theorem fact5:((Rows.braidMovesRow.stops==[]))=true:=by kernel_rfl
theorem fact6:((Tryz.pinned.checked.prog.stops==[]))=true:=by kernel_rfl
theorem fact7:((Rows.braidMovesRow.knobs==[]))=true:=by kernel_rfl
theorem fact8:((Tryz.pinned.checked.prog.stopKnobs==[]))=true:=by kernel_rfl
theorem fact9:((Rows.braidMovesRow.inPlace==Tryz.pinned.checked.prog.inPlace 5))=true:=by kernel_rfl
theorem qhh:((Rows.braidMovesRow.unfollowed==Tryz.pinned.checked.prog.unfollowed 5))=true:=by kernel_rfl
theorem qg2:((Rows.braidMovesRow.recurses==Tryz.pinned.checked.prog.recurses 5))=true:=by kernel_rfl
theorem qho:((Rows.braidMovesRow.named==Tryz.pinned.checked.prog.varsNamed 5))=true:=by kernel_rfl
theorem qg3:((Rows.braidMovesRow.maps==(Tryz.f5.params.toList++Rows.braidMovesSpec.plain.varTypes Tryz.pinned.checked.prog).any (Tryz.pinned.checked.prog.mapsRec ·)))=true:=by kernel_rfl
theorem qhf:((Rows.braidMovesRow.ifaces==(Tryz.f5.params.toList++Rows.braidMovesSpec.plain.varTypes Tryz.pinned.checked.prog).any (Tryz.pinned.checked.prog.ifacesRec ·)))=true:=by kernel_rfl
theorem qgY:((Rows.braidMovesRow.mapsOut==Tryz.pinned.checked.prog.mapsAmong Tryz.f5.resultTypes.toList))=true:=by kernel_rfl
theorem qhu:((Rows.braidMovesRow.loops==(Tryz.f5.params.toList++Rows.braidMovesSpec.plain.varTypes Tryz.pinned.checked.prog).any (Tryz.pinned.checked.prog.loopsFrom ·)))=true:=by kernel_rfl
theorem qhs:((Rows.braidMovesRow.wideKeys==(Tryz.f5.params.toList++Rows.braidMovesSpec.plain.varTypes Tryz.pinned.checked.prog++Tryz.f5.resultTypes.toList).any (Tryz.pinned.checked.prog.wideKeysFrom ·)))=true:=by kernel_rfl
theorem qg5:(Rows.braidMovesSpec.vars.all (Tryz.pinned.checked.prog.varReadable ·))=true:=by kernel_rfl
theorem qg8:(Tryz.f5.resultTypes.all (fun t=>Tryz.pinned.checked.prog.readableRec t&&decide (t<Tryz.pinned.checked.prog.types.size)))=true:=by kernel_rfl
theorem qhl:((Rows.braidMovesRow.ifacesOut==Tryz.f5.resultTypes.toList.any (Tryz.pinned.checked.prog.ifacesRec ·)))=true:=by kernel_rfl
theorem qhw:((Rows.braidMovesRow.loopsOut==Tryz.f5.resultTypes.toList.any (Tryz.pinned.checked.prog.loopsFrom ·)))=true:=by kernel_rfl
theorem qgZ:((Rows.braidMovesRow.plainKeys==Tryz.pinned.checked.prog.plainKeys))=true:=by kernel_rfl
theorem qhb:(Rows.braidMovesRow.shortTexts.isNone)=true:=by kernel_rfl
theorem qg6:(Tryz.pinned.checked.prog.stopsHeard)=true:=by kernel_rfl
theorem qhc:(Tryz.pinned.checked.prog.mayEnter)=true:=by kernel_rfl
theorem qhr:((Rows.braidMovesRow.lifted==Tryz.pinned.checked.prog.liftsFinal))=true:=by kernel_rfl
theorem qhi:((Tryz.pinned.checked.prog.make==some Rows.braidMovesRow.make))=true:=by kernel_rfl
theorem qg7:((Rows.braidMovesRow.kinds==(if Rows.braidMovesRow.domain.isEmpty then[]else Tryz.f5.params.toList.map fun t=>match Tryz.pinned.checked.prog.underlying t with|some (.int k)=>some k|_=>none)))=true:=by kernel_rfl
theorem qhv:((Rows.braidMovesRow.pinned==Rows.braidMovesRow.pinnedBy))=true:=by kernel_rfl
theorem qhp:((Rows.braidMovesRow.veiled==(Tryz.f5.params.toList++Rows.braidMovesSpec.plain.varTypes Tryz.pinned.checked.prog++Tryz.f5.resultTypes.toList).any (Tryz.pinned.checked.prog.veiledRec ·)))=true:=by kernel_rfl
theorem qhn:(Rows.braidMovesRow.veiledFits Tryz.pinned.checked.prog Tryz.f5.params.toList (Tryz.f5.params.toList++Rows.braidMovesSpec.plain.varTypes Tryz.pinned.checked.prog++Tryz.f5.resultTypes.toList))=true:=by kernel_rfl
theorem factB:joinedFacts Tryz.pinned.checked.prog 5 Tryz.f5 Rows.braidMovesSpec Rows.braidMovesRow=true:=by
 unfold joinedFacts
 exact(jL (jL (jL (jL (jL (jL (jL (jL (jL (jL (jL (jL (jL (jL (jL (jL (jL (jL (jL (jL (jL (jL (jL (jL (jL (jL (jL (jL (jL (jL (jL fact0 fact1) fact2) fact3) fact4) fact5) fact6) fact7) fact8) fact9) qhh) qg2) qho) qg3) qhf) qgY) qhu) qhs) qg5) qg8) qhl) qhw) qgZ) qhb) qg6) qhc) qhr) qhi) qg7) qhv) qhp) qhn)
theorem factC:Tryz.f5.isInstance Tryz.pinned.checked.prog Rows.braidMovesRow.origin Rows.braidMovesRow.targs:=of_decide_eq_true (by kernel_rfl)
theorem factD:Tryz.f5.isWrapper Tryz.pinned.checked.prog Rows.braidMovesRow.wrapper Rows.braidMovesRow.mainSum:=by unfold Func.isWrapper;first|(rw[if_pos (by decide+kernel)];kernel_rfl)|(rw[if_neg (by decide+kernel)];exact⟨rfl,rfl⟩)
theorem said:Rows.BraidMovesSaid:=
 OpenClaim.holds_of_wide 5 Tryz.f5 rfl rfl rfl rfl rfl rfl rfl ⟨rfl,rfl,rfl,rfl,rfl⟩ rfl rfl rfl rfl rfl factA Tryz.func5 factB factC factD
  (fun os started H enc _=>lifted os started H enc)
theorem qgV:Tryz.pinned.checked.prog.wantsStandIn 3=false:=by kernel_rfl
theorem qgF:Tryz.pinned.checked.prog.wantsStandIn 52=false:=by kernel_rfl
theorem qgB:Tryz.pinned.checked.prog.wantsStandIn 53=false:=by kernel_rfl
theorem qg4:true=Tryz.pinned.checked.prog.looks []:=by kernel_rfl
theorem plain (f:FuncId) (fn:Func) (hf:Tryz.pinned.checked.prog.funcNamed "becket/becketlaw05.BraidMoves" =some f) (hfn:Tryz.pinned.checked.prog.funcs[f]? =some fn):
 true=Tryz.pinned.checked.prog.looks []/\ ∀(j:Nat) t,fn.params[j]? =some t->Tryz.pinned.checked.prog.wantsStandIn t=false:=by
 obtain rfl:f=5:=Ye ((show Tryz.prog.funcNamed "becket/becketlaw05.BraidMoves" =some 5 by kernel_rfl).symm.trans hf)|>.symm
 obtain rfl:fn=Tryz.f5:=(Ye (Tryz.func5.symm.trans hfn)).symm
 refine⟨qg4,fun j t ht=>?_⟩
 rw[Tryz.params5]at ht
 have ht:t=3\/t=52\/t=53:=by have:=Array.mem_of_getElem? ht;simpa using this
 rcases ht with rfl|rfl|rfl
 ·exact qgV
 ·exact qgF
 exact qgB
theorem card:Rows.BraidMovesCardSaid:=
 Claim7.holds_tied_plain_at .later [] _ _ _ _ said (fun _ h=>by cases h) (by kernel_rfl) (fun _ h=>by cases h) braidMoves_row_tie rfl ⟨rfl,rfl⟩ (by kernel_rfl) rfl plain (by kernel_rfl)
end Go.Av
namespace Go.Proofs.YtmffnhniejfgpaaGreatDoor
theorem braidMoves_holds:Rows.BraidMovesCardSaid:=Go.Av.card
end Go.Proofs.YtmffnhniejfgpaaGreatDoor
