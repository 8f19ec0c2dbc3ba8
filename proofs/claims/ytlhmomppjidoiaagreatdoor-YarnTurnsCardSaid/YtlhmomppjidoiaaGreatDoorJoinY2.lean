/-
  It is proved that YarnTurns returns true for all inputs. Conditions: those of the given row alone (the listed package variables hold what the program's text lays).
-/
import Derived.Test.YtlhmomppjidoiaaGreatDoorQGenY
import Derived.Test.YtlhmomppjidoiaaGreatDoorMyPb
import Derived.Test.YtlhmomppjidoiaaGreatDoorAvPt
import Derived.Test.YtlhmomppjidoiaaGreatDoorAvAwkY
import Derived.Test.YtlhmomppjidoiaaGreatDoorCards
import Derived.Test.YtlhmomppjidoiaaGreatDoorTie
import Derived.Lay
import Derived.LaidMore
import Derived.LaidSub
import Derived.SevenTiedAt
import Derived.Stop.Joined
import Derived.Lib.LaidTab
import Derived.Lib.ItoaNum
noncomputable section
namespace Go.Av
open Go.Proofs Go.Proofs.YtlhmomppjidoiaaGreatDoor
open Go.ChangeShapes Go.WideShapes Go.ChangeAt Go.RowKit
set_option linter.unusedSectionVars false
set_option maxRecDepth 100000
theorem ud4:Tryz.prog.underlying 4=some (.bool):=by kernel_rfl
theorem rd4:je Tryz.prog 4 qna:=je.bool ud4
theorem ud3:Tryz.prog.underlying 3=some (.int .i64):=by kernel_rfl
theorem rd3:je Tryz.prog 3 encI:=je.i64 ud3
theorem ud44:Tryz.prog.underlying 44=some (.struct #[{name:= "Length",type:=3,offset:=0,embedded:=false,tag:= "",pkgPath:= "",byteOffset:=0},{name:= "Mass",type:=3,offset:=1,embedded:=false,tag:= "",pkgPath:= "",byteOffset:=8},{name:= "Direct",type:=4,offset:=2,embedded:=false,tag:= "",pkgPath:= "",byteOffset:=16}]):=by kernel_rfl
theorem rd44:je Tryz.prog 44 qhK:=qck.struct (fl:=[{name:= "Length",type:=3,offset:=0,embedded:=false,tag:= "",pkgPath:= "",byteOffset:=0},{name:= "Mass",type:=3,offset:=1,embedded:=false,tag:= "",pkgPath:= "",byteOffset:=8},{name:= "Direct",type:=4,offset:=2,embedded:=false,tag:= "",pkgPath:= "",byteOffset:=16}]) ud44 rfl (by kernel_rfl) (fun(x0,x1,x2)=>(⟨x0,x1,x2⟩:qC)) (fun _=>rfl) (qck.cons rfl (by kernel_rfl) rd3 (qck.cons rfl (by kernel_rfl) rd3 (qck.last rfl (by kernel_rfl) rd4)))
theorem ud64:Tryz.prog.underlying 64=some (.array 2 22):=by kernel_rfl
theorem ud22:Tryz.prog.underlying 22=some (.string):=by kernel_rfl
theorem rd22:je Tryz.prog 22 encS:=je.str ud22
theorem rd64:je Tryz.prog 64 (encS.prod encS):=je.arr2 ud64 (by kernel_rfl) (by kernel_rfl) rd22
theorem tyB:Tryz.prog.underlying 4=some .bool:=by kernel_rfl
theorem laidOut:laidOutB Tryz.prog=true:=by kernel_rfl
theorem contract (H:Type) (enc:TypeId×Value->H) (W:World) (base:Nat) (args:Array Value) (ds gs:List (DataW H)) (before:List MemPlace)
 (hval: ∀(j:Nat) t v,Tryz.f6.params[j]? =some t->args[j]? =some v->Value.okWide Tryz.prog W .any base t v)
 (hW:DataW.Whole enc Tryz.prog Tryz.f6.params.toList Rows.yarnTurnsSpec.vars false W args.toList ds gs before) (hG:Glob.G (AllOf W) W):
 Calls Tryz.prog 6 args W fun e W'=> ∃v,e= .returned v/\Rows.yarnTurnsSpec.post enc Tryz.prog Tryz.f6 false true false false W args v W':=by
 have hW':=hW
 obtain⟨p,q,hA0,hV,rfl,hfz,hnd⟩:=hW
 have r0:DataW.TrodAll enc Tryz.prog W 0 (fun _=>true) true Tryz.f6.params.toList args.toList ds p:=hA0
 rw[Tryz.params6]at r0 hval
 obtain⟨v0,vs0,d0,ds0,p0,q0,hargs,rfl,rfl,h0,r1⟩:=trodAll_cons r0
 obtain⟨v1,vs1,d1,ds1,p1,q1,rfl,rfl,rfl,h1,r2⟩:=trodAll_cons r1
 obtain⟨v2,vs2,d2,ds2,p2,q2,rfl,rfl,rfl,h2,r3⟩:=trodAll_cons r2
 obtain⟨rfl,rfl,rfl⟩:=trodAll_nil r3
 obtain rfl:args=#[v0,v1,v2]:=by cases args;simp_all
 obtain⟨a0,hu0⟩:=In.struct ud44 rd44 (hval 0 44 v0 rfl rfl) h0
 obtain⟨a1,hu1⟩:=In.struct ud44 rd44 (hval 1 44 v1 rfl rfl) h1
 obtain⟨a2,hu2⟩:=In.arr ud64 rd64 (hval 2 64 v2 rfl rfl) h2
 refine qmF laidOut (fun t ht=>?_) rfl (show Tryz.f6.resultTypes=#[4]from rfl) tyB (fun ds hds=>?_) hW' (enters_of (by kernel_rfl)) (qe6 700000 a0 a1 a2 (qgj (N:=700000) (by decide) a0 a1 a2)) hG (al:=[.agg [.i a0.Length,.i a0.Mass,.bool a0.Direct],.agg [.i a1.Length,.i a1.Mass,.bool a1.Direct],.agg [.str a2.1,.str a2.2]]) ⟨rfl,fun i a v ha hv=>?_⟩
 ·rw[Tryz.params6]at ht
  have ht:t=44\/t=44\/t=64:=by simpa using ht
  rcases ht with rfl|rfl|rfl
  ·exact⟨by kernel_rfl,of_decide_eq_true (by kernel_rfl)⟩
  ·exact⟨by kernel_rfl,of_decide_eq_true (by kernel_rfl)⟩
  exact⟨by kernel_rfl,of_decide_eq_true (by kernel_rfl)⟩
 ·rw[Tryz.params6]at hds
  match ds,hds with
  |[d1,d2,d3],_=>exact⟨rfl,rfl,rfl⟩
 match i with
 |0=>simp at ha hv;subst ha hv;exact hu0
 |1=>simp at ha hv;subst ha hv;exact hu1
 |2=>simp at ha hv;subst ha hv;exact hu2
 |i+3=>simp at ha
theorem qoU {W:World} (h:laidMetH Tryz.prog Rows.yarnTurnsRow.laid W):Glob.G (AllOf W) W:=by
 have h1:=h.filter fun x=>x.1==qdj
 have e:(Rows.yarnTurnsRow.laid.filter fun x=>x.1==qdj)=[(qdj,Lib.tabData .u64 Lib.pow10Tab)]:=by kernel_rfl
 rw[e]at h1
 have h2:laidMet Tryz.prog [(qdj,Lib.tabData .u64 Lib.pow10Tab)] W:=by
  rw[MakeChecks.laidMetH_plain _ _ _ (by kernel_rfl)]at h1
  exact h1
 have ht:Lib.TabIs Tryz.prog W qdj .u64 Lib.pow10Tab:=
  Lib.tabIs_of_head (rest:=[]) (t:=337) (e:=227) (n:=20) qfS (by kernel_rfl) (by kernel_rfl) (by kernel_rfl) (by kernel_rfl) (by kernel_rfl) h2
 refine⟨?_,ht⟩
 unfold Lib.TabIs World.var? at ht
 rw[qfS]at ht
 simp only[ZB]at ht
 show 7<W.heap.size
 rcases Nat.lt_or_ge 7 W.heap.size with h5|h5
 ·exact h5
 rw[Array.getElem?_eq_none h5]at ht
 cases ht
theorem own:ownKnob Tryz.prog.godebug=none:=by kernel_rfl
theorem lifted (os:Os) (started:os.Started) (H:Type) (enc:TypeId×Value->H):
 ReturnsInHanded {} Tryz.checked os 6 .any (fun w args=>(Rows.yarnTurnsSpec.pre enc Tryz.prog Tryz.f6 Rows.yarnTurnsRow.domain false w args/\laidMetH Tryz.prog Rows.yarnTurnsRow.laid w)/\sizedMet enc Tryz.prog Tryz.f6 (OpenSpec.ofChange Rows.yarnTurnsSpec) false w args)
  (Rows.yarnTurnsSpec.post enc Tryz.prog Tryz.f6 false true false false):=by
 refine returnsInHanded_of_change_and (C:=Tryz.checked) (X:=fun w _=>laidMetH Tryz.prog Rows.yarnTurnsRow.laid w) (fun _ _ _ hh h=>h.of_heap hh) own started (by kernel_rfl) Tryz.func6
  (ChangeSpec.witness_shaped (enc:=enc) (C:=Tryz.checked) (os:=os) (X:=fun w _=>laidMetH Tryz.prog Rows.yarnTurnsRow.laid w) false (World.laidAll Tryz.prog os Rows.yarnTurnsRow.laid) #[.agg #[.int .i64 0,.int .i64 0,.bool false],.agg #[.int .i64 0,.int .i64 0,.bool false],.agg #[.string ⟨#[]⟩,.string ⟨#[]⟩]] 8 (World.laidAll_os _ _ _)
   (World.shaped_of_ZipB (by kernel_rfl) (by kernel_rfl)) (by kernel_rfl) (by kernel_rfl) (by kernel_rfl)
   (by rw[MakeChecks.laidMetH_plain _ _ _ (by kernel_rfl)];exact laidMet_laidAll _ (by kernel_rfl) (by kernel_rfl))) ?_
 intro W base args ds gs before hval hW _ _ hL _
 exact contract H enc W base args ds gs before hval hW (qoU hL)
theorem factA:Tryz.pinned.checked.prog.funcNamed Rows.yarnTurnsRow.func=some 6:=by kernel_rfl
theorem fact0:(Rows.yarnTurnsRow.wf (OpenSpec.ofChange Rows.yarnTurnsSpec))=true:=by kernel_rfl
theorem fact1:(laidOutB Tryz.pinned.checked.prog)=true:=by kernel_rfl
theorem fact2:(mapsRowed Tryz.pinned.checked.prog)=true:=by kernel_rfl
theorem fact3:(Tryz.f6.params.all (Tryz.pinned.checked.prog.readableRec ·))=true:=by kernel_rfl
theorem fact4:(namedTie Tryz.pinned.checked.prog Rows.yarnTurnsRow.named Rows.yarnTurnsSpec.vars)=true:=by kernel_rfl
theorem fact5:((Rows.yarnTurnsRow.stops==[]))=true:=by kernel_rfl
theorem fact6:((Tryz.pinned.checked.prog.stops==[]))=true:=by kernel_rfl
theorem fact7:((Rows.yarnTurnsRow.knobs==[]))=true:=by kernel_rfl
theorem fact8:((Tryz.pinned.checked.prog.stopKnobs==[]))=true:=by kernel_rfl
theorem fact9:((Rows.yarnTurnsRow.inPlace==Tryz.pinned.checked.prog.inPlace 6))=true:=by kernel_rfl
theorem qqG:((Rows.yarnTurnsRow.unfollowed==Tryz.pinned.checked.prog.unfollowed 6))=true:=by kernel_rfl
theorem qqw:((Rows.yarnTurnsRow.recurses==Tryz.pinned.checked.prog.recurses 6))=true:=by kernel_rfl
theorem qqO:((Rows.yarnTurnsRow.named==Tryz.pinned.checked.prog.varsNamed 6))=true:=by kernel_rfl
theorem qq6:((Rows.yarnTurnsRow.maps==(Tryz.f6.params.toList++Rows.yarnTurnsSpec.plain.varTypes Tryz.pinned.checked.prog).any (Tryz.pinned.checked.prog.mapsRec ·)))=true:=by kernel_rfl
theorem qqF:((Rows.yarnTurnsRow.ifaces==(Tryz.f6.params.toList++Rows.yarnTurnsSpec.plain.varTypes Tryz.pinned.checked.prog).any (Tryz.pinned.checked.prog.ifacesRec ·)))=true:=by kernel_rfl
theorem qqH:((Rows.yarnTurnsRow.mapsOut==Tryz.pinned.checked.prog.mapsAmong Tryz.f6.resultTypes.toList))=true:=by kernel_rfl
theorem qqy:((Rows.yarnTurnsRow.loops==(Tryz.f6.params.toList++Rows.yarnTurnsSpec.plain.varTypes Tryz.pinned.checked.prog).any (Tryz.pinned.checked.prog.loopsFrom ·)))=true:=by kernel_rfl
theorem qqZ:((Rows.yarnTurnsRow.wideKeys==(Tryz.f6.params.toList++Rows.yarnTurnsSpec.plain.varTypes Tryz.pinned.checked.prog++Tryz.f6.resultTypes.toList).any (Tryz.pinned.checked.prog.wideKeysFrom ·)))=true:=by kernel_rfl
theorem qqP:(Rows.yarnTurnsSpec.vars.all (Tryz.pinned.checked.prog.varReadable ·))=true:=by kernel_rfl
theorem qq4:(Tryz.f6.resultTypes.all (fun t=>Tryz.pinned.checked.prog.readableRec t&&decide (t<Tryz.pinned.checked.prog.types.size)))=true:=by kernel_rfl
theorem qq1:((Rows.yarnTurnsRow.ifacesOut==Tryz.f6.resultTypes.toList.any (Tryz.pinned.checked.prog.ifacesRec ·)))=true:=by kernel_rfl
theorem qq7:((Rows.yarnTurnsRow.loopsOut==Tryz.f6.resultTypes.toList.any (Tryz.pinned.checked.prog.loopsFrom ·)))=true:=by kernel_rfl
theorem qqW:((Rows.yarnTurnsRow.plainKeys==Tryz.pinned.checked.prog.plainKeys))=true:=by kernel_rfl
theorem qqp:(Rows.yarnTurnsRow.shortTexts.isNone)=true:=by kernel_rfl
theorem qqN:(Tryz.pinned.checked.prog.stopsHeard)=true:=by kernel_rfl
theorem qq5:(Tryz.pinned.checked.prog.mayEnter)=true:=by kernel_rfl
theorem qqS:((Rows.yarnTurnsRow.lifted==Tryz.pinned.checked.prog.liftsFinal))=true:=by kernel_rfl
theorem qqD:((Tryz.pinned.checked.prog.make==some Rows.yarnTurnsRow.make))=true:=by kernel_rfl
theorem qqU:((Rows.yarnTurnsRow.kinds==(if Rows.yarnTurnsRow.domain.isEmpty then[]else Tryz.f6.params.toList.map fun t=>match Tryz.pinned.checked.prog.underlying t with|some (.int k)=>some k|_=>none)))=true:=by kernel_rfl
theorem qqQ:((Rows.yarnTurnsRow.pinned==Rows.yarnTurnsRow.pinnedBy))=true:=by kernel_rfl
theorem qqL:((Rows.yarnTurnsRow.veiled==(Tryz.f6.params.toList++Rows.yarnTurnsSpec.plain.varTypes Tryz.pinned.checked.prog++Tryz.f6.resultTypes.toList).any (Tryz.pinned.checked.prog.veiledRec ·)))=true:=by kernel_rfl
theorem qqY:(Rows.yarnTurnsRow.veiledFits Tryz.pinned.checked.prog Tryz.f6.params.toList (Tryz.f6.params.toList++Rows.yarnTurnsSpec.plain.varTypes Tryz.pinned.checked.prog++Tryz.f6.resultTypes.toList))=true:=by kernel_rfl
theorem factB:joinedFacts Tryz.pinned.checked.prog 6 Tryz.f6 Rows.yarnTurnsSpec Rows.yarnTurnsRow=true:=by
 unfold joinedFacts
 exact(qaR (qaR (qaR (qaR (qaR (qaR (qaR (qaR (qaR (qaR (qaR (qaR (qaR (qaR (qaR (qaR (qaR (qaR (qaR (qaR (qaR (qaR (qaR (qaR (qaR (qaR (qaR (qaR (qaR (qaR (qaR fact0 fact1) fact2) fact3) fact4) fact5) fact6) fact7) fact8) fact9) qqG) qqw) qqO) qq6) qqF) qqH) qqy) qqZ) qqP) qq4) qq1) qq7) qqW) qqp) qqN) qq5) qqS) qqD) qqU) qqQ) qqL) qqY)
theorem factC:Tryz.f6.isInstance Tryz.pinned.checked.prog Rows.yarnTurnsRow.origin Rows.yarnTurnsRow.targs:=of_decide_eq_true (by kernel_rfl)
theorem factD:Tryz.f6.isWrapper Tryz.pinned.checked.prog Rows.yarnTurnsRow.wrapper Rows.yarnTurnsRow.mainSum:=by unfold Func.isWrapper;first|(rw[if_pos (by decide+kernel)];kernel_rfl)|(rw[if_neg (by decide+kernel)];exact⟨rfl,rfl⟩)
theorem said:Rows.YarnTurnsSaid:=
 OpenClaim.holds_of_wide 6 Tryz.f6 rfl rfl rfl rfl rfl rfl rfl ⟨rfl,rfl,rfl,rfl,rfl⟩ rfl rfl rfl rfl rfl factA Tryz.func6 factB factC factD
  (fun os started H enc _=>lifted os started H enc)
theorem ql8:Tryz.pinned.checked.prog.wantsStandIn 44=false:=by kernel_rfl
theorem qpU:Tryz.pinned.checked.prog.wantsStandIn 64=false:=by kernel_rfl
theorem qqz:true=Tryz.pinned.checked.prog.looks []:=by kernel_rfl
theorem plain (f:FuncId) (fn:Func) (hf:Tryz.pinned.checked.prog.funcNamed "becket/becketlaw02.YarnTurns" =some f) (hfn:Tryz.pinned.checked.prog.funcs[f]? =some fn):
 true=Tryz.pinned.checked.prog.looks []/\ ∀(j:Nat) t,fn.params[j]? =some t->Tryz.pinned.checked.prog.wantsStandIn t=false:=by
 obtain rfl:f=6:=Ye ((show Tryz.prog.funcNamed "becket/becketlaw02.YarnTurns" =some 6 by kernel_rfl).symm.trans hf)|>.symm
 obtain rfl:fn=Tryz.f6:=(Ye (Tryz.func6.symm.trans hfn)).symm
 refine⟨qqz,fun j t ht=>?_⟩
 rw[Tryz.params6]at ht
 have ht:t=44\/t=44\/t=64:=by have:=Array.mem_of_getElem? ht;simpa using this
 rcases ht with rfl|rfl|rfl
 ·exact ql8
 ·exact ql8
 exact qpU
theorem card:Rows.YarnTurnsCardSaid:=
 Claim7.holds_tied_plain_at .later [] _ _ _ _ said (fun _ h=>by cases h) (by kernel_rfl) (fun _ h=>by cases h) yarnTurns_row_tie rfl ⟨rfl,rfl⟩ (by kernel_rfl) rfl plain (by kernel_rfl)
end Go.Av
namespace Go.Proofs.YtlhmomppjidoiaaGreatDoor
theorem yarnTurns_holds:Rows.YarnTurnsCardSaid:=Go.Av.card
end Go.Proofs.YtlhmomppjidoiaaGreatDoor
