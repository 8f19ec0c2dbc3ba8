/-
  It is proved that YarnCounts returns true for all inputs. Conditions: those of the given row alone (the listed package variables hold what the program's text lays).
-/
import Derived.Test.YtlhmomppjidoiaaGreatDoorQGenY
import Derived.Test.YtlhmomppjidoiaaGreatDoorMyPb
import Derived.Test.YtlhmomppjidoiaaGreatDoorAvPt
import Derived.Test.YtlhmomppjidoiaaGreatDoorAvAwkY
import Derived.Test.YtlhmomppjidoiaaGreatDoorCards
import Derived.Test.YtlhmomppjidoiaaGreatDoorTie
import Derived.Lay
import Derived.LaidMore
import Derived.LaidSub
import Derived.SevenTiedAt
import Derived.Stop.Joined
import Derived.Lib.LaidTab
import Derived.Lib.ItoaNum
noncomputable section
namespace Go.Av
open Go.Proofs Go.Proofs.YtlhmomppjidoiaaGreatDoor
open Go.ChangeShapes Go.WideShapes Go.ChangeAt Go.RowKit
set_option linter.unusedSectionVars false
set_option maxRecDepth 100000
theorem ud4:Tryz.prog.underlying 4=some (.bool):=by kernel_rfl
theorem rd4:vI Tryz.prog 4 qlT:=vI.bool ud4
theorem ud3:Tryz.prog.underlying 3=some (.int .i64):=by kernel_rfl
theorem rd3:vI Tryz.prog 3 encI:=vI.i64 ud3
theorem ud44:Tryz.prog.underlying 44=some (.struct #[{name:= "Length",type:=3,offset:=0,embedded:=false,tag:= "",pkgPath:= "",byteOffset:=0},{name:= "Mass",type:=3,offset:=1,embedded:=false,tag:= "",pkgPath:= "",byteOffset:=8},{name:= "Direct",type:=4,offset:=2,embedded:=false,tag:= "",pkgPath:= "",byteOffset:=16}]):=by kernel_rfl
theorem rd44:vI Tryz.prog 44 qfV:=qbo.struct (fl:=[{name:= "Length",type:=3,offset:=0,embedded:=false,tag:= "",pkgPath:= "",byteOffset:=0},{name:= "Mass",type:=3,offset:=1,embedded:=false,tag:= "",pkgPath:= "",byteOffset:=8},{name:= "Direct",type:=4,offset:=2,embedded:=false,tag:= "",pkgPath:= "",byteOffset:=16}]) ud44 rfl (by kernel_rfl) (fun(x0,x1,x2)=>(⟨x0,x1,x2⟩:qz)) (fun _=>rfl) (qbo.cons rfl (by kernel_rfl) rd3 (qbo.cons rfl (by kernel_rfl) rd3 (qbo.last rfl (by kernel_rfl) rd4)))
theorem ud22:Tryz.prog.underlying 22=some (.string):=by kernel_rfl
theorem tyB:Tryz.prog.underlying 4=some .bool:=by kernel_rfl
theorem laidOut:laidOutB Tryz.prog=true:=by kernel_rfl
theorem contract (H:Type) (enc:TypeId×Value->H) (W:World) (base:Nat) (args:Array Value) (ds gs:List (DataW H)) (before:List MemPlace)
 (hval: ∀(j:Nat) t v,Tryz.f4.params[j]? =some t->args[j]? =some v->Value.okWide Tryz.prog W .any base t v)
 (hW:DataW.Whole enc Tryz.prog Tryz.f4.params.toList Rows.yarnCountsSpec.vars false W args.toList ds gs before) (hG:Glob.G (AllOf W) W):
 Calls Tryz.prog 4 args W fun e W'=> ∃v,e= .returned v/\Rows.yarnCountsSpec.post enc Tryz.prog Tryz.f4 false true false false W args v W':=by
 have hW':=hW
 obtain⟨p,q,hA0,hV,rfl,hfz,hnd⟩:=hW
 have r0:DataW.TrodAll enc Tryz.prog W 0 (fun _=>true) true Tryz.f4.params.toList args.toList ds p:=hA0
 rw[Tryz.params4]at r0 hval
 obtain⟨v0,vs0,d0,ds0,p0,q0,hargs,rfl,rfl,h0,r1⟩:=trodAll_cons r0
 obtain⟨v1,vs1,d1,ds1,p1,q1,rfl,rfl,rfl,h1,r2⟩:=trodAll_cons r1
 obtain⟨v2,vs2,d2,ds2,p2,q2,rfl,rfl,rfl,h2,r3⟩:=trodAll_cons r2
 obtain⟨rfl,rfl,rfl⟩:=trodAll_nil r3
 obtain rfl:args=#[v0,v1,v2]:=by cases args;simp_all
 obtain⟨a0,hu0⟩:=In.struct ud44 rd44 (hval 0 44 v0 rfl rfl) h0
 obtain⟨a1,hu1⟩:=In.struct ud44 rd44 (hval 1 44 v1 rfl rfl) h1
 obtain⟨a2,hu2⟩:=In.str ud22 (hval 2 22 v2 rfl rfl)
 refine qlQ laidOut (fun t ht=>?_) rfl (show Tryz.f4.resultTypes=#[4]from rfl) tyB (fun ds hds=>?_) hW' (enters_of (by kernel_rfl)) (qdO 700000 a0 a1 a2 (qfd (N:=700000) (by decide) a0 a1 a2)) hG (al:=[.agg [.i a0.Length,.i a0.Mass,.bool a0.Direct],.agg [.i a1.Length,.i a1.Mass,.bool a1.Direct],.str a2]) ⟨rfl,fun i a v ha hv=>?_⟩
 ·rw[Tryz.params4]at ht
  have ht:t=44\/t=44\/t=22:=by simpa using ht
  rcases ht with rfl|rfl|rfl
  ·exact⟨by kernel_rfl,of_decide_eq_true (by kernel_rfl)⟩
  ·exact⟨by kernel_rfl,of_decide_eq_true (by kernel_rfl)⟩
  exact⟨by kernel_rfl,of_decide_eq_true (by kernel_rfl)⟩
 ·rw[Tryz.params4]at hds
  match ds,hds with
  |[d1,d2,d3],_=>exact⟨rfl,rfl,rfl⟩
 match i with
 |0=>simp at ha hv;subst ha hv;exact hu0
 |1=>simp at ha hv;subst ha hv;exact hu1
 |2=>simp at ha hv;subst ha hv;exact hu2
 |i+3=>simp at ha
theorem qna {W:World} (h:laidMetH Tryz.prog Rows.yarnCountsRow.laid W):Glob.G (AllOf W) W:=by
 have h1:=h.filter fun x=>x.1==qcr
 have e:(Rows.yarnCountsRow.laid.filter fun x=>x.1==qcr)=[(qcr,Lib.tabData .u64 Lib.pow10Tab)]:=by kernel_rfl
 rw[e]at h1
 have h2:laidMet Tryz.prog [(qcr,Lib.tabData .u64 Lib.pow10Tab)] W:=by
  rw[MakeChecks.laidMetH_plain _ _ _ (by kernel_rfl)]at h1
  exact h1
 have ht:Lib.TabIs Tryz.prog W qcr .u64 Lib.pow10Tab:=
  Lib.tabIs_of_head (rest:=[]) (t:=337) (e:=227) (n:=20) qeY (by kernel_rfl) (by kernel_rfl) (by kernel_rfl) (by kernel_rfl) (by kernel_rfl) h2
 refine⟨?_,ht⟩
 unfold Lib.TabIs World.var? at ht
 rw[qeY]at ht
 simp only[ZB]at ht
 show 7<W.heap.size
 rcases Nat.lt_or_ge 7 W.heap.size with h5|h5
 ·exact h5
 rw[Array.getElem?_eq_none h5]at ht
 cases ht
theorem own:ownKnob Tryz.prog.godebug=none:=by kernel_rfl
theorem lifted (os:Os) (started:os.Started) (H:Type) (enc:TypeId×Value->H):
 ReturnsInHanded {} Tryz.checked os 4 .any (fun w args=>(Rows.yarnCountsSpec.pre enc Tryz.prog Tryz.f4 Rows.yarnCountsRow.domain false w args/\laidMetH Tryz.prog Rows.yarnCountsRow.laid w)/\sizedMet enc Tryz.prog Tryz.f4 (OpenSpec.ofChange Rows.yarnCountsSpec) false w args)
  (Rows.yarnCountsSpec.post enc Tryz.prog Tryz.f4 false true false false):=by
 refine returnsInHanded_of_change_and (C:=Tryz.checked) (X:=fun w _=>laidMetH Tryz.prog Rows.yarnCountsRow.laid w) (fun _ _ _ hh h=>h.of_heap hh) own started (by kernel_rfl) Tryz.func4
  (ChangeSpec.witness_shaped (enc:=enc) (C:=Tryz.checked) (os:=os) (X:=fun w _=>laidMetH Tryz.prog Rows.yarnCountsRow.laid w) false (World.laidAll Tryz.prog os Rows.yarnCountsRow.laid) #[.agg #[.int .i64 0,.int .i64 0,.bool false],.agg #[.int .i64 0,.int .i64 0,.bool false],.string ⟨#[]⟩] 8 (World.laidAll_os _ _ _)
   (World.shaped_of_ZipB (by kernel_rfl) (by kernel_rfl)) (by kernel_rfl) (by kernel_rfl) (by kernel_rfl)
   (by rw[MakeChecks.laidMetH_plain _ _ _ (by kernel_rfl)];exact laidMet_laidAll _ (by kernel_rfl) (by kernel_rfl))) ?_
 intro W base args ds gs before hval hW _ _ hL _
 exact contract H enc W base args ds gs before hval hW (qna hL)
theorem factA:Tryz.pinned.checked.prog.funcNamed Rows.yarnCountsRow.func=some 4:=by kernel_rfl
theorem fact0:(Rows.yarnCountsRow.wf (OpenSpec.ofChange Rows.yarnCountsSpec))=true:=by kernel_rfl
theorem fact1:(laidOutB Tryz.pinned.checked.prog)=true:=by kernel_rfl
theorem fact2:(mapsRowed Tryz.pinned.checked.prog)=true:=by kernel_rfl
theorem fact3:(Tryz.f4.params.all (Tryz.pinned.checked.prog.readableRec ·))=true:=by kernel_rfl
theorem fact4:(namedTie Tryz.pinned.checked.prog Rows.yarnCountsRow.named Rows.yarnCountsSpec.vars)=true:=by kernel_rfl
theorem fact5:((Rows.yarnCountsRow.stops==[]))=true:=by kernel_rfl
theorem fact6:((Tryz.pinned.checked.prog.stops==[]))=true:=by kernel_rfl
theorem fact7:((Rows.yarnCountsRow.knobs==[]))=true:=by kernel_rfl
theorem fact8:((Tryz.pinned.checked.prog.stopKnobs==[]))=true:=by kernel_rfl
theorem fact9:((Rows.yarnCountsRow.inPlace==Tryz.pinned.checked.prog.inPlace 4))=true:=by kernel_rfl
theorem qpc:((Rows.yarnCountsRow.unfollowed==Tryz.pinned.checked.prog.unfollowed 4))=true:=by kernel_rfl
theorem qpu:((Rows.yarnCountsRow.recurses==Tryz.pinned.checked.prog.recurses 4))=true:=by kernel_rfl
theorem qoQ:((Rows.yarnCountsRow.named==Tryz.pinned.checked.prog.varsNamed 4))=true:=by kernel_rfl
theorem qoY:((Rows.yarnCountsRow.maps==(Tryz.f4.params.toList++Rows.yarnCountsSpec.plain.varTypes Tryz.pinned.checked.prog).any (Tryz.pinned.checked.prog.mapsRec ·)))=true:=by kernel_rfl
theorem qpq:((Rows.yarnCountsRow.ifaces==(Tryz.f4.params.toList++Rows.yarnCountsSpec.plain.varTypes Tryz.pinned.checked.prog).any (Tryz.pinned.checked.prog.ifacesRec ·)))=true:=by kernel_rfl
theorem qpk:((Rows.yarnCountsRow.mapsOut==Tryz.pinned.checked.prog.mapsAmong Tryz.f4.resultTypes.toList))=true:=by kernel_rfl
theorem qoW:((Rows.yarnCountsRow.loops==(Tryz.f4.params.toList++Rows.yarnCountsSpec.plain.varTypes Tryz.pinned.checked.prog).any (Tryz.pinned.checked.prog.loopsFrom ·)))=true:=by kernel_rfl
theorem qps:((Rows.yarnCountsRow.wideKeys==(Tryz.f4.params.toList++Rows.yarnCountsSpec.plain.varTypes Tryz.pinned.checked.prog++Tryz.f4.resultTypes.toList).any (Tryz.pinned.checked.prog.wideKeysFrom ·)))=true:=by kernel_rfl
theorem qpf:(Rows.yarnCountsSpec.vars.all (Tryz.pinned.checked.prog.varReadable ·))=true:=by kernel_rfl
theorem qpd:(Tryz.f4.resultTypes.all (fun t=>Tryz.pinned.checked.prog.readableRec t&&decide (t<Tryz.pinned.checked.prog.types.size)))=true:=by kernel_rfl
theorem qoU:((Rows.yarnCountsRow.ifacesOut==Tryz.f4.resultTypes.toList.any (Tryz.pinned.checked.prog.ifacesRec ·)))=true:=by kernel_rfl
theorem qpj:((Rows.yarnCountsRow.loopsOut==Tryz.f4.resultTypes.toList.any (Tryz.pinned.checked.prog.loopsFrom ·)))=true:=by kernel_rfl
theorem qpm:((Rows.yarnCountsRow.plainKeys==Tryz.pinned.checked.prog.plainKeys))=true:=by kernel_rfl
theorem qo6:(Rows.yarnCountsRow.shortTexts.isNone)=true:=by kernel_rfl
theorem qo3:(Tryz.pinned.checked.prog.stopsHeard)=true:=by kernel_rfl
theorem qo4:(Tryz.pinned.checked.prog.mayEnter)=true:=by kernel_rfl
theorem qpv:((Rows.yarnCountsRow.lifted==Tryz.pinned.checked.prog.liftsFinal))=true:=by kernel_rfl
theorem qoS:((Tryz.pinned.checked.prog.make==some Rows.yarnCountsRow.make))=true:=by kernel_rfl
theorem qpb:((Rows.yarnCountsRow.kinds==(if Rows.yarnCountsRow.domain.isEmpty then[]else Tryz.f4.params.toList.map fun t=>match Tryz.pinned.checked.prog.underlying t with|some (.int k)=>some k|_=>none)))=true:=by kernel_rfl
theorem qo5:((Rows.yarnCountsRow.pinned==Rows.yarnCountsRow.pinnedBy))=true:=by kernel_rfl
theorem qo7:((Rows.yarnCountsRow.veiled==(Tryz.f4.params.toList++Rows.yarnCountsSpec.plain.varTypes Tryz.pinned.checked.prog++Tryz.f4.resultTypes.toList).any (Tryz.pinned.checked.prog.veiledRec ·)))=true:=by kernel_rfl
theorem qoZ:(Rows.yarnCountsRow.veiledFits Tryz.pinned.checked.prog Tryz.f4.params.toList (Tryz.f4.params.toList++Rows.yarnCountsSpec.plain.varTypes Tryz.pinned.checked.prog++Tryz.f4.resultTypes.toList))=true:=by kernel_rfl
theorem factB:joinedFacts Tryz.pinned.checked.prog 4 Tryz.f4 Rows.yarnCountsSpec Rows.yarnCountsRow=true:=by
 unfold joinedFacts
 exact(xU (xU (xU (xU (xU (xU (xU (xU (xU (xU (xU (xU (xU (xU (xU (xU (xU (xU (xU (xU (xU (xU (xU (xU (xU (xU (xU (xU (xU (xU (xU fact0 fact1) fact2) fact3) fact4) fact5) fact6) fact7) fact8) fact9) qpc) qpu) qoQ) qoY) qpq) qpk) qoW) qps) qpf) qpd) qoU) qpj) qpm) qo6) qo3) qo4) qpv) qoS) qpb) qo5) qo7) qoZ)
theorem factC:Tryz.f4.isInstance Tryz.pinned.checked.prog Rows.yarnCountsRow.origin Rows.yarnCountsRow.targs:=of_decide_eq_true (by kernel_rfl)
theorem factD:Tryz.f4.isWrapper Tryz.pinned.checked.prog Rows.yarnCountsRow.wrapper Rows.yarnCountsRow.mainSum:=by unfold Func.isWrapper;first|(rw[if_pos (by decide+kernel)];kernel_rfl)|(rw[if_neg (by decide+kernel)];exact⟨rfl,rfl⟩)
theorem said:Rows.YarnCountsSaid:=
 OpenClaim.holds_of_wide 4 Tryz.f4 rfl rfl rfl rfl rfl rfl rfl ⟨rfl,rfl,rfl,rfl,rfl⟩ rfl rfl rfl rfl rfl factA Tryz.func4 factB factC factD
  (fun os started H enc _=>lifted os started H enc)
theorem qor:Tryz.pinned.checked.prog.wantsStandIn 22=false:=by kernel_rfl
theorem qkI:Tryz.pinned.checked.prog.wantsStandIn 44=false:=by kernel_rfl
theorem qoP:true=Tryz.pinned.checked.prog.looks []:=by kernel_rfl
theorem plain (f:FuncId) (fn:Func) (hf:Tryz.pinned.checked.prog.funcNamed "becket/becketlaw02.YarnCounts" =some f) (hfn:Tryz.pinned.checked.prog.funcs[f]? =some fn):
 true=Tryz.pinned.checked.prog.looks []/\ ∀(j:Nat) t,fn.params[j]? =some t->Tryz.pinned.checked.prog.wantsStandIn t=false:=by
 obtain rfl:f=4:=Ye ((show Tryz.prog.funcNamed "becket/becketlaw02.YarnCounts" =some 4 by kernel_rfl).symm.trans hf)|>.symm
 obtain rfl:fn=Tryz.f4:=(Ye (Tryz.func4.symm.trans hfn)).symm
 refine⟨qoP,fun j t ht=>?_⟩
 rw[Tryz.params4]at ht
 have ht:t=44\/t=44\/t=22:=by have:=Array.mem_of_getElem? ht;simpa using this
 rcases ht with rfl|rfl|rfl
 ·exact qkI
 ·exact qkI
 exact qor
theorem card:Rows.YarnCountsCardSaid:=
 Claim7.holds_tied_plain_at .later [] _ _ _ _ said (fun _ h=>by cases h) (by kernel_rfl) (fun _ h=>by cases h) yarnCounts_row_tie rfl ⟨rfl,rfl⟩ (by kernel_rfl) rfl plain (by kernel_rfl)
end Go.Av
namespace Go.Proofs.YtlhmomppjidoiaaGreatDoor
theorem yarnCounts_holds:Rows.YarnCountsCardSaid:=Go.Av.card
end Go.Proofs.YtlhmomppjidoiaaGreatDoor
