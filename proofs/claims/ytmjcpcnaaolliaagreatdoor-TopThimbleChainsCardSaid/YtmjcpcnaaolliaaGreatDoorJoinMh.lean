/-
  It is proved that TopThimbleChains returns true for all inputs. Conditions: those of the given row alone (the listed package variables hold what the program's text lays).
-/
import Derived.Test.YtmjcpcnaaolliaaGreatDoorQGenH
import Derived.Test.YtmjcpcnaaolliaaGreatDoorMhPb
import Derived.Test.YtmjcpcnaaolliaaGreatDoorAvPt
import Derived.Test.YtmjcpcnaaolliaaGreatDoorAvAwkH
import Derived.Test.YtmjcpcnaaolliaaGreatDoorCards
import Derived.Test.YtmjcpcnaaolliaaGreatDoorTie
import Derived.Lay
import Derived.LaidMore
import Derived.LaidSub
import Derived.SevenTiedAt
import Derived.Stop.Joined
import Derived.Lib.LaidTab
import Derived.Lib.ItoaNum
noncomputable section
namespace Go.Av
open Go.Proofs Go.Proofs.YtmjcpcnaaolliaaGreatDoor
open Go.ChangeShapes Go.WideShapes Go.ChangeAt Go.RowKit
set_option linter.unusedSectionVars false
set_option maxRecDepth 100000
theorem ud51:Tryz.prog.underlying 51=some (.array 3 50):=by kernel_rfl
theorem ud4:Tryz.prog.underlying 4=some (.bool):=by kernel_rfl
theorem rd4:zl Tryz.prog 4 qlA:=zl.bool ud4
theorem ud3:Tryz.prog.underlying 3=some (.int .i64):=by kernel_rfl
theorem rd3:zl Tryz.prog 3 encI:=zl.i64 ud3
theorem ud50:Tryz.prog.underlying 50=some (.struct #[{name:= "Length",type:=3,offset:=0,embedded:=false,tag:= "",pkgPath:= "",byteOffset:=0},{name:= "Mass",type:=3,offset:=1,embedded:=false,tag:= "",pkgPath:= "",byteOffset:=8},{name:= "Direct",type:=4,offset:=2,embedded:=false,tag:= "",pkgPath:= "",byteOffset:=16}]):=by kernel_rfl
theorem rd50:zl Tryz.prog 50 qbF:=qbS.struct (fl:=[{name:= "Length",type:=3,offset:=0,embedded:=false,tag:= "",pkgPath:= "",byteOffset:=0},{name:= "Mass",type:=3,offset:=1,embedded:=false,tag:= "",pkgPath:= "",byteOffset:=8},{name:= "Direct",type:=4,offset:=2,embedded:=false,tag:= "",pkgPath:= "",byteOffset:=16}]) ud50 rfl (by kernel_rfl) (fun(x0,x1,x2)=>(⟨x0,x1,x2⟩:qz)) (fun _=>rfl) (qbS.cons rfl (by kernel_rfl) rd3 (qbS.cons rfl (by kernel_rfl) rd3 (qbS.last rfl (by kernel_rfl) rd4)))
theorem rd51:zl Tryz.prog 51 (qbF.prod (qbF.prod qbF)):=zl.arr3 ud51 (by kernel_rfl) (by kernel_rfl) rd50
theorem ud52:Tryz.prog.underlying 52=some (.array 2 22):=by kernel_rfl
theorem ud22:Tryz.prog.underlying 22=some (.string):=by kernel_rfl
theorem rd22:zl Tryz.prog 22 encS:=zl.str ud22
theorem rd52:zl Tryz.prog 52 (encS.prod encS):=zl.arr2 ud52 (by kernel_rfl) (by kernel_rfl) rd22
theorem tyB:Tryz.prog.underlying 4=some .bool:=by kernel_rfl
theorem laidOut:laidOutB Tryz.prog=true:=by kernel_rfl
theorem contract (H:Type) (enc:TypeId×Value->H) (W:World) (base:Nat) (args:Array Value) (ds gs:List (DataW H)) (before:List MemPlace)
 (hval: ∀(j:Nat) t v,Tryz.f5.params[j]? =some t->args[j]? =some v->Value.okWide Tryz.prog W .any base t v)
 (hW:DataW.Whole enc Tryz.prog Tryz.f5.params.toList Rows.topThimbleChainsSpec.vars false W args.toList ds gs before) (hG:Glob.G (AllOf W) W):
 Calls Tryz.prog 5 args W fun e W'=> ∃v,e= .returned v/\Rows.topThimbleChainsSpec.post enc Tryz.prog Tryz.f5 false true false false W args v W':=by
 have hW':=hW
 obtain⟨p,q,hA0,hV,rfl,hfz,hnd⟩:=hW
 have r0:DataW.TrodAll enc Tryz.prog W 0 (fun _=>true) true Tryz.f5.params.toList args.toList ds p:=hA0
 rw[Tryz.params5]at r0 hval
 obtain⟨v0,vs0,d0,ds0,p0,q0,hargs,rfl,rfl,h0,r1⟩:=trodAll_cons r0
 obtain⟨v1,vs1,d1,ds1,p1,q1,rfl,rfl,rfl,h1,r2⟩:=trodAll_cons r1
 obtain⟨v2,vs2,d2,ds2,p2,q2,rfl,rfl,rfl,h2,r3⟩:=trodAll_cons r2
 obtain⟨rfl,rfl,rfl⟩:=trodAll_nil r3
 obtain rfl:args=#[v0,v1,v2]:=by cases args;simp_all
 obtain⟨a0,hu0⟩:=In.arr ud51 rd51 (hval 0 51 v0 rfl rfl) h0
 obtain⟨a1,hu1⟩:=In.arr ud52 rd52 (hval 1 52 v1 rfl rfl) h1
 obtain⟨a2,hu2⟩:=In.str ud22 (hval 2 22 v2 rfl rfl)
 refine ql2 laidOut (fun t ht=>?_) rfl (show Tryz.f5.resultTypes=#[4]from rfl) tyB (fun ds hds=>?_) hW' (enters_of (by kernel_rfl)) (qba 700000 a0 a1 a2 (qcD (N:=700000) (by decide) a0 a1 a2)) hG (al:=[.agg [.i a0.1.Length,.i a0.1.Mass,.bool a0.1.Direct,.i a0.2.1.Length,.i a0.2.1.Mass,.bool a0.2.1.Direct,.i a0.2.2.Length,.i a0.2.2.Mass,.bool a0.2.2.Direct],.agg [.str a1.1,.str a1.2],.str a2]) ⟨rfl,fun i a v ha hv=>?_⟩
 ·rw[Tryz.params5]at ht
  have ht:t=51\/t=52\/t=22:=by simpa using ht
  rcases ht with rfl|rfl|rfl
  ·exact⟨by kernel_rfl,of_decide_eq_true (by kernel_rfl)⟩
  ·exact⟨by kernel_rfl,of_decide_eq_true (by kernel_rfl)⟩
  exact⟨by kernel_rfl,of_decide_eq_true (by kernel_rfl)⟩
 ·rw[Tryz.params5]at hds
  match ds,hds with
  |[d1,d2,d3],_=>exact⟨rfl,rfl,rfl⟩
 match i with
 |0=>simp at ha hv;subst ha hv;exact hu0
 |1=>simp at ha hv;subst ha hv;exact hu1
 |2=>simp at ha hv;subst ha hv;exact hu2
 |i+3=>simp at ha
theorem qne {W:World} (h:laidMetH Tryz.prog Rows.topThimbleChainsRow.laid W):Glob.G (AllOf W) W:=by
 have h1:=h.filter fun x=>x.1==qcN
 have e:(Rows.topThimbleChainsRow.laid.filter fun x=>x.1==qcN)=[(qcN,Lib.tabData .u64 Lib.pow10Tab)]:=by kernel_rfl
 rw[e]at h1
 have h2:laidMet Tryz.prog [(qcN,Lib.tabData .u64 Lib.pow10Tab)] W:=by
  rw[MakeChecks.laidMetH_plain _ _ _ (by kernel_rfl)]at h1
  exact h1
 have ht:Lib.TabIs Tryz.prog W qcN .u64 Lib.pow10Tab:=
  Lib.tabIs_of_head (rest:=[]) (t:=368) (e:=245) (n:=20) qfm (by kernel_rfl) (by kernel_rfl) (by kernel_rfl) (by kernel_rfl) (by kernel_rfl) h2
 refine⟨?_,ht⟩
 unfold Lib.TabIs World.var? at ht
 rw[qfm]at ht
 simp only[ZB]at ht
 show 5<W.heap.size
 rcases Nat.lt_or_ge 5 W.heap.size with h5|h5
 ·exact h5
 rw[Array.getElem?_eq_none h5]at ht
 cases ht
theorem own:ownKnob Tryz.prog.godebug=none:=by kernel_rfl
theorem lifted (os:Os) (started:os.Started) (H:Type) (enc:TypeId×Value->H):
 ReturnsInHanded {} Tryz.checked os 5 .any (fun w args=>(Rows.topThimbleChainsSpec.pre enc Tryz.prog Tryz.f5 Rows.topThimbleChainsRow.domain false w args/\laidMetH Tryz.prog Rows.topThimbleChainsRow.laid w)/\sizedMet enc Tryz.prog Tryz.f5 (OpenSpec.ofChange Rows.topThimbleChainsSpec) false w args)
  (Rows.topThimbleChainsSpec.post enc Tryz.prog Tryz.f5 false true false false):=by
 refine returnsInHanded_of_change_and (C:=Tryz.checked) (X:=fun w _=>laidMetH Tryz.prog Rows.topThimbleChainsRow.laid w) (fun _ _ _ hh h=>h.of_heap hh) own started (by kernel_rfl) Tryz.func5
  (ChangeSpec.witness_shaped (enc:=enc) (C:=Tryz.checked) (os:=os) (X:=fun w _=>laidMetH Tryz.prog Rows.topThimbleChainsRow.laid w) false (World.laidAll Tryz.prog os Rows.topThimbleChainsRow.laid) #[.agg #[.int .i64 0,.int .i64 0,.bool false,.int .i64 0,.int .i64 0,.bool false,.int .i64 0,.int .i64 0,.bool false],.agg #[.string ⟨#[]⟩,.string ⟨#[]⟩],.string ⟨#[]⟩] 8 (World.laidAll_os _ _ _)
   (World.shaped_of_ZipB (by kernel_rfl) (by kernel_rfl)) (by kernel_rfl) (by kernel_rfl) (by kernel_rfl)
   (by rw[MakeChecks.laidMetH_plain _ _ _ (by kernel_rfl)];exact laidMet_laidAll _ (by kernel_rfl) (by kernel_rfl))) ?_
 intro W base args ds gs before hval hW _ _ hL _
 exact contract H enc W base args ds gs before hval hW (qne hL)
theorem factA:Tryz.pinned.checked.prog.funcNamed Rows.topThimbleChainsRow.func=some 5:=by kernel_rfl
theorem fact0:(Rows.topThimbleChainsRow.wf (OpenSpec.ofChange Rows.topThimbleChainsSpec))=true:=by kernel_rfl
theorem fact1:(laidOutB Tryz.pinned.checked.prog)=true:=by kernel_rfl
theorem fact2:(mapsRowed Tryz.pinned.checked.prog)=true:=by kernel_rfl
theorem fact3:(Tryz.f5.params.all (Tryz.pinned.checked.prog.readableRec ·))=true:=by kernel_rfl
theorem fact4:(namedTie Tryz.pinned.checked.prog Rows.topThimbleChainsRow.named Rows.topThimbleChainsSpec.vars)=true:=by kernel_rfl
theorem fact5:((Rows.topThimbleChainsRow.stops==[]))=true:=by kernel_rfl
theorem fact6:((Tryz.pinned.checked.prog.stops==[]))=true:=by kernel_rfl
theorem fact7:((Rows.topThimbleChainsRow.knobs==[]))=true:=by kernel_rfl
theorem fact8:((Tryz.pinned.checked.prog.stopKnobs==[]))=true:=by kernel_rfl
theorem fact9:((Rows.topThimbleChainsRow.inPlace==Tryz.pinned.checked.prog.inPlace 5))=true:=by kernel_rfl
theorem qpK:((Rows.topThimbleChainsRow.unfollowed==Tryz.pinned.checked.prog.unfollowed 5))=true:=by kernel_rfl
theorem qph:((Rows.topThimbleChainsRow.recurses==Tryz.pinned.checked.prog.recurses 5))=true:=by kernel_rfl
theorem qpx:((Rows.topThimbleChainsRow.named==Tryz.pinned.checked.prog.varsNamed 5))=true:=by kernel_rfl
theorem qpp:((Rows.topThimbleChainsRow.maps==(Tryz.f5.params.toList++Rows.topThimbleChainsSpec.plain.varTypes Tryz.pinned.checked.prog).any (Tryz.pinned.checked.prog.mapsRec ·)))=true:=by kernel_rfl
theorem qpu:((Rows.topThimbleChainsRow.ifaces==(Tryz.f5.params.toList++Rows.topThimbleChainsSpec.plain.varTypes Tryz.pinned.checked.prog).any (Tryz.pinned.checked.prog.ifacesRec ·)))=true:=by kernel_rfl
theorem qpd:((Rows.topThimbleChainsRow.mapsOut==Tryz.pinned.checked.prog.mapsAmong Tryz.f5.resultTypes.toList))=true:=by kernel_rfl
theorem qpA:((Rows.topThimbleChainsRow.loops==(Tryz.f5.params.toList++Rows.topThimbleChainsSpec.plain.varTypes Tryz.pinned.checked.prog).any (Tryz.pinned.checked.prog.loopsFrom ·)))=true:=by kernel_rfl
theorem qpG:((Rows.topThimbleChainsRow.wideKeys==(Tryz.f5.params.toList++Rows.topThimbleChainsSpec.plain.varTypes Tryz.pinned.checked.prog++Tryz.f5.resultTypes.toList).any (Tryz.pinned.checked.prog.wideKeysFrom ·)))=true:=by kernel_rfl
theorem qpw:(Rows.topThimbleChainsSpec.vars.all (Tryz.pinned.checked.prog.varReadable ·))=true:=by kernel_rfl
theorem qpq:(Tryz.f5.resultTypes.all (fun t=>Tryz.pinned.checked.prog.readableRec t&&decide (t<Tryz.pinned.checked.prog.types.size)))=true:=by kernel_rfl
theorem qpm:((Rows.topThimbleChainsRow.ifacesOut==Tryz.f5.resultTypes.toList.any (Tryz.pinned.checked.prog.ifacesRec ·)))=true:=by kernel_rfl
theorem qpD:((Rows.topThimbleChainsRow.loopsOut==Tryz.f5.resultTypes.toList.any (Tryz.pinned.checked.prog.loopsFrom ·)))=true:=by kernel_rfl
theorem qpL:((Rows.topThimbleChainsRow.plainKeys==Tryz.pinned.checked.prog.plainKeys))=true:=by kernel_rfl
theorem qpv:(Rows.topThimbleChainsRow.shortTexts.isNone)=true:=by kernel_rfl
theorem qpz:(Tryz.pinned.checked.prog.stopsHeard)=true:=by kernel_rfl
theorem qpr:(Tryz.pinned.checked.prog.mayEnter)=true:=by kernel_rfl
theorem qpy:((Rows.topThimbleChainsRow.lifted==Tryz.pinned.checked.prog.liftsFinal))=true:=by kernel_rfl
theorem qpk:((Tryz.pinned.checked.prog.make==some Rows.topThimbleChainsRow.make))=true:=by kernel_rfl
theorem qpi:((Rows.topThimbleChainsRow.kinds==(if Rows.topThimbleChainsRow.domain.isEmpty then[]else Tryz.f5.params.toList.map fun t=>match Tryz.pinned.checked.prog.underlying t with|some (.int k)=>some k|_=>none)))=true:=by kernel_rfl
theorem qpM:((Rows.topThimbleChainsRow.pinned==Rows.topThimbleChainsRow.pinnedBy))=true:=by kernel_rfl
theorem qpH:((Rows.topThimbleChainsRow.veiled==(Tryz.f5.params.toList++Rows.topThimbleChainsSpec.plain.varTypes Tryz.pinned.checked.prog++Tryz.f5.resultTypes.toList).any (Tryz.pinned.checked.prog.veiledRec ·)))=true:=by kernel_rfl
theorem qpo:(Rows.topThimbleChainsRow.veiledFits Tryz.pinned.checked.prog Tryz.f5.params.toList (Tryz.f5.params.toList++Rows.topThimbleChainsSpec.plain.varTypes Tryz.pinned.checked.prog++Tryz.f5.resultTypes.toList))=true:=by kernel_rfl
theorem factB:joinedFacts Tryz.pinned.checked.prog 5 Tryz.f5 Rows.topThimbleChainsSpec Rows.topThimbleChainsRow=true:=by
 unfold joinedFacts
 exact(qak (qak (qak (qak (qak (qak (qak (qak (qak (qak (qak (qak (qak (qak (qak (qak (qak (qak (qak (qak (qak (qak (qak (qak (qak (qak (qak (qak (qak (qak (qak fact0 fact1) fact2) fact3) fact4) fact5) fact6) fact7) fact8) fact9) qpK) qph) qpx) qpp) qpu) qpd) qpA) qpG) qpw) qpq) qpm) qpD) qpL) qpv) qpz) qpr) qpy) qpk) qpi) qpM) qpH) qpo)
theorem factC:Tryz.f5.isInstance Tryz.pinned.checked.prog Rows.topThimbleChainsRow.origin Rows.topThimbleChainsRow.targs:=of_decide_eq_true (by kernel_rfl)
theorem factD:Tryz.f5.isWrapper Tryz.pinned.checked.prog Rows.topThimbleChainsRow.wrapper Rows.topThimbleChainsRow.mainSum:=by unfold Func.isWrapper;first|(rw[if_pos (by decide+kernel)];kernel_rfl)|(rw[if_neg (by decide+kernel)];exact⟨rfl,rfl⟩)
theorem said:Rows.TopThimbleChainsSaid:=
 OpenClaim.holds_of_wide 5 Tryz.f5 rfl rfl rfl rfl rfl rfl rfl ⟨rfl,rfl,rfl,rfl,rfl⟩ rfl rfl rfl rfl rfl factA Tryz.func5 factB factC factD
  (fun os started H enc _=>lifted os started H enc)
theorem qoW:Tryz.pinned.checked.prog.wantsStandIn 22=false:=by kernel_rfl
theorem qoT:Tryz.pinned.checked.prog.wantsStandIn 51=false:=by kernel_rfl
theorem qoO:Tryz.pinned.checked.prog.wantsStandIn 52=false:=by kernel_rfl
theorem qpl:true=Tryz.pinned.checked.prog.looks []:=by kernel_rfl
theorem plain (f:FuncId) (fn:Func) (hf:Tryz.pinned.checked.prog.funcNamed "becket/beckettop.TopThimbleChains" =some f) (hfn:Tryz.pinned.checked.prog.funcs[f]? =some fn):
 true=Tryz.pinned.checked.prog.looks []/\ ∀(j:Nat) t,fn.params[j]? =some t->Tryz.pinned.checked.prog.wantsStandIn t=false:=by
 obtain rfl:f=5:=Ye ((show Tryz.prog.funcNamed "becket/beckettop.TopThimbleChains" =some 5 by kernel_rfl).symm.trans hf)|>.symm
 obtain rfl:fn=Tryz.f5:=(Ye (Tryz.func5.symm.trans hfn)).symm
 refine⟨qpl,fun j t ht=>?_⟩
 rw[Tryz.params5]at ht
 have ht:t=51\/t=52\/t=22:=by have:=Array.mem_of_getElem? ht;simpa using this
 rcases ht with rfl|rfl|rfl
 ·exact qoT
 ·exact qoO
 exact qoW
theorem card:Rows.TopThimbleChainsCardSaid:=
 Claim7.holds_tied_plain_at .later [] _ _ _ _ said (fun _ h=>by cases h) (by kernel_rfl) (fun _ h=>by cases h) topThimbleChains_row_tie rfl ⟨rfl,rfl⟩ (by kernel_rfl) rfl plain (by kernel_rfl)
end Go.Av
namespace Go.Proofs.YtmjcpcnaaolliaaGreatDoor
theorem topThimbleChains_holds:Rows.TopThimbleChainsCardSaid:=Go.Av.card
end Go.Proofs.YtmjcpcnaaolliaaGreatDoor
