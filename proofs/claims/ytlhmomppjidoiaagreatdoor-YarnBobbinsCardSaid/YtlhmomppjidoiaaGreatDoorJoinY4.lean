/-
  It is proved that YarnBobbins returns true for all inputs. Conditions: those of the given row alone (the listed package variables hold what the program's text lays).
-/
import Derived.Test.YtlhmomppjidoiaaGreatDoorQGenY
import Derived.Test.YtlhmomppjidoiaaGreatDoorMyPb
import Derived.Test.YtlhmomppjidoiaaGreatDoorAvPt
import Derived.Test.YtlhmomppjidoiaaGreatDoorAvAwkY
import Derived.Test.YtlhmomppjidoiaaGreatDoorCards
import Derived.Test.YtlhmomppjidoiaaGreatDoorTie
import Derived.Lay
import Derived.LaidMore
import Derived.LaidSub
import Derived.SevenTiedAt
import Derived.Stop.Joined
import Derived.Lib.LaidTab
import Derived.Lib.ItoaNum
noncomputable section
namespace Go.Av
open Go.Proofs Go.Proofs.YtlhmomppjidoiaaGreatDoor
open Go.ChangeShapes Go.WideShapes Go.ChangeAt Go.RowKit
set_option linter.unusedSectionVars false
set_option maxRecDepth 100000
theorem ud9:Tryz.prog.underlying 9=some (.string):=by kernel_rfl
theorem rd9:vo Tryz.prog 9 encS:=vo.str ud9
theorem ud23:Tryz.prog.underlying 23=some (.slice 67):=by kernel_rfl
theorem ud22:Tryz.prog.underlying 22=some (.string):=by kernel_rfl
theorem rd22:vo Tryz.prog 22 encS:=vo.str ud22
theorem ud67:Tryz.prog.underlying 67=some (.struct #[{name:= "X",type:=22,offset:=0,embedded:=false,tag:= "",pkgPath:= "",byteOffset:=0},{name:= "Y",type:=22,offset:=1,embedded:=false,tag:= "",pkgPath:= "",byteOffset:=16}]):=by kernel_rfl
theorem rd67:vo Tryz.prog 67 qo:=qaA.struct (fl:=[{name:= "X",type:=22,offset:=0,embedded:=false,tag:= "",pkgPath:= "",byteOffset:=0},{name:= "Y",type:=22,offset:=1,embedded:=false,tag:= "",pkgPath:= "",byteOffset:=16}]) ud67 rfl (by kernel_rfl) (fun(x0,x1)=>(⟨x0,x1⟩:xN)) (fun _=>rfl) (qaA.cons rfl (by kernel_rfl) rd22 (qaA.last rfl (by kernel_rfl) rd22))
theorem rd23:vo Tryz.prog 23 (qlV qo):=vo.list ud23 (by kernel_rfl) rd67
theorem ud25:Tryz.prog.underlying 25=some (.struct #[{name:= "Name",type:=9,offset:=0,embedded:=false,tag:= "",pkgPath:= "",byteOffset:=0},{name:= "Density",type:=22,offset:=1,embedded:=false,tag:= "",pkgPath:= "",byteOffset:=16},{name:= "Twist",type:=22,offset:=2,embedded:=false,tag:= "",pkgPath:= "",byteOffset:=32},{name:= "Strength",type:=23,offset:=3,embedded:=false,tag:= "",pkgPath:= "",byteOffset:=48},{name:= "Dye",type:=9,offset:=4,embedded:=false,tag:= "",pkgPath:= "",byteOffset:=72}]):=by kernel_rfl
theorem rd25:vo Tryz.prog 25 qk1:=qaA.struct (fl:=[{name:= "Name",type:=9,offset:=0,embedded:=false,tag:= "",pkgPath:= "",byteOffset:=0},{name:= "Density",type:=22,offset:=1,embedded:=false,tag:= "",pkgPath:= "",byteOffset:=16},{name:= "Twist",type:=22,offset:=2,embedded:=false,tag:= "",pkgPath:= "",byteOffset:=32},{name:= "Strength",type:=23,offset:=3,embedded:=false,tag:= "",pkgPath:= "",byteOffset:=48},{name:= "Dye",type:=9,offset:=4,embedded:=false,tag:= "",pkgPath:= "",byteOffset:=72}]) ud25 rfl (by kernel_rfl) (fun(x0,x1,x2,x3,x4)=>(⟨x0,x1,x2,x3,x4⟩:yH)) (fun _=>rfl) (qaA.cons rfl (by kernel_rfl) rd9 (qaA.cons rfl (by kernel_rfl) rd22 (qaA.cons rfl (by kernel_rfl) rd22 (qaA.cons rfl (by kernel_rfl) rd23 (qaA.last rfl (by kernel_rfl) rd9)))))
theorem ud3:Tryz.prog.underlying 3=some (.int .i64):=by kernel_rfl
theorem tyB:Tryz.prog.underlying 4=some .bool:=by kernel_rfl
theorem laidOut:laidOutB Tryz.prog=true:=by kernel_rfl
theorem contract (H:Type) (enc:TypeId×Value->H) (W:World) (base:Nat) (args:Array Value) (ds gs:List (DataW H)) (before:List MemPlace)
 (hval: ∀(j:Nat) t v,Tryz.f5.params[j]? =some t->args[j]? =some v->Value.okWide Tryz.prog W .any base t v)
 (hW:DataW.Whole enc Tryz.prog Tryz.f5.params.toList Rows.yarnBobbinsSpec.vars false W args.toList ds gs before) (hG:Glob.G (AllOf W) W):
 Calls Tryz.prog 5 args W fun e W'=> ∃v,e= .returned v/\Rows.yarnBobbinsSpec.post enc Tryz.prog Tryz.f5 false true false false W args v W':=by
 have hW':=hW
 obtain⟨p,q,hA0,hV,rfl,hfz,hnd⟩:=hW
 have r0:DataW.TrodAll enc Tryz.prog W 0 (fun _=>true) true Tryz.f5.params.toList args.toList ds p:=hA0
 rw[Tryz.params5]at r0 hval
 obtain⟨v0,vs0,d0,ds0,p0,q0,hargs,rfl,rfl,h0,r1⟩:=trodAll_cons r0
 obtain⟨v1,vs1,d1,ds1,p1,q1,rfl,rfl,rfl,h1,r2⟩:=trodAll_cons r1
 obtain⟨v2,vs2,d2,ds2,p2,q2,rfl,rfl,rfl,h2,r3⟩:=trodAll_cons r2
 obtain⟨rfl,rfl,rfl⟩:=trodAll_nil r3
 obtain rfl:args=#[v0,v1,v2]:=by cases args;simp_all
 obtain⟨a0,hu0⟩:=In.struct ud25 rd25 (hval 0 25 v0 rfl rfl) h0
 obtain⟨a1,hu1⟩:=In.i64 ud3 (hval 1 3 v1 rfl rfl)
 obtain⟨a2,hu2⟩:=In.str ud22 (hval 2 22 v2 rfl rfl)
 refine qnl laidOut (fun t ht=>?_) rfl (show Tryz.f5.resultTypes=#[4]from rfl) tyB (fun ds hds=>?_) hW' (enters_of (by kernel_rfl)) (qei 700000 a0 a1 a2 (qfM (N:=700000) (by decide) a0 a1 a2)) hG (al:=[.agg [.str a0.Name,.str a0.Density,.str a0.Twist,vl qo a0.Strength,.str a0.Dye],.int .i64 a1,.str a2]) ⟨rfl,fun i a v ha hv=>?_⟩
 ·rw[Tryz.params5]at ht
  have ht:t=25\/t=3\/t=22:=by simpa using ht
  rcases ht with rfl|rfl|rfl
  ·exact⟨by kernel_rfl,of_decide_eq_true (by kernel_rfl)⟩
  ·exact⟨by kernel_rfl,of_decide_eq_true (by kernel_rfl)⟩
  exact⟨by kernel_rfl,of_decide_eq_true (by kernel_rfl)⟩
 ·rw[Tryz.params5]at hds
  match ds,hds with
  |[d1,d2,d3],_=>exact⟨rfl,rfl,rfl⟩
 match i with
 |0=>simp at ha hv;subst ha hv;exact hu0
 |1=>simp at ha hv;subst ha hv;exact hu1
 |2=>simp at ha hv;subst ha hv;exact hu2
 |i+3=>simp at ha
theorem qoL {W:World} (h:laidMetH Tryz.prog Rows.yarnBobbinsRow.laid W):Glob.G (AllOf W) W:=by
 have h1:=h.filter fun x=>x.1==qdA
 have e:(Rows.yarnBobbinsRow.laid.filter fun x=>x.1==qdA)=[(qdA,Lib.tabData .u64 Lib.pow10Tab)]:=by kernel_rfl
 rw[e]at h1
 have h2:laidMet Tryz.prog [(qdA,Lib.tabData .u64 Lib.pow10Tab)] W:=by
  rw[MakeChecks.laidMetH_plain _ _ _ (by kernel_rfl)]at h1
  exact h1
 have ht:Lib.TabIs Tryz.prog W qdA .u64 Lib.pow10Tab:=
  Lib.tabIs_of_head (rest:=[]) (t:=337) (e:=227) (n:=20) qf8 (by kernel_rfl) (by kernel_rfl) (by kernel_rfl) (by kernel_rfl) (by kernel_rfl) h2
 refine⟨?_,ht⟩
 unfold Lib.TabIs World.var? at ht
 rw[qf8]at ht
 simp only[ZB]at ht
 show 7<W.heap.size
 rcases Nat.lt_or_ge 7 W.heap.size with h5|h5
 ·exact h5
 rw[Array.getElem?_eq_none h5]at ht
 cases ht
theorem own:ownKnob Tryz.prog.godebug=none:=by kernel_rfl
theorem lifted (os:Os) (started:os.Started) (H:Type) (enc:TypeId×Value->H):
 ReturnsInHanded {} Tryz.checked os 5 .any (fun w args=>(Rows.yarnBobbinsSpec.pre enc Tryz.prog Tryz.f5 Rows.yarnBobbinsRow.domain false w args/\laidMetH Tryz.prog Rows.yarnBobbinsRow.laid w)/\sizedMet enc Tryz.prog Tryz.f5 (OpenSpec.ofChange Rows.yarnBobbinsSpec) false w args)
  (Rows.yarnBobbinsSpec.post enc Tryz.prog Tryz.f5 false true false false):=by
 refine returnsInHanded_of_change_and (C:=Tryz.checked) (X:=fun w _=>laidMetH Tryz.prog Rows.yarnBobbinsRow.laid w) (fun _ _ _ hh h=>h.of_heap hh) own started (by kernel_rfl) Tryz.func5
  (ChangeSpec.witness_shaped (enc:=enc) (C:=Tryz.checked) (os:=os) (X:=fun w _=>laidMetH Tryz.prog Rows.yarnBobbinsRow.laid w) false (World.laidAll Tryz.prog os Rows.yarnBobbinsRow.laid) #[.agg #[.string ⟨#[]⟩,.string ⟨#[]⟩,.string ⟨#[]⟩,.slice none 0 0,.string ⟨#[]⟩],.int .i64 0,.string ⟨#[]⟩] 8 (World.laidAll_os _ _ _)
   (World.shaped_of_ZipB (by kernel_rfl) (by kernel_rfl)) (by kernel_rfl) (by kernel_rfl) (by kernel_rfl)
   (by rw[MakeChecks.laidMetH_plain _ _ _ (by kernel_rfl)];exact laidMet_laidAll _ (by kernel_rfl) (by kernel_rfl))) ?_
 intro W base args ds gs before hval hW _ _ hL _
 exact contract H enc W base args ds gs before hval hW (qoL hL)
theorem factA:Tryz.pinned.checked.prog.funcNamed Rows.yarnBobbinsRow.func=some 5:=by kernel_rfl
theorem fact0:(Rows.yarnBobbinsRow.wf (OpenSpec.ofChange Rows.yarnBobbinsSpec))=true:=by kernel_rfl
theorem fact1:(laidOutB Tryz.pinned.checked.prog)=true:=by kernel_rfl
theorem fact2:(mapsRowed Tryz.pinned.checked.prog)=true:=by kernel_rfl
theorem fact3:(Tryz.f5.params.all (Tryz.pinned.checked.prog.readableRec ·))=true:=by kernel_rfl
theorem fact4:(namedTie Tryz.pinned.checked.prog Rows.yarnBobbinsRow.named Rows.yarnBobbinsSpec.vars)=true:=by kernel_rfl
theorem fact5:((Rows.yarnBobbinsRow.stops==[]))=true:=by kernel_rfl
theorem fact6:((Tryz.pinned.checked.prog.stops==[]))=true:=by kernel_rfl
theorem fact7:((Rows.yarnBobbinsRow.knobs==[]))=true:=by kernel_rfl
theorem fact8:((Tryz.pinned.checked.prog.stopKnobs==[]))=true:=by kernel_rfl
theorem fact9:((Rows.yarnBobbinsRow.inPlace==Tryz.pinned.checked.prog.inPlace 5))=true:=by kernel_rfl
theorem qrf:((Rows.yarnBobbinsRow.unfollowed==Tryz.pinned.checked.prog.unfollowed 5))=true:=by kernel_rfl
theorem qq9:((Rows.yarnBobbinsRow.recurses==Tryz.pinned.checked.prog.recurses 5))=true:=by kernel_rfl
theorem qra:((Rows.yarnBobbinsRow.named==Tryz.pinned.checked.prog.varsNamed 5))=true:=by kernel_rfl
theorem qqU:((Rows.yarnBobbinsRow.maps==(Tryz.f5.params.toList++Rows.yarnBobbinsSpec.plain.varTypes Tryz.pinned.checked.prog).any (Tryz.pinned.checked.prog.mapsRec ·)))=true:=by kernel_rfl
theorem qq1:((Rows.yarnBobbinsRow.ifaces==(Tryz.f5.params.toList++Rows.yarnBobbinsSpec.plain.varTypes Tryz.pinned.checked.prog).any (Tryz.pinned.checked.prog.ifacesRec ·)))=true:=by kernel_rfl
theorem qre:((Rows.yarnBobbinsRow.mapsOut==Tryz.pinned.checked.prog.mapsAmong Tryz.f5.resultTypes.toList))=true:=by kernel_rfl
theorem qqN:((Rows.yarnBobbinsRow.loops==(Tryz.f5.params.toList++Rows.yarnBobbinsSpec.plain.varTypes Tryz.pinned.checked.prog).any (Tryz.pinned.checked.prog.loopsFrom ·)))=true:=by kernel_rfl
theorem qq5:((Rows.yarnBobbinsRow.wideKeys==(Tryz.f5.params.toList++Rows.yarnBobbinsSpec.plain.varTypes Tryz.pinned.checked.prog++Tryz.f5.resultTypes.toList).any (Tryz.pinned.checked.prog.wideKeysFrom ·)))=true:=by kernel_rfl
theorem qqL:(Rows.yarnBobbinsSpec.vars.all (Tryz.pinned.checked.prog.varReadable ·))=true:=by kernel_rfl
theorem qro:(Tryz.f5.resultTypes.all (fun t=>Tryz.pinned.checked.prog.readableRec t&&decide (t<Tryz.pinned.checked.prog.types.size)))=true:=by kernel_rfl
theorem qqW:((Rows.yarnBobbinsRow.ifacesOut==Tryz.f5.resultTypes.toList.any (Tryz.pinned.checked.prog.ifacesRec ·)))=true:=by kernel_rfl
theorem qq8:((Rows.yarnBobbinsRow.loopsOut==Tryz.f5.resultTypes.toList.any (Tryz.pinned.checked.prog.loopsFrom ·)))=true:=by kernel_rfl
theorem qrm:((Rows.yarnBobbinsRow.plainKeys==Tryz.pinned.checked.prog.plainKeys))=true:=by kernel_rfl
theorem qrq:(Rows.yarnBobbinsRow.shortTexts.isNone)=true:=by kernel_rfl
theorem qq2:(Tryz.pinned.checked.prog.stopsHeard)=true:=by kernel_rfl
theorem qq0:(Tryz.pinned.checked.prog.mayEnter)=true:=by kernel_rfl
theorem qqY:((Rows.yarnBobbinsRow.lifted==Tryz.pinned.checked.prog.liftsFinal))=true:=by kernel_rfl
theorem qrl:((Tryz.pinned.checked.prog.make==some Rows.yarnBobbinsRow.make))=true:=by kernel_rfl
theorem qrn:((Rows.yarnBobbinsRow.kinds==(if Rows.yarnBobbinsRow.domain.isEmpty then[]else Tryz.f5.params.toList.map fun t=>match Tryz.pinned.checked.prog.underlying t with|some (.int k)=>some k|_=>none)))=true:=by kernel_rfl
theorem qrk:((Rows.yarnBobbinsRow.pinned==Rows.yarnBobbinsRow.pinnedBy))=true:=by kernel_rfl
theorem qq3:((Rows.yarnBobbinsRow.veiled==(Tryz.f5.params.toList++Rows.yarnBobbinsSpec.plain.varTypes Tryz.pinned.checked.prog++Tryz.f5.resultTypes.toList).any (Tryz.pinned.checked.prog.veiledRec ·)))=true:=by kernel_rfl
theorem qqI:(Rows.yarnBobbinsRow.veiledFits Tryz.pinned.checked.prog Tryz.f5.params.toList (Tryz.f5.params.toList++Rows.yarnBobbinsSpec.plain.varTypes Tryz.pinned.checked.prog++Tryz.f5.resultTypes.toList))=true:=by kernel_rfl
theorem factB:joinedFacts Tryz.pinned.checked.prog 5 Tryz.f5 Rows.yarnBobbinsSpec Rows.yarnBobbinsRow=true:=by
 unfold joinedFacts
 exact(qaP (qaP (qaP (qaP (qaP (qaP (qaP (qaP (qaP (qaP (qaP (qaP (qaP (qaP (qaP (qaP (qaP (qaP (qaP (qaP (qaP (qaP (qaP (qaP (qaP (qaP (qaP (qaP (qaP (qaP (qaP fact0 fact1) fact2) fact3) fact4) fact5) fact6) fact7) fact8) fact9) qrf) qq9) qra) qqU) qq1) qre) qqN) qq5) qqL) qro) qqW) qq8) qrm) qrq) qq2) qq0) qqY) qrl) qrn) qrk) qq3) qqI)
theorem factC:Tryz.f5.isInstance Tryz.pinned.checked.prog Rows.yarnBobbinsRow.origin Rows.yarnBobbinsRow.targs:=of_decide_eq_true (by kernel_rfl)
theorem factD:Tryz.f5.isWrapper Tryz.pinned.checked.prog Rows.yarnBobbinsRow.wrapper Rows.yarnBobbinsRow.mainSum:=by unfold Func.isWrapper;first|(rw[if_pos (by decide+kernel)];kernel_rfl)|(rw[if_neg (by decide+kernel)];exact⟨rfl,rfl⟩)
theorem said:Rows.YarnBobbinsSaid:=
 OpenClaim.holds_of_wide 5 Tryz.f5 rfl rfl rfl rfl rfl rfl rfl ⟨rfl,rfl,rfl,rfl,rfl⟩ rfl rfl rfl rfl rfl factA Tryz.func5 factB factC factD
  (fun os started H enc _=>lifted os started H enc)
theorem qqR:Tryz.pinned.checked.prog.wantsStandIn 3=false:=by kernel_rfl
theorem qqj:Tryz.pinned.checked.prog.wantsStandIn 22=false:=by kernel_rfl
theorem qqf:Tryz.pinned.checked.prog.wantsStandIn 25=false:=by kernel_rfl
theorem qrd:true=Tryz.pinned.checked.prog.looks []:=by kernel_rfl
theorem plain (f:FuncId) (fn:Func) (hf:Tryz.pinned.checked.prog.funcNamed "becket/becketlaw02.YarnBobbins" =some f) (hfn:Tryz.pinned.checked.prog.funcs[f]? =some fn):
 true=Tryz.pinned.checked.prog.looks []/\ ∀(j:Nat) t,fn.params[j]? =some t->Tryz.pinned.checked.prog.wantsStandIn t=false:=by
 obtain rfl:f=5:=Ye ((show Tryz.prog.funcNamed "becket/becketlaw02.YarnBobbins" =some 5 by kernel_rfl).symm.trans hf)|>.symm
 obtain rfl:fn=Tryz.f5:=(Ye (Tryz.func5.symm.trans hfn)).symm
 refine⟨qrd,fun j t ht=>?_⟩
 rw[Tryz.params5]at ht
 have ht:t=25\/t=3\/t=22:=by have:=Array.mem_of_getElem? ht;simpa using this
 rcases ht with rfl|rfl|rfl
 ·exact qqf
 ·exact qqR
 exact qqj
theorem card:Rows.YarnBobbinsCardSaid:=
 Claim7.holds_tied_plain_at .later [] _ _ _ _ said (fun _ h=>by cases h) (by kernel_rfl) (fun _ h=>by cases h) yarnBobbins_row_tie rfl ⟨rfl,rfl⟩ (by kernel_rfl) rfl plain (by kernel_rfl)
end Go.Av
namespace Go.Proofs.YtlhmomppjidoiaaGreatDoor
theorem yarnBobbins_holds:Rows.YarnBobbinsCardSaid:=Go.Av.card
end Go.Proofs.YtlhmomppjidoiaaGreatDoor
