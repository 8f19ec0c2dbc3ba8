/-
  It is proved that YarnTwists returns true for all inputs. Conditions: those of the given row alone (the listed package variables hold what the program's text lays).
-/
import Derived.Test.YtlhmomppjidoiaaGreatDoorQGenY
import Derived.Test.YtlhmomppjidoiaaGreatDoorMyPc
import Derived.Test.YtlhmomppjidoiaaGreatDoorAvPt
import Derived.Test.YtlhmomppjidoiaaGreatDoorAvAwkY
import Derived.Test.YtlhmomppjidoiaaGreatDoorCards
import Derived.Test.YtlhmomppjidoiaaGreatDoorTie
import Derived.Lay
import Derived.LaidMore
import Derived.LaidSub
import Derived.SevenTiedAt
import Derived.Stop.Joined
import Derived.Lib.LaidTab
import Derived.Lib.ItoaNum
noncomputable section
namespace Go.Av
open Go.Proofs Go.Proofs.YtlhmomppjidoiaaGreatDoor
open Go.ChangeShapes Go.WideShapes Go.ChangeAt Go.RowKit
set_option linter.unusedSectionVars false
set_option maxRecDepth 100000
theorem ud9:Tryz.prog.underlying 9=some (.string):=by kernel_rfl
theorem rd9:vw Tryz.prog 9 encS:=vw.str ud9
theorem ud23:Tryz.prog.underlying 23=some (.slice 67):=by kernel_rfl
theorem ud22:Tryz.prog.underlying 22=some (.string):=by kernel_rfl
theorem rd22:vw Tryz.prog 22 encS:=vw.str ud22
theorem ud67:Tryz.prog.underlying 67=some (.struct #[{name:= "X",type:=22,offset:=0,embedded:=false,tag:= "",pkgPath:= "",byteOffset:=0},{name:= "Y",type:=22,offset:=1,embedded:=false,tag:= "",pkgPath:= "",byteOffset:=16}]):=by kernel_rfl
theorem rd67:vw Tryz.prog 67 qc:=qap.struct (fl:=[{name:= "X",type:=22,offset:=0,embedded:=false,tag:= "",pkgPath:= "",byteOffset:=0},{name:= "Y",type:=22,offset:=1,embedded:=false,tag:= "",pkgPath:= "",byteOffset:=16}]) ud67 rfl (by kernel_rfl) (fun(x0,x1)=>(⟨x0,x1⟩:qY)) (fun _=>rfl) (qap.cons rfl (by kernel_rfl) rd22 (qap.last rfl (by kernel_rfl) rd22))
theorem rd23:vw Tryz.prog 23 (qk4 qc):=vw.list ud23 (by kernel_rfl) rd67
theorem ud25:Tryz.prog.underlying 25=some (.struct #[{name:= "Name",type:=9,offset:=0,embedded:=false,tag:= "",pkgPath:= "",byteOffset:=0},{name:= "Density",type:=22,offset:=1,embedded:=false,tag:= "",pkgPath:= "",byteOffset:=16},{name:= "Twist",type:=22,offset:=2,embedded:=false,tag:= "",pkgPath:= "",byteOffset:=32},{name:= "Strength",type:=23,offset:=3,embedded:=false,tag:= "",pkgPath:= "",byteOffset:=48},{name:= "Dye",type:=9,offset:=4,embedded:=false,tag:= "",pkgPath:= "",byteOffset:=72}]):=by kernel_rfl
theorem rd25:vw Tryz.prog 25 qko:=qap.struct (fl:=[{name:= "Name",type:=9,offset:=0,embedded:=false,tag:= "",pkgPath:= "",byteOffset:=0},{name:= "Density",type:=22,offset:=1,embedded:=false,tag:= "",pkgPath:= "",byteOffset:=16},{name:= "Twist",type:=22,offset:=2,embedded:=false,tag:= "",pkgPath:= "",byteOffset:=32},{name:= "Strength",type:=23,offset:=3,embedded:=false,tag:= "",pkgPath:= "",byteOffset:=48},{name:= "Dye",type:=9,offset:=4,embedded:=false,tag:= "",pkgPath:= "",byteOffset:=72}]) ud25 rfl (by kernel_rfl) (fun(x0,x1,x2,x3,x4)=>(⟨x0,x1,x2,x3,x4⟩:qV)) (fun _=>rfl) (qap.cons rfl (by kernel_rfl) rd9 (qap.cons rfl (by kernel_rfl) rd22 (qap.cons rfl (by kernel_rfl) rd22 (qap.cons rfl (by kernel_rfl) rd23 (qap.last rfl (by kernel_rfl) rd9)))))
theorem tyB:Tryz.prog.underlying 4=some .bool:=by kernel_rfl
theorem laidOut:laidOutB Tryz.prog=true:=by kernel_rfl
theorem contract (H:Type) (enc:TypeId×Value->H) (W:World) (base:Nat) (args:Array Value) (ds gs:List (DataW H)) (before:List MemPlace)
 (hval: ∀(j:Nat) t v,Tryz.f3.params[j]? =some t->args[j]? =some v->Value.okWide Tryz.prog W .any base t v)
 (hW:DataW.Whole enc Tryz.prog Tryz.f3.params.toList Rows.yarnTwistsSpec.vars false W args.toList ds gs before) (hG:Glob.G (AllOf W) W):
 Calls Tryz.prog 3 args W fun e W'=> ∃v,e= .returned v/\Rows.yarnTwistsSpec.post enc Tryz.prog Tryz.f3 false true false false W args v W':=by
 have hW':=hW
 obtain⟨p,q,hA0,hV,rfl,hfz,hnd⟩:=hW
 have r0:DataW.TrodAll enc Tryz.prog W 0 (fun _=>true) true Tryz.f3.params.toList args.toList ds p:=hA0
 rw[Tryz.params3]at r0 hval
 obtain⟨v0,vs0,d0,ds0,p0,q0,hargs,rfl,rfl,h0,r1⟩:=trodAll_cons r0
 obtain⟨v1,vs1,d1,ds1,p1,q1,rfl,rfl,rfl,h1,r2⟩:=trodAll_cons r1
 obtain⟨rfl,rfl,rfl⟩:=trodAll_nil r2
 obtain rfl:args=#[v0,v1]:=by cases args;simp_all
 obtain⟨a0,hu0⟩:=In.struct ud25 rd25 (hval 0 25 v0 rfl rfl) h0
 obtain⟨a1,hu1⟩:=In.str ud22 (hval 1 22 v1 rfl rfl)
 refine qms laidOut (fun t ht=>?_) rfl (show Tryz.f3.resultTypes=#[4]from rfl) tyB (fun ds hds=>?_) hW' (enters_of (by kernel_rfl)) (qew 700000 a0 a1 (qfH (N:=700000) (by decide) a0 a1)) hG (al:=[.agg [.str a0.Name,.str a0.Density,.str a0.Twist,vl qc a0.Strength,.str a0.Dye],.str a1]) ⟨rfl,fun i a v ha hv=>?_⟩
 ·rw[Tryz.params3]at ht
  have ht:t=25\/t=22:=by simpa using ht
  rcases ht with rfl|rfl
  ·exact⟨by kernel_rfl,of_decide_eq_true (by kernel_rfl)⟩
  exact⟨by kernel_rfl,of_decide_eq_true (by kernel_rfl)⟩
 ·rw[Tryz.params3]at hds
  match ds,hds with
  |[d1,d2],_=>exact⟨rfl,rfl,rfl⟩
 match i with
 |0=>simp at ha hv;subst ha hv;exact hu0
 |1=>simp at ha hv;subst ha hv;exact hu1
 |i+2=>simp at ha
theorem qng {W:World} (h:laidMetH Tryz.prog Rows.yarnTwistsRow.laid W):Glob.G (AllOf W) W:=by
 have h1:=h.filter fun x=>x.1==qc9
 have e:(Rows.yarnTwistsRow.laid.filter fun x=>x.1==qc9)=[(qc9,Lib.tabData .u64 Lib.pow10Tab)]:=by kernel_rfl
 rw[e]at h1
 have h2:laidMet Tryz.prog [(qc9,Lib.tabData .u64 Lib.pow10Tab)] W:=by
  rw[MakeChecks.laidMetH_plain _ _ _ (by kernel_rfl)]at h1
  exact h1
 have ht:Lib.TabIs Tryz.prog W qc9 .u64 Lib.pow10Tab:=
  Lib.tabIs_of_head (rest:=[]) (t:=337) (e:=227) (n:=20) qfM (by kernel_rfl) (by kernel_rfl) (by kernel_rfl) (by kernel_rfl) (by kernel_rfl) h2
 refine⟨?_,ht⟩
 unfold Lib.TabIs World.var? at ht
 rw[qfM]at ht
 simp only[ZB]at ht
 show 7<W.heap.size
 rcases Nat.lt_or_ge 7 W.heap.size with h5|h5
 ·exact h5
 rw[Array.getElem?_eq_none h5]at ht
 cases ht
theorem own:ownKnob Tryz.prog.godebug=none:=by kernel_rfl
theorem lifted (os:Os) (started:os.Started) (H:Type) (enc:TypeId×Value->H):
 ReturnsInHanded {} Tryz.checked os 3 .any (fun w args=>(Rows.yarnTwistsSpec.pre enc Tryz.prog Tryz.f3 Rows.yarnTwistsRow.domain false w args/\laidMetH Tryz.prog Rows.yarnTwistsRow.laid w)/\sizedMet enc Tryz.prog Tryz.f3 (OpenSpec.ofChange Rows.yarnTwistsSpec) false w args)
  (Rows.yarnTwistsSpec.post enc Tryz.prog Tryz.f3 false true false false):=by
 refine returnsInHanded_of_change_and (C:=Tryz.checked) (X:=fun w _=>laidMetH Tryz.prog Rows.yarnTwistsRow.laid w) (fun _ _ _ hh h=>h.of_heap hh) own started (by kernel_rfl) Tryz.func3
  (ChangeSpec.witness_shaped (enc:=enc) (C:=Tryz.checked) (os:=os) (X:=fun w _=>laidMetH Tryz.prog Rows.yarnTwistsRow.laid w) false (World.laidAll Tryz.prog os Rows.yarnTwistsRow.laid) #[.agg #[.string ⟨#[]⟩,.string ⟨#[]⟩,.string ⟨#[]⟩,.slice none 0 0,.string ⟨#[]⟩],.string ⟨#[]⟩] 8 (World.laidAll_os _ _ _)
   (World.shaped_of_ZipB (by kernel_rfl) (by kernel_rfl)) (by kernel_rfl) (by kernel_rfl) (by kernel_rfl)
   (by rw[MakeChecks.laidMetH_plain _ _ _ (by kernel_rfl)];exact laidMet_laidAll _ (by kernel_rfl) (by kernel_rfl))) ?_
 intro W base args ds gs before hval hW _ _ hL _
 exact contract H enc W base args ds gs before hval hW (qng hL)
theorem factA:Tryz.pinned.checked.prog.funcNamed Rows.yarnTwistsRow.func=some 3:=by kernel_rfl
theorem fact0:(Rows.yarnTwistsRow.wf (OpenSpec.ofChange Rows.yarnTwistsSpec))=true:=by kernel_rfl
theorem fact1:(laidOutB Tryz.pinned.checked.prog)=true:=by kernel_rfl
theorem fact2:(mapsRowed Tryz.pinned.checked.prog)=true:=by kernel_rfl
theorem fact3:(Tryz.f3.params.all (Tryz.pinned.checked.prog.readableRec ·))=true:=by kernel_rfl
theorem fact4:(namedTie Tryz.pinned.checked.prog Rows.yarnTwistsRow.named Rows.yarnTwistsSpec.vars)=true:=by kernel_rfl
theorem fact5:((Rows.yarnTwistsRow.stops==[]))=true:=by kernel_rfl
theorem fact6:((Tryz.pinned.checked.prog.stops==[]))=true:=by kernel_rfl
theorem fact7:((Rows.yarnTwistsRow.knobs==[]))=true:=by kernel_rfl
theorem fact8:((Tryz.pinned.checked.prog.stopKnobs==[]))=true:=by kernel_rfl
theorem fact9:((Rows.yarnTwistsRow.inPlace==Tryz.pinned.checked.prog.inPlace 3))=true:=by kernel_rfl
theorem qqC:((Rows.yarnTwistsRow.unfollowed==Tryz.pinned.checked.prog.unfollowed 3))=true:=by kernel_rfl
theorem qql:((Rows.yarnTwistsRow.recurses==Tryz.pinned.checked.prog.recurses 3))=true:=by kernel_rfl
theorem qqF:((Rows.yarnTwistsRow.named==Tryz.pinned.checked.prog.varsNamed 3))=true:=by kernel_rfl
theorem qqd:((Rows.yarnTwistsRow.maps==(Tryz.f3.params.toList++Rows.yarnTwistsSpec.plain.varTypes Tryz.pinned.checked.prog).any (Tryz.pinned.checked.prog.mapsRec ·)))=true:=by kernel_rfl
theorem qqj:((Rows.yarnTwistsRow.ifaces==(Tryz.f3.params.toList++Rows.yarnTwistsSpec.plain.varTypes Tryz.pinned.checked.prog).any (Tryz.pinned.checked.prog.ifacesRec ·)))=true:=by kernel_rfl
theorem qqB:((Rows.yarnTwistsRow.mapsOut==Tryz.pinned.checked.prog.mapsAmong Tryz.f3.resultTypes.toList))=true:=by kernel_rfl
theorem qqh:((Rows.yarnTwistsRow.loops==(Tryz.f3.params.toList++Rows.yarnTwistsSpec.plain.varTypes Tryz.pinned.checked.prog).any (Tryz.pinned.checked.prog.loopsFrom ·)))=true:=by kernel_rfl
theorem qqg:((Rows.yarnTwistsRow.wideKeys==(Tryz.f3.params.toList++Rows.yarnTwistsSpec.plain.varTypes Tryz.pinned.checked.prog++Tryz.f3.resultTypes.toList).any (Tryz.pinned.checked.prog.wideKeysFrom ·)))=true:=by kernel_rfl
theorem qqi:(Rows.yarnTwistsSpec.vars.all (Tryz.pinned.checked.prog.varReadable ·))=true:=by kernel_rfl
theorem qqG:(Tryz.f3.resultTypes.all (fun t=>Tryz.pinned.checked.prog.readableRec t&&decide (t<Tryz.pinned.checked.prog.types.size)))=true:=by kernel_rfl
theorem qqm:((Rows.yarnTwistsRow.ifacesOut==Tryz.f3.resultTypes.toList.any (Tryz.pinned.checked.prog.ifacesRec ·)))=true:=by kernel_rfl
theorem qqr:((Rows.yarnTwistsRow.loopsOut==Tryz.f3.resultTypes.toList.any (Tryz.pinned.checked.prog.loopsFrom ·)))=true:=by kernel_rfl
theorem qqt:((Rows.yarnTwistsRow.plainKeys==Tryz.pinned.checked.prog.plainKeys))=true:=by kernel_rfl
theorem qqK:(Rows.yarnTwistsRow.shortTexts.isNone)=true:=by kernel_rfl
theorem qqo:(Tryz.pinned.checked.prog.stopsHeard)=true:=by kernel_rfl
theorem qqA:(Tryz.pinned.checked.prog.mayEnter)=true:=by kernel_rfl
theorem qqM:((Rows.yarnTwistsRow.lifted==Tryz.pinned.checked.prog.liftsFinal))=true:=by kernel_rfl
theorem qqP:((Tryz.pinned.checked.prog.make==some Rows.yarnTwistsRow.make))=true:=by kernel_rfl
theorem qqy:((Rows.yarnTwistsRow.kinds==(if Rows.yarnTwistsRow.domain.isEmpty then[]else Tryz.f3.params.toList.map fun t=>match Tryz.pinned.checked.prog.underlying t with|some (.int k)=>some k|_=>none)))=true:=by kernel_rfl
theorem qqE:((Rows.yarnTwistsRow.pinned==Rows.yarnTwistsRow.pinnedBy))=true:=by kernel_rfl
theorem qqI:((Rows.yarnTwistsRow.veiled==(Tryz.f3.params.toList++Rows.yarnTwistsSpec.plain.varTypes Tryz.pinned.checked.prog++Tryz.f3.resultTypes.toList).any (Tryz.pinned.checked.prog.veiledRec ·)))=true:=by kernel_rfl
theorem qqL:(Rows.yarnTwistsRow.veiledFits Tryz.pinned.checked.prog Tryz.f3.params.toList (Tryz.f3.params.toList++Rows.yarnTwistsSpec.plain.varTypes Tryz.pinned.checked.prog++Tryz.f3.resultTypes.toList))=true:=by kernel_rfl
theorem factB:joinedFacts Tryz.pinned.checked.prog 3 Tryz.f3 Rows.yarnTwistsSpec Rows.yarnTwistsRow=true:=by
 unfold joinedFacts
 exact(qaH (qaH (qaH (qaH (qaH (qaH (qaH (qaH (qaH (qaH (qaH (qaH (qaH (qaH (qaH (qaH (qaH (qaH (qaH (qaH (qaH (qaH (qaH (qaH (qaH (qaH (qaH (qaH (qaH (qaH (qaH fact0 fact1) fact2) fact3) fact4) fact5) fact6) fact7) fact8) fact9) qqC) qql) qqF) qqd) qqj) qqB) qqh) qqg) qqi) qqG) qqm) qqr) qqt) qqK) qqo) qqA) qqM) qqP) qqy) qqE) qqI) qqL)
theorem factC:Tryz.f3.isInstance Tryz.pinned.checked.prog Rows.yarnTwistsRow.origin Rows.yarnTwistsRow.targs:=of_decide_eq_true (by kernel_rfl)
theorem factD:Tryz.f3.isWrapper Tryz.pinned.checked.prog Rows.yarnTwistsRow.wrapper Rows.yarnTwistsRow.mainSum:=by unfold Func.isWrapper;first|(rw[if_pos (by decide+kernel)];kernel_rfl)|(rw[if_neg (by decide+kernel)];exact⟨rfl,rfl⟩)
theorem said:Rows.YarnTwistsSaid:=
 OpenClaim.holds_of_wide 3 Tryz.f3 rfl rfl rfl rfl rfl rfl rfl ⟨rfl,rfl,rfl,rfl,rfl⟩ rfl rfl rfl rfl rfl factA Tryz.func3 factB factC factD
  (fun os started H enc _=>lifted os started H enc)
theorem qpA:Tryz.pinned.checked.prog.wantsStandIn 22=false:=by kernel_rfl
theorem qpG:Tryz.pinned.checked.prog.wantsStandIn 25=false:=by kernel_rfl
theorem qqq:true=Tryz.pinned.checked.prog.looks []:=by kernel_rfl
theorem plain (f:FuncId) (fn:Func) (hf:Tryz.pinned.checked.prog.funcNamed "becket/becketlaw02.YarnTwists" =some f) (hfn:Tryz.pinned.checked.prog.funcs[f]? =some fn):
 true=Tryz.pinned.checked.prog.looks []/\ ∀(j:Nat) t,fn.params[j]? =some t->Tryz.pinned.checked.prog.wantsStandIn t=false:=by
 obtain rfl:f=3:=Ye ((show Tryz.prog.funcNamed "becket/becketlaw02.YarnTwists" =some 3 by kernel_rfl).symm.trans hf)|>.symm
 obtain rfl:fn=Tryz.f3:=(Ye (Tryz.func3.symm.trans hfn)).symm
 refine⟨qqq,fun j t ht=>?_⟩
 rw[Tryz.params3]at ht
 have ht:t=25\/t=22:=by have:=Array.mem_of_getElem? ht;simpa using this
 rcases ht with rfl|rfl
 ·exact qpG
 exact qpA
theorem card:Rows.YarnTwistsCardSaid:=
 Claim7.holds_tied_plain_at .later [] _ _ _ _ said (fun _ h=>by cases h) (by kernel_rfl) (fun _ h=>by cases h) yarnTwists_row_tie rfl ⟨rfl,rfl⟩ (by kernel_rfl) rfl plain (by kernel_rfl)
end Go.Av
namespace Go.Proofs.YtlhmomppjidoiaaGreatDoor
theorem yarnTwists_holds:Rows.YarnTwistsCardSaid:=Go.Av.card
end Go.Proofs.YtlhmomppjidoiaaGreatDoor
