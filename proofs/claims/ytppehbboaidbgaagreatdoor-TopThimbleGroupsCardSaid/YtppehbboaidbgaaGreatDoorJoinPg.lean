/-
  It is proved that TopThimbleGroups returns true for all inputs. Conditions: those of the given row alone (the listed package variables hold what the program's text lays).
-/
import Derived.Test.YtppehbboaidbgaaGreatDoorQGenU
import Derived.Test.YtppehbboaidbgaaGreatDoorMvPc
import Derived.Test.YtppehbboaidbgaaGreatDoorAvPt
import Derived.Test.YtppehbboaidbgaaGreatDoorAvAwkU
import Derived.Test.YtppehbboaidbgaaGreatDoorCards
import Derived.Test.YtppehbboaidbgaaGreatDoorTie
import Derived.Lay
import Derived.LaidMore
import Derived.LaidSub
import Derived.SevenTiedAt
import Derived.Stop.Joined
import Derived.Lib.LaidTab
import Derived.Lib.ItoaNum
noncomputable section
namespace Go.Av
open Go.Proofs Go.Proofs.YtppehbboaidbgaaGreatDoor
open Go.ChangeShapes Go.WideShapes Go.ChangeAt Go.RowKit
set_option linter.unusedSectionVars false
set_option maxRecDepth 100000
theorem ud22:Tryz.prog.underlying 22=some (.slice 32):=by kernel_rfl
theorem ud9:Tryz.prog.underlying 9=some (.string):=by kernel_rfl
theorem rd9:jC Tryz.prog 9 encS:=jC.str ud9
theorem ud30:Tryz.prog.underlying 30=some (.slice 45):=by kernel_rfl
theorem ud23:Tryz.prog.underlying 23=some (.string):=by kernel_rfl
theorem qoK:jC Tryz.prog 23 encS:=jC.str ud23
theorem ud45:Tryz.prog.underlying 45=some (.struct #[{name:= "X",type:=23,offset:=0,embedded:=false,tag:= "",pkgPath:= "",byteOffset:=0},{name:= "Y",type:=23,offset:=1,embedded:=false,tag:= "",pkgPath:= "",byteOffset:=16}]):=by kernel_rfl
theorem rd45:jC Tryz.prog 45 qh:=qa3.struct (fl:=[{name:= "X",type:=23,offset:=0,embedded:=false,tag:= "",pkgPath:= "",byteOffset:=0},{name:= "Y",type:=23,offset:=1,embedded:=false,tag:= "",pkgPath:= "",byteOffset:=16}]) ud45 rfl (by kernel_rfl) (fun(x0,x1)=>(⟨x0,x1⟩:zD)) (fun _=>rfl) (qa3.cons rfl (by kernel_rfl) qoK (qa3.last rfl (by kernel_rfl) qoK))
theorem rd30:jC Tryz.prog 30 (qmD qh):=jC.list ud30 (by kernel_rfl) rd45
theorem ud32:Tryz.prog.underlying 32=some (.struct #[{name:= "Name",type:=9,offset:=0,embedded:=false,tag:= "",pkgPath:= "",byteOffset:=0},{name:= "Density",type:=23,offset:=1,embedded:=false,tag:= "",pkgPath:= "",byteOffset:=16},{name:= "Twist",type:=23,offset:=2,embedded:=false,tag:= "",pkgPath:= "",byteOffset:=32},{name:= "Strength",type:=30,offset:=3,embedded:=false,tag:= "",pkgPath:= "",byteOffset:=48},{name:= "Dye",type:=9,offset:=4,embedded:=false,tag:= "",pkgPath:= "",byteOffset:=72}]):=by kernel_rfl
theorem rd32:jC Tryz.prog 32 qf:=qa3.struct (fl:=[{name:= "Name",type:=9,offset:=0,embedded:=false,tag:= "",pkgPath:= "",byteOffset:=0},{name:= "Density",type:=23,offset:=1,embedded:=false,tag:= "",pkgPath:= "",byteOffset:=16},{name:= "Twist",type:=23,offset:=2,embedded:=false,tag:= "",pkgPath:= "",byteOffset:=32},{name:= "Strength",type:=30,offset:=3,embedded:=false,tag:= "",pkgPath:= "",byteOffset:=48},{name:= "Dye",type:=9,offset:=4,embedded:=false,tag:= "",pkgPath:= "",byteOffset:=72}]) ud32 rfl (by kernel_rfl) (fun(x0,x1,x2,x3,x4)=>(⟨x0,x1,x2,x3,x4⟩:qw)) (fun _=>rfl) (qa3.cons rfl (by kernel_rfl) rd9 (qa3.cons rfl (by kernel_rfl) qoK (qa3.cons rfl (by kernel_rfl) qoK (qa3.cons rfl (by kernel_rfl) rd30 (qa3.last rfl (by kernel_rfl) rd9)))))
theorem ud53:Tryz.prog.underlying 53=some (.array 2 23):=by kernel_rfl
theorem rd53:jC Tryz.prog 53 (encS.prod encS):=jC.arr2 ud53 (by kernel_rfl) (by kernel_rfl) qoK
theorem tyB:Tryz.prog.underlying 4=some .bool:=by kernel_rfl
theorem laidOut:laidOutB Tryz.prog=true:=by kernel_rfl
theorem contract (H:Type) (enc:TypeId×Value->H) (W:World) (base:Nat) (args:Array Value) (ds gs:List (DataW H)) (before:List MemPlace)
 (hval: ∀(j:Nat) t v,Tryz.f5.params[j]? =some t->args[j]? =some v->Value.okWide Tryz.prog W .any base t v)
 (hW:DataW.Whole enc Tryz.prog Tryz.f5.params.toList Rows.topThimbleGroupsSpec.vars false W args.toList ds gs before) (hG:Glob.G (AllOf W) W):
 Calls Tryz.prog 5 args W fun e W'=> ∃v,e= .returned v/\Rows.topThimbleGroupsSpec.post enc Tryz.prog Tryz.f5 false true false false W args v W':=by
 have hW':=hW;obtain⟨p,q,hA0,hV,rfl,hfz,hnd⟩:=hW;have r0:DataW.TrodAll enc Tryz.prog W 0 (fun _=>true) true Tryz.f5.params.toList args.toList ds p:=hA0;rw[Tryz.params5]at r0 hval;obtain⟨v0,vs0,d0,ds0,p0,q0,hargs,rfl,rfl,h0,r1⟩:=trodAll_cons r0;obtain⟨v1,vs1,d1,ds1,p1,q1,rfl,rfl,rfl,h1,r2⟩:=trodAll_cons r1;obtain⟨v2,vs2,d2,ds2,p2,q2,rfl,rfl,rfl,h2,r3⟩:=trodAll_cons r2;obtain⟨rfl,rfl,rfl⟩:=trodAll_nil r3
 obtain rfl:args=#[v0,v1,v2]:=by cases args;simp_all
 obtain⟨a0,hu0⟩:=In.list ud22 (by kernel_rfl) rd32 (hval 0 22 v0 rfl rfl) h0;obtain⟨a1,hu1⟩:=In.list ud22 (by kernel_rfl) rd32 (hval 1 22 v1 rfl rfl) h1;obtain⟨a2,hu2⟩:=In.arr ud53 rd53 (hval 2 53 v2 rfl rfl) h2;refine qn8 laidOut (fun t ht=>?_) rfl (show Tryz.f5.resultTypes=#[4]from rfl) tyB (fun ds hds=>?_) hW' (enters_of (by kernel_rfl)) (qb8 700000 a0 a1 a2 (qep (N:=700000) (by decide) a0 a1 a2)) hG (al:=[vl qf a0,vl qf a1,.agg [.str a2.1,.str a2.2]]) ⟨rfl,fun i a v ha hv=>?_⟩
 ·rw[Tryz.params5]at ht
  have ht:t=22\/t=22\/t=53:=by simpa using ht
  rcases ht with rfl|rfl|rfl
  ·exact⟨by kernel_rfl,of_decide_eq_true (by kernel_rfl)⟩
  ·exact⟨by kernel_rfl,of_decide_eq_true (by kernel_rfl)⟩
  exact⟨by kernel_rfl,of_decide_eq_true (by kernel_rfl)⟩
 ·rw[Tryz.params5]at hds
  match ds,hds with
  |[d1,d2,d3],_=>exact⟨rfl,rfl,rfl⟩
 match i with
 |0=>simp at ha hv;subst ha hv;exact hu0
 |1=>simp at ha hv;subst ha hv;exact hu1
 |2=>simp at ha hv;subst ha hv;exact hu2
 |i+3=>simp at ha
theorem qon {W:World} (h:laidMetH Tryz.prog Rows.topThimbleGroupsRow.laid W):Glob.G (AllOf W) W:=by
 have h1:=h.filter fun x=>x.1==qec
 have e:(Rows.topThimbleGroupsRow.laid.filter fun x=>x.1==qec)=[(qec,Lib.tabData .u64 Lib.pow10Tab)]:=by kernel_rfl
 rw[e]at h1
 have h2:laidMet Tryz.prog [(qec,Lib.tabData .u64 Lib.pow10Tab)] W:=by
  rw[MakeChecks.laidMetH_plain _ _ _ (by kernel_rfl)]at h1;exact h1
 have ht:Lib.TabIs Tryz.prog W qec .u64 Lib.pow10Tab:=
  Lib.tabIs_of_head (rest:=[]) (t:=339) (e:=222) (n:=20) qg1 (by kernel_rfl) (by kernel_rfl) (by kernel_rfl) (by kernel_rfl) (by kernel_rfl) h2
 refine⟨?_,ht⟩;unfold Lib.TabIs World.var? at ht;rw[qg1]at ht;simp only[ZB]at ht;show 7<W.heap.size;rcases Nat.lt_or_ge 7 W.heap.size with h5|h5
 ·exact h5
 rw[Array.getElem?_eq_none h5]at ht;cases ht
theorem own:ownKnob Tryz.prog.godebug=none:=by kernel_rfl
theorem lifted (os:Os) (started:os.Started) (H:Type) (enc:TypeId×Value->H):
 ReturnsInHanded {} Tryz.checked os 5 .any (fun w args=>(Rows.topThimbleGroupsSpec.pre enc Tryz.prog Tryz.f5 Rows.topThimbleGroupsRow.domain false w args/\laidMetH Tryz.prog Rows.topThimbleGroupsRow.laid w)/\sizedMet enc Tryz.prog Tryz.f5 (OpenSpec.ofChange Rows.topThimbleGroupsSpec) false w args)
  (Rows.topThimbleGroupsSpec.post enc Tryz.prog Tryz.f5 false true false false):=by
 refine returnsInHanded_of_change_and (C:=Tryz.checked) (X:=fun w _=>laidMetH Tryz.prog Rows.topThimbleGroupsRow.laid w) (fun _ _ _ hh h=>h.of_heap hh) own started (by kernel_rfl) Tryz.func5
  (ChangeSpec.witness_shaped (enc:=enc) (C:=Tryz.checked) (os:=os) (X:=fun w _=>laidMetH Tryz.prog Rows.topThimbleGroupsRow.laid w) false (World.laidAll Tryz.prog os Rows.topThimbleGroupsRow.laid) #[.slice none 0 0,.slice none 0 0,.agg #[.string ⟨#[]⟩,.string ⟨#[]⟩]] 8 (World.laidAll_os _ _ _)
   (World.shaped_of_ZipB (by kernel_rfl) (by kernel_rfl)) (by kernel_rfl) (by kernel_rfl) (by kernel_rfl)
   (by rw[MakeChecks.laidMetH_plain _ _ _ (by kernel_rfl)];exact laidMet_laidAll _ (by kernel_rfl) (by kernel_rfl))) ?_
 intro W base args ds gs before hval hW _ _ hL _;exact contract H enc W base args ds gs before hval hW (qon hL)
theorem factA:Tryz.pinned.checked.prog.funcNamed Rows.topThimbleGroupsRow.func=some 5:=by kernel_rfl
theorem fact0:(Rows.topThimbleGroupsRow.wf (OpenSpec.ofChange Rows.topThimbleGroupsSpec))=true:=by kernel_rfl
theorem fact1:(laidOutB Tryz.pinned.checked.prog)=true:=by kernel_rfl
theorem fact2:(mapsRowed Tryz.pinned.checked.prog)=true:=by kernel_rfl
theorem fact3:(Tryz.f5.params.all (Tryz.pinned.checked.prog.readableRec ·))=true:=by kernel_rfl
theorem fact4:(namedTie Tryz.pinned.checked.prog Rows.topThimbleGroupsRow.named Rows.topThimbleGroupsSpec.vars)=true:=by kernel_rfl
theorem fact5:((Rows.topThimbleGroupsRow.stops==[]))=true:=by kernel_rfl
theorem fact6:((Tryz.pinned.checked.prog.stops==[]))=true:=by kernel_rfl
theorem fact7:((Rows.topThimbleGroupsRow.knobs==[]))=true:=by kernel_rfl
theorem fact8:((Tryz.pinned.checked.prog.stopKnobs==[]))=true:=by kernel_rfl
theorem fact9:((Rows.topThimbleGroupsRow.inPlace==Tryz.pinned.checked.prog.inPlace 5))=true:=by kernel_rfl
theorem qsi:((Rows.topThimbleGroupsRow.unfollowed==Tryz.pinned.checked.prog.unfollowed 5))=true:=by kernel_rfl
theorem qr0:((Rows.topThimbleGroupsRow.recurses==Tryz.pinned.checked.prog.recurses 5))=true:=by kernel_rfl
theorem qr7:((Rows.topThimbleGroupsRow.named==Tryz.pinned.checked.prog.varsNamed 5))=true:=by kernel_rfl
theorem qrK:((Rows.topThimbleGroupsRow.maps==(Tryz.f5.params.toList++Rows.topThimbleGroupsSpec.plain.varTypes Tryz.pinned.checked.prog).any (Tryz.pinned.checked.prog.mapsRec ·)))=true:=by kernel_rfl
theorem qrW:((Rows.topThimbleGroupsRow.ifaces==(Tryz.f5.params.toList++Rows.topThimbleGroupsSpec.plain.varTypes Tryz.pinned.checked.prog).any (Tryz.pinned.checked.prog.ifacesRec ·)))=true:=by kernel_rfl
theorem qr8:((Rows.topThimbleGroupsRow.mapsOut==Tryz.pinned.checked.prog.mapsAmong Tryz.f5.resultTypes.toList))=true:=by kernel_rfl
theorem qrY:((Rows.topThimbleGroupsRow.loops==(Tryz.f5.params.toList++Rows.topThimbleGroupsSpec.plain.varTypes Tryz.pinned.checked.prog).any (Tryz.pinned.checked.prog.loopsFrom ·)))=true:=by kernel_rfl
theorem qr1:((Rows.topThimbleGroupsRow.wideKeys==(Tryz.f5.params.toList++Rows.topThimbleGroupsSpec.plain.varTypes Tryz.pinned.checked.prog++Tryz.f5.resultTypes.toList).any (Tryz.pinned.checked.prog.wideKeysFrom ·)))=true:=by kernel_rfl
theorem qsd:(Rows.topThimbleGroupsSpec.vars.all (Tryz.pinned.checked.prog.varReadable ·))=true:=by kernel_rfl
theorem qr4:(Tryz.f5.resultTypes.all (fun t=>Tryz.pinned.checked.prog.readableRec t&&decide (t<Tryz.pinned.checked.prog.types.size)))=true:=by kernel_rfl
theorem qso:((Rows.topThimbleGroupsRow.ifacesOut==Tryz.f5.resultTypes.toList.any (Tryz.pinned.checked.prog.ifacesRec ·)))=true:=by kernel_rfl
theorem qsa:((Rows.topThimbleGroupsRow.loopsOut==Tryz.f5.resultTypes.toList.any (Tryz.pinned.checked.prog.loopsFrom ·)))=true:=by kernel_rfl
theorem qsk:((Rows.topThimbleGroupsRow.plainKeys==Tryz.pinned.checked.prog.plainKeys))=true:=by kernel_rfl
theorem qsm:(Rows.topThimbleGroupsRow.shortTexts.isNone)=true:=by kernel_rfl
theorem qrV:(Tryz.pinned.checked.prog.stopsHeard)=true:=by kernel_rfl
theorem qsj:(Tryz.pinned.checked.prog.mayEnter)=true:=by kernel_rfl
theorem qsl:((Rows.topThimbleGroupsRow.lifted==Tryz.pinned.checked.prog.liftsFinal))=true:=by kernel_rfl
theorem qrS:((Tryz.pinned.checked.prog.make==some Rows.topThimbleGroupsRow.make))=true:=by kernel_rfl
theorem qr5:((Rows.topThimbleGroupsRow.kinds==(if Rows.topThimbleGroupsRow.domain.isEmpty then[]else Tryz.f5.params.toList.map fun t=>match Tryz.pinned.checked.prog.underlying t with|some (.int k)=>some k|_=>none)))=true:=by kernel_rfl
theorem qrL:((Rows.topThimbleGroupsRow.pinned==Rows.topThimbleGroupsRow.pinnedBy))=true:=by kernel_rfl
theorem qrQ:((Rows.topThimbleGroupsRow.veiled==(Tryz.f5.params.toList++Rows.topThimbleGroupsSpec.plain.varTypes Tryz.pinned.checked.prog++Tryz.f5.resultTypes.toList).any (Tryz.pinned.checked.prog.veiledRec ·)))=true:=by kernel_rfl
theorem qrJ:(Rows.topThimbleGroupsRow.veiledFits Tryz.pinned.checked.prog Tryz.f5.params.toList (Tryz.f5.params.toList++Rows.topThimbleGroupsSpec.plain.varTypes Tryz.pinned.checked.prog++Tryz.f5.resultTypes.toList))=true:=by kernel_rfl
theorem factB:joinedFacts Tryz.pinned.checked.prog 5 Tryz.f5 Rows.topThimbleGroupsSpec Rows.topThimbleGroupsRow=true:=by
 unfold joinedFacts;exact(qbe (qbe (qbe (qbe (qbe (qbe (qbe (qbe (qbe (qbe (qbe (qbe (qbe (qbe (qbe (qbe (qbe (qbe (qbe (qbe (qbe (qbe (qbe (qbe (qbe (qbe (qbe (qbe (qbe (qbe (qbe fact0 fact1) fact2) fact3) fact4) fact5) fact6) fact7) fact8) fact9) qsi) qr0) qr7) qrK) qrW) qr8) qrY) qr1) qsd) qr4) qso) qsa) qsk) qsm) qrV) qsj) qsl) qrS) qr5) qrL) qrQ) qrJ)
theorem factC:Tryz.f5.isInstance Tryz.pinned.checked.prog Rows.topThimbleGroupsRow.origin Rows.topThimbleGroupsRow.targs:=of_decide_eq_true (by kernel_rfl)
theorem factD:Tryz.f5.isWrapper Tryz.pinned.checked.prog Rows.topThimbleGroupsRow.wrapper Rows.topThimbleGroupsRow.mainSum:=by unfold Func.isWrapper;first|(rw[if_pos (by decide+kernel)];kernel_rfl)|(rw[if_neg (by decide+kernel)];exact⟨rfl,rfl⟩)
theorem said:Rows.TopThimbleGroupsSaid:=
 OpenClaim.holds_of_wide 5 Tryz.f5 rfl rfl rfl rfl rfl rfl rfl ⟨rfl,rfl,rfl,rfl,rfl⟩ rfl rfl rfl rfl rfl factA Tryz.func5 factB factC factD
  (fun os started H enc _=>lifted os started H enc)
theorem qmR:Tryz.pinned.checked.prog.wantsStandIn 22=false:=by kernel_rfl
theorem qqE:Tryz.pinned.checked.prog.wantsStandIn 53=false:=by kernel_rfl
theorem qrP:true=Tryz.pinned.checked.prog.looks []:=by kernel_rfl
theorem plain (f:FuncId) (fn:Func) (hf:Tryz.pinned.checked.prog.funcNamed "becket/beckettop.TopThimbleGroups" =some f) (hfn:Tryz.pinned.checked.prog.funcs[f]? =some fn):
 true=Tryz.pinned.checked.prog.looks []/\ ∀(j:Nat) t,fn.params[j]? =some t->Tryz.pinned.checked.prog.wantsStandIn t=false:=by
 obtain rfl:f=5:=Ye ((show Tryz.prog.funcNamed "becket/beckettop.TopThimbleGroups" =some 5 by kernel_rfl).symm.trans hf)|>.symm;obtain rfl:fn=Tryz.f5:=(Ye (Tryz.func5.symm.trans hfn)).symm;refine⟨qrP,fun j t ht=>?_⟩;rw[Tryz.params5]at ht
 have ht:t=22\/t=22\/t=53:=by have:=Array.mem_of_getElem? ht;simpa using this
 rcases ht with rfl|rfl|rfl
 ·exact qmR
 ·exact qmR
 exact qqE
theorem card:Rows.TopThimbleGroupsCardSaid:=
 Claim7.holds_tied_plain_at .later [] _ _ _ _ said (fun _ h=>by cases h) (by kernel_rfl) (fun _ h=>by cases h) topThimbleGroups_row_tie rfl ⟨rfl,rfl⟩ (by kernel_rfl) rfl plain (by kernel_rfl)
end Go.Av
namespace Go.Proofs.YtppehbboaidbgaaGreatDoor
theorem topThimbleGroups_holds:Rows.TopThimbleGroupsCardSaid:=Go.Av.card
end Go.Proofs.YtppehbboaidbgaaGreatDoor
