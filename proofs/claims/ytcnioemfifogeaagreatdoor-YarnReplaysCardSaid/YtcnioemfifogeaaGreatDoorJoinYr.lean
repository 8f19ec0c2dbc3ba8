/-
  It is proved that YarnReplays returns true for all inputs. Conditions: those of the given row alone (the listed package variables hold what the program's text lays).
-/
import Derived.Test.YtcnioemfifogeaaGreatDoorQGenA1r
import Derived.Test.YtcnioemfifogeaaGreatDoorOrPa
import Derived.Test.YtcnioemfifogeaaGreatDoorAvPt
import Derived.Test.YtcnioemfifogeaaGreatDoorAvAwkQ3
import Derived.Test.YtcnioemfifogeaaGreatDoorCards
import Derived.Test.YtcnioemfifogeaaGreatDoorTie
import Derived.Lay
import Derived.LaidMore
import Derived.LaidSub
import Derived.SevenTiedAt
import Derived.Stop.Joined
import Derived.Lib.LaidTab
import Derived.Lib.ItoaNum
noncomputable section
namespace Go.Av
open Go.Proofs Go.Proofs.YtcnioemfifogeaaGreatDoor
open Go.ChangeShapes Go.WideShapes Go.ChangeAt Go.RowKit
set_option linter.unusedSectionVars false
set_option maxRecDepth 100000
theorem ud22:Tryz.prog.underlying 22=some (.slice 56):=by kernel_rfl
theorem ud9:Tryz.prog.underlying 9=some (.string):=by kernel_rfl
theorem rd9:xH Tryz.prog 9 encS:=xH.str ud9
theorem ud3:Tryz.prog.underlying 3=some (.int .i64):=by kernel_rfl
theorem rd3:xH Tryz.prog 3 encI:=xH.i64 ud3
theorem ud56:Tryz.prog.underlying 56=some (.struct #[{name:= "Kind",type:=9,offset:=0,embedded:=false,tag:= "",pkgPath:= "",byteOffset:=0},{name:= "Day",type:=3,offset:=1,embedded:=false,tag:= "",pkgPath:= "",byteOffset:=16},{name:= "Lot",type:=9,offset:=2,embedded:=false,tag:= "",pkgPath:= "",byteOffset:=24},{name:= "Amount",type:=3,offset:=3,embedded:=false,tag:= "",pkgPath:= "",byteOffset:=40},{name:= "Yarn",type:=9,offset:=4,embedded:=false,tag:= "",pkgPath:= "",byteOffset:=48},{name:= "Dye",type:=9,offset:=5,embedded:=false,tag:= "",pkgPath:= "",byteOffset:=64},{name:= "Order",type:=9,offset:=6,embedded:=false,tag:= "",pkgPath:= "",byteOffset:=80}]):=by kernel_rfl
theorem rd56:xH Tryz.prog 56 ql:=qcy.struct (fl:=[{name:= "Kind",type:=9,offset:=0,embedded:=false,tag:= "",pkgPath:= "",byteOffset:=0},{name:= "Day",type:=3,offset:=1,embedded:=false,tag:= "",pkgPath:= "",byteOffset:=16},{name:= "Lot",type:=9,offset:=2,embedded:=false,tag:= "",pkgPath:= "",byteOffset:=24},{name:= "Amount",type:=3,offset:=3,embedded:=false,tag:= "",pkgPath:= "",byteOffset:=40},{name:= "Yarn",type:=9,offset:=4,embedded:=false,tag:= "",pkgPath:= "",byteOffset:=48},{name:= "Dye",type:=9,offset:=5,embedded:=false,tag:= "",pkgPath:= "",byteOffset:=64},{name:= "Order",type:=9,offset:=6,embedded:=false,tag:= "",pkgPath:= "",byteOffset:=80}]) ud56 rfl (by kernel_rfl) (fun(x0,x1,x2,x3,x4,x5,x6)=>(⟨x0,x1,x2,x3,x4,x5,x6⟩:qb)) (fun _=>rfl) (qcy.cons rfl (by kernel_rfl) rd9 (qcy.cons rfl (by kernel_rfl) rd3 (qcy.cons rfl (by kernel_rfl) rd9 (qcy.cons rfl (by kernel_rfl) rd3 (qcy.cons rfl (by kernel_rfl) rd9 (qcy.cons rfl (by kernel_rfl) rd9 (qcy.last rfl (by kernel_rfl) rd9)))))))
theorem tyB:Tryz.prog.underlying 4=some .bool:=by kernel_rfl
theorem laidOut:laidOutB Tryz.prog=true:=by kernel_rfl
theorem contract (H:Type) (enc:TypeId×Value->H) (W:World) (base:Nat) (args:Array Value) (ds gs:List (DataW H)) (before:List MemPlace)
 (hval: ∀(j:Nat) t v,Tryz.f3.params[j]? =some t->args[j]? =some v->Value.okWide Tryz.prog W .any base t v)
 (hW:DataW.Whole enc Tryz.prog Tryz.f3.params.toList Rows.yarnReplaysSpec.vars false W args.toList ds gs before)
 (hw:(DataW.weightsEach Tryz.prog (Tryz.f3.params.toList++Rows.yarnReplaysSpec.plain.varTypes Tryz.prog) (ds++gs)).all (· <=reachBytes)=true) (hG:Glob.G (AllOf W) W):
 Calls Tryz.prog 3 args W fun e W'=> ∃v,e= .returned v/\Rows.yarnReplaysSpec.post enc Tryz.prog Tryz.f3 false true false false W args v W':=by
 have hW':=hW
 obtain⟨p,q,hA0,hV,rfl,hfz,hnd⟩:=hW
 have r0:DataW.TrodAll enc Tryz.prog W 0 (fun _=>true) true Tryz.f3.params.toList args.toList ds p:=hA0
 rw[Tryz.params3]at r0 hval hw
 obtain⟨v0,vs0,d0,ds0,p0,q0,hargs,rfl,rfl,h0,r1⟩:=trodAll_cons r0
 obtain⟨v1,vs1,d1,ds1,p1,q1,rfl,rfl,rfl,h1,r2⟩:=trodAll_cons r1
 obtain⟨rfl,rfl,rfl⟩:=trodAll_nil r2
 obtain⟨hw0,hw⟩:=qiQ (t:=22) (d:=d0) hw
 obtain⟨hw1,hw⟩:=qiQ (t:=3) (d:=d1) hw
 obtain rfl:args=#[v0,v1]:=by cases args;simp_all
 obtain⟨a0,hu0,hb0⟩:=In.listW ud22 (by kernel_rfl) rd56 (hval 0 22 v0 rfl rfl) h0 hw0
 have hb0:a0.length*96<=140737488355328:=by
  rw[show Tryz.prog.bytesOf 56=96 by kernel_rfl]at hb0
  exact Nat.le_trans hb0 (by decide)
 obtain⟨a1,hu1⟩:=In.i64 ud3 (hval 1 3 v1 rfl rfl)
 refine qpV laidOut (fun t ht=>?_) rfl (show Tryz.f3.resultTypes=#[4]from rfl) tyB (fun ds hds=>?_) hW' (enters_of (by kernel_rfl)) (qgG (700000+a0.length) a0 a1 (qiV (N:=700000+a0.length) a0 a1 (by omega) hb0)) hG (al:=[vl ql a0,.int .i64 a1]) ⟨rfl,fun i a v ha hv=>?_⟩
 ·rw[Tryz.params3]at ht
  have ht:t=22\/t=3:=by simpa using ht
  rcases ht with rfl|rfl
  ·exact⟨by kernel_rfl,of_decide_eq_true (by kernel_rfl)⟩
  exact⟨by kernel_rfl,of_decide_eq_true (by kernel_rfl)⟩
 ·rw[Tryz.params3]at hds
  match ds,hds with
  |[d1,d2],_=>exact⟨rfl,rfl,rfl⟩
 match i with
 |0=>simp at ha hv;subst ha hv;exact hu0
 |1=>simp at ha hv;subst ha hv;exact hu1
 |i+2=>simp at ha
theorem qqx {W:World} (h:laidMetH Tryz.prog Rows.yarnReplaysRow.laid W):Glob.G (AllOf W) W:=by
 have h1:=h.filter fun x=>x.1==qf4
 have e:(Rows.yarnReplaysRow.laid.filter fun x=>x.1==qf4)=[(qf4,Lib.tabData .u64 Lib.pow10Tab)]:=by kernel_rfl
 rw[e]at h1
 have h2:laidMet Tryz.prog [(qf4,Lib.tabData .u64 Lib.pow10Tab)] W:=by
  rw[MakeChecks.laidMetH_plain _ _ _ (by kernel_rfl)]at h1
  exact h1
 have ht:Lib.TabIs Tryz.prog W qf4 .u64 Lib.pow10Tab:=
  Lib.tabIs_of_head (rest:=[]) (t:=325) (e:=246) (n:=20) qjt (by kernel_rfl) (by kernel_rfl) (by kernel_rfl) (by kernel_rfl) (by kernel_rfl) h2
 refine⟨?_,ht⟩
 unfold Lib.TabIs World.var? at ht
 rw[qjt]at ht
 simp only[ZB]at ht
 show 5<W.heap.size
 rcases Nat.lt_or_ge 5 W.heap.size with h5|h5
 ·exact h5
 rw[Array.getElem?_eq_none h5]at ht
 cases ht
theorem own:ownKnob Tryz.prog.godebug=none:=by kernel_rfl
theorem lifted (os:Os) (started:os.Started) (H:Type) (enc:TypeId×Value->H):
 ReturnsInHanded {} Tryz.checked os 3 .any (fun w args=>(Rows.yarnReplaysSpec.pre enc Tryz.prog Tryz.f3 Rows.yarnReplaysRow.domain false w args/\laidMetH Tryz.prog Rows.yarnReplaysRow.laid w)/\sizedMet enc Tryz.prog Tryz.f3 (OpenSpec.ofChange Rows.yarnReplaysSpec) false w args)
  (Rows.yarnReplaysSpec.post enc Tryz.prog Tryz.f3 false true false false):=by
 refine returnsInHanded_of_change_and (C:=Tryz.checked) (X:=fun w _=>laidMetH Tryz.prog Rows.yarnReplaysRow.laid w) (fun _ _ _ hh h=>h.of_heap hh) own started (by kernel_rfl) Tryz.func3
  (ChangeSpec.witness_shaped (enc:=enc) (C:=Tryz.checked) (os:=os) (X:=fun w _=>laidMetH Tryz.prog Rows.yarnReplaysRow.laid w) false (World.laidAll Tryz.prog os Rows.yarnReplaysRow.laid) #[.slice none 0 0,.int .i64 0] 8 (World.laidAll_os _ _ _)
   (World.shaped_of_ZipB (by kernel_rfl) (by kernel_rfl)) (by kernel_rfl) (by kernel_rfl) (by kernel_rfl)
   (by rw[MakeChecks.laidMetH_plain _ _ _ (by kernel_rfl)];exact laidMet_laidAll _ (by kernel_rfl) (by kernel_rfl))) ?_
 intro W base args ds gs before hval hW _ hw hL _
 exact contract H enc W base args ds gs before hval hW hw (qqx hL)
theorem factA:Tryz.pinned.checked.prog.funcNamed Rows.yarnReplaysRow.func=some 3:=by kernel_rfl
theorem fact0:(Rows.yarnReplaysRow.wf (OpenSpec.ofChange Rows.yarnReplaysSpec))=true:=by kernel_rfl
theorem fact1:(laidOutB Tryz.pinned.checked.prog)=true:=by kernel_rfl
theorem fact2:(mapsRowed Tryz.pinned.checked.prog)=true:=by kernel_rfl
theorem fact3:(Tryz.f3.params.all (Tryz.pinned.checked.prog.readableRec ·))=true:=by kernel_rfl
theorem fact4:(namedTie Tryz.pinned.checked.prog Rows.yarnReplaysRow.named Rows.yarnReplaysSpec.vars)=true:=by kernel_rfl
theorem fact5:((Rows.yarnReplaysRow.stops==[]))=true:=by kernel_rfl
theorem fact6:((Tryz.pinned.checked.prog.stops==[]))=true:=by kernel_rfl
theorem fact7:((Rows.yarnReplaysRow.knobs==[]))=true:=by kernel_rfl
theorem fact8:((Tryz.pinned.checked.prog.stopKnobs==[]))=true:=by kernel_rfl
theorem fact9:((Rows.yarnReplaysRow.inPlace==Tryz.pinned.checked.prog.inPlace 3))=true:=by kernel_rfl
theorem qsS:((Rows.yarnReplaysRow.unfollowed==Tryz.pinned.checked.prog.unfollowed 3))=true:=by kernel_rfl
theorem qsJ:((Rows.yarnReplaysRow.recurses==Tryz.pinned.checked.prog.recurses 3))=true:=by kernel_rfl
theorem qs3:((Rows.yarnReplaysRow.named==Tryz.pinned.checked.prog.varsNamed 3))=true:=by kernel_rfl
theorem qsR:((Rows.yarnReplaysRow.maps==(Tryz.f3.params.toList++Rows.yarnReplaysSpec.plain.varTypes Tryz.pinned.checked.prog).any (Tryz.pinned.checked.prog.mapsRec ·)))=true:=by kernel_rfl
theorem qs0:((Rows.yarnReplaysRow.ifaces==(Tryz.f3.params.toList++Rows.yarnReplaysSpec.plain.varTypes Tryz.pinned.checked.prog).any (Tryz.pinned.checked.prog.ifacesRec ·)))=true:=by kernel_rfl
theorem qs9:((Rows.yarnReplaysRow.mapsOut==Tryz.pinned.checked.prog.mapsAmong Tryz.f3.resultTypes.toList))=true:=by kernel_rfl
theorem qsN:((Rows.yarnReplaysRow.loops==(Tryz.f3.params.toList++Rows.yarnReplaysSpec.plain.varTypes Tryz.pinned.checked.prog).any (Tryz.pinned.checked.prog.loopsFrom ·)))=true:=by kernel_rfl
theorem qsG:((Rows.yarnReplaysRow.wideKeys==(Tryz.f3.params.toList++Rows.yarnReplaysSpec.plain.varTypes Tryz.pinned.checked.prog++Tryz.f3.resultTypes.toList).any (Tryz.pinned.checked.prog.wideKeysFrom ·)))=true:=by kernel_rfl
theorem qsu:(Rows.yarnReplaysSpec.vars.all (Tryz.pinned.checked.prog.varReadable ·))=true:=by kernel_rfl
theorem qsy:(Tryz.f3.resultTypes.all (fun t=>Tryz.pinned.checked.prog.readableRec t&&decide (t<Tryz.pinned.checked.prog.types.size)))=true:=by kernel_rfl
theorem qs7:((Rows.yarnReplaysRow.ifacesOut==Tryz.f3.resultTypes.toList.any (Tryz.pinned.checked.prog.ifacesRec ·)))=true:=by kernel_rfl
theorem qsF:((Rows.yarnReplaysRow.loopsOut==Tryz.f3.resultTypes.toList.any (Tryz.pinned.checked.prog.loopsFrom ·)))=true:=by kernel_rfl
theorem qsH:((Rows.yarnReplaysRow.plainKeys==Tryz.pinned.checked.prog.plainKeys))=true:=by kernel_rfl
theorem qsB:(Rows.yarnReplaysRow.shortTexts.isNone)=true:=by kernel_rfl
theorem qsD:(Tryz.pinned.checked.prog.stopsHeard)=true:=by kernel_rfl
theorem qsA:(Tryz.pinned.checked.prog.mayEnter)=true:=by kernel_rfl
theorem qsP:((Rows.yarnReplaysRow.lifted==Tryz.pinned.checked.prog.liftsFinal))=true:=by kernel_rfl
theorem qsz:((Tryz.pinned.checked.prog.make==some Rows.yarnReplaysRow.make))=true:=by kernel_rfl
theorem qsE:((Rows.yarnReplaysRow.kinds==(if Rows.yarnReplaysRow.domain.isEmpty then[]else Tryz.f3.params.toList.map fun t=>match Tryz.pinned.checked.prog.underlying t with|some (.int k)=>some k|_=>none)))=true:=by kernel_rfl
theorem qsM:((Rows.yarnReplaysRow.pinned==Rows.yarnReplaysRow.pinnedBy))=true:=by kernel_rfl
theorem qsY:((Rows.yarnReplaysRow.veiled==(Tryz.f3.params.toList++Rows.yarnReplaysSpec.plain.varTypes Tryz.pinned.checked.prog++Tryz.f3.resultTypes.toList).any (Tryz.pinned.checked.prog.veiledRec ·)))=true:=by kernel_rfl
theorem qsK:(Rows.yarnReplaysRow.veiledFits Tryz.pinned.checked.prog Tryz.f3.params.toList (Tryz.f3.params.toList++Rows.yarnReplaysSpec.plain.varTypes Tryz.pinned.checked.prog++Tryz.f3.resultTypes.toList))=true:=by kernel_rfl
theorem factB:joinedFacts Tryz.pinned.checked.prog 3 Tryz.f3 Rows.yarnReplaysSpec Rows.yarnReplaysRow=true:=by
 unfold joinedFacts
 exact(qcu (qcu (qcu (qcu (qcu (qcu (qcu (qcu (qcu (qcu (qcu (qcu (qcu (qcu (qcu (qcu (qcu (qcu (qcu (qcu (qcu (qcu (qcu (qcu (qcu (qcu (qcu (qcu (qcu (qcu (qcu fact0 fact1) fact2) fact3) fact4) fact5) fact6) fact7) fact8) fact9) qsS) qsJ) qs3) qsR) qs0) qs9) qsN) qsG) qsu) qsy) qs7) qsF) qsH) qsB) qsD) qsA) qsP) qsz) qsE) qsM) qsY) qsK)
theorem factC:Tryz.f3.isInstance Tryz.pinned.checked.prog Rows.yarnReplaysRow.origin Rows.yarnReplaysRow.targs:=of_decide_eq_true (by kernel_rfl)
theorem factD:Tryz.f3.isWrapper Tryz.pinned.checked.prog Rows.yarnReplaysRow.wrapper Rows.yarnReplaysRow.mainSum:=by unfold Func.isWrapper;first|(rw[if_pos (by decide+kernel)];kernel_rfl)|(rw[if_neg (by decide+kernel)];exact⟨rfl,rfl⟩)
theorem said:Rows.YarnReplaysSaid:=
 OpenClaim.holds_of_wide 3 Tryz.f3 rfl rfl rfl rfl rfl rfl rfl ⟨rfl,rfl,rfl,rfl,rfl⟩ rfl rfl rfl rfl rfl factA Tryz.func3 factB factC factD
  (fun os started H enc _=>lifted os started H enc)
theorem qsX:Tryz.pinned.checked.prog.wantsStandIn 3=false:=by kernel_rfl
theorem qr7:Tryz.pinned.checked.prog.wantsStandIn 22=false:=by kernel_rfl
theorem qsw:true=Tryz.pinned.checked.prog.looks []:=by kernel_rfl
theorem plain (f:FuncId) (fn:Func) (hf:Tryz.pinned.checked.prog.funcNamed "becket/becketlaw02.YarnReplays" =some f) (hfn:Tryz.pinned.checked.prog.funcs[f]? =some fn):
 true=Tryz.pinned.checked.prog.looks []/\ ∀(j:Nat) t,fn.params[j]? =some t->Tryz.pinned.checked.prog.wantsStandIn t=false:=by
 obtain rfl:f=3:=Ye ((show Tryz.prog.funcNamed "becket/becketlaw02.YarnReplays" =some 3 by kernel_rfl).symm.trans hf)|>.symm
 obtain rfl:fn=Tryz.f3:=(Ye (Tryz.func3.symm.trans hfn)).symm
 refine⟨qsw,fun j t ht=>?_⟩
 rw[Tryz.params3]at ht
 have ht:t=22\/t=3:=by have:=Array.mem_of_getElem? ht;simpa using this
 rcases ht with rfl|rfl
 ·exact qr7
 exact qsX
theorem card:Rows.YarnReplaysCardSaid:=
 Claim7.holds_tied_plain_at .later [] _ _ _ _ said (fun _ h=>by cases h) (by kernel_rfl) (fun _ h=>by cases h) yarnReplays_row_tie rfl ⟨rfl,rfl⟩ (by kernel_rfl) rfl plain (by kernel_rfl)
end Go.Av
namespace Go.Proofs.YtcnioemfifogeaaGreatDoor
theorem yarnReplays_holds:Rows.YarnReplaysCardSaid:=Go.Av.card
end Go.Proofs.YtcnioemfifogeaaGreatDoor
