/-
  It is proved that RecordTorn returns true for all inputs. Conditions: those of the given row alone (the listed package variables hold what the program's text lays).
-/
import Derived.Test.YtjflombnfhlkaaaGreatDoorQGenT
import Derived.Test.YtjflombnfhlkaaaGreatDoorPtB
import Derived.Test.YtjflombnfhlkaaaGreatDoorAvInA
import Derived.Test.YtjflombnfhlkaaaGreatDoorAvAwk10
import Derived.Test.YtjflombnfhlkaaaGreatDoorCards
import Derived.Test.YtjflombnfhlkaaaGreatDoorTie
import Derived.Lay
import Derived.LaidMore
import Derived.LaidSub
import Derived.SevenTiedAt
import Derived.Stop.Joined
import Derived.Lib.LaidTab
import Derived.Lib.ItoaNum
noncomputable section
namespace Go.Av
open Go.Proofs Go.Proofs.YtjflombnfhlkaaaGreatDoor
open Go.ChangeShapes Go.WideShapes Go.ChangeAt Go.RowKit
set_option linter.unusedSectionVars false
set_option maxRecDepth 100000
theorem ud22:Tryz.prog.underlying 22=some (.slice 26):=by kernel_rfl
theorem ud9:Tryz.prog.underlying 9=some (.string):=by kernel_rfl
theorem rd9:vM Tryz.prog 9 encS:=vM.str ud9
theorem ud24:Tryz.prog.underlying 24=some (.slice 3):=by kernel_rfl
theorem ud3:Tryz.prog.underlying 3=some (.int .i64):=by kernel_rfl
theorem rd3:vM Tryz.prog 3 encI:=vM.i64 ud3
theorem rd24:vM Tryz.prog 24 (yj encI):=vM.list ud24 (by kernel_rfl) rd3
theorem ud23:Tryz.prog.underlying 23=some (.slice 9):=by kernel_rfl
theorem rd23:vM Tryz.prog 23 (yj encS):=vM.list ud23 (by kernel_rfl) rd9
theorem ud26:Tryz.prog.underlying 26=some (.struct #[{name:= "Number",type:=3,offset:=0,embedded:=false,tag:= "",pkgPath:= "",byteOffset:=0},{name:= "Kind",type:=9,offset:=1,embedded:=false,tag:= "",pkgPath:= "",byteOffset:=8},{name:= "Names",type:=23,offset:=2,embedded:=false,tag:= "",pkgPath:= "",byteOffset:=24},{name:= "Values",type:=24,offset:=3,embedded:=false,tag:= "",pkgPath:= "",byteOffset:=48},{name:= "Text",type:=9,offset:=4,embedded:=false,tag:= "",pkgPath:= "",byteOffset:=72}]):=by kernel_rfl
theorem rd26:vM Tryz.prog 26 qa:=qbn.struct (fl:=[{name:= "Number",type:=3,offset:=0,embedded:=false,tag:= "",pkgPath:= "",byteOffset:=0},{name:= "Kind",type:=9,offset:=1,embedded:=false,tag:= "",pkgPath:= "",byteOffset:=8},{name:= "Names",type:=23,offset:=2,embedded:=false,tag:= "",pkgPath:= "",byteOffset:=24},{name:= "Values",type:=24,offset:=3,embedded:=false,tag:= "",pkgPath:= "",byteOffset:=48},{name:= "Text",type:=9,offset:=4,embedded:=false,tag:= "",pkgPath:= "",byteOffset:=72}]) ud26 rfl (by kernel_rfl) (fun(x0,x1,x2,x3,x4)=>(⟨x0,x1,x2,x3,x4⟩:qb)) (fun _=>rfl) (qbn.cons rfl (by kernel_rfl) rd3 (qbn.cons rfl (by kernel_rfl) rd9 (qbn.cons rfl (by kernel_rfl) rd23 (qbn.cons rfl (by kernel_rfl) rd24 (qbn.last rfl (by kernel_rfl) rd9)))))
theorem ud117:Tryz.prog.underlying 117=some (.array 3 116):=by kernel_rfl
theorem ud116:Tryz.prog.underlying 116=some (.int .u16):=by kernel_rfl
theorem tyB:Tryz.prog.underlying 4=some .bool:=by kernel_rfl
theorem laidOut:laidOutB Tryz.prog=true:=by kernel_rfl
theorem contract (H:Type) (enc:TypeId×Value→H) (W:World) (base:Nat) (args:Array Value) (ds gs:List (DataW H)) (before:List MemPlace)
 (hval: ∀(j:Nat) t v,Tryz.f11.params[j]? =some t→args[j]? =some v→Value.okWide Tryz.prog W .any base t v)
 (hW:DataW.Whole enc Tryz.prog Tryz.f11.params.toList Rows.recordTornSpec.vars false W args.toList ds gs before) (hG:Glob.G (AllOf W) W):
 Calls Tryz.prog 11 args W fun e W'=> ∃v,e= .returned v∧Rows.recordTornSpec.post enc Tryz.prog Tryz.f11 false true false false W args v W':=by
 have hW':=hW
 obtain⟨p,q,hA0,hV,rfl,hfz,hnd⟩:=hW
 have r0:DataW.TrodAll enc Tryz.prog W 0 (fun _=>true) true Tryz.f11.params.toList args.toList ds p:=hA0
 rw[Tryz.params11]at r0 hval
 obtain⟨v0,vs0,d0,ds0,p0,q0,hargs,rfl,rfl,h0,r1⟩:=trodAll_cons r0
 obtain⟨v1,vs1,d1,ds1,p1,q1,rfl,rfl,rfl,h1,r2⟩:=trodAll_cons r1
 obtain⟨rfl,rfl,rfl⟩:=trodAll_nil r2
 obtain rfl:args=#[v0,v1]:=by cases args;simp_all
 obtain⟨a0,hu0⟩:=In.list ud22 (by kernel_rfl) rd26 (hval 0 22 v0 rfl rfl) h0
 obtain⟨a1,hu1⟩:=In.arr3 ud117 ud116 (by kernel_rfl) (by kernel_rfl) (hval 1 117 v1 rfl rfl) h1
 obtain⟨hr1,hu1⟩:=hu1
 refine qmM laidOut (fun t ht=>?_) rfl (show Tryz.f11.resultTypes=#[4]from rfl) tyB (fun ds hds=>?_) hW' (enters_of (by kernel_rfl)) (qeC 10000 a0 a1 (qfM a0 a1 hr1.1 hr1.2.1 hr1.2.2)) hG (al:=[vl qa a0,.agg [.int .u16 a1.1,.int .u16 a1.2.1,.int .u16 a1.2.2]]) ⟨rfl,fun i a v ha hv=>?_⟩
 ·rw[Tryz.params11]at ht
  have ht:t=22∨t=117:=by simpa using ht
  rcases ht with rfl|rfl
  ·exact⟨by kernel_rfl,of_decide_eq_true (by kernel_rfl)⟩
  ·exact⟨by kernel_rfl,of_decide_eq_true (by kernel_rfl)⟩
 ·rw[Tryz.params11]at hds
  match ds,hds with
  |[d1,d2],_=>exact⟨rfl,rfl,rfl⟩
 ·match i with
  |0=>simp at ha hv;subst ha hv;exact hu0
  |1=>simp at ha hv;subst ha hv;exact hu1
  |i+2=>simp at ha
theorem qnW {W:World} (h:laidMetH Tryz.prog Rows.recordTornRow.laid W):Glob.G (AllOf W) W:=by
 have h1:=h.filter fun x=>x.1==qdC
 have e:(Rows.recordTornRow.laid.filter fun x=>x.1==qdC)=[(qdC,Lib.tabData .u64 Lib.pow10Tab)]:=by kernel_rfl
 rw[e]at h1
 have h2:laidMet Tryz.prog [(qdC,Lib.tabData .u64 Lib.pow10Tab)] W:=by
  rw[MakeChecks.laidMetH_plain _ _ _ (by kernel_rfl)]at h1
  exact h1
 have ht:Lib.TabIs Tryz.prog W qdC .u64 Lib.pow10Tab:=
  Lib.tabIs_of_head (rest:=[]) (t:=329) (e:=274) (n:=20) qfO (by kernel_rfl) (by kernel_rfl) (by kernel_rfl) (by kernel_rfl) (by kernel_rfl) h2
 refine⟨?_,ht⟩
 unfold Lib.TabIs World.var? at ht
 rw[qfO]at ht
 simp only[Option.bind_some]at ht
 show 3<W.heap.size
 rcases Nat.lt_or_ge 3 W.heap.size with h5|h5
 ·exact h5
 ·rw[Array.getElem?_eq_none h5]at ht
  cases ht
theorem own:ownKnob Tryz.prog.godebug=none:=by kernel_rfl
theorem lifted (os:Os) (started:os.Started) (H:Type) (enc:TypeId×Value→H):
 ReturnsInHanded {} Tryz.checked os 11 .any (fun w args=>(Rows.recordTornSpec.pre enc Tryz.prog Tryz.f11 Rows.recordTornRow.domain false w args∧laidMetH Tryz.prog Rows.recordTornRow.laid w)∧sizedMet enc Tryz.prog Tryz.f11 (OpenSpec.ofChange Rows.recordTornSpec) false w args)
  (Rows.recordTornSpec.post enc Tryz.prog Tryz.f11 false true false false):=by
 refine returnsInHanded_of_change_and (C:=Tryz.checked) (X:=fun w _=>laidMetH Tryz.prog Rows.recordTornRow.laid w) (fun _ _ _ hh h=>h.of_heap hh) own started (by kernel_rfl) Tryz.func11
  (ChangeSpec.witness_shaped (enc:=enc) (C:=Tryz.checked) (os:=os) (X:=fun w _=>laidMetH Tryz.prog Rows.recordTornRow.laid w) false (World.laidAll Tryz.prog os Rows.recordTornRow.laid) #[.slice none 0 0,.agg #[.int .u16 0,.int .u16 0,.int .u16 0]] 8 (World.laidAll_os _ _ _)
   (World.shaped_of_ZipB (by kernel_rfl) (by kernel_rfl)) (by kernel_rfl) (by kernel_rfl) (by kernel_rfl)
   (by rw[MakeChecks.laidMetH_plain _ _ _ (by kernel_rfl)];exact laidMet_laidAll _ (by kernel_rfl) (by kernel_rfl))) ?_
 intro W base args ds gs before hval hW _ _ hL _
 exact contract H enc W base args ds gs before hval hW (qnW hL)
theorem factA:Tryz.pinned.checked.prog.funcNamed Rows.recordTornRow.func=some 11:=by kernel_rfl
theorem fact0:(Rows.recordTornRow.wf (OpenSpec.ofChange Rows.recordTornSpec))=true:=by kernel_rfl
theorem fact1:(laidOutB Tryz.pinned.checked.prog)=true:=by kernel_rfl
theorem fact2:(mapsRowed Tryz.pinned.checked.prog)=true:=by kernel_rfl
theorem fact3:(Tryz.f11.params.all (Tryz.pinned.checked.prog.readableRec ·))=true:=by kernel_rfl
theorem fact4:(namedTie Tryz.pinned.checked.prog Rows.recordTornRow.named Rows.recordTornSpec.vars)=true:=by kernel_rfl
theorem fact5:((Rows.recordTornRow.stops==[]))=true:=by kernel_rfl
theorem fact6:((Tryz.pinned.checked.prog.stops==[]))=true:=by kernel_rfl
theorem fact7:((Rows.recordTornRow.knobs==[]))=true:=by kernel_rfl
theorem fact8:((Tryz.pinned.checked.prog.stopKnobs==[]))=true:=by kernel_rfl
theorem fact9:((Rows.recordTornRow.inPlace==Tryz.pinned.checked.prog.inPlace 11))=true:=by kernel_rfl
theorem qpx:((Rows.recordTornRow.unfollowed==Tryz.pinned.checked.prog.unfollowed 11))=true:=by kernel_rfl
theorem qpm:((Rows.recordTornRow.recurses==Tryz.pinned.checked.prog.recurses 11))=true:=by kernel_rfl
theorem qpX:((Rows.recordTornRow.named==Tryz.pinned.checked.prog.varsNamed 11))=true:=by kernel_rfl
theorem qpT:((Rows.recordTornRow.maps==(Tryz.f11.params.toList++Rows.recordTornSpec.plain.varTypes Tryz.pinned.checked.prog).any (Tryz.pinned.checked.prog.mapsRec ·)))=true:=by kernel_rfl
theorem qp1:((Rows.recordTornRow.ifaces==(Tryz.f11.params.toList++Rows.recordTornSpec.plain.varTypes Tryz.pinned.checked.prog).any (Tryz.pinned.checked.prog.ifacesRec ·)))=true:=by kernel_rfl
theorem qps:((Rows.recordTornRow.mapsOut==Tryz.pinned.checked.prog.mapsAmong Tryz.f11.resultTypes.toList))=true:=by kernel_rfl
theorem qpF:((Rows.recordTornRow.loops==(Tryz.f11.params.toList++Rows.recordTornSpec.plain.varTypes Tryz.pinned.checked.prog).any (Tryz.pinned.checked.prog.loopsFrom ·)))=true:=by kernel_rfl
theorem qpk:((Rows.recordTornRow.wideKeys==(Tryz.f11.params.toList++Rows.recordTornSpec.plain.varTypes Tryz.pinned.checked.prog++Tryz.f11.resultTypes.toList).any (Tryz.pinned.checked.prog.wideKeysFrom ·)))=true:=by kernel_rfl
theorem qpU:(Rows.recordTornSpec.vars.all (Tryz.pinned.checked.prog.varReadable ·))=true:=by kernel_rfl
theorem qpS:(Tryz.f11.resultTypes.all (fun t=>Tryz.pinned.checked.prog.readableRec t&&decide (t<Tryz.pinned.checked.prog.types.size)))=true:=by kernel_rfl
theorem qpW:((Rows.recordTornRow.ifacesOut==Tryz.f11.resultTypes.toList.any (Tryz.pinned.checked.prog.ifacesRec ·)))=true:=by kernel_rfl
theorem qpG:((Rows.recordTornRow.loopsOut==Tryz.f11.resultTypes.toList.any (Tryz.pinned.checked.prog.loopsFrom ·)))=true:=by kernel_rfl
theorem qpJ:((Rows.recordTornRow.plainKeys==Tryz.pinned.checked.prog.plainKeys))=true:=by kernel_rfl
theorem qpA:(Rows.recordTornRow.shortTexts.isNone)=true:=by kernel_rfl
theorem qpL:(Tryz.pinned.checked.prog.stopsHeard)=true:=by kernel_rfl
theorem qpq:(Tryz.pinned.checked.prog.mayEnter)=true:=by kernel_rfl
theorem qpo:((Rows.recordTornRow.lifted==Tryz.pinned.checked.prog.liftsFinal))=true:=by kernel_rfl
theorem qpO:((Tryz.pinned.checked.prog.make==some Rows.recordTornRow.make))=true:=by kernel_rfl
theorem qpR:((Rows.recordTornRow.kinds==(if Rows.recordTornRow.domain.isEmpty then[]else Tryz.f11.params.toList.map fun t=>match Tryz.pinned.checked.prog.underlying t with|some (.int k)=>some k|_=>none)))=true:=by kernel_rfl
theorem qpB:((Rows.recordTornRow.pinned==Rows.recordTornRow.pinnedBy))=true:=by kernel_rfl
theorem qpP:((Rows.recordTornRow.veiled==(Tryz.f11.params.toList++Rows.recordTornSpec.plain.varTypes Tryz.pinned.checked.prog++Tryz.f11.resultTypes.toList).any (Tryz.pinned.checked.prog.veiledRec ·)))=true:=by kernel_rfl
theorem qpV:(Rows.recordTornRow.veiledFits Tryz.pinned.checked.prog Tryz.f11.params.toList (Tryz.f11.params.toList++Rows.recordTornSpec.plain.varTypes Tryz.pinned.checked.prog++Tryz.f11.resultTypes.toList))=true:=by kernel_rfl
theorem factB:joinedFacts Tryz.pinned.checked.prog 11 Tryz.f11 Rows.recordTornSpec Rows.recordTornRow=true:=by
 unfold joinedFacts
 exact(qaJ (qaJ (qaJ (qaJ (qaJ (qaJ (qaJ (qaJ (qaJ (qaJ (qaJ (qaJ (qaJ (qaJ (qaJ (qaJ (qaJ (qaJ (qaJ (qaJ (qaJ (qaJ (qaJ (qaJ (qaJ (qaJ (qaJ (qaJ (qaJ (qaJ (qaJ fact0 fact1) fact2) fact3) fact4) fact5) fact6) fact7) fact8) fact9) qpx) qpm) qpX) qpT) qp1) qps) qpF) qpk) qpU) qpS) qpW) qpG) qpJ) qpA) qpL) qpq) qpo) qpO) qpR) qpB) qpP) qpV)
theorem factC:Tryz.f11.isInstance Tryz.pinned.checked.prog Rows.recordTornRow.origin Rows.recordTornRow.targs:=of_decide_eq_true (by kernel_rfl)
theorem factD:Tryz.f11.isWrapper Tryz.pinned.checked.prog Rows.recordTornRow.wrapper Rows.recordTornRow.mainSum:=by unfold Func.isWrapper;first|(rw[if_pos (by decide+kernel)];kernel_rfl)|(rw[if_neg (by decide+kernel)];exact⟨rfl,rfl⟩)
theorem said:Rows.RecordTornSaid:=
 OpenClaim.holds_of_wide 11 Tryz.f11 rfl rfl rfl rfl rfl rfl rfl ⟨rfl,rfl,rfl,rfl,rfl⟩ rfl rfl rfl rfl rfl factA Tryz.func11 factB factC factD
  (fun os started H enc _=>lifted os started H enc)
theorem qoX:Tryz.pinned.checked.prog.wantsStandIn 22=false:=by kernel_rfl
theorem qn8:Tryz.pinned.checked.prog.wantsStandIn 117=false:=by kernel_rfl
theorem qpv:true=Tryz.pinned.checked.prog.looks []:=by kernel_rfl
theorem plain (f:FuncId) (fn:Func) (hf:Tryz.pinned.checked.prog.funcNamed "becket/becketlaw10.RecordTorn" =some f) (hfn:Tryz.pinned.checked.prog.funcs[f]? =some fn):
 true=Tryz.pinned.checked.prog.looks []∧ ∀(j:Nat) t,fn.params[j]? =some t→Tryz.pinned.checked.prog.wantsStandIn t=false:=by
 obtain rfl:f=11:=Option.some.inj ((show Tryz.prog.funcNamed "becket/becketlaw10.RecordTorn" =some 11 by kernel_rfl).symm.trans hf)|>.symm
 obtain rfl:fn=Tryz.f11:=(Option.some.inj (Tryz.func11.symm.trans hfn)).symm
 refine⟨qpv,fun j t ht=>?_⟩
 rw[Tryz.params11]at ht
 have ht:t=22∨t=117:=by have:=Array.mem_of_getElem? ht;simpa using this
 rcases ht with rfl|rfl
 ·exact qoX
 ·exact qn8
theorem card:Rows.RecordTornCardSaid:=
 Claim7.holds_tied_plain_at .later [] _ _ _ _ said (fun _ h=>by cases h) (by kernel_rfl) (fun _ h=>by cases h) recordTorn_row_tie rfl ⟨rfl,rfl⟩ (by kernel_rfl) rfl plain (by kernel_rfl)
end Go.Av
namespace Go.Proofs.YtjflombnfhlkaaaGreatDoor
theorem recordTorn_holds:Rows.RecordTornCardSaid:=Go.Av.card
end Go.Proofs.YtjflombnfhlkaaaGreatDoor
