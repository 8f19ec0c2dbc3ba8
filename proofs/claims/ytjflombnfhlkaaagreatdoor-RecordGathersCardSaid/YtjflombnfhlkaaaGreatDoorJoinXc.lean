/-
  It is proved that RecordGathers returns true for all inputs. Conditions: those of the given row alone (the listed package variables hold what the program's text lays).
-/
import Derived.Test.YtjflombnfhlkaaaGreatDoorQGenXb
import Derived.Test.YtjflombnfhlkaaaGreatDoorPxXc
import Derived.Test.YtjflombnfhlkaaaGreatDoorAvInAW
import Derived.Test.YtjflombnfhlkaaaGreatDoorAvAwk10
import Derived.Test.YtjflombnfhlkaaaGreatDoorCards
import Derived.Test.YtjflombnfhlkaaaGreatDoorTie
import Derived.Lay
import Derived.LaidMore
import Derived.LaidSub
import Derived.SevenTiedAt
import Derived.Stop.Joined
import Derived.Lib.LaidTab
import Derived.Lib.ItoaNum
noncomputable section
namespace Go.Av
open Go.Proofs Go.Proofs.YtjflombnfhlkaaaGreatDoor
open Go.ChangeShapes Go.WideShapes Go.ChangeAt Go.RowKit
set_option linter.unusedSectionVars false
set_option maxRecDepth 100000
theorem ud96:Tryz.prog.underlying 96=some (.slice 132):=by kernel_rfl
theorem ud9:Tryz.prog.underlying 9=some (.string):=by kernel_rfl
theorem rd9:yf Tryz.prog 9 encS:=yf.str ud9
theorem ud3:Tryz.prog.underlying 3=some (.int .i64):=by kernel_rfl
theorem rd3:yf Tryz.prog 3 encI:=yf.i64 ud3
theorem ud132:Tryz.prog.underlying 132=some (.struct #[{name:= "Desk",type:=9,offset:=0,embedded:=false,tag:= "",pkgPath:= "",byteOffset:=0},{name:= "Number",type:=3,offset:=1,embedded:=false,tag:= "",pkgPath:= "",byteOffset:=16},{name:= "Clock",type:=3,offset:=2,embedded:=false,tag:= "",pkgPath:= "",byteOffset:=24},{name:= "Line",type:=9,offset:=3,embedded:=false,tag:= "",pkgPath:= "",byteOffset:=32}]):=by kernel_rfl
theorem rd132:yf Tryz.prog 132 qa:=qbg.struct (fl:=[{name:= "Desk",type:=9,offset:=0,embedded:=false,tag:= "",pkgPath:= "",byteOffset:=0},{name:= "Number",type:=3,offset:=1,embedded:=false,tag:= "",pkgPath:= "",byteOffset:=16},{name:= "Clock",type:=3,offset:=2,embedded:=false,tag:= "",pkgPath:= "",byteOffset:=24},{name:= "Line",type:=9,offset:=3,embedded:=false,tag:= "",pkgPath:= "",byteOffset:=32}]) ud132 rfl (by kernel_rfl) (fun(x0,x1,x2,x3)=>(⟨x0,x1,x2,x3⟩:qb)) (fun _=>rfl) (qbg.cons rfl (by kernel_rfl) rd9 (qbg.cons rfl (by kernel_rfl) rd3 (qbg.cons rfl (by kernel_rfl) rd3 (qbg.last rfl (by kernel_rfl) rd9))))
theorem ud117:Tryz.prog.underlying 117=some (.array 3 116):=by kernel_rfl
theorem ud116:Tryz.prog.underlying 116=some (.int .u16):=by kernel_rfl
theorem tyB:Tryz.prog.underlying 4=some .bool:=by kernel_rfl
theorem laidOut:laidOutB Tryz.prog=true:=by kernel_rfl
theorem contract (H:Type) (enc:TypeId×Value→H) (W:World) (base:Nat) (args:Array Value) (ds gs:List (DataW H)) (before:List MemPlace)
 (hval: ∀(j:Nat) t v,Tryz.f13.params[j]? =some t→args[j]? =some v→Value.okWide Tryz.prog W .any base t v)
 (hW:DataW.Whole enc Tryz.prog Tryz.f13.params.toList Rows.recordGathersSpec.vars false W args.toList ds gs before)
 (hw:(DataW.weightsEach Tryz.prog (Tryz.f13.params.toList++Rows.recordGathersSpec.plain.varTypes Tryz.prog) (ds++gs)).all (· ≤reachBytes)=true) (hG:Glob.G (AllOf W) W):
 Calls Tryz.prog 13 args W fun e W'=> ∃v,e= .returned v∧Rows.recordGathersSpec.post enc Tryz.prog Tryz.f13 false true false false W args v W':=by
 have hW':=hW
 obtain⟨p,q,hA0,hV,rfl,hfz,hnd⟩:=hW
 have r0:DataW.TrodAll enc Tryz.prog W 0 (fun _=>true) true Tryz.f13.params.toList args.toList ds p:=hA0
 rw[Tryz.params13]at r0 hval hw
 obtain⟨v0,vs0,d0,ds0,p0,q0,hargs,rfl,rfl,h0,r1⟩:=trodAll_cons r0
 obtain⟨v1,vs1,d1,ds1,p1,q1,rfl,rfl,rfl,h1,r2⟩:=trodAll_cons r1
 obtain⟨rfl,rfl,rfl⟩:=trodAll_nil r2
 obtain⟨hw0,hw⟩:=qjx (t:=96) (d:=d0) hw
 obtain⟨hw1,hw⟩:=qjx (t:=117) (d:=d1) hw
 obtain rfl:args=#[v0,v1]:=by cases args;simp_all
 obtain⟨a0,hu0,hb0⟩:=In.listW ud96 (by kernel_rfl) rd132 (hval 0 96 v0 rfl rfl) h0 hw0
 rw[show Tryz.prog.bytesOf 132=48 by kernel_rfl]at hb0
 obtain⟨a1,hu1⟩:=In.arr3 ud117 ud116 (by kernel_rfl) (by kernel_rfl) (hval 1 117 v1 rfl rfl) h1
 obtain⟨hr1,hu1⟩:=hu1
 refine qlQ laidOut (fun t ht=>?_) rfl (show Tryz.f13.resultTypes=#[4]from rfl) tyB (fun ds hds=>?_) hW' (enters_of (by kernel_rfl)) (qcx (5000+a0.length) a0 a1 (qd2 a0 a1 hb0)) hG (al:=[vl qa a0,.agg [.int .u16 a1.1,.int .u16 a1.2.1,.int .u16 a1.2.2]]) ⟨rfl,fun i a v ha hv=>?_⟩
 ·rw[Tryz.params13]at ht
  have ht:t=96∨t=117:=by simpa using ht
  rcases ht with rfl|rfl
  ·exact⟨by kernel_rfl,of_decide_eq_true (by kernel_rfl)⟩
  ·exact⟨by kernel_rfl,of_decide_eq_true (by kernel_rfl)⟩
 ·rw[Tryz.params13]at hds
  match ds,hds with
  |[d1,d2],_=>exact⟨rfl,rfl,rfl⟩
 ·match i with
  |0=>simp at ha hv;subst ha hv;exact hu0
  |1=>simp at ha hv;subst ha hv;exact hu1
  |i+2=>simp at ha
theorem qnz {W:World} (h:laidMetH Tryz.prog Rows.recordGathersRow.laid W):Glob.G (AllOf W) W:=by
 have h1:=h.filter fun x=>x.1==qcB
 have e:(Rows.recordGathersRow.laid.filter fun x=>x.1==qcB)=[(qcB,Lib.tabData .u64 Lib.pow10Tab)]:=by kernel_rfl
 rw[e]at h1
 have h2:laidMet Tryz.prog [(qcB,Lib.tabData .u64 Lib.pow10Tab)] W:=by
  rw[MakeChecks.laidMetH_plain _ _ _ (by kernel_rfl)]at h1
  exact h1
 have ht:Lib.TabIs Tryz.prog W qcB .u64 Lib.pow10Tab:=
  Lib.tabIs_of_head (rest:=[]) (t:=329) (e:=274) (n:=20) qfj (by kernel_rfl) (by kernel_rfl) (by kernel_rfl) (by kernel_rfl) (by kernel_rfl) h2
 refine⟨?_,ht⟩
 unfold Lib.TabIs World.var? at ht
 rw[qfj]at ht
 simp only[Option.bind_some]at ht
 show 3<W.heap.size
 rcases Nat.lt_or_ge 3 W.heap.size with h5|h5
 ·exact h5
 ·rw[Array.getElem?_eq_none h5]at ht
  cases ht
theorem own:ownKnob Tryz.prog.godebug=none:=by kernel_rfl
theorem lifted (os:Os) (started:os.Started) (H:Type) (enc:TypeId×Value→H):
 ReturnsInHanded {} Tryz.checked os 13 .any (fun w args=>(Rows.recordGathersSpec.pre enc Tryz.prog Tryz.f13 Rows.recordGathersRow.domain false w args∧laidMetH Tryz.prog Rows.recordGathersRow.laid w)∧sizedMet enc Tryz.prog Tryz.f13 (OpenSpec.ofChange Rows.recordGathersSpec) false w args)
  (Rows.recordGathersSpec.post enc Tryz.prog Tryz.f13 false true false false):=by
 refine returnsInHanded_of_change_and (C:=Tryz.checked) (X:=fun w _=>laidMetH Tryz.prog Rows.recordGathersRow.laid w) (fun _ _ _ hh h=>h.of_heap hh) own started (by kernel_rfl) Tryz.func13
  (ChangeSpec.witness_shaped (enc:=enc) (C:=Tryz.checked) (os:=os) (X:=fun w _=>laidMetH Tryz.prog Rows.recordGathersRow.laid w) false (World.laidAll Tryz.prog os Rows.recordGathersRow.laid) #[.slice none 0 0,.agg #[.int .u16 0,.int .u16 0,.int .u16 0]] 8 (World.laidAll_os _ _ _)
   (World.shaped_of_ZipB (by kernel_rfl) (by kernel_rfl)) (by kernel_rfl) (by kernel_rfl) (by kernel_rfl)
   (by rw[MakeChecks.laidMetH_plain _ _ _ (by kernel_rfl)];exact laidMet_laidAll _ (by kernel_rfl) (by kernel_rfl))) ?_
 intro W base args ds gs before hval hW _ hw hL _
 exact contract H enc W base args ds gs before hval hW hw (qnz hL)
theorem factA:Tryz.pinned.checked.prog.funcNamed Rows.recordGathersRow.func=some 13:=by kernel_rfl
theorem fact0:(Rows.recordGathersRow.wf (OpenSpec.ofChange Rows.recordGathersSpec))=true:=by kernel_rfl
theorem fact1:(laidOutB Tryz.pinned.checked.prog)=true:=by kernel_rfl
theorem fact2:(mapsRowed Tryz.pinned.checked.prog)=true:=by kernel_rfl
theorem fact3:(Tryz.f13.params.all (Tryz.pinned.checked.prog.readableRec ·))=true:=by kernel_rfl
theorem fact4:(namedTie Tryz.pinned.checked.prog Rows.recordGathersRow.named Rows.recordGathersSpec.vars)=true:=by kernel_rfl
theorem fact5:((Rows.recordGathersRow.stops==[]))=true:=by kernel_rfl
theorem fact6:((Tryz.pinned.checked.prog.stops==[]))=true:=by kernel_rfl
theorem fact7:((Rows.recordGathersRow.knobs==[]))=true:=by kernel_rfl
theorem fact8:((Tryz.pinned.checked.prog.stopKnobs==[]))=true:=by kernel_rfl
theorem fact9:((Rows.recordGathersRow.inPlace==Tryz.pinned.checked.prog.inPlace 13))=true:=by kernel_rfl
theorem qpf:((Rows.recordGathersRow.unfollowed==Tryz.pinned.checked.prog.unfollowed 13))=true:=by kernel_rfl
theorem qpk:((Rows.recordGathersRow.recurses==Tryz.pinned.checked.prog.recurses 13))=true:=by kernel_rfl
theorem qoZ:((Rows.recordGathersRow.named==Tryz.pinned.checked.prog.varsNamed 13))=true:=by kernel_rfl
theorem qpe:((Rows.recordGathersRow.maps==(Tryz.f13.params.toList++Rows.recordGathersSpec.plain.varTypes Tryz.pinned.checked.prog).any (Tryz.pinned.checked.prog.mapsRec ·)))=true:=by kernel_rfl
theorem qo1:((Rows.recordGathersRow.ifaces==(Tryz.f13.params.toList++Rows.recordGathersSpec.plain.varTypes Tryz.pinned.checked.prog).any (Tryz.pinned.checked.prog.ifacesRec ·)))=true:=by kernel_rfl
theorem qpt:((Rows.recordGathersRow.mapsOut==Tryz.pinned.checked.prog.mapsAmong Tryz.f13.resultTypes.toList))=true:=by kernel_rfl
theorem qpv:((Rows.recordGathersRow.loops==(Tryz.f13.params.toList++Rows.recordGathersSpec.plain.varTypes Tryz.pinned.checked.prog).any (Tryz.pinned.checked.prog.loopsFrom ·)))=true:=by kernel_rfl
theorem qoU:((Rows.recordGathersRow.wideKeys==(Tryz.f13.params.toList++Rows.recordGathersSpec.plain.varTypes Tryz.pinned.checked.prog++Tryz.f13.resultTypes.toList).any (Tryz.pinned.checked.prog.wideKeysFrom ·)))=true:=by kernel_rfl
theorem qoW:(Rows.recordGathersSpec.vars.all (Tryz.pinned.checked.prog.varReadable ·))=true:=by kernel_rfl
theorem qpB:(Tryz.f13.resultTypes.all (fun t=>Tryz.pinned.checked.prog.readableRec t&&decide (t<Tryz.pinned.checked.prog.types.size)))=true:=by kernel_rfl
theorem qo5:((Rows.recordGathersRow.ifacesOut==Tryz.f13.resultTypes.toList.any (Tryz.pinned.checked.prog.ifacesRec ·)))=true:=by kernel_rfl
theorem qpz:((Rows.recordGathersRow.loopsOut==Tryz.f13.resultTypes.toList.any (Tryz.pinned.checked.prog.loopsFrom ·)))=true:=by kernel_rfl
theorem qo2:((Rows.recordGathersRow.plainKeys==Tryz.pinned.checked.prog.plainKeys))=true:=by kernel_rfl
theorem qo7:(Rows.recordGathersRow.shortTexts.isNone)=true:=by kernel_rfl
theorem qpc:(Tryz.pinned.checked.prog.stopsHeard)=true:=by kernel_rfl
theorem qph:(Tryz.pinned.checked.prog.mayEnter)=true:=by kernel_rfl
theorem qpj:((Rows.recordGathersRow.lifted==Tryz.pinned.checked.prog.liftsFinal))=true:=by kernel_rfl
theorem qpr:((Tryz.pinned.checked.prog.make==some Rows.recordGathersRow.make))=true:=by kernel_rfl
theorem qpw:((Rows.recordGathersRow.kinds==(if Rows.recordGathersRow.domain.isEmpty then[]else Tryz.f13.params.toList.map fun t=>match Tryz.pinned.checked.prog.underlying t with|some (.int k)=>some k|_=>none)))=true:=by kernel_rfl
theorem qpx:((Rows.recordGathersRow.pinned==Rows.recordGathersRow.pinnedBy))=true:=by kernel_rfl
theorem qoX:((Rows.recordGathersRow.veiled==(Tryz.f13.params.toList++Rows.recordGathersSpec.plain.varTypes Tryz.pinned.checked.prog++Tryz.f13.resultTypes.toList).any (Tryz.pinned.checked.prog.veiledRec ·)))=true:=by kernel_rfl
theorem qpE:(Rows.recordGathersRow.veiledFits Tryz.pinned.checked.prog Tryz.f13.params.toList (Tryz.f13.params.toList++Rows.recordGathersSpec.plain.varTypes Tryz.pinned.checked.prog++Tryz.f13.resultTypes.toList))=true:=by kernel_rfl
theorem factB:joinedFacts Tryz.pinned.checked.prog 13 Tryz.f13 Rows.recordGathersSpec Rows.recordGathersRow=true:=by
 unfold joinedFacts
 exact(qaw (qaw (qaw (qaw (qaw (qaw (qaw (qaw (qaw (qaw (qaw (qaw (qaw (qaw (qaw (qaw (qaw (qaw (qaw (qaw (qaw (qaw (qaw (qaw (qaw (qaw (qaw (qaw (qaw (qaw (qaw fact0 fact1) fact2) fact3) fact4) fact5) fact6) fact7) fact8) fact9) qpf) qpk) qoZ) qpe) qo1) qpt) qpv) qoU) qoW) qpB) qo5) qpz) qo2) qo7) qpc) qph) qpj) qpr) qpw) qpx) qoX) qpE)
theorem factC:Tryz.f13.isInstance Tryz.pinned.checked.prog Rows.recordGathersRow.origin Rows.recordGathersRow.targs:=of_decide_eq_true (by kernel_rfl)
theorem factD:Tryz.f13.isWrapper Tryz.pinned.checked.prog Rows.recordGathersRow.wrapper Rows.recordGathersRow.mainSum:=by unfold Func.isWrapper;first|(rw[if_pos (by decide+kernel)];kernel_rfl)|(rw[if_neg (by decide+kernel)];exact⟨rfl,rfl⟩)
theorem said:Rows.RecordGathersSaid:=
 OpenClaim.holds_of_wide 13 Tryz.f13 rfl rfl rfl rfl rfl rfl rfl ⟨rfl,rfl,rfl,rfl,rfl⟩ rfl rfl rfl rfl rfl factA Tryz.func13 factB factC factD
  (fun os started H enc _=>lifted os started H enc)
theorem qoq:Tryz.pinned.checked.prog.wantsStandIn 96=false:=by kernel_rfl
theorem qmC:Tryz.pinned.checked.prog.wantsStandIn 117=false:=by kernel_rfl
theorem qpi:true=Tryz.pinned.checked.prog.looks []:=by kernel_rfl
theorem plain (f:FuncId) (fn:Func) (hf:Tryz.pinned.checked.prog.funcNamed "becket/becketlaw10.RecordGathers" =some f) (hfn:Tryz.pinned.checked.prog.funcs[f]? =some fn):
 true=Tryz.pinned.checked.prog.looks []∧ ∀(j:Nat) t,fn.params[j]? =some t→Tryz.pinned.checked.prog.wantsStandIn t=false:=by
 obtain rfl:f=13:=Option.some.inj ((show Tryz.prog.funcNamed "becket/becketlaw10.RecordGathers" =some 13 by kernel_rfl).symm.trans hf)|>.symm
 obtain rfl:fn=Tryz.f13:=(Option.some.inj (Tryz.func13.symm.trans hfn)).symm
 refine⟨qpi,fun j t ht=>?_⟩
 rw[Tryz.params13]at ht
 have ht:t=96∨t=117:=by have:=Array.mem_of_getElem? ht;simpa using this
 rcases ht with rfl|rfl
 ·exact qoq
 ·exact qmC
theorem card:Rows.RecordGathersCardSaid:=
 Claim7.holds_tied_plain_at .later [] _ _ _ _ said (fun _ h=>by cases h) (by kernel_rfl) (fun _ h=>by cases h) recordGathers_row_tie rfl ⟨rfl,rfl⟩ (by kernel_rfl) rfl plain (by kernel_rfl)
end Go.Av
namespace Go.Proofs.YtjflombnfhlkaaaGreatDoor
theorem recordGathers_holds:Rows.RecordGathersCardSaid:=Go.Av.card
end Go.Proofs.YtjflombnfhlkaaaGreatDoor
