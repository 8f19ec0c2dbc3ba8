/-
  It is proved that RecordFolds returns true for all inputs. Conditions: those of the given row alone (the listed package variables hold what the program's text lays).
-/
import Derived.Test.YtjflombnfhlkaaaGreatDoorPfB
import Derived.Test.YtjflombnfhlkaaaGreatDoorAvInW
import Derived.Test.YtjflombnfhlkaaaGreatDoorAvAwk10
import Derived.Test.YtjflombnfhlkaaaGreatDoorCards
import Derived.Test.YtjflombnfhlkaaaGreatDoorTie
import Derived.Lay
import Derived.LaidMore
import Derived.LaidSub
import Derived.SevenTiedAt
import Derived.Stop.Joined
import Derived.Lib.LaidTab
import Derived.Lib.ItoaNum
noncomputable section
namespace Go.Av
open Go.Proofs Go.Proofs.YtjflombnfhlkaaaGreatDoor
open Go.ChangeShapes Go.WideShapes Go.ChangeAt Go.RowKit
set_option linter.unusedSectionVars false
set_option maxRecDepth 100000
theorem ud96:Tryz.prog.underlying 96=some (.slice 132):=by kernel_rfl
theorem ud9:Tryz.prog.underlying 9=some (.string):=by kernel_rfl
theorem rd9:ve Tryz.prog 9 encS:=ve.str ud9
theorem ud3:Tryz.prog.underlying 3=some (.int .i64):=by kernel_rfl
theorem rd3:ve Tryz.prog 3 encI:=ve.i64 ud3
theorem ud132:Tryz.prog.underlying 132=some (.struct #[{name:= "Desk",type:=9,offset:=0,embedded:=false,tag:= "",pkgPath:= "",byteOffset:=0},{name:= "Number",type:=3,offset:=1,embedded:=false,tag:= "",pkgPath:= "",byteOffset:=16},{name:= "Clock",type:=3,offset:=2,embedded:=false,tag:= "",pkgPath:= "",byteOffset:=24},{name:= "Line",type:=9,offset:=3,embedded:=false,tag:= "",pkgPath:= "",byteOffset:=32}]):=by kernel_rfl
theorem rd132:ve Tryz.prog 132 qa:=qab.struct (fl:=[{name:= "Desk",type:=9,offset:=0,embedded:=false,tag:= "",pkgPath:= "",byteOffset:=0},{name:= "Number",type:=3,offset:=1,embedded:=false,tag:= "",pkgPath:= "",byteOffset:=16},{name:= "Clock",type:=3,offset:=2,embedded:=false,tag:= "",pkgPath:= "",byteOffset:=24},{name:= "Line",type:=9,offset:=3,embedded:=false,tag:= "",pkgPath:= "",byteOffset:=32}]) ud132 rfl (by kernel_rfl) (fun(x0,x1,x2,x3)=>(⟨x0,x1,x2,x3⟩:qm)) (fun _=>rfl) (qab.cons rfl (by kernel_rfl) rd9 (qab.cons rfl (by kernel_rfl) rd3 (qab.cons rfl (by kernel_rfl) rd3 (qab.last rfl (by kernel_rfl) rd9))))
theorem ud97:Tryz.prog.underlying 97=some (.slice 141):=by kernel_rfl
theorem ud141:Tryz.prog.underlying 141=some (.struct #[{name:= "Desk",type:=9,offset:=0,embedded:=false,tag:= "",pkgPath:= "",byteOffset:=0},{name:= "Number",type:=3,offset:=1,embedded:=false,tag:= "",pkgPath:= "",byteOffset:=16}]):=by kernel_rfl
theorem rd141:ve Tryz.prog 141 qd:=qab.struct (fl:=[{name:= "Desk",type:=9,offset:=0,embedded:=false,tag:= "",pkgPath:= "",byteOffset:=0},{name:= "Number",type:=3,offset:=1,embedded:=false,tag:= "",pkgPath:= "",byteOffset:=16}]) ud141 rfl (by kernel_rfl) (fun(x0,x1)=>(⟨x0,x1⟩:qB)) (fun _=>rfl) (qab.cons rfl (by kernel_rfl) rd9 (qab.last rfl (by kernel_rfl) rd3))
theorem tyB:Tryz.prog.underlying 4=some .bool:=by kernel_rfl
theorem laidOut:laidOutB Tryz.prog=true:=by kernel_rfl
theorem contract (H:Type) (enc:TypeId×Value→H) (W:World) (base:Nat) (args:Array Value) (ds gs:List (DataW H)) (before:List MemPlace)
 (hval: ∀(j:Nat) t v,Tryz.f10.params[j]? =some t→args[j]? =some v→Value.okWide Tryz.prog W .any base t v)
 (hW:DataW.Whole enc Tryz.prog Tryz.f10.params.toList Rows.recordFoldsSpec.vars false W args.toList ds gs before)
 (hw:(DataW.weightsEach Tryz.prog (Tryz.f10.params.toList++Rows.recordFoldsSpec.plain.varTypes Tryz.prog) (ds++gs)).all (· ≤reachBytes)=true) (hG:Glob.G (AllOf W) W):
 Calls Tryz.prog 10 args W fun e W'=> ∃v,e= .returned v∧Rows.recordFoldsSpec.post enc Tryz.prog Tryz.f10 false true false false W args v W':=by
 have hW':=hW
 obtain⟨p,q,hA0,hV,rfl,hfz,hnd⟩:=hW
 have r0:DataW.TrodAll enc Tryz.prog W 0 (fun _=>true) true Tryz.f10.params.toList args.toList ds p:=hA0
 rw[Tryz.params10]at r0 hval hw
 obtain⟨v0,vs0,d0,ds0,p0,q0,hargs,rfl,rfl,h0,r1⟩:=trodAll_cons r0
 obtain⟨v1,vs1,d1,ds1,p1,q1,rfl,rfl,rfl,h1,r2⟩:=trodAll_cons r1
 obtain⟨rfl,rfl,rfl⟩:=trodAll_nil r2
 obtain⟨hw0,hw⟩:=qio (t:=96) (d:=d0) hw
 obtain⟨hw1,hw⟩:=qio (t:=97) (d:=d1) hw
 obtain rfl:args=#[v0,v1]:=by cases args;simp_all
 obtain⟨a0,hu0,hb0⟩:=In.listW ud96 (by kernel_rfl) rd132 (hval 0 96 v0 rfl rfl) h0 hw0
 rw[show Tryz.prog.bytesOf 132=48 by kernel_rfl]at hb0
 obtain⟨a1,hu1,hb1⟩:=In.listW ud97 (by kernel_rfl) rd141 (hval 1 97 v1 rfl rfl) h1 hw1
 rw[show Tryz.prog.bytesOf 141=24 by kernel_rfl]at hb1
 refine qkQ laidOut (fun t ht=>?_) rfl (show Tryz.f10.resultTypes=#[4]from rfl) tyB (fun ds hds=>?_) hW' (enters_of (by kernel_rfl)) (qcX (3000+a0.length+a1.length) a0 a1 (qep a0 a1 hb0 hb1)) hG (al:=[vl qa a0,vl qd a1]) ⟨rfl,fun i a v ha hv=>?_⟩
 ·rw[Tryz.params10]at ht
  have ht:t=96∨t=97:=by simpa using ht
  rcases ht with rfl|rfl
  ·exact⟨by kernel_rfl,of_decide_eq_true (by kernel_rfl)⟩
  ·exact⟨by kernel_rfl,of_decide_eq_true (by kernel_rfl)⟩
 ·rw[Tryz.params10]at hds
  match ds,hds with
  |[d1,d2],_=>exact⟨rfl,rfl,rfl⟩
 ·match i with
  |0=>simp at ha hv;subst ha hv;exact hu0
  |1=>simp at ha hv;subst ha hv;exact hu1
  |i+2=>simp at ha
theorem qmk {W:World} (h:laidMetH Tryz.prog Rows.recordFoldsRow.laid W):Glob.G (AllOf W) W:=by
 have h1:=h.filter fun x=>x.1==qcv
 have e:(Rows.recordFoldsRow.laid.filter fun x=>x.1==qcv)=[(qcv,Lib.tabData .u64 Lib.pow10Tab)]:=by kernel_rfl
 rw[e]at h1
 have h2:laidMet Tryz.prog [(qcv,Lib.tabData .u64 Lib.pow10Tab)] W:=by
  rw[MakeChecks.laidMetH_plain _ _ _ (by kernel_rfl)]at h1
  exact h1
 have ht:Lib.TabIs Tryz.prog W qcv .u64 Lib.pow10Tab:=
  Lib.tabIs_of_head (rest:=[]) (t:=329) (e:=274) (n:=20) qfg (by kernel_rfl) (by kernel_rfl) (by kernel_rfl) (by kernel_rfl) (by kernel_rfl) h2
 refine⟨?_,ht⟩
 unfold Lib.TabIs World.var? at ht
 rw[qfg]at ht
 simp only[Option.bind_some]at ht
 show 3<W.heap.size
 rcases Nat.lt_or_ge 3 W.heap.size with h5|h5
 ·exact h5
 ·rw[Array.getElem?_eq_none h5]at ht
  cases ht
theorem own:ownKnob Tryz.prog.godebug=none:=by kernel_rfl
theorem lifted (os:Os) (started:os.Started) (H:Type) (enc:TypeId×Value→H):
 ReturnsInHanded {} Tryz.checked os 10 .any (fun w args=>(Rows.recordFoldsSpec.pre enc Tryz.prog Tryz.f10 Rows.recordFoldsRow.domain false w args∧laidMetH Tryz.prog Rows.recordFoldsRow.laid w)∧sizedMet enc Tryz.prog Tryz.f10 (OpenSpec.ofChange Rows.recordFoldsSpec) false w args)
  (Rows.recordFoldsSpec.post enc Tryz.prog Tryz.f10 false true false false):=by
 refine returnsInHanded_of_change_and (C:=Tryz.checked) (X:=fun w _=>laidMetH Tryz.prog Rows.recordFoldsRow.laid w) (fun _ _ _ hh h=>h.of_heap hh) own started (by kernel_rfl) Tryz.func10
  (ChangeSpec.witness_shaped (enc:=enc) (C:=Tryz.checked) (os:=os) (X:=fun w _=>laidMetH Tryz.prog Rows.recordFoldsRow.laid w) false (World.laidAll Tryz.prog os Rows.recordFoldsRow.laid) #[.slice none 0 0,.slice none 0 0] 8 (World.laidAll_os _ _ _)
   (World.shaped_of_ZipB (by kernel_rfl) (by kernel_rfl)) (by kernel_rfl) (by kernel_rfl) (by kernel_rfl)
   (by rw[MakeChecks.laidMetH_plain _ _ _ (by kernel_rfl)];exact laidMet_laidAll _ (by kernel_rfl) (by kernel_rfl))) ?_
 intro W base args ds gs before hval hW _ hw hL _
 exact contract H enc W base args ds gs before hval hW hw (qmk hL)
theorem factA:Tryz.pinned.checked.prog.funcNamed Rows.recordFoldsRow.func=some 10:=by kernel_rfl
theorem fact0:(Rows.recordFoldsRow.wf (OpenSpec.ofChange Rows.recordFoldsSpec))=true:=by kernel_rfl
theorem fact1:(laidOutB Tryz.pinned.checked.prog)=true:=by kernel_rfl
theorem fact2:(mapsRowed Tryz.pinned.checked.prog)=true:=by kernel_rfl
theorem fact3:(Tryz.f10.params.all (Tryz.pinned.checked.prog.readableRec ·))=true:=by kernel_rfl
theorem fact4:(namedTie Tryz.pinned.checked.prog Rows.recordFoldsRow.named Rows.recordFoldsSpec.vars)=true:=by kernel_rfl
theorem fact5:((Rows.recordFoldsRow.stops==[]))=true:=by kernel_rfl
theorem fact6:((Tryz.pinned.checked.prog.stops==[]))=true:=by kernel_rfl
theorem fact7:((Rows.recordFoldsRow.knobs==[]))=true:=by kernel_rfl
theorem fact8:((Tryz.pinned.checked.prog.stopKnobs==[]))=true:=by kernel_rfl
theorem fact9:((Rows.recordFoldsRow.inPlace==Tryz.pinned.checked.prog.inPlace 10))=true:=by kernel_rfl
theorem qnZ:((Rows.recordFoldsRow.unfollowed==Tryz.pinned.checked.prog.unfollowed 10))=true:=by kernel_rfl
theorem qnO:((Rows.recordFoldsRow.recurses==Tryz.pinned.checked.prog.recurses 10))=true:=by kernel_rfl
theorem qn0:((Rows.recordFoldsRow.named==Tryz.pinned.checked.prog.varsNamed 10))=true:=by kernel_rfl
theorem qnP:((Rows.recordFoldsRow.maps==(Tryz.f10.params.toList++Rows.recordFoldsSpec.plain.varTypes Tryz.pinned.checked.prog).any (Tryz.pinned.checked.prog.mapsRec ·)))=true:=by kernel_rfl
theorem qno:((Rows.recordFoldsRow.ifaces==(Tryz.f10.params.toList++Rows.recordFoldsSpec.plain.varTypes Tryz.pinned.checked.prog).any (Tryz.pinned.checked.prog.ifacesRec ·)))=true:=by kernel_rfl
theorem qn4:((Rows.recordFoldsRow.mapsOut==Tryz.pinned.checked.prog.mapsAmong Tryz.f10.resultTypes.toList))=true:=by kernel_rfl
theorem qnM:((Rows.recordFoldsRow.loops==(Tryz.f10.params.toList++Rows.recordFoldsSpec.plain.varTypes Tryz.pinned.checked.prog).any (Tryz.pinned.checked.prog.loopsFrom ·)))=true:=by kernel_rfl
theorem qnT:((Rows.recordFoldsRow.wideKeys==(Tryz.f10.params.toList++Rows.recordFoldsSpec.plain.varTypes Tryz.pinned.checked.prog++Tryz.f10.resultTypes.toList).any (Tryz.pinned.checked.prog.wideKeysFrom ·)))=true:=by kernel_rfl
theorem qnt:(Rows.recordFoldsSpec.vars.all (Tryz.pinned.checked.prog.varReadable ·))=true:=by kernel_rfl
theorem qnK:(Tryz.f10.resultTypes.all (fun t=>Tryz.pinned.checked.prog.readableRec t&&decide (t<Tryz.pinned.checked.prog.types.size)))=true:=by kernel_rfl
theorem qnV:((Rows.recordFoldsRow.ifacesOut==Tryz.f10.resultTypes.toList.any (Tryz.pinned.checked.prog.ifacesRec ·)))=true:=by kernel_rfl
theorem qnC:((Rows.recordFoldsRow.loopsOut==Tryz.f10.resultTypes.toList.any (Tryz.pinned.checked.prog.loopsFrom ·)))=true:=by kernel_rfl
theorem qnz:((Rows.recordFoldsRow.plainKeys==Tryz.pinned.checked.prog.plainKeys))=true:=by kernel_rfl
theorem qnI:(Rows.recordFoldsRow.shortTexts.isNone)=true:=by kernel_rfl
theorem qnS:(Tryz.pinned.checked.prog.stopsHeard)=true:=by kernel_rfl
theorem qn3:(Tryz.pinned.checked.prog.mayEnter)=true:=by kernel_rfl
theorem qnD:((Rows.recordFoldsRow.lifted==Tryz.pinned.checked.prog.liftsFinal))=true:=by kernel_rfl
theorem qnH:((Tryz.pinned.checked.prog.make==some Rows.recordFoldsRow.make))=true:=by kernel_rfl
theorem qn1:((Rows.recordFoldsRow.kinds==(if Rows.recordFoldsRow.domain.isEmpty then[]else Tryz.f10.params.toList.map fun t=>match Tryz.pinned.checked.prog.underlying t with|some (.int k)=>some k|_=>none)))=true:=by kernel_rfl
theorem qnQ:((Rows.recordFoldsRow.pinned==Rows.recordFoldsRow.pinnedBy))=true:=by kernel_rfl
theorem qnw:((Rows.recordFoldsRow.veiled==(Tryz.f10.params.toList++Rows.recordFoldsSpec.plain.varTypes Tryz.pinned.checked.prog++Tryz.f10.resultTypes.toList).any (Tryz.pinned.checked.prog.veiledRec ·)))=true:=by kernel_rfl
theorem qnA:(Rows.recordFoldsRow.veiledFits Tryz.pinned.checked.prog Tryz.f10.params.toList (Tryz.f10.params.toList++Rows.recordFoldsSpec.plain.varTypes Tryz.pinned.checked.prog++Tryz.f10.resultTypes.toList))=true:=by kernel_rfl
theorem factB:joinedFacts Tryz.pinned.checked.prog 10 Tryz.f10 Rows.recordFoldsSpec Rows.recordFoldsRow=true:=by
 unfold joinedFacts
 exact(qag (qag (qag (qag (qag (qag (qag (qag (qag (qag (qag (qag (qag (qag (qag (qag (qag (qag (qag (qag (qag (qag (qag (qag (qag (qag (qag (qag (qag (qag (qag fact0 fact1) fact2) fact3) fact4) fact5) fact6) fact7) fact8) fact9) qnZ) qnO) qn0) qnP) qno) qn4) qnM) qnT) qnt) qnK) qnV) qnC) qnz) qnI) qnS) qn3) qnD) qnH) qn1) qnQ) qnw) qnA)
theorem factC:Tryz.f10.isInstance Tryz.pinned.checked.prog Rows.recordFoldsRow.origin Rows.recordFoldsRow.targs:=of_decide_eq_true (by kernel_rfl)
theorem factD:Tryz.f10.isWrapper Tryz.pinned.checked.prog Rows.recordFoldsRow.wrapper Rows.recordFoldsRow.mainSum:=by unfold Func.isWrapper;first|(rw[if_pos (by decide+kernel)];kernel_rfl)|(rw[if_neg (by decide+kernel)];exact⟨rfl,rfl⟩)
theorem said:Rows.RecordFoldsSaid:=
 OpenClaim.holds_of_wide 10 Tryz.f10 rfl rfl rfl rfl rfl rfl rfl ⟨rfl,rfl,rfl,rfl,rfl⟩ rfl rfl rfl rfl rfl factA Tryz.func10 factB factC factD
  (fun os started H enc _=>lifted os started H enc)
theorem qm1:Tryz.pinned.checked.prog.wantsStandIn 96=false:=by kernel_rfl
theorem qm2:Tryz.pinned.checked.prog.wantsStandIn 97=false:=by kernel_rfl
theorem qn2:true=Tryz.pinned.checked.prog.looks []:=by kernel_rfl
theorem plain (f:FuncId) (fn:Func) (hf:Tryz.pinned.checked.prog.funcNamed "becket/becketlaw10.RecordFolds" =some f) (hfn:Tryz.pinned.checked.prog.funcs[f]? =some fn):
 true=Tryz.pinned.checked.prog.looks []∧ ∀(j:Nat) t,fn.params[j]? =some t→Tryz.pinned.checked.prog.wantsStandIn t=false:=by
 obtain rfl:f=10:=Option.some.inj ((show Tryz.prog.funcNamed "becket/becketlaw10.RecordFolds" =some 10 by kernel_rfl).symm.trans hf)|>.symm
 obtain rfl:fn=Tryz.f10:=(Option.some.inj (Tryz.func10.symm.trans hfn)).symm
 refine⟨qn2,fun j t ht=>?_⟩
 rw[Tryz.params10]at ht
 have ht:t=96∨t=97:=by have:=Array.mem_of_getElem? ht;simpa using this
 rcases ht with rfl|rfl
 ·exact qm1
 ·exact qm2
theorem card:Rows.RecordFoldsCardSaid:=
 Claim7.holds_tied_plain_at .later [] _ _ _ _ said (fun _ h=>by cases h) (by kernel_rfl) (fun _ h=>by cases h) recordFolds_row_tie rfl ⟨rfl,rfl⟩ (by kernel_rfl) rfl plain (by kernel_rfl)
end Go.Av
namespace Go.Proofs.YtjflombnfhlkaaaGreatDoor
theorem recordFolds_holds:Rows.RecordFoldsCardSaid:=Go.Av.card
end Go.Proofs.YtjflombnfhlkaaaGreatDoor
