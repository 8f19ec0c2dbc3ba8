/-
  It is proved that RecordLogs returns true for all inputs. Conditions: those of the given row alone (the listed package variables hold what the program's text lays).
-/
import Derived.Test.YtjflombnfhlkaaaGreatDoorQGenG
import Derived.Test.YtjflombnfhlkaaaGreatDoorPgB
import Derived.Test.YtjflombnfhlkaaaGreatDoorAvIn
import Derived.Test.YtjflombnfhlkaaaGreatDoorAvAwk10
import Derived.Test.YtjflombnfhlkaaaGreatDoorCards
import Derived.Test.YtjflombnfhlkaaaGreatDoorTie
import Derived.Lay
import Derived.LaidMore
import Derived.LaidSub
import Derived.SevenTiedAt
import Derived.Stop.Joined
import Derived.Lib.LaidTab
import Derived.Lib.ItoaNum
noncomputable section
namespace Go.Av
open Go.Proofs Go.Proofs.YtjflombnfhlkaaaGreatDoor
open Go.ChangeShapes Go.WideShapes Go.ChangeAt Go.RowKit
set_option linter.unusedSectionVars false
set_option maxRecDepth 100000
theorem ud9:Tryz.prog.underlying 9=some (.string):=by kernel_rfl
theorem rd9:zR Tryz.prog 9 encS:=zR.str ud9
theorem ud24:Tryz.prog.underlying 24=some (.slice 3):=by kernel_rfl
theorem ud3:Tryz.prog.underlying 3=some (.int .i64):=by kernel_rfl
theorem rd3:zR Tryz.prog 3 encI:=zR.i64 ud3
theorem rd24:zR Tryz.prog 24 (jl encI):=zR.list ud24 (by kernel_rfl) rd3
theorem ud23:Tryz.prog.underlying 23=some (.slice 9):=by kernel_rfl
theorem rd23:zR Tryz.prog 23 (jl encS):=zR.list ud23 (by kernel_rfl) rd9
theorem ud26:Tryz.prog.underlying 26=some (.struct #[{name:= "Number",type:=3,offset:=0,embedded:=false,tag:= "",pkgPath:= "",byteOffset:=0},{name:= "Kind",type:=9,offset:=1,embedded:=false,tag:= "",pkgPath:= "",byteOffset:=8},{name:= "Names",type:=23,offset:=2,embedded:=false,tag:= "",pkgPath:= "",byteOffset:=24},{name:= "Values",type:=24,offset:=3,embedded:=false,tag:= "",pkgPath:= "",byteOffset:=48},{name:= "Text",type:=9,offset:=4,embedded:=false,tag:= "",pkgPath:= "",byteOffset:=72}]):=by kernel_rfl
theorem rd26:zR Tryz.prog 26 qa:=yM.struct (fl:=[{name:= "Number",type:=3,offset:=0,embedded:=false,tag:= "",pkgPath:= "",byteOffset:=0},{name:= "Kind",type:=9,offset:=1,embedded:=false,tag:= "",pkgPath:= "",byteOffset:=8},{name:= "Names",type:=23,offset:=2,embedded:=false,tag:= "",pkgPath:= "",byteOffset:=24},{name:= "Values",type:=24,offset:=3,embedded:=false,tag:= "",pkgPath:= "",byteOffset:=48},{name:= "Text",type:=9,offset:=4,embedded:=false,tag:= "",pkgPath:= "",byteOffset:=72}]) ud26 rfl (by kernel_rfl) (fun(x0,x1,x2,x3,x4)=>(⟨x0,x1,x2,x3,x4⟩:qb)) (fun _=>rfl) (yM.cons rfl (by kernel_rfl) rd3 (yM.cons rfl (by kernel_rfl) rd9 (yM.cons rfl (by kernel_rfl) rd23 (yM.cons rfl (by kernel_rfl) rd24 (yM.last rfl (by kernel_rfl) rd9)))))
theorem tyB:Tryz.prog.underlying 4=some .bool:=by kernel_rfl
theorem laidOut:laidOutB Tryz.prog=true:=by kernel_rfl
theorem contract (H:Type) (enc:TypeId×Value→H) (W:World) (base:Nat) (args:Array Value) (ds gs:List (DataW H)) (before:List MemPlace)
 (hval: ∀(j:Nat) t v,Tryz.f7.params[j]? =some t→args[j]? =some v→Value.okWide Tryz.prog W .any base t v)
 (hW:DataW.Whole enc Tryz.prog Tryz.f7.params.toList Rows.recordLogsSpec.vars false W args.toList ds gs before) (hG:Glob.G (AllOf W) W):
 Calls Tryz.prog 7 args W fun e W'=> ∃v,e= .returned v∧Rows.recordLogsSpec.post enc Tryz.prog Tryz.f7 false true false false W args v W':=by
 have hW':=hW
 obtain⟨p,q,hA0,hV,rfl,hfz,hnd⟩:=hW
 have r0:DataW.TrodAll enc Tryz.prog W 0 (fun _=>true) true Tryz.f7.params.toList args.toList ds p:=hA0
 rw[Tryz.params7]at r0 hval
 obtain⟨v0,vs0,d0,ds0,p0,q0,hargs,rfl,rfl,h0,r1⟩:=trodAll_cons r0
 obtain⟨v1,vs1,d1,ds1,p1,q1,rfl,rfl,rfl,h1,r2⟩:=trodAll_cons r1
 obtain⟨rfl,rfl,rfl⟩:=trodAll_nil r2
 obtain rfl:args=#[v0,v1]:=by cases args;simp_all
 obtain⟨a0,hu0⟩:=In.struct ud26 rd26 (hval 0 26 v0 rfl rfl) h0
 obtain⟨a1,hu1⟩:=In.str ud9 (hval 1 9 v1 rfl rfl)
 refine qim laidOut (fun t ht=>?_) rfl (show Tryz.f7.resultTypes=#[4]from rfl) tyB (fun ds hds=>?_) hW' (enters_of (by kernel_rfl)) (qbH 3000 a0 a1 (qcF a0 a1)) hG (al:=[.agg [.i a0.Number,.str a0.Kind,vl encS a0.Names,vl encI a0.Values,.str a0.Text],.str a1]) ⟨rfl,fun i a v ha hv=>?_⟩
 ·rw[Tryz.params7]at ht
  have ht:t=26∨t=9:=by simpa using ht
  rcases ht with rfl|rfl
  ·exact⟨by kernel_rfl,of_decide_eq_true (by kernel_rfl)⟩
  ·exact⟨by kernel_rfl,of_decide_eq_true (by kernel_rfl)⟩
 ·rw[Tryz.params7]at hds
  match ds,hds with
  |[d1,d2],_=>exact⟨rfl,rfl,rfl⟩
 ·match i with
  |0=>simp at ha hv;subst ha hv;exact hu0
  |1=>simp at ha hv;subst ha hv;exact hu1
  |i+2=>simp at ha
theorem qiF {W:World} (h:laidMetH Tryz.prog Rows.recordLogsRow.laid W):Glob.G (AllOf W) W:=by
 have h1:=h.filter fun x=>x.1==qa7
 have e:(Rows.recordLogsRow.laid.filter fun x=>x.1==qa7)=[(qa7,Lib.tabData .u64 Lib.pow10Tab)]:=by kernel_rfl
 rw[e]at h1
 have h2:laidMet Tryz.prog [(qa7,Lib.tabData .u64 Lib.pow10Tab)] W:=by
  rw[MakeChecks.laidMetH_plain _ _ _ (by kernel_rfl)]at h1
  exact h1
 have ht:Lib.TabIs Tryz.prog W qa7 .u64 Lib.pow10Tab:=
  Lib.tabIs_of_head (rest:=[]) (t:=329) (e:=274) (n:=20) qcR (by kernel_rfl) (by kernel_rfl) (by kernel_rfl) (by kernel_rfl) (by kernel_rfl) h2
 refine⟨?_,ht⟩
 unfold Lib.TabIs World.var? at ht
 rw[qcR]at ht
 simp only[Option.bind_some]at ht
 show 3<W.heap.size
 rcases Nat.lt_or_ge 3 W.heap.size with h5|h5
 ·exact h5
 ·rw[Array.getElem?_eq_none h5]at ht
  cases ht
theorem own:ownKnob Tryz.prog.godebug=none:=by kernel_rfl
theorem lifted (os:Os) (started:os.Started) (H:Type) (enc:TypeId×Value→H):
 ReturnsInHanded {} Tryz.checked os 7 .any (fun w args=>(Rows.recordLogsSpec.pre enc Tryz.prog Tryz.f7 Rows.recordLogsRow.domain false w args∧laidMetH Tryz.prog Rows.recordLogsRow.laid w)∧sizedMet enc Tryz.prog Tryz.f7 (OpenSpec.ofChange Rows.recordLogsSpec) false w args)
  (Rows.recordLogsSpec.post enc Tryz.prog Tryz.f7 false true false false):=by
 refine returnsInHanded_of_change_and (C:=Tryz.checked) (X:=fun w _=>laidMetH Tryz.prog Rows.recordLogsRow.laid w) (fun _ _ _ hh h=>h.of_heap hh) own started (by kernel_rfl) Tryz.func7
  (ChangeSpec.witness_shaped (enc:=enc) (C:=Tryz.checked) (os:=os) (X:=fun w _=>laidMetH Tryz.prog Rows.recordLogsRow.laid w) false (World.laidAll Tryz.prog os Rows.recordLogsRow.laid) #[.agg #[.int .i64 0,.string ⟨#[]⟩,.slice none 0 0,.slice none 0 0,.string ⟨#[]⟩],.string ⟨#[]⟩] 8 (World.laidAll_os _ _ _)
   (World.shaped_of_ZipB (by kernel_rfl) (by kernel_rfl)) (by kernel_rfl) (by kernel_rfl) (by kernel_rfl)
   (by rw[MakeChecks.laidMetH_plain _ _ _ (by kernel_rfl)];exact laidMet_laidAll _ (by kernel_rfl) (by kernel_rfl))) ?_
 intro W base args ds gs before hval hW _ _ hL _
 exact contract H enc W base args ds gs before hval hW (qiF hL)
theorem factA:Tryz.pinned.checked.prog.funcNamed Rows.recordLogsRow.func=some 7:=by kernel_rfl
theorem fact0:(Rows.recordLogsRow.wf (OpenSpec.ofChange Rows.recordLogsSpec))=true:=by kernel_rfl
theorem fact1:(laidOutB Tryz.pinned.checked.prog)=true:=by kernel_rfl
theorem fact2:(mapsRowed Tryz.pinned.checked.prog)=true:=by kernel_rfl
theorem fact3:(Tryz.f7.params.all (Tryz.pinned.checked.prog.readableRec ·))=true:=by kernel_rfl
theorem fact4:(namedTie Tryz.pinned.checked.prog Rows.recordLogsRow.named Rows.recordLogsSpec.vars)=true:=by kernel_rfl
theorem fact5:((Rows.recordLogsRow.stops==[]))=true:=by kernel_rfl
theorem fact6:((Tryz.pinned.checked.prog.stops==[]))=true:=by kernel_rfl
theorem fact7:((Rows.recordLogsRow.knobs==[]))=true:=by kernel_rfl
theorem fact8:((Tryz.pinned.checked.prog.stopKnobs==[]))=true:=by kernel_rfl
theorem fact9:((Rows.recordLogsRow.inPlace==Tryz.pinned.checked.prog.inPlace 7))=true:=by kernel_rfl
theorem qlf:((Rows.recordLogsRow.unfollowed==Tryz.pinned.checked.prog.unfollowed 7))=true:=by kernel_rfl
theorem qlj:((Rows.recordLogsRow.recurses==Tryz.pinned.checked.prog.recurses 7))=true:=by kernel_rfl
theorem qlg:((Rows.recordLogsRow.named==Tryz.pinned.checked.prog.varsNamed 7))=true:=by kernel_rfl
theorem qkK:((Rows.recordLogsRow.maps==(Tryz.f7.params.toList++Rows.recordLogsSpec.plain.varTypes Tryz.pinned.checked.prog).any (Tryz.pinned.checked.prog.mapsRec ·)))=true:=by kernel_rfl
theorem qk2:((Rows.recordLogsRow.ifaces==(Tryz.f7.params.toList++Rows.recordLogsSpec.plain.varTypes Tryz.pinned.checked.prog).any (Tryz.pinned.checked.prog.ifacesRec ·)))=true:=by kernel_rfl
theorem qlc:((Rows.recordLogsRow.mapsOut==Tryz.pinned.checked.prog.mapsAmong Tryz.f7.resultTypes.toList))=true:=by kernel_rfl
theorem qk9:((Rows.recordLogsRow.loops==(Tryz.f7.params.toList++Rows.recordLogsSpec.plain.varTypes Tryz.pinned.checked.prog).any (Tryz.pinned.checked.prog.loopsFrom ·)))=true:=by kernel_rfl
theorem qk7:((Rows.recordLogsRow.wideKeys==(Tryz.f7.params.toList++Rows.recordLogsSpec.plain.varTypes Tryz.pinned.checked.prog++Tryz.f7.resultTypes.toList).any (Tryz.pinned.checked.prog.wideKeysFrom ·)))=true:=by kernel_rfl
theorem qkT:(Rows.recordLogsSpec.vars.all (Tryz.pinned.checked.prog.varReadable ·))=true:=by kernel_rfl
theorem qk1:(Tryz.f7.resultTypes.all (fun t=>Tryz.pinned.checked.prog.readableRec t&&decide (t<Tryz.pinned.checked.prog.types.size)))=true:=by kernel_rfl
theorem qll:((Rows.recordLogsRow.ifacesOut==Tryz.f7.resultTypes.toList.any (Tryz.pinned.checked.prog.ifacesRec ·)))=true:=by kernel_rfl
theorem qla:((Rows.recordLogsRow.loopsOut==Tryz.f7.resultTypes.toList.any (Tryz.pinned.checked.prog.loopsFrom ·)))=true:=by kernel_rfl
theorem qkN:((Rows.recordLogsRow.plainKeys==Tryz.pinned.checked.prog.plainKeys))=true:=by kernel_rfl
theorem qk3:(Rows.recordLogsRow.shortTexts.isNone)=true:=by kernel_rfl
theorem qk4:(Tryz.pinned.checked.prog.stopsHeard)=true:=by kernel_rfl
theorem qkW:(Tryz.pinned.checked.prog.mayEnter)=true:=by kernel_rfl
theorem qle:((Rows.recordLogsRow.lifted==Tryz.pinned.checked.prog.liftsFinal))=true:=by kernel_rfl
theorem qkX:((Tryz.pinned.checked.prog.make==some Rows.recordLogsRow.make))=true:=by kernel_rfl
theorem qkU:((Rows.recordLogsRow.kinds==(if Rows.recordLogsRow.domain.isEmpty then[]else Tryz.f7.params.toList.map fun t=>match Tryz.pinned.checked.prog.underlying t with|some (.int k)=>some k|_=>none)))=true:=by kernel_rfl
theorem qlb:((Rows.recordLogsRow.pinned==Rows.recordLogsRow.pinnedBy))=true:=by kernel_rfl
theorem qk5:((Rows.recordLogsRow.veiled==(Tryz.f7.params.toList++Rows.recordLogsSpec.plain.varTypes Tryz.pinned.checked.prog++Tryz.f7.resultTypes.toList).any (Tryz.pinned.checked.prog.veiledRec ·)))=true:=by kernel_rfl
theorem qkP:(Rows.recordLogsRow.veiledFits Tryz.pinned.checked.prog Tryz.f7.params.toList (Tryz.f7.params.toList++Rows.recordLogsSpec.plain.varTypes Tryz.pinned.checked.prog++Tryz.f7.resultTypes.toList))=true:=by kernel_rfl
theorem factB:joinedFacts Tryz.pinned.checked.prog 7 Tryz.f7 Rows.recordLogsSpec Rows.recordLogsRow=true:=by
 unfold joinedFacts
 exact(yl (yl (yl (yl (yl (yl (yl (yl (yl (yl (yl (yl (yl (yl (yl (yl (yl (yl (yl (yl (yl (yl (yl (yl (yl (yl (yl (yl (yl (yl (yl fact0 fact1) fact2) fact3) fact4) fact5) fact6) fact7) fact8) fact9) qlf) qlj) qlg) qkK) qk2) qlc) qk9) qk7) qkT) qk1) qll) qla) qkN) qk3) qk4) qkW) qle) qkX) qkU) qlb) qk5) qkP)
theorem factC:Tryz.f7.isInstance Tryz.pinned.checked.prog Rows.recordLogsRow.origin Rows.recordLogsRow.targs:=of_decide_eq_true (by kernel_rfl)
theorem factD:Tryz.f7.isWrapper Tryz.pinned.checked.prog Rows.recordLogsRow.wrapper Rows.recordLogsRow.mainSum:=by unfold Func.isWrapper;first|(rw[if_pos (by decide+kernel)];kernel_rfl)|(rw[if_neg (by decide+kernel)];exact⟨rfl,rfl⟩)
theorem said:Rows.RecordLogsSaid:=
 OpenClaim.holds_of_wide 7 Tryz.f7 rfl rfl rfl rfl rfl rfl rfl ⟨rfl,rfl,rfl,rfl,rfl⟩ rfl rfl rfl rfl rfl factA Tryz.func7 factB factC factD
  (fun os started H enc _=>lifted os started H enc)
theorem qlk:Tryz.pinned.checked.prog.wantsStandIn 9=false:=by kernel_rfl
theorem qkr:Tryz.pinned.checked.prog.wantsStandIn 26=false:=by kernel_rfl
theorem qkV:true=Tryz.pinned.checked.prog.looks []:=by kernel_rfl
theorem plain (f:FuncId) (fn:Func) (hf:Tryz.pinned.checked.prog.funcNamed "becket/becketlaw10.RecordLogs" =some f) (hfn:Tryz.pinned.checked.prog.funcs[f]? =some fn):
 true=Tryz.pinned.checked.prog.looks []∧ ∀(j:Nat) t,fn.params[j]? =some t→Tryz.pinned.checked.prog.wantsStandIn t=false:=by
 obtain rfl:f=7:=Option.some.inj ((show Tryz.prog.funcNamed "becket/becketlaw10.RecordLogs" =some 7 by kernel_rfl).symm.trans hf)|>.symm
 obtain rfl:fn=Tryz.f7:=(Option.some.inj (Tryz.func7.symm.trans hfn)).symm
 refine⟨qkV,fun j t ht=>?_⟩
 rw[Tryz.params7]at ht
 have ht:t=26∨t=9:=by have:=Array.mem_of_getElem? ht;simpa using this
 rcases ht with rfl|rfl
 ·exact qkr
 ·exact qlk
theorem card:Rows.RecordLogsCardSaid:=
 Claim7.holds_tied_plain_at .later [] _ _ _ _ said (fun _ h=>by cases h) (by kernel_rfl) (fun _ h=>by cases h) recordLogs_row_tie rfl ⟨rfl,rfl⟩ (by kernel_rfl) rfl plain (by kernel_rfl)
end Go.Av
namespace Go.Proofs.YtjflombnfhlkaaaGreatDoor
theorem recordLogs_holds:Rows.RecordLogsCardSaid:=Go.Av.card
end Go.Proofs.YtjflombnfhlkaaaGreatDoor
