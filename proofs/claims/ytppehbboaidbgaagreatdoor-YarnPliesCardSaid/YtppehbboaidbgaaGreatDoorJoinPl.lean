/-
  It is proved that YarnPlies returns true for all inputs. Conditions: those of the given row alone (the listed package variables hold what the program's text lays).
-/
import Derived.Test.YtppehbboaidbgaaGreatDoorQGenP
import Derived.Test.YtppehbboaidbgaaGreatDoorMqPc
import Derived.Test.YtppehbboaidbgaaGreatDoorAvPt
import Derived.Test.YtppehbboaidbgaaGreatDoorAvAwkP
import Derived.Test.YtppehbboaidbgaaGreatDoorCards
import Derived.Test.YtppehbboaidbgaaGreatDoorTie
import Derived.Lay
import Derived.LaidMore
import Derived.LaidSub
import Derived.SevenTiedAt
import Derived.Stop.Joined
import Derived.Lib.LaidTab
import Derived.Lib.ItoaNum
noncomputable section
namespace Go.Av
open Go.Proofs Go.Proofs.YtppehbboaidbgaaGreatDoor
open Go.ChangeShapes Go.WideShapes Go.ChangeAt Go.RowKit
set_option linter.unusedSectionVars false
set_option maxRecDepth 100000
theorem ud22:Tryz.prog.underlying 22=some (.slice 32):=by kernel_rfl
theorem ud9:Tryz.prog.underlying 9=some (.string):=by kernel_rfl
theorem rd9:yR Tryz.prog 9 encS:=yR.str ud9
theorem ud30:Tryz.prog.underlying 30=some (.slice 45):=by kernel_rfl
theorem ud23:Tryz.prog.underlying 23=some (.string):=by kernel_rfl
theorem qnO:yR Tryz.prog 23 encS:=yR.str ud23
theorem ud45:Tryz.prog.underlying 45=some (.struct #[{name:= "X",type:=23,offset:=0,embedded:=false,tag:= "",pkgPath:= "",byteOffset:=0},{name:= "Y",type:=23,offset:=1,embedded:=false,tag:= "",pkgPath:= "",byteOffset:=16}]):=by kernel_rfl
theorem rd45:yR Tryz.prog 45 qg:=yZ.struct (fl:=[{name:= "X",type:=23,offset:=0,embedded:=false,tag:= "",pkgPath:= "",byteOffset:=0},{name:= "Y",type:=23,offset:=1,embedded:=false,tag:= "",pkgPath:= "",byteOffset:=16}]) ud45 rfl (by kernel_rfl) (fun(x0,x1)=>(⟨x0,x1⟩:zZ)) (fun _=>rfl) (yZ.cons rfl (by kernel_rfl) qnO (yZ.last rfl (by kernel_rfl) qnO))
theorem rd30:yR Tryz.prog 30 (qlW qg):=yR.list ud30 (by kernel_rfl) rd45
theorem ud32:Tryz.prog.underlying 32=some (.struct #[{name:= "Name",type:=9,offset:=0,embedded:=false,tag:= "",pkgPath:= "",byteOffset:=0},{name:= "Density",type:=23,offset:=1,embedded:=false,tag:= "",pkgPath:= "",byteOffset:=16},{name:= "Twist",type:=23,offset:=2,embedded:=false,tag:= "",pkgPath:= "",byteOffset:=32},{name:= "Strength",type:=30,offset:=3,embedded:=false,tag:= "",pkgPath:= "",byteOffset:=48},{name:= "Dye",type:=9,offset:=4,embedded:=false,tag:= "",pkgPath:= "",byteOffset:=72}]):=by kernel_rfl
theorem rd32:yR Tryz.prog 32 qd:=yZ.struct (fl:=[{name:= "Name",type:=9,offset:=0,embedded:=false,tag:= "",pkgPath:= "",byteOffset:=0},{name:= "Density",type:=23,offset:=1,embedded:=false,tag:= "",pkgPath:= "",byteOffset:=16},{name:= "Twist",type:=23,offset:=2,embedded:=false,tag:= "",pkgPath:= "",byteOffset:=32},{name:= "Strength",type:=30,offset:=3,embedded:=false,tag:= "",pkgPath:= "",byteOffset:=48},{name:= "Dye",type:=9,offset:=4,embedded:=false,tag:= "",pkgPath:= "",byteOffset:=72}]) ud32 rfl (by kernel_rfl) (fun(x0,x1,x2,x3,x4)=>(⟨x0,x1,x2,x3,x4⟩:ql)) (fun _=>rfl) (yZ.cons rfl (by kernel_rfl) rd9 (yZ.cons rfl (by kernel_rfl) qnO (yZ.cons rfl (by kernel_rfl) qnO (yZ.cons rfl (by kernel_rfl) rd30 (yZ.last rfl (by kernel_rfl) rd9)))))
theorem ud25:Tryz.prog.underlying 25=some (.struct #[{name:= "Name",type:=9,offset:=0,embedded:=false,tag:= "",pkgPath:= "",byteOffset:=0},{name:= "Twist",type:=23,offset:=1,embedded:=false,tag:= "",pkgPath:= "",byteOffset:=16},{name:= "Factor",type:=23,offset:=2,embedded:=false,tag:= "",pkgPath:= "",byteOffset:=32}]):=by kernel_rfl
theorem rd25:yR Tryz.prog 25 qi8:=yZ.struct (fl:=[{name:= "Name",type:=9,offset:=0,embedded:=false,tag:= "",pkgPath:= "",byteOffset:=0},{name:= "Twist",type:=23,offset:=1,embedded:=false,tag:= "",pkgPath:= "",byteOffset:=16},{name:= "Factor",type:=23,offset:=2,embedded:=false,tag:= "",pkgPath:= "",byteOffset:=32}]) ud25 rfl (by kernel_rfl) (fun(x0,x1,x2)=>(⟨x0,x1,x2⟩:qhU)) (fun _=>rfl) (yZ.cons rfl (by kernel_rfl) rd9 (yZ.cons rfl (by kernel_rfl) qnO (yZ.last rfl (by kernel_rfl) qnO)))
theorem tyB:Tryz.prog.underlying 4=some .bool:=by kernel_rfl
theorem laidOut:laidOutB Tryz.prog=true:=by kernel_rfl
theorem contract (H:Type) (enc:TypeId×Value->H) (W:World) (base:Nat) (args:Array Value) (ds gs:List (DataW H)) (before:List MemPlace)
 (hval: ∀(j:Nat) t v,Tryz.f3.params[j]? =some t->args[j]? =some v->Value.okWide Tryz.prog W .any base t v)
 (hW:DataW.Whole enc Tryz.prog Tryz.f3.params.toList Rows.yarnPliesSpec.vars false W args.toList ds gs before)
 (hw:(DataW.weightsEach Tryz.prog (Tryz.f3.params.toList++Rows.yarnPliesSpec.plain.varTypes Tryz.prog) (ds++gs)).all (· <=reachBytes)=true) (hG:Glob.G (AllOf W) W):
 Calls Tryz.prog 3 args W fun e W'=> ∃v,e= .returned v/\Rows.yarnPliesSpec.post enc Tryz.prog Tryz.f3 false true false false W args v W':=by
 have hW':=hW;obtain⟨p,q,hA0,hV,rfl,hfz,hnd⟩:=hW;have r0:DataW.TrodAll enc Tryz.prog W 0 (fun _=>true) true Tryz.f3.params.toList args.toList ds p:=hA0;rw[Tryz.params3]at r0 hval hw;obtain⟨v0,vs0,d0,ds0,p0,q0,hargs,rfl,rfl,h0,r1⟩:=trodAll_cons r0;obtain⟨v1,vs1,d1,ds1,p1,q1,rfl,rfl,rfl,h1,r2⟩:=trodAll_cons r1;obtain⟨rfl,rfl,rfl⟩:=trodAll_nil r2;obtain⟨hw0,hw⟩:=qkk (t:=22) (d:=d0) hw;obtain⟨hw1,hw⟩:=qkk (t:=25) (d:=d1) hw
 obtain rfl:args=#[v0,v1]:=by cases args;simp_all
 obtain⟨a0,hu0,hb0⟩:=In.listW ud22 (by kernel_rfl) rd32 (hval 0 22 v0 rfl rfl) h0 hw0
 have hb0:a0.length*88<=140737488355328:=by
  rw[show Tryz.prog.bytesOf 32=88 by kernel_rfl]at hb0;exact Nat.le_trans hb0 (by decide)
 obtain⟨a1,hu1⟩:=In.struct ud25 rd25 (hval 1 25 v1 rfl rfl) h1;refine qnh laidOut (fun t ht=>?_) rfl (show Tryz.f3.resultTypes=#[4]from rfl) tyB (fun ds hds=>?_) hW' (enters_of (by kernel_rfl)) (qfO (700000+a0.length) a0 a1 (qhc (N:=700000+a0.length) a0 a1 (by omega) hb0)) hG (al:=[vl qd a0,.agg [.str a1.Name,.str a1.Twist,.str a1.Factor]]) ⟨rfl,fun i a v ha hv=>?_⟩
 ·rw[Tryz.params3]at ht
  have ht:t=22\/t=25:=by simpa using ht
  rcases ht with rfl|rfl
  ·exact⟨by kernel_rfl,of_decide_eq_true (by kernel_rfl)⟩
  exact⟨by kernel_rfl,of_decide_eq_true (by kernel_rfl)⟩
 ·rw[Tryz.params3]at hds
  match ds,hds with
  |[d1,d2],_=>exact⟨rfl,rfl,rfl⟩
 match i with
 |0=>simp at ha hv;subst ha hv;exact hu0
 |1=>simp at ha hv;subst ha hv;exact hu1
 |i+2=>simp at ha
theorem qpR {W:World} (h:laidMetH Tryz.prog Rows.yarnPliesRow.laid W):Glob.G (AllOf W) W:=by
 have h1:=h.filter fun x=>x.1==qdU
 have e:(Rows.yarnPliesRow.laid.filter fun x=>x.1==qdU)=[(qdU,Lib.tabData .u64 Lib.pow10Tab)]:=by kernel_rfl
 rw[e]at h1
 have h2:laidMet Tryz.prog [(qdU,Lib.tabData .u64 Lib.pow10Tab)] W:=by
  rw[MakeChecks.laidMetH_plain _ _ _ (by kernel_rfl)]at h1;exact h1
 have ht:Lib.TabIs Tryz.prog W qdU .u64 Lib.pow10Tab:=
  Lib.tabIs_of_head (rest:=[]) (t:=339) (e:=222) (n:=20) qgw (by kernel_rfl) (by kernel_rfl) (by kernel_rfl) (by kernel_rfl) (by kernel_rfl) h2
 refine⟨?_,ht⟩;unfold Lib.TabIs World.var? at ht;rw[qgw]at ht;simp only[ZB]at ht;show 7<W.heap.size;rcases Nat.lt_or_ge 7 W.heap.size with h5|h5
 ·exact h5
 rw[Array.getElem?_eq_none h5]at ht;cases ht
theorem own:ownKnob Tryz.prog.godebug=none:=by kernel_rfl
theorem lifted (os:Os) (started:os.Started) (H:Type) (enc:TypeId×Value->H):
 ReturnsInHanded {} Tryz.checked os 3 .any (fun w args=>(Rows.yarnPliesSpec.pre enc Tryz.prog Tryz.f3 Rows.yarnPliesRow.domain false w args/\laidMetH Tryz.prog Rows.yarnPliesRow.laid w)/\sizedMet enc Tryz.prog Tryz.f3 (OpenSpec.ofChange Rows.yarnPliesSpec) false w args)
  (Rows.yarnPliesSpec.post enc Tryz.prog Tryz.f3 false true false false):=by
 refine returnsInHanded_of_change_and (C:=Tryz.checked) (X:=fun w _=>laidMetH Tryz.prog Rows.yarnPliesRow.laid w) (fun _ _ _ hh h=>h.of_heap hh) own started (by kernel_rfl) Tryz.func3
  (ChangeSpec.witness_shaped (enc:=enc) (C:=Tryz.checked) (os:=os) (X:=fun w _=>laidMetH Tryz.prog Rows.yarnPliesRow.laid w) false (World.laidAll Tryz.prog os Rows.yarnPliesRow.laid) #[.slice none 0 0,.agg #[.string ⟨#[]⟩,.string ⟨#[]⟩,.string ⟨#[]⟩]] 8 (World.laidAll_os _ _ _)
   (World.shaped_of_ZipB (by kernel_rfl) (by kernel_rfl)) (by kernel_rfl) (by kernel_rfl) (by kernel_rfl)
   (by rw[MakeChecks.laidMetH_plain _ _ _ (by kernel_rfl)];exact laidMet_laidAll _ (by kernel_rfl) (by kernel_rfl))) ?_
 intro W base args ds gs before hval hW _ hw hL _;exact contract H enc W base args ds gs before hval hW hw (qpR hL)
theorem factA:Tryz.pinned.checked.prog.funcNamed Rows.yarnPliesRow.func=some 3:=by kernel_rfl
theorem fact0:(Rows.yarnPliesRow.wf (OpenSpec.ofChange Rows.yarnPliesSpec))=true:=by kernel_rfl
theorem fact1:(laidOutB Tryz.pinned.checked.prog)=true:=by kernel_rfl
theorem fact2:(mapsRowed Tryz.pinned.checked.prog)=true:=by kernel_rfl
theorem fact3:(Tryz.f3.params.all (Tryz.pinned.checked.prog.readableRec ·))=true:=by kernel_rfl
theorem fact4:(namedTie Tryz.pinned.checked.prog Rows.yarnPliesRow.named Rows.yarnPliesSpec.vars)=true:=by kernel_rfl
theorem fact5:((Rows.yarnPliesRow.stops==[]))=true:=by kernel_rfl
theorem fact6:((Tryz.pinned.checked.prog.stops==[]))=true:=by kernel_rfl
theorem fact7:((Rows.yarnPliesRow.knobs==[]))=true:=by kernel_rfl
theorem fact8:((Tryz.pinned.checked.prog.stopKnobs==[]))=true:=by kernel_rfl
theorem fact9:((Rows.yarnPliesRow.inPlace==Tryz.pinned.checked.prog.inPlace 3))=true:=by kernel_rfl
theorem qro:((Rows.yarnPliesRow.unfollowed==Tryz.pinned.checked.prog.unfollowed 3))=true:=by kernel_rfl
theorem qry:((Rows.yarnPliesRow.recurses==Tryz.pinned.checked.prog.recurses 3))=true:=by kernel_rfl
theorem qrv:((Rows.yarnPliesRow.named==Tryz.pinned.checked.prog.varsNamed 3))=true:=by kernel_rfl
theorem qrH:((Rows.yarnPliesRow.maps==(Tryz.f3.params.toList++Rows.yarnPliesSpec.plain.varTypes Tryz.pinned.checked.prog).any (Tryz.pinned.checked.prog.mapsRec ·)))=true:=by kernel_rfl
theorem qrD:((Rows.yarnPliesRow.ifaces==(Tryz.f3.params.toList++Rows.yarnPliesSpec.plain.varTypes Tryz.pinned.checked.prog).any (Tryz.pinned.checked.prog.ifacesRec ·)))=true:=by kernel_rfl
theorem qrA:((Rows.yarnPliesRow.mapsOut==Tryz.pinned.checked.prog.mapsAmong Tryz.f3.resultTypes.toList))=true:=by kernel_rfl
theorem qre:((Rows.yarnPliesRow.loops==(Tryz.f3.params.toList++Rows.yarnPliesSpec.plain.varTypes Tryz.pinned.checked.prog).any (Tryz.pinned.checked.prog.loopsFrom ·)))=true:=by kernel_rfl
theorem qq7:((Rows.yarnPliesRow.wideKeys==(Tryz.f3.params.toList++Rows.yarnPliesSpec.plain.varTypes Tryz.pinned.checked.prog++Tryz.f3.resultTypes.toList).any (Tryz.pinned.checked.prog.wideKeysFrom ·)))=true:=by kernel_rfl
theorem qri:(Rows.yarnPliesSpec.vars.all (Tryz.pinned.checked.prog.varReadable ·))=true:=by kernel_rfl
theorem qrw:(Tryz.f3.resultTypes.all (fun t=>Tryz.pinned.checked.prog.readableRec t&&decide (t<Tryz.pinned.checked.prog.types.size)))=true:=by kernel_rfl
theorem qrr:((Rows.yarnPliesRow.ifacesOut==Tryz.f3.resultTypes.toList.any (Tryz.pinned.checked.prog.ifacesRec ·)))=true:=by kernel_rfl
theorem qrx:((Rows.yarnPliesRow.loopsOut==Tryz.f3.resultTypes.toList.any (Tryz.pinned.checked.prog.loopsFrom ·)))=true:=by kernel_rfl
theorem qru:((Rows.yarnPliesRow.plainKeys==Tryz.pinned.checked.prog.plainKeys))=true:=by kernel_rfl
theorem qrI:(Rows.yarnPliesRow.shortTexts.isNone)=true:=by kernel_rfl
theorem qrl:(Tryz.pinned.checked.prog.stopsHeard)=true:=by kernel_rfl
theorem qrE:(Tryz.pinned.checked.prog.mayEnter)=true:=by kernel_rfl
theorem qrn:((Rows.yarnPliesRow.lifted==Tryz.pinned.checked.prog.liftsFinal))=true:=by kernel_rfl
theorem qrq:((Tryz.pinned.checked.prog.make==some Rows.yarnPliesRow.make))=true:=by kernel_rfl
theorem qq8:((Rows.yarnPliesRow.kinds==(if Rows.yarnPliesRow.domain.isEmpty then[]else Tryz.f3.params.toList.map fun t=>match Tryz.pinned.checked.prog.underlying t with|some (.int k)=>some k|_=>none)))=true:=by kernel_rfl
theorem qrB:((Rows.yarnPliesRow.pinned==Rows.yarnPliesRow.pinnedBy))=true:=by kernel_rfl
theorem qrb:((Rows.yarnPliesRow.veiled==(Tryz.f3.params.toList++Rows.yarnPliesSpec.plain.varTypes Tryz.pinned.checked.prog++Tryz.f3.resultTypes.toList).any (Tryz.pinned.checked.prog.veiledRec ·)))=true:=by kernel_rfl
theorem qrM:(Rows.yarnPliesRow.veiledFits Tryz.pinned.checked.prog Tryz.f3.params.toList (Tryz.f3.params.toList++Rows.yarnPliesSpec.plain.varTypes Tryz.pinned.checked.prog++Tryz.f3.resultTypes.toList))=true:=by kernel_rfl
theorem factB:joinedFacts Tryz.pinned.checked.prog 3 Tryz.f3 Rows.yarnPliesSpec Rows.yarnPliesRow=true:=by
 unfold joinedFacts;exact(qaX (qaX (qaX (qaX (qaX (qaX (qaX (qaX (qaX (qaX (qaX (qaX (qaX (qaX (qaX (qaX (qaX (qaX (qaX (qaX (qaX (qaX (qaX (qaX (qaX (qaX (qaX (qaX (qaX (qaX (qaX fact0 fact1) fact2) fact3) fact4) fact5) fact6) fact7) fact8) fact9) qro) qry) qrv) qrH) qrD) qrA) qre) qq7) qri) qrw) qrr) qrx) qru) qrI) qrl) qrE) qrn) qrq) qq8) qrB) qrb) qrM)
theorem factC:Tryz.f3.isInstance Tryz.pinned.checked.prog Rows.yarnPliesRow.origin Rows.yarnPliesRow.targs:=of_decide_eq_true (by kernel_rfl)
theorem factD:Tryz.f3.isWrapper Tryz.pinned.checked.prog Rows.yarnPliesRow.wrapper Rows.yarnPliesRow.mainSum:=by unfold Func.isWrapper;first|(rw[if_pos (by decide+kernel)];kernel_rfl)|(rw[if_neg (by decide+kernel)];exact⟨rfl,rfl⟩)
theorem said:Rows.YarnPliesSaid:=
 OpenClaim.holds_of_wide 3 Tryz.f3 rfl rfl rfl rfl rfl rfl rfl ⟨rfl,rfl,rfl,rfl,rfl⟩ rfl rfl rfl rfl rfl factA Tryz.func3 factB factC factD
  (fun os started H enc _=>lifted os started H enc)
theorem qp1:Tryz.pinned.checked.prog.wantsStandIn 22=false:=by kernel_rfl
theorem qqP:Tryz.pinned.checked.prog.wantsStandIn 25=false:=by kernel_rfl
theorem qrL:true=Tryz.pinned.checked.prog.looks []:=by kernel_rfl
theorem plain (f:FuncId) (fn:Func) (hf:Tryz.pinned.checked.prog.funcNamed "becket/becketlaw02.YarnPlies" =some f) (hfn:Tryz.pinned.checked.prog.funcs[f]? =some fn):
 true=Tryz.pinned.checked.prog.looks []/\ ∀(j:Nat) t,fn.params[j]? =some t->Tryz.pinned.checked.prog.wantsStandIn t=false:=by
 obtain rfl:f=3:=Ye ((show Tryz.prog.funcNamed "becket/becketlaw02.YarnPlies" =some 3 by kernel_rfl).symm.trans hf)|>.symm;obtain rfl:fn=Tryz.f3:=(Ye (Tryz.func3.symm.trans hfn)).symm;refine⟨qrL,fun j t ht=>?_⟩;rw[Tryz.params3]at ht
 have ht:t=22\/t=25:=by have:=Array.mem_of_getElem? ht;simpa using this
 rcases ht with rfl|rfl
 ·exact qp1
 exact qqP
theorem card:Rows.YarnPliesCardSaid:=
 Claim7.holds_tied_plain_at .later [] _ _ _ _ said (fun _ h=>by cases h) (by kernel_rfl) (fun _ h=>by cases h) yarnPlies_row_tie rfl ⟨rfl,rfl⟩ (by kernel_rfl) rfl plain (by kernel_rfl)
end Go.Av
namespace Go.Proofs.YtppehbboaidbgaaGreatDoor
theorem yarnPlies_holds:Rows.YarnPliesCardSaid:=Go.Av.card
end Go.Proofs.YtppehbboaidbgaaGreatDoor
