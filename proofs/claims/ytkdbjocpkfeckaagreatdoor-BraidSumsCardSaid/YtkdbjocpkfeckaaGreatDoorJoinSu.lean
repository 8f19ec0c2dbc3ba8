/-
  It is proved that BraidSums returns true for all inputs. Conditions: those of the given row alone (the listed package variables hold what the program's text lays).
-/
import Derived.Test.YtkdbjocpkfeckaaGreatDoorQGenSu
import Derived.Test.YtkdbjocpkfeckaaGreatDoorMbPb
import Derived.Test.YtkdbjocpkfeckaaGreatDoorAvPt
import Derived.Test.YtkdbjocpkfeckaaGreatDoorAvAwkB9
import Derived.Test.YtkdbjocpkfeckaaGreatDoorCards
import Derived.Test.YtkdbjocpkfeckaaGreatDoorTie
import Derived.Lay
import Derived.LaidMore
import Derived.LaidSub
import Derived.SevenTiedAt
import Derived.Stop.Joined
import Derived.Lib.LaidTab
import Derived.Lib.ItoaNum
noncomputable section
namespace Go.Av
open Go.Proofs Go.Proofs.YtkdbjocpkfeckaaGreatDoor
open Go.ChangeShapes Go.WideShapes Go.ChangeAt Go.RowKit
set_option linter.unusedSectionVars false
set_option maxRecDepth 100000
theorem ud3:Tryz.prog.underlying 3=some (.int .i64):=by kernel_rfl
theorem rd3:vW Tryz.prog 3 encI:=vW.i64 ud3
theorem ud22:Tryz.prog.underlying 22=some (.slice 3):=by kernel_rfl
theorem rd22:vW Tryz.prog 22 (qc encI):=vW.list ud22 (by kernel_rfl) rd3
theorem ud58:Tryz.prog.underlying 58=some (.struct #[{name:= "A",type:=22,offset:=0,embedded:=false,tag:= "",pkgPath:= "",byteOffset:=0},{name:= "B",type:=22,offset:=1,embedded:=false,tag:= "",pkgPath:= "",byteOffset:=24},{name:= "K",type:=3,offset:=2,embedded:=false,tag:= "",pkgPath:= "",byteOffset:=48}]):=by kernel_rfl
theorem rd58:vW Tryz.prog 58 qjX:=qb8.struct (fl:=[{name:= "A",type:=22,offset:=0,embedded:=false,tag:= "",pkgPath:= "",byteOffset:=0},{name:= "B",type:=22,offset:=1,embedded:=false,tag:= "",pkgPath:= "",byteOffset:=24},{name:= "K",type:=3,offset:=2,embedded:=false,tag:= "",pkgPath:= "",byteOffset:=48}]) ud58 rfl (by kernel_rfl) (fun(x0,x1,x2)=>(⟨x0,x1,x2⟩:qj4)) (fun _=>rfl) (qb8.cons rfl (by kernel_rfl) rd22 (qb8.cons rfl (by kernel_rfl) rd22 (qb8.last rfl (by kernel_rfl) rd3)))
theorem tyB:Tryz.prog.underlying 4=some .bool:=by kernel_rfl
theorem laidOut:laidOutB Tryz.prog=true:=by kernel_rfl
theorem contract (H:Type) (enc:TypeId×Value->H) (W:World) (base:Nat) (args:Array Value) (ds gs:List (DataW H)) (before:List MemPlace)
 (hval: ∀(j:Nat) t v,Tryz.f5.params[j]? =some t->args[j]? =some v->Value.okWide Tryz.prog W .any base t v)
 (hW:DataW.Whole enc Tryz.prog Tryz.f5.params.toList Rows.braidSumsSpec.vars false W args.toList ds gs before) (hG:Glob.G (AllOf W) W):
 Calls Tryz.prog 5 args W fun e W'=> ∃v,e= .returned v/\Rows.braidSumsSpec.post enc Tryz.prog Tryz.f5 false true false false W args v W':=by
 have hW':=hW;obtain⟨p,q,hA0,hV,rfl,hfz,hnd⟩:=hW;have r0:DataW.TrodAll enc Tryz.prog W 0 (fun _=>true) true Tryz.f5.params.toList args.toList ds p:=hA0;rw[Tryz.params5]at r0 hval;obtain⟨v0,vs0,d0,ds0,p0,q0,hargs,rfl,rfl,h0,r1⟩:=trodAll_cons r0;obtain⟨v1,vs1,d1,ds1,p1,q1,rfl,rfl,rfl,h1,r2⟩:=trodAll_cons r1;obtain⟨rfl,rfl,rfl⟩:=trodAll_nil r2
 obtain rfl:args=#[v0,v1]:=by cases args;simp_all
 obtain⟨a0,hu0⟩:=In.i64 ud3 (hval 0 3 v0 rfl rfl);obtain⟨a1,hu1⟩:=In.struct ud58 rd58 (hval 1 58 v1 rfl rfl) h1;refine qmH laidOut (fun t ht=>?_) rfl (show Tryz.f5.resultTypes=#[4]from rfl) tyB (fun ds hds=>?_) hW' (enters_of (by kernel_rfl)) (qeM 700000 a0 a1 (qgd (N:=700000) (by decide) a0 a1)) hG (al:=[.int .i64 a0,.agg [vl encI a1.A,vl encI a1.B,.i a1.K]]) ⟨rfl,fun i a v ha hv=>?_⟩
 ·rw[Tryz.params5]at ht
  have ht:t=3\/t=58:=by simpa using ht
  rcases ht with rfl|rfl
  ·exact⟨by kernel_rfl,of_decide_eq_true (by kernel_rfl)⟩
  exact⟨by kernel_rfl,of_decide_eq_true (by kernel_rfl)⟩
 ·rw[Tryz.params5]at hds
  match ds,hds with
  |[d1,d2],_=>exact⟨rfl,rfl,rfl⟩
 match i with
 |0=>simp at ha hv;subst ha hv;exact hu0
 |1=>simp at ha hv;subst ha hv;exact hu1
 |i+2=>simp at ha
theorem qnh {W:World} (h:laidMetH Tryz.prog Rows.braidSumsRow.laid W):Glob.G (AllOf W) W:=by
 have h1:=h.filter fun x=>x.1==qdm
 have e:(Rows.braidSumsRow.laid.filter fun x=>x.1==qdm)=[(qdm,Lib.tabData .u64 Lib.pow10Tab)]:=by kernel_rfl
 rw[e]at h1
 have h2:laidMet Tryz.prog [(qdm,Lib.tabData .u64 Lib.pow10Tab)] W:=by
  rw[MakeChecks.laidMetH_plain _ _ _ (by kernel_rfl)]at h1;exact h1
 have ht:Lib.TabIs Tryz.prog W qdm .u64 Lib.pow10Tab:=
  Lib.tabIs_of_head (rest:=[]) (t:=324) (e:=241) (n:=20) qfS (by kernel_rfl) (by kernel_rfl) (by kernel_rfl) (by kernel_rfl) (by kernel_rfl) h2
 refine⟨?_,ht⟩;unfold Lib.TabIs World.var? at ht;rw[qfS]at ht;simp only[ZB]at ht;show 7<W.heap.size;rcases Nat.lt_or_ge 7 W.heap.size with h5|h5
 ·exact h5
 rw[Array.getElem?_eq_none h5]at ht;cases ht
theorem own:ownKnob Tryz.prog.godebug=none:=by kernel_rfl
theorem lifted (os:Os) (started:os.Started) (H:Type) (enc:TypeId×Value->H):
 ReturnsInHanded {} Tryz.checked os 5 .any (fun w args=>(Rows.braidSumsSpec.pre enc Tryz.prog Tryz.f5 Rows.braidSumsRow.domain false w args/\laidMetH Tryz.prog Rows.braidSumsRow.laid w)/\sizedMet enc Tryz.prog Tryz.f5 (OpenSpec.ofChange Rows.braidSumsSpec) false w args)
  (Rows.braidSumsSpec.post enc Tryz.prog Tryz.f5 false true false false):=by
 refine returnsInHanded_of_change_and (C:=Tryz.checked) (X:=fun w _=>laidMetH Tryz.prog Rows.braidSumsRow.laid w) (fun _ _ _ hh h=>h.of_heap hh) own started (by kernel_rfl) Tryz.func5
  (ChangeSpec.witness_shaped (enc:=enc) (C:=Tryz.checked) (os:=os) (X:=fun w _=>laidMetH Tryz.prog Rows.braidSumsRow.laid w) false (World.laidAll Tryz.prog os Rows.braidSumsRow.laid) #[.int .i64 0,.agg #[.slice none 0 0,.slice none 0 0,.int .i64 0]] 8 (World.laidAll_os _ _ _)
   (World.shaped_of_ZipB (by kernel_rfl) (by kernel_rfl)) (by kernel_rfl) (by kernel_rfl) (by kernel_rfl)
   (by rw[MakeChecks.laidMetH_plain _ _ _ (by kernel_rfl)];exact laidMet_laidAll _ (by kernel_rfl) (by kernel_rfl))) ?_
 intro W base args ds gs before hval hW _ _ hL _;exact contract H enc W base args ds gs before hval hW (qnh hL)
theorem factA:Tryz.pinned.checked.prog.funcNamed Rows.braidSumsRow.func=some 5:=by kernel_rfl
theorem fact0:(Rows.braidSumsRow.wf (OpenSpec.ofChange Rows.braidSumsSpec))=true:=by kernel_rfl
theorem fact1:(laidOutB Tryz.pinned.checked.prog)=true:=by kernel_rfl
theorem fact2:(mapsRowed Tryz.pinned.checked.prog)=true:=by kernel_rfl
theorem fact3:(Tryz.f5.params.all (Tryz.pinned.checked.prog.readableRec ·))=true:=by kernel_rfl
theorem fact4:(namedTie Tryz.pinned.checked.prog Rows.braidSumsRow.named Rows.braidSumsSpec.vars)=true:=by kernel_rfl
theorem fact5:((Rows.braidSumsRow.stops==[]))=true:=by kernel_rfl
theorem fact6:((Tryz.pinned.checked.prog.stops==[]))=true:=by kernel_rfl
theorem fact7:((Rows.braidSumsRow.knobs==[]))=true:=by kernel_rfl
theorem fact8:((Tryz.pinned.checked.prog.stopKnobs==[]))=true:=by kernel_rfl
theorem fact9:((Rows.braidSumsRow.inPlace==Tryz.pinned.checked.prog.inPlace 5))=true:=by kernel_rfl
theorem qrO:((Rows.braidSumsRow.unfollowed==Tryz.pinned.checked.prog.unfollowed 5))=true:=by kernel_rfl
theorem qrG:((Rows.braidSumsRow.recurses==Tryz.pinned.checked.prog.recurses 5))=true:=by kernel_rfl
theorem qr4:((Rows.braidSumsRow.named==Tryz.pinned.checked.prog.varsNamed 5))=true:=by kernel_rfl
theorem qrf:((Rows.braidSumsRow.maps==(Tryz.f5.params.toList++Rows.braidSumsSpec.plain.varTypes Tryz.pinned.checked.prog).any (Tryz.pinned.checked.prog.mapsRec ·)))=true:=by kernel_rfl
theorem qrI:((Rows.braidSumsRow.ifaces==(Tryz.f5.params.toList++Rows.braidSumsSpec.plain.varTypes Tryz.pinned.checked.prog).any (Tryz.pinned.checked.prog.ifacesRec ·)))=true:=by kernel_rfl
theorem qre:((Rows.braidSumsRow.mapsOut==Tryz.pinned.checked.prog.mapsAmong Tryz.f5.resultTypes.toList))=true:=by kernel_rfl
theorem qrn:((Rows.braidSumsRow.loops==(Tryz.f5.params.toList++Rows.braidSumsSpec.plain.varTypes Tryz.pinned.checked.prog).any (Tryz.pinned.checked.prog.loopsFrom ·)))=true:=by kernel_rfl
theorem qrR:((Rows.braidSumsRow.wideKeys==(Tryz.f5.params.toList++Rows.braidSumsSpec.plain.varTypes Tryz.pinned.checked.prog++Tryz.f5.resultTypes.toList).any (Tryz.pinned.checked.prog.wideKeysFrom ·)))=true:=by kernel_rfl
theorem qrp:(Rows.braidSumsSpec.vars.all (Tryz.pinned.checked.prog.varReadable ·))=true:=by kernel_rfl
theorem qrs:(Tryz.f5.resultTypes.all (fun t=>Tryz.pinned.checked.prog.readableRec t&&decide (t<Tryz.pinned.checked.prog.types.size)))=true:=by kernel_rfl
theorem qrJ:((Rows.braidSumsRow.ifacesOut==Tryz.f5.resultTypes.toList.any (Tryz.pinned.checked.prog.ifacesRec ·)))=true:=by kernel_rfl
theorem qr1:((Rows.braidSumsRow.loopsOut==Tryz.f5.resultTypes.toList.any (Tryz.pinned.checked.prog.loopsFrom ·)))=true:=by kernel_rfl
theorem qrH:((Rows.braidSumsRow.plainKeys==Tryz.pinned.checked.prog.plainKeys))=true:=by kernel_rfl
theorem qrt:(Rows.braidSumsRow.shortTexts.isNone)=true:=by kernel_rfl
theorem qr3:(Tryz.pinned.checked.prog.stopsHeard)=true:=by kernel_rfl
theorem qrD:(Tryz.pinned.checked.prog.mayEnter)=true:=by kernel_rfl
theorem qrU:((Rows.braidSumsRow.lifted==Tryz.pinned.checked.prog.liftsFinal))=true:=by kernel_rfl
theorem qrC:((Tryz.pinned.checked.prog.make==some Rows.braidSumsRow.make))=true:=by kernel_rfl
theorem qrm:((Rows.braidSumsRow.kinds==(if Rows.braidSumsRow.domain.isEmpty then[]else Tryz.f5.params.toList.map fun t=>match Tryz.pinned.checked.prog.underlying t with|some (.int k)=>some k|_=>none)))=true:=by kernel_rfl
theorem qro:((Rows.braidSumsRow.pinned==Rows.braidSumsRow.pinnedBy))=true:=by kernel_rfl
theorem qrM:((Rows.braidSumsRow.veiled==(Tryz.f5.params.toList++Rows.braidSumsSpec.plain.varTypes Tryz.pinned.checked.prog++Tryz.f5.resultTypes.toList).any (Tryz.pinned.checked.prog.veiledRec ·)))=true:=by kernel_rfl
theorem qrX:(Rows.braidSumsRow.veiledFits Tryz.pinned.checked.prog Tryz.f5.params.toList (Tryz.f5.params.toList++Rows.braidSumsSpec.plain.varTypes Tryz.pinned.checked.prog++Tryz.f5.resultTypes.toList))=true:=by kernel_rfl
theorem factB:joinedFacts Tryz.pinned.checked.prog 5 Tryz.f5 Rows.braidSumsSpec Rows.braidSumsRow=true:=by
 unfold joinedFacts;exact(qas (qas (qas (qas (qas (qas (qas (qas (qas (qas (qas (qas (qas (qas (qas (qas (qas (qas (qas (qas (qas (qas (qas (qas (qas (qas (qas (qas (qas (qas (qas fact0 fact1) fact2) fact3) fact4) fact5) fact6) fact7) fact8) fact9) qrO) qrG) qr4) qrf) qrI) qre) qrn) qrR) qrp) qrs) qrJ) qr1) qrH) qrt) qr3) qrD) qrU) qrC) qrm) qro) qrM) qrX)
theorem factC:Tryz.f5.isInstance Tryz.pinned.checked.prog Rows.braidSumsRow.origin Rows.braidSumsRow.targs:=of_decide_eq_true (by kernel_rfl)
theorem factD:Tryz.f5.isWrapper Tryz.pinned.checked.prog Rows.braidSumsRow.wrapper Rows.braidSumsRow.mainSum:=by unfold Func.isWrapper;first|(rw[if_pos (by decide+kernel)];kernel_rfl)|(rw[if_neg (by decide+kernel)];exact⟨rfl,rfl⟩)
theorem said:Rows.BraidSumsSaid:=
 OpenClaim.holds_of_wide 5 Tryz.f5 rfl rfl rfl rfl rfl rfl rfl ⟨rfl,rfl,rfl,rfl,rfl⟩ rfl rfl rfl rfl rfl factA Tryz.func5 factB factC factD
  (fun os started H enc _=>lifted os started H enc)
theorem qrN:Tryz.pinned.checked.prog.wantsStandIn 3=false:=by kernel_rfl
theorem qqx:Tryz.pinned.checked.prog.wantsStandIn 58=false:=by kernel_rfl
theorem qrd:true=Tryz.pinned.checked.prog.looks []:=by kernel_rfl
theorem plain (f:FuncId) (fn:Func) (hf:Tryz.pinned.checked.prog.funcNamed "becket/becketlaw05.BraidSums" =some f) (hfn:Tryz.pinned.checked.prog.funcs[f]? =some fn):
 true=Tryz.pinned.checked.prog.looks []/\ ∀(j:Nat) t,fn.params[j]? =some t->Tryz.pinned.checked.prog.wantsStandIn t=false:=by
 obtain rfl:f=5:=Ye ((show Tryz.prog.funcNamed "becket/becketlaw05.BraidSums" =some 5 by kernel_rfl).symm.trans hf)|>.symm;obtain rfl:fn=Tryz.f5:=(Ye (Tryz.func5.symm.trans hfn)).symm;refine⟨qrd,fun j t ht=>?_⟩;rw[Tryz.params5]at ht
 have ht:t=3\/t=58:=by have:=Array.mem_of_getElem? ht;simpa using this
 rcases ht with rfl|rfl
 ·exact qrN
 exact qqx
theorem card:Rows.BraidSumsCardSaid:=
 Claim7.holds_tied_plain_at .later [] _ _ _ _ said (fun _ h=>by cases h) (by kernel_rfl) (fun _ h=>by cases h) braidSums_row_tie rfl ⟨rfl,rfl⟩ (by kernel_rfl) rfl plain (by kernel_rfl)
end Go.Av
namespace Go.Proofs.YtkdbjocpkfeckaaGreatDoor
theorem braidSums_holds:Rows.BraidSumsCardSaid:=Go.Av.card
end Go.Proofs.YtkdbjocpkfeckaaGreatDoor
