/-
  Walks of functions: what each computes, as a plain function.
-/
import Derived.Test.YtjflombnfhlkaaaGreatDoorQGenF1
noncomputable section
namespace Go.Av
open Go.Proofs Go.RowKit
set_option linter.unusedSectionVars false
set_option linter.unusedVariables false
set_option linter.unusedSimpArgs false
set_option maxRecDepth 100000
def vV (a0_:Str) (a1_:Int) (a2_:Int) (a3_:Str) (a4_:List (Str×Int)):Option Unit:=
 some ()
theorem qb5 (a0_:Str) (a1_:Int) (a2_:Int) (a3_:Str) (a4_:List (Str×Int)) (h:vV a0_ a1_ a2_ a3_ a4_=some ()):qw Tryz.prog (.fn 121) [.agg [.str a0_,.i a1_,.i a2_,.str a3_],.ptr 0 0] [.cells [.map 1],mI a4_] (.bool (decide (a1_>((qa2 a4_ a0_).getD 0)))) [.cells [.map 1],mI a4_]:=by
 unfold vV at h
 refine Goes.fnH Tryz.func121 rfl rfl (m:=11) rfl (rs:=[.tmp 3]) rfl (l:=[(0,.agg [.str a0_,.i a1_,.i a2_,.str a3_]),(1,.ptr 0 0)]) rfl ?_
 intro B hB
 refine sq (Goes.rg fol [(1,.ptr 0 0),(2,.ptr 2 0)] [.cells [.map 1],mI a4_,.cells [.str a0_,.i a1_,.i a2_,.str a3_]] ?_)
 refine sq (Goes.rq fol [5] [(3,.bool (decide (a1_>((qa2 a4_ a0_).getD 0))))] [.cells [.map 1],mI a4_,.cells [.str a0_,.i a1_,.i a2_,.str a3_]] (ac (hs (.run [1] (kP Tryz.prog 65 (.map 1) (.str a0_) false) [.cells [.map 1],mI a4_,.cells [.str a0_,.i a1_,.i a2_,.str a3_]] (.i ((qa2 a4_ a0_).getD 0)) [.cells [.map 1],mI a4_,.cells [.str a0_,.i a1_,.i a2_,.str a3_]] false) (qlx (z:=0) (f:=fI) qng keyS rfl a0_)) az) ?_)
 refine Goes.ret ?_
 exact(Goes.retH (xs:=[.bool (decide (a1_>((qa2 a4_ a0_).getD 0)))]) (by kernel_rfl) (Sub.norm [] [some 0,some 1] (by rw[hB];rfl) rfl (.keep (.same nB) .nil) (.keep rfl (.cells (qg.cons (.map rfl) qg.nil)) rfl rfl (.keep rfl (.map (mpN fun _=>nS) (mpN fun _=>nI)) rfl rfl .nil))))
def kg (a0_:List qm) (a1_:List (Str×Int)):Nat→(List qm)→Int→Option (List qm)
 |0,_,_=>none
 |K+1,l2,n3=>
  if n3<(a0_.length:Int)then
  (((idx a0_ n3).bind fun x9=>
  (vV x9.Desk x9.Number x9.Clock x9.Line a1_).bind fun _=>
  if(decide (x9.Number>((qa2 a1_ x9.Desk).getD 0)))=true then
  (yV x9).bind fun r12=>
  (app 48 l2 [r12]).bind fun l13=>
  some l13
  else
  some l2:Option (List qm))).bind fun l7=>
  kg a0_ a1_ K l7 (w64 (n3+1))
  else
  some l2
def vL (N:Nat) (a0_:List qm) (a1_:List (Str×Int)):Option (List qm):=
 (kg a0_ a1_ N ([]:List qm) 0).bind fun l4=>
 some l4
theorem qbR (N:Nat) (a0_:List qm) (a1_:List (Str×Int)) {l1:List qm} (h:vL N a0_ a1_=some l1):qw Tryz.prog (.fn 120) [vl qa a0_,.func (.func 121) [] [.ptr 0 0],.func (.func 122) [] []] [.cells [.map 1],mI a1_] (.gslice 2 l1.length 4) [.cells [.map 1],mI a1_,.cells (l1.flatMap qa.c)]:=by
 unfold vL at h
 refine Goes.fnH Tryz.func120 rfl rfl (m:=27) rfl (rs:=[.tmp 6]) rfl (l:=[(0,vl qa a0_),(1,.func (.func 121) [] [.ptr 0 0]),(2,.func (.func 122) [] [])]) rfl ?_
 intro B hB
 refine sq (Goes.rg fol [(0,vl qa a0_),(1,.func (.func 121) [] [.ptr 0 0]),(2,.func (.func 122) [] [])] [.cells [.map 1],mI a1_] ?_)
 refine sq (Goes.rg fol [(0,vl qa a0_),(1,.func (.func 121) [] [.ptr 0 0]),(2,.func (.func 122) [] []),(7,.nilslice)] [.cells [.map 1],mI a1_] ?_)
 refine sq ?_
 refine sq (Goes.rg fol [(1,.func (.func 121) [] [.ptr 0 0]),(2,.func (.func 122) [] []),(7,.nilslice),(10,vl qa a0_),(11,.i (a0_.length:Int)),(12,.i 0)] [.cells [.map 1],mI a1_] ?_)
 refine Goes.block ?_
 obtain⟨r5,g5,h⟩:=bnd h
 refine Goes.imp (Q:=fun x s'=>(x= .exit 0∧ ∃l4,l4=r5∧Sub s' (ofG 27 [(7,.gslice 2 l4.length 4)],[.cells [.map 1],mI a1_,.cells (l4.flatMap qa.c)]))) ?_ ?_
 ·refine Goes.sub (s':=(ofG 27 [(1,.func (.func 121) [] [.ptr 0 0]),(2,.func (.func 122) [] []),(7,.gslice 2 ([]:List qm).length 4),(10,vl qa a0_),(11,.i (a0_.length:Int)),(12,.i 0)],[.cells [.map 1],mI a1_,.cells (([]:List qm).flatMap qa.c)])) (Sub.norm [] [some 0,some 1,none] (by rw[hB];rfl) rfl (.keep (.funcL (qf.nil) (qg.cons (.ptr rfl) qg.nil)) (.keep (.same (qx.func qf.nil qf.nil)) (.keep .nil (.keep (.same (qh qa _)) (.keep (.same nI) (.keep (.same nI) .nil)))))) (.keep rfl (.cells (qg.cons (.map rfl) qg.nil)) rfl rfl (.keep rfl (.map (mpN fun _=>nS) (mpN fun _=>nI)) rfl rfl (.fresh .nil)))) ?_
  refine Goes.loopS (fun M s=> ∃(l2:List qm) (n3:Int),s=(ofG 27 [(1,.func (.func 121) [] [.ptr 0 0]),(2,.func (.func 122) [] []),(7,.gslice 2 l2.length 4),(10,vl qa a0_),(11,.i (a0_.length:Int)),(12,.i n3)],[.cells [.map 1],mI a1_,.cells (l2.flatMap qa.c)])∧kg a0_ a1_ M l2 n3=some r5) ?_ (m:=N) ⟨_,_,rfl,g5⟩
  rintro M s ⟨l2,n3,rfl,g5⟩
  cases M with
  |zero=>simp only[kg]at g5;cases g5
  |succ M=>
   rw[kg]at g5
   refine sq (Goes.rg fol [(1,.func (.func 121) [] [.ptr 0 0]),(2,.func (.func 122) [] []),(7,.gslice 2 l2.length 4),(10,vl qa a0_),(11,.i (a0_.length:Int)),(12,.i n3),(13,.bool (decide (n3<(a0_.length:Int))))] [.cells [.map 1],mI a1_,.cells (l2.flatMap qa.c)] ?_)
   refine sq ?_
   refine Goes.ifB (b:=decide (n3<(a0_.length:Int))) (by kernel_rfl) (fun c6=>?_) (fun c6=>?_)
   ·rw[if_pos (ot c6)]at g5
    refine Goes.skip ?_
    refine sq ?_
    obtain⟨r8,g8,g5⟩:=bnd g5
    refine Goes.imp (Q:=fun x s'=>(x= .normal∧ ∃l7,l7=r8∧Sub s' (ofG 27 [(1,.func (.func 121) [] [.ptr 0 0]),(2,.func (.func 122) [] []),(7,.gslice 2 l7.length 4),(10,vl qa a0_),(11,.i (a0_.length:Int)),(12,.i n3)],[.cells [.map 1],mI a1_,.cells (l7.flatMap qa.c)]))) ?_ ?_
    ·refine Goes.block ?_
     refine sq ?_
     obtain⟨x9,e_x9,g8⟩:=bnd g8
     refine Goes.rq fol [0,1] [(1,.func (.func 121) [] [.ptr 0 0]),(2,.func (.func 122) [] []),(7,.gslice 2 l2.length 4),(9,.ptr 3 0),(10,vl qa a0_),(11,.i (a0_.length:Int)),(12,.i n3)] [.cells [.map 1],mI a1_,.cells (l2.flatMap qa.c),.cells [.str x9.Desk,.i x9.Number,.i x9.Clock,.str x9.Line]] (ac (iv qbs qa e_x9) (ac (la qbM qa e_x9) az)) ?_
     refine sq ?_
     obtain⟨_,e_r10,g8⟩:=bnd g8
     refine Goes.rq fol [2] [(1,.func (.func 121) [] [.ptr 0 0]),(2,.func (.func 122) [] []),(7,.gslice 2 l2.length 4),(9,.ptr 3 0),(10,vl qa a0_),(11,.i (a0_.length:Int)),(12,.i n3),(18,.bool (decide (x9.Number>((qa2 a1_ x9.Desk).getD 0))))] [.cells [.map 1],mI a1_,.cells (l2.flatMap qa.c),.cells [.str x9.Desk,.i x9.Number,.i x9.Clock,.str x9.Line]] (ac (hs (.callH 121 [.agg [.str x9.Desk,.i x9.Number,.i x9.Clock,.str x9.Line],.ptr 0 0] [.cells [.map 1],mI a1_,.cells (l2.flatMap qa.c),.cells [.str x9.Desk,.i x9.Number,.i x9.Clock,.str x9.Line]] [0,1] (.bool (decide (x9.Number>((qa2 a1_ x9.Desk).getD 0)))) [.cells [.map 1],mI a1_,.cells (l2.flatMap qa.c),.cells [.str x9.Desk,.i x9.Number,.i x9.Clock,.str x9.Line]]) (jl [some 0,some 1] [some 0,some 1,none,none] (qb5 x9.Desk x9.Number x9.Clock x9.Line a1_ e_r10) (.keep rfl (.cells (qg.cons (.map rfl) qg.nil)) rfl rfl (.keep rfl (.map (mpN fun _=>nS) (mpN fun _=>nI)) rfl rfl .nil)) rfl rfl (.back rfl rfl (.cells (qg.cons (.map rfl) qg.nil)) rfl (.back rfl rfl (.map (mpN fun _=>nS) (mpN fun _=>nI)) rfl (.old rfl rfl (.old rfl rfl .nil)))) (qg.cons (.same (qx.agg (qf.cons nS (qf.cons nI (qf.cons nI (qf.cons nS qf.nil)))))) (qg.cons (.ptr rfl) qg.nil)) (.same nB) rfl)) az) ?_
     refine Goes.ifB (b:=decide (x9.Number>((qa2 a1_ x9.Desk).getD 0))) (by kernel_rfl) (fun c11=>?_) (fun c11=>?_)
     ·rw[if_pos (c11)]at g8
      obtain⟨r12,e_r12,g8⟩:=bnd g8
      obtain⟨l13,e_l13,g8⟩:=bnd g8
      refine Goes.rq fol [3,5] [(1,.func (.func 121) [] [.ptr 0 0]),(2,.func (.func 122) [] []),(7,.gslice 5 l13.length 4),(10,vl qa a0_),(11,.i (a0_.length:Int)),(12,.i n3)] [.cells [.map 1],mI a1_,.dead,.cells [.str x9.Desk,.i x9.Number,.i x9.Clock,.str x9.Line],.cells [.str r12.Desk,.i r12.Number,.i r12.Clock,.str r12.Line],.cells (l13.flatMap qa.c)] (ac (cv (qdf x9 e_r12)) (ac (hs (.run [2,4] (qQ Tryz.prog [96,96] (.gslice 2 l2.length 4) (.slice 4 0 1 1 4)) [.cells [.map 1],mI a1_,.cells (l2.flatMap qa.c),.cells [.str x9.Desk,.i x9.Number,.i x9.Clock,.str x9.Line],.cells [.str r12.Desk,.i r12.Number,.i r12.Clock,.str r12.Line]] (.gslice 5 l13.length 4) [.cells [.map 1],mI a1_,.dead,.cells [.str x9.Desk,.i x9.Number,.i x9.Clock,.str x9.Line],.cells [.str r12.Desk,.i r12.Number,.i r12.Clock,.str r12.Line],.cells (l13.flatMap qa.c)] true) (kN qbs (E:=qa) rfl (xR (E:=qa) (ys:=[r12]) rfl rfl rfl rfl) (qb4 (E:=qa) (l:=l2) rfl rfl rfl e_l13 rfl))) az)) ?_
      obtain rfl:=si g8
      exact⟨rfl,_,rfl,(Sub.norm [] [some 0,some 1,some 5] (by rw[hB];rfl) rfl (.keep (.funcL (qf.nil) (qg.cons (.ptr rfl) qg.nil)) (.keep (.same (qx.func qf.nil qf.nil)) (.keep (.gslice rfl) (.keep (.same (qh qa _)) (.keep (.same nI) (.keep (.same nI) .nil)))))) (.keep rfl (.cells (qg.cons (.map rfl) qg.nil)) rfl rfl (.keep rfl (.map (mpN fun _=>nS) (mpN fun _=>nI)) rfl rfl (.keep rfl (.same fa) rfl rfl .nil))))⟩
     ·rw[if_neg (nb c11)]at g8
      refine Goes.skip ?_
      obtain rfl:=si g8
      exact⟨rfl,_,rfl,(Sub.norm [] [some 0,some 1,some 2] (by rw[hB];rfl) rfl (.keep (.funcL (qf.nil) (qg.cons (.ptr rfl) qg.nil)) (.keep (.same (qx.func qf.nil qf.nil)) (.keep (.gslice rfl) (.drop (.keep (.same (qh qa _)) (.keep (.same nI) (.keep (.same nI) .nil))))))) (.keep rfl (.cells (qg.cons (.map rfl) qg.nil)) rfl rfl (.keep rfl (.map (mpN fun _=>nS) (mpN fun _=>nI)) rfl rfl (.keep rfl (.same fa) rfl rfl .nil))))⟩
    rintro x s' ⟨rfl,l7,rfl,hsub⟩
    refine Goes.sub hsub ?_
    refine Goes.rg fol [(1,.func (.func 121) [] [.ptr 0 0]),(2,.func (.func 122) [] []),(7,.gslice 2 l7.length 4),(10,vl qa a0_),(11,.i (a0_.length:Int)),(12,.i (w64 (n3+1)))] [.cells [.map 1],mI a1_,.cells (l7.flatMap qa.c)] ?_
    exact⟨M,(ofG 27 [(1,.func (.func 121) [] [.ptr 0 0]),(2,.func (.func 122) [] []),(7,.gslice 2 l7.length 4),(10,vl qa a0_),(11,.i (a0_.length:Int)),(12,.i (w64 (n3+1)))],[.cells [.map 1],mI a1_,.cells (l7.flatMap qa.c)]),Nat.lt_succ_self _,(Sub.refl _),_,_,rfl,g5⟩
   ·rw[if_neg (of_ c6)]at g5
    refine Goes.exit ?_
    obtain rfl:=si g5
    exact⟨rfl,_,rfl,(Sub.keep [7] rfl rfl)⟩
 rintro x s' ⟨rfl,l4,rfl,hsub⟩
 refine Goes.sub hsub ?_
 refine sq (Goes.rg fol [(6,.gslice 2 l4.length 4)] [.cells [.map 1],mI a1_,.cells (l4.flatMap qa.c)] ?_)
 refine Goes.ret ?_
 obtain rfl:=si h
 exact(Goes.retH (xs:=[.gslice 2 l4.length 4]) (by kernel_rfl) (qdS.refl _ _))
def zQ (v:List qB):Nat→(List (Str×Int))→Int→Option (List (Str×Int))
 |0,_,_=>none
 |K+1,l5,n6=>
  if n6<(v.length:Int)then
  (idx v n6).bind fun x10=>
  (some (qd7 l5 x10.Desk x10.Number)).bind fun m11=>
  zQ v K m11 (w64 (n6+1))
  else
  some l5
def xn (N:Nat) (l:List qm) (v:List qB):Option ((List qm)×Int):=
 (zP N l).bind fun r1=>
 (vD N v).bind fun r2=>
 (qV N ([r1,r2]:List Int)).bind fun r3=>
 if(!decide (r3=0))=true then
 some ([],r3)
 else
 (zQ v N ([]:List (Str×Int)) 0).bind fun l7=>
 (vL N l l7).bind fun l13=>
 some (l13,0)
theorem qeQ (N:Nat) (l:List qm) (v:List qB) {res:(List qm)×Int} (h:xn N l v=some res):qw Tryz.prog (.fn 58) [vl qa l,vl qd v] [] (.tuple [vl qa res.1,.i res.2]) []:=by
 unfold xn at h
 refine Goes.fnW Tryz.func58 rfl rfl (m:=35) rfl (rs:=[.tmp 4,.tmp 5]) rfl (l:=[(0,vl qa l),(1,vl qd v)]) rfl ?_
 refine sq (Goes.rg fol [(0,vl qa l),(1,vl qd v)] [] ?_)
 refine sq ?_
 refine sq ?_
 obtain⟨r1,e_r1,h⟩:=bnd h
 obtain⟨r2,e_r2,h⟩:=bnd h
 obtain⟨r3,e_r3,h⟩:=bnd h
 refine Goes.rq fol [1,3,5] [(0,vl qa l),(1,vl qd v),(6,.i r3)] [.cells [.i r1,.i r2]] (ac (cv (xq N l e_r1)) (ac (cv (qcO N v e_r2)) (ac (hs (.call 86 [.slice 0 0 2 2 1] [.cells [.i r1,.i r2]] [0] [vl encI ([r1,r2]:List Int)] (.i r3)) (xw (FzL.cons (Fz.lit rfl rfl (FzL.still (AllST.cons tI (AllST.cons tI AllST.nil)))) FzL.nil) (kS N ([r1,r2]:List Int) e_r3) tI rfl)) az))) ?_
 refine sq (Goes.rg fol [(0,vl qa l),(1,vl qd v),(6,.i r3),(17,.bool (!decide (r3=0)))] [.cells [.i r1,.i r2]] ?_)
 refine Goes.ifB (b:=!decide (r3=0)) (by kernel_rfl) (fun c4=>?_) (fun c4=>?_)
 ·rw[if_pos (c4)]at h
  refine sq (Goes.rg fol [(4,.nilslice),(5,.i r3)] [.cells [.i r1,.i r2]] ?_)
  refine Goes.ret ?_
  obtain rfl:=si h
  exact(Goes.retW (xs:=[.nilslice,.i r3]) (by kernel_rfl) (FzW.tuple (qz.cons (FzW.nilv (E:=qa)) (qz.cons (FzW.still tI) qz.nil))))
 ·rw[if_neg (nb c4)]at h
  refine Goes.skip ?_
  refine sq (Goes.rg fol [(0,vl qa l),(1,vl qd v),(7,.ptr 2 0)] [.cells [.i r1,.i r2],mI ([]:List (Str×Int)),.cells [.map 1]] ?_)
  refine sq ?_
  refine sq (Goes.rg fol [(0,vl qa l),(7,.ptr 2 0),(20,vl qd v),(21,.i (v.length:Int)),(22,.i 0)] [.cells [.i r1,.i r2],mI ([]:List (Str×Int)),.cells [.map 1]] ?_)
  refine Goes.block ?_
  obtain⟨r8,g8,h⟩:=bnd h
  refine Goes.imp (Q:=fun x s'=>(x= .exit 0∧ ∃l7,l7=r8∧Sub s' (ofG 35 [(0,vl qa l),(7,.ptr 0 0)],[.cells [.map 1],mI l7]))) ?_ ?_
  ·refine Goes.sub (s':=(ofG 35 [(0,vl qa l),(7,.ptr 0 0),(20,vl qd v),(21,.i (v.length:Int)),(22,.i 0)],[.cells [.map 1],mI ([]:List (Str×Int))])) (Sub.norm [] [some 2,some 1] rfl rfl (.keep (.same (qh qa _)) (.keep (.ptr rfl) (.keep (.same (qh qd _)) (.keep (.same nI) (.keep (.same nI) .nil))))) (.keep rfl (.cells (qg.cons (.map rfl) qg.nil)) rfl rfl (.keep rfl (.map (mpN fun _=>nS) (mpN fun _=>nI)) rfl rfl .nil))) ?_
   refine Goes.loopS (fun M s=> ∃(l5:List (Str×Int)) (n6:Int),s=(ofG 35 [(0,vl qa l),(7,.ptr 0 0),(20,vl qd v),(21,.i (v.length:Int)),(22,.i n6)],[.cells [.map 1],mI l5])∧zQ v M l5 n6=some r8) ?_ (m:=N) ⟨_,_,rfl,g8⟩
   rintro M s ⟨l5,n6,rfl,g8⟩
   cases M with
   |zero=>simp only[zQ]at g8;cases g8
   |succ M=>
    rw[zQ]at g8
    refine sq (Goes.rg fol [(0,vl qa l),(7,.ptr 0 0),(20,vl qd v),(21,.i (v.length:Int)),(22,.i n6),(23,.bool (decide (n6<(v.length:Int))))] [.cells [.map 1],mI l5] ?_)
    refine sq ?_
    refine Goes.ifB (b:=decide (n6<(v.length:Int))) (by kernel_rfl) (fun c9=>?_) (fun c9=>?_)
    ·rw[if_pos (ot c9)]at g8
     refine Goes.skip ?_
     refine sq (Goes.block ?_)
     refine sq ?_
     obtain⟨x10,e_x10,g8⟩:=bnd g8
     refine Goes.rq fol [0,1] [(0,vl qa l),(7,.ptr 0 0),(9,.ptr 2 0),(20,vl qd v),(21,.i (v.length:Int)),(22,.i n6)] [.cells [.map 1],mI l5,.cells [.str x10.Desk,.i x10.Number]] (ac (iv qks qd e_x10) (ac (la qll qd e_x10) az)) ?_
     obtain⟨m11,e_m11,g8⟩:=bnd g8
     refine Goes.rq fol [5] [(0,vl qa l),(7,.ptr 0 0),(20,vl qd v),(21,.i (v.length:Int)),(22,.i n6)] [.cells [.map 1],mI m11,.cells [.str x10.Desk,.i x10.Number]] (ac (hs (.run [1] (xZ Tryz.prog 65 (.map 1) (.str x10.Desk) (.i x10.Number)) [.cells [.map 1],mI l5,.cells [.str x10.Desk,.i x10.Number]] .undef [.cells [.map 1],mI m11,.cells [.str x10.Desk,.i x10.Number]] true) (upm qng keyS fI rfl x10.Desk x10.Number e_m11 rfl)) az) ?_
     refine Goes.rg fol [(0,vl qa l),(7,.ptr 0 0),(20,vl qd v),(21,.i (v.length:Int)),(22,.i (w64 (n6+1)))] [.cells [.map 1],mI m11,.cells [.str x10.Desk,.i x10.Number]] ?_
     exact⟨M,(ofG 35 [(0,vl qa l),(7,.ptr 0 0),(20,vl qd v),(21,.i (v.length:Int)),(22,.i (w64 (n6+1)))],[.cells [.map 1],mI m11]),Nat.lt_succ_self _,(Sub.norm [] [some 0,some 1] rfl rfl (.keep (.same (qh qa _)) (.keep (.ptr rfl) (.keep (.same (qh qd _)) (.keep (.same nI) (.keep (.same nI) .nil))))) (.keep rfl (.cells (qg.cons (.map rfl) qg.nil)) rfl rfl (.keep rfl (.map (mpN fun _=>nS) (mpN fun _=>nI)) rfl rfl .nil))),_,_,rfl,g8⟩
    ·rw[if_neg (of_ c9)]at g8
     refine Goes.exit ?_
     obtain rfl:=si g8
     exact⟨rfl,_,rfl,(Sub.keep [0,7] rfl rfl)⟩
  rintro x s' ⟨rfl,l7,rfl,hsub⟩
  refine Goes.sub hsub ?_
  refine sq ?_
  obtain⟨l13,e_r12,h⟩:=bnd h
  refine Goes.rq fol [2] [(4,.gslice 2 l13.length 4),(5,.i 0)] [.cells [.map 1],mI l7,.cells (l13.flatMap qa.c)] (ac (hs (.callH 120 [vl qa l,.func (.func 121) [] [.ptr 0 0],.func (.func 122) [] []] [.cells [.map 1],mI l7] [0,1] (.gslice 2 l13.length 4) [.cells [.map 1],mI l7,.cells (l13.flatMap qa.c)]) (jl [some 0,some 1] [some 0,some 1,some 2] (qbR N l l7 e_r12) (.keep rfl (.cells (qg.cons (.map rfl) qg.nil)) rfl rfl (.keep rfl (.map (mpN fun _=>nS) (mpN fun _=>nI)) rfl rfl .nil)) rfl rfl (.back rfl rfl (.cells (qg.cons (.map rfl) qg.nil)) rfl (.back rfl rfl (.map (mpN fun _=>nS) (mpN fun _=>nI)) rfl (.new rfl rfl (.same fa) rfl .nil))) (qg.cons (.same (qh qa _)) (qg.cons (.funcL (qf.nil) (qg.cons (.ptr rfl) qg.nil)) (qg.cons (.same (qx.func qf.nil qf.nil)) qg.nil))) (.gslice rfl) rfl)) az) ?_
  refine Goes.ret ?_
  obtain rfl:=si h
  exact(Goes.retW (xs:=[.gslice 2 l13.length 4,.i 0]) (by kernel_rfl) (FzW.tuple (qz.cons (FzW.fz (Fz.gs (E:=qa) rfl rfl (nl rfl))) (qz.cons (FzW.still tI) qz.nil))))
def vX:Option (List qm):=
 qew (some []) ((app 48 ([]:List qm) ([]:List qm)).bind fun l1=>
 some l1)
theorem qcl {res:List qm} (h:vX=some res):qw Tryz.prog (.fn 123) [vl qa ([]:List qm)] [] (vl qa res) []:=by
 unfold vX at h
 refine Goes.fnW Tryz.func123 rfl rfl (m:=8) rfl (rs:=[.tmp 2]) rfl (l:=[(0,vl qa ([]:List qm))]) rfl ?_
 refine sq (Goes.rg fol [(0,vl qa ([]:List qm))] [] ?_)
 refine sq ?_
 refine sq (Goes.rg fol [(0,vl qa ([]:List qm)),(4,.anyb)] [] ?_)
 refine Goes.condAny (by kernel_rfl) ?_ ?_
 ·replace h:=(qaI h).1
  refine sq (Goes.rg fol [(2,.nilslice)] [] ?_)
  refine Goes.ret ?_
  obtain rfl:=si h
  exact(Goes.retW (xs:=[.nilslice]) (by kernel_rfl) (FzW.nilv (E:=qa)))
 ·replace h:=(qaI h).2
  refine Goes.skip ?_
  refine sq ?_
  obtain⟨l1,e_l1,h⟩:=bnd h
  refine Goes.rq fol [2] [(2,.oslice 1 l1.length 4)] [.dead,.cells (l1.flatMap qa.c)] (ac (hs (.run [0] (qQ Tryz.prog [96,96] (.slice 0 0 0 0 4) (vl qa ([]:List qm))) [.cells []] (.oslice 1 l1.length 4) [.dead,.cells (l1.flatMap qa.c)] true) (kN qbs (E:=qa) rfl (qa7 (E:=qa) rfl _) (qb2 (E:=qa) rfl rfl rfl e_l1 rfl))) az) ?_
  refine Goes.ret ?_
  obtain rfl:=si h
  exact(Goes.retW (xs:=[.oslice 1 l1.length 4]) (by kernel_rfl) (FzW.fz (Fz.os (E:=qa) rfl rfl (nl rfl))))
def xN (x:qm) (xs:List qm):Option (List qm):=
 (app 48 ([]:List qm) (x::xs)).bind fun l1=>
 some l1
theorem qcs (x:qm) (xs:List qm) {res:List qm} (h:xN x xs=some res):qw Tryz.prog (.fn 123) [vl qa (x::xs)] [] (vl qa res) []:=by
 unfold xN at h
 refine Goes.fnW Tryz.func123 rfl rfl (m:=8) rfl (rs:=[.tmp 2]) rfl (l:=[(0,vl qa (x::xs))]) rfl ?_
 refine sq (Goes.rg fol [(0,vl qa (x::xs))] [] ?_)
 refine sq ?_
 refine sq (Goes.rg fol [(0,vl qa (x::xs)),(4,.bool false)] [] ?_)
 refine Goes.ifB (b:=false) (by kernel_rfl) (fun c=>(by cases c)) (fun _=>?_)
 refine Goes.skip ?_
 refine sq ?_
 obtain⟨l1,e_l1,h⟩:=bnd h
 refine Goes.rq fol [2] [(2,.oslice 1 l1.length 4)] [.dead,.cells (l1.flatMap qa.c)] (ac (hs (.run [0] (qQ Tryz.prog [96,96] (.slice 0 0 0 0 4) (vl qa (x::xs))) [.cells []] (.oslice 1 l1.length 4) [.dead,.cells (l1.flatMap qa.c)] true) (kN qbs (E:=qa) rfl (qa7 (E:=qa) rfl _) (qb2 (E:=qa) rfl rfl rfl e_l1 rfl))) az) ?_
 refine Goes.ret ?_
 obtain rfl:=si h
 exact(Goes.retW (xs:=[.oslice 1 l1.length 4]) (by kernel_rfl) (FzW.fz (Fz.os (E:=qa) rfl rfl (nl rfl))))
def xc:List qm→Option (List qm)
 |[]=>vX
 |x::xs=>xN x xs
theorem qc7 (l:List qm) {res:List qm} (h:xc l=some res):qw Tryz.prog (.fn 123) [vl qa l] [] (vl qa res) []:=by
 cases l with
 |nil=>exact qcl h
 |cons x xs=>exact qcs x xs h
def xE (n:qm) (o:qm):Option Int:=
 (cmp_Compare_int n.Clock o.Clock).bind fun r1=>
 some r1
theorem qbN (n:qm) (o:qm) {res:Int} (h:xE n o=some res):qw Tryz.prog (.fn 125) [.agg [.str n.Desk,.i n.Number,.i n.Clock,.str n.Line],.agg [.str o.Desk,.i o.Number,.i o.Clock,.str o.Line]] [] (.i res) []:=by
 unfold xE at h
 refine Goes.fnW Tryz.func125 rfl rfl (m:=10) rfl (rs:=[.tmp 4]) rfl (l:=[(0,.agg [.str n.Desk,.i n.Number,.i n.Clock,.str n.Line]),(1,.agg [.str o.Desk,.i o.Number,.i o.Clock,.str o.Line])]) rfl ?_
 refine sq (Goes.rg fol [(2,.ptr 0 0),(3,.ptr 1 0)] [.cells [.str n.Desk,.i n.Number,.i n.Clock,.str n.Line],.cells [.str o.Desk,.i o.Number,.i o.Clock,.str o.Line]] ?_)
 refine sq ?_
 obtain⟨r1,e_r1,h⟩:=bnd h
 refine Goes.rq fol [4] [(4,.i r1)] [.cells [.str n.Desk,.i n.Number,.i n.Clock,.str n.Line],.cells [.str o.Desk,.i o.Number,.i o.Clock,.str o.Line]] (ac (cv (qbz n.Clock o.Clock e_r1)) az) ?_
 refine Goes.ret ?_
 obtain rfl:=si h
 exact(Goes.retW (xs:=[.i r1]) (by kernel_rfl) (FzW.still tI))
def zG (N:Nat) (e:ql):Nat→Int→Option (Unit⊕Int)
 |0,_=>none
 |K+1,n22=>
  if n22<(e.Names.length:Int)then
  (idx e.Names n22).bind fun x26=>
  (vW N x26).bind fun r27=>
  if(!decide (r27=0))=true then
  some (.inr r27)
  else
  zG N e K (w64 (n22+1))
  else
  some (.inl ())
def zH (e:ql):Nat→Int→Option (Unit⊕Int)
 |0,_=>none
 |K+1,n29=>
  if n29<(e.Values.length:Int)then
  (idx e.Values n29).bind fun x33=>
  (kV x33 0 999999999).bind fun r34=>
  if(!decide (r34=0))=true then
  some (.inr r34)
  else
  zH e K (w64 (n29+1))
  else
  some (.inl ())
def vR (N:Nat) (e:ql):Option Int:=
 ((zA).bind fun r1=>
 if(e.Kind==[109,97,107,101])=true then
 some (2,3,true)
 else
 if(e.Kind==[116,101,115,116])=true then
 some (1,2,true)
 else
 if(e.Kind==[117,115,101])=true then
 some (1,2,true)
 else
 if(e.Kind==[102,97,105,108])=true then
 some (1,1,true)
 else
 if(e.Kind==[114,101,99,97,108,108])=true then
 some (1,1,true)
 else
 if(e.Kind==[117,110,100,111])=true then
 some (0,0,true)
 else
 some (0,0,false):Option (Int×Int×Bool)).bind fun(n8,n9,is_10)=>
 ((kV e.Number 1 1000).bind fun r12=>
 (qU (!is_10) 13).bind fun r13=>
 if(!decide ((e.Names.length:Int)=n8))=true then
 (qU true 2).bind fun r15=>
 (qV N ([r12,r13,r15]:List Int)).bind fun r16=>
 some r16
 else
 (qU (!decide ((e.Values.length:Int)=n9)) 2).bind fun r17=>
 (qV N ([r12,r13,r17]:List Int)).bind fun r18=>
 some r18:Option Int).bind fun bad_19=>
 if(!decide (bad_19=0))=true then
 some bad_19
 else
 (zG N e N 0).bind (fun
 |(.inl ())=>
 (zH e N 0).bind (fun
 |(.inl ())=>
 (qU (!(e.Text==[])) 1).bind fun r36=>
 some r36
 |(.inr q37)=>
 some q37)
 |(.inr q38)=>
 some q38)
theorem qcZ (N:Nat) (e:ql) {res:Int} (h:vR N e=some res):qw Tryz.prog (.fn 18) [.agg (cE e)] [] (.i res) []:=by
 unfold vR at h
 refine Goes.fnW Tryz.func18 rfl rfl (m:=75) rfl (rs:=[.tmp 2]) rfl (l:=[(0,.agg (cE e))]) rfl ?_
 refine sq (Goes.rg fol [(1,.ptr 0 0)] [.cells (cE e)] ?_)
 refine sq ?_
 obtain⟨⟨n8,n9,is_10⟩,g_v11,h⟩:=bnd h
 refine Goes.cutS (s':=(ofG 75 [(1,.ptr 0 0),(3,.ptr 1 0),(4,.bool is_10)],[.cells (cE e),.cells [.i n8,.i n9,.undef]])) ?_ ?_
 ·obtain⟨r1,e_r1,g_v11⟩:=bnd g_v11
  rcases Bool.eq_false_or_eq_true (e.Kind==[109,97,107,101])with c2|c2
  ·rw[if_pos (c2)]at g_v11
   simp only[Option.some.injEq,Prod.mk.injEq]at g_v11
   obtain⟨rfl,rfl,rfl⟩:=g_v11
   exact qp.sub (qp.rq fol [0,3] [(1,.ptr 0 0),(3,.ptr 1 0),(4,.bool true)] [.cells (cE e),.cells [.i 2,.i 3,.func (.func 141) [] []]] (ac (cv (qH e_r1)) (ac (hs (.done (kP Tryz.prog 154 (fm1) (.str e.Kind) true) (.tuple [.agg [.i 2,.i 3,.func (.func 141) [] []],.bool true])) (qa3 qav [[109,97,107,101],[116,101,115,116],[117,115,101],[102,97,105,108],[114,101,99,97,108,108],[117,110,100,111]] (jk c2) rfl)) az))) (Sub.norm [] [some 0,some 1] rfl rfl (.keep (.ptr rfl) (.keep (.ptr rfl) (.keep (.same nB) .nil))) (.keep rfl (.same (qf.cons nI (qf.cons nS (qf.cons (qh encS _) (qf.cons (qh encI _) (qf.cons nS qf.nil)))))) rfl rfl (.keep rfl (.cells (qg.cons (.same nI) (qg.cons (.same nI) (qg.cons (.undef) qg.nil)))) rfl rfl .nil)))
  ·rw[if_neg (nb c2)]at g_v11
   rcases Bool.eq_false_or_eq_true (e.Kind==[116,101,115,116])with c3|c3
   ·rw[if_pos (c3)]at g_v11
    simp only[Option.some.injEq,Prod.mk.injEq]at g_v11
    obtain⟨rfl,rfl,rfl⟩:=g_v11
    exact qp.sub (qp.rq fol [0,3] [(1,.ptr 0 0),(3,.ptr 1 0),(4,.bool true)] [.cells (cE e),.cells [.i 1,.i 2,.func (.func 142) [] []]] (ac (cv (qH e_r1)) (ac (hs (.done (kP Tryz.prog 154 (fm1) (.str e.Kind) true) (.tuple [.agg [.i 1,.i 2,.func (.func 142) [] []],.bool true])) (qa3 qav [[109,97,107,101],[116,101,115,116],[117,115,101],[102,97,105,108],[114,101,99,97,108,108],[117,110,100,111]] (qy c2 (jk c3)) rfl)) az))) (Sub.norm [] [some 0,some 1] rfl rfl (.keep (.ptr rfl) (.keep (.ptr rfl) (.keep (.same nB) .nil))) (.keep rfl (.same (qf.cons nI (qf.cons nS (qf.cons (qh encS _) (qf.cons (qh encI _) (qf.cons nS qf.nil)))))) rfl rfl (.keep rfl (.cells (qg.cons (.same nI) (qg.cons (.same nI) (qg.cons (.undef) qg.nil)))) rfl rfl .nil)))
   ·rw[if_neg (nb c3)]at g_v11
    rcases Bool.eq_false_or_eq_true (e.Kind==[117,115,101])with c4|c4
    ·rw[if_pos (c4)]at g_v11
     simp only[Option.some.injEq,Prod.mk.injEq]at g_v11
     obtain⟨rfl,rfl,rfl⟩:=g_v11
     exact qp.sub (qp.rq fol [0,3] [(1,.ptr 0 0),(3,.ptr 1 0),(4,.bool true)] [.cells (cE e),.cells [.i 1,.i 2,.func (.func 143) [] []]] (ac (cv (qH e_r1)) (ac (hs (.done (kP Tryz.prog 154 (fm1) (.str e.Kind) true) (.tuple [.agg [.i 1,.i 2,.func (.func 143) [] []],.bool true])) (qa3 qav [[109,97,107,101],[116,101,115,116],[117,115,101],[102,97,105,108],[114,101,99,97,108,108],[117,110,100,111]] (qy c2 (qy c3 (jk c4))) rfl)) az))) (Sub.norm [] [some 0,some 1] rfl rfl (.keep (.ptr rfl) (.keep (.ptr rfl) (.keep (.same nB) .nil))) (.keep rfl (.same (qf.cons nI (qf.cons nS (qf.cons (qh encS _) (qf.cons (qh encI _) (qf.cons nS qf.nil)))))) rfl rfl (.keep rfl (.cells (qg.cons (.same nI) (qg.cons (.same nI) (qg.cons (.undef) qg.nil)))) rfl rfl .nil)))
    ·rw[if_neg (nb c4)]at g_v11
     rcases Bool.eq_false_or_eq_true (e.Kind==[102,97,105,108])with c5|c5
     ·rw[if_pos (c5)]at g_v11
      simp only[Option.some.injEq,Prod.mk.injEq]at g_v11
      obtain⟨rfl,rfl,rfl⟩:=g_v11
      exact qp.sub (qp.rq fol [0,3] [(1,.ptr 0 0),(3,.ptr 1 0),(4,.bool true)] [.cells (cE e),.cells [.i 1,.i 1,.func (.func 144) [] []]] (ac (cv (qH e_r1)) (ac (hs (.done (kP Tryz.prog 154 (fm1) (.str e.Kind) true) (.tuple [.agg [.i 1,.i 1,.func (.func 144) [] []],.bool true])) (qa3 qav [[109,97,107,101],[116,101,115,116],[117,115,101],[102,97,105,108],[114,101,99,97,108,108],[117,110,100,111]] (qy c2 (qy c3 (qy c4 (jk c5)))) rfl)) az))) (Sub.norm [] [some 0,some 1] rfl rfl (.keep (.ptr rfl) (.keep (.ptr rfl) (.keep (.same nB) .nil))) (.keep rfl (.same (qf.cons nI (qf.cons nS (qf.cons (qh encS _) (qf.cons (qh encI _) (qf.cons nS qf.nil)))))) rfl rfl (.keep rfl (.cells (qg.cons (.same nI) (qg.cons (.same nI) (qg.cons (.undef) qg.nil)))) rfl rfl .nil)))
     ·rw[if_neg (nb c5)]at g_v11
      rcases Bool.eq_false_or_eq_true (e.Kind==[114,101,99,97,108,108])with c6|c6
      ·rw[if_pos (c6)]at g_v11
       simp only[Option.some.injEq,Prod.mk.injEq]at g_v11
       obtain⟨rfl,rfl,rfl⟩:=g_v11
       exact qp.sub (qp.rq fol [0,3] [(1,.ptr 0 0),(3,.ptr 1 0),(4,.bool true)] [.cells (cE e),.cells [.i 1,.i 1,.func (.func 145) [] []]] (ac (cv (qH e_r1)) (ac (hs (.done (kP Tryz.prog 154 (fm1) (.str e.Kind) true) (.tuple [.agg [.i 1,.i 1,.func (.func 145) [] []],.bool true])) (qa3 qav [[109,97,107,101],[116,101,115,116],[117,115,101],[102,97,105,108],[114,101,99,97,108,108],[117,110,100,111]] (qy c2 (qy c3 (qy c4 (qy c5 (jk c6))))) rfl)) az))) (Sub.norm [] [some 0,some 1] rfl rfl (.keep (.ptr rfl) (.keep (.ptr rfl) (.keep (.same nB) .nil))) (.keep rfl (.same (qf.cons nI (qf.cons nS (qf.cons (qh encS _) (qf.cons (qh encI _) (qf.cons nS qf.nil)))))) rfl rfl (.keep rfl (.cells (qg.cons (.same nI) (qg.cons (.same nI) (qg.cons (.undef) qg.nil)))) rfl rfl .nil)))
      ·rw[if_neg (nb c6)]at g_v11
       rcases Bool.eq_false_or_eq_true (e.Kind==[117,110,100,111])with c7|c7
       ·rw[if_pos (c7)]at g_v11
        simp only[Option.some.injEq,Prod.mk.injEq]at g_v11
        obtain⟨rfl,rfl,rfl⟩:=g_v11
        exact qp.sub (qp.rq fol [0,3] [(1,.ptr 0 0),(3,.ptr 1 0),(4,.bool true)] [.cells (cE e),.cells [.i 0,.i 0,.nilfunc]] (ac (cv (qH e_r1)) (ac (hs (.done (kP Tryz.prog 154 (fm1) (.str e.Kind) true) (.tuple [.agg [.i 0,.i 0,.nilfunc],.bool true])) (qa3 qav [[109,97,107,101],[116,101,115,116],[117,115,101],[102,97,105,108],[114,101,99,97,108,108],[117,110,100,111]] (qy c2 (qy c3 (qy c4 (qy c5 (qy c6 (jk c7)))))) rfl)) az))) (Sub.norm [] [some 0,some 1] rfl rfl (.keep (.ptr rfl) (.keep (.ptr rfl) (.keep (.same nB) .nil))) (.keep rfl (.same (qf.cons nI (qf.cons nS (qf.cons (qh encS _) (qf.cons (qh encI _) (qf.cons nS qf.nil)))))) rfl rfl (.keep rfl (.cells (qg.cons (.same nI) (qg.cons (.same nI) (qg.cons (.undef) qg.nil)))) rfl rfl .nil)))
       ·rw[if_neg (nb c7)]at g_v11
        simp only[Option.some.injEq,Prod.mk.injEq]at g_v11
        obtain⟨rfl,rfl,rfl⟩:=g_v11
        exact qp.sub (qp.rq fol [0,3] [(1,.ptr 0 0),(3,.ptr 1 0),(4,.bool false)] [.cells (cE e),.cells [.i 0,.i 0,.nilfunc]] (ac (cv (qH e_r1)) (ac (hs (.done (kP Tryz.prog 154 (fm1) (.str e.Kind) true) (.tuple [.agg [.i 0,.i 0,.nilfunc],.bool false])) (qjY qav [[109,97,107,101],[116,101,115,116],[117,115,101],[102,97,105,108],[114,101,99,97,108,108],[117,110,100,111]] (qy c2 (qy c3 (qy c4 (qy c5 (qy c6 (qy c7 (rfl))))))))) az))) (Sub.norm [] [some 0,some 1] rfl rfl (.keep (.ptr rfl) (.keep (.ptr rfl) (.keep (.same nB) .nil))) (.keep rfl (.same (qf.cons nI (qf.cons nS (qf.cons (qh encS _) (qf.cons (qh encI _) (qf.cons nS qf.nil)))))) rfl rfl (.keep rfl (.cells (qg.cons (.same nI) (qg.cons (.same nI) (qg.cons (.undef) qg.nil)))) rfl rfl .nil)))
 intro _ hsub
 try dsimp only at h
 refine Goes.sub hsub ?_
 refine sq ?_
 refine sq ?_
 obtain⟨bad_19,g_v20,h⟩:=bnd h
 refine Goes.cutS (s':=(ofG 75 [(1,.ptr 0 0),(5,.i bad_19)],[.cells (cE e)])) ?_ ?_
 ·obtain⟨r12,e_r12,g_v20⟩:=bnd g_v20
  obtain⟨r13,e_r13,g_v20⟩:=bnd g_v20
  rcases Bool.eq_false_or_eq_true (!decide ((e.Names.length:Int)=n8))with c14|c14
  ·rw[if_pos (c14)]at g_v20
   obtain⟨r15,e_r15,g_v20⟩:=bnd g_v20
   obtain⟨r16,e_r16,g_v20⟩:=bnd g_v20
   obtain rfl:=si g_v20
   exact qp.sub (qp.rq fol [2,5,12,20,22] [(1,.ptr 0 0),(5,.i r16)] [.cells (cE e),.cells [.i n8,.i n9,.undef],.cells [.i r12,.i r13,.i r15]] (ac (cv (ku e.Number 1 1000 e_r12)) (ac (cv (qL (!is_10) 13 e_r13)) (ac (gw c14) (ac (cv (qL true 2 e_r15)) (ac (hs (.call 86 [.slice 2 0 3 3 1] [.cells (cE e),.cells [.i n8,.i n9,.undef],.cells [.i r12,.i r13,.i r15]] [2] [vl encI ([r12,r13,r15]:List Int)] (.i r16)) (xw (FzL.cons (Fz.lit rfl rfl (FzL.still (AllST.cons tI (AllST.cons tI (AllST.cons tI AllST.nil))))) FzL.nil) (kS N ([r12,r13,r15]:List Int) e_r16) tI rfl)) az)))))) (Sub.norm [] [some 0] rfl rfl (.keep (.ptr rfl) (.keep (.same nI) .nil)) (.keep rfl (.same (qf.cons nI (qf.cons nS (qf.cons (qh encS _) (qf.cons (qh encI _) (qf.cons nS qf.nil)))))) rfl rfl .nil))
  ·rw[if_neg (nb c14)]at g_v20
   obtain⟨r17,e_r17,g_v20⟩:=bnd g_v20
   obtain⟨r18,e_r18,g_v20⟩:=bnd g_v20
   obtain rfl:=si g_v20
   exact qp.sub (qp.rq fol [2,5,12,20,22] [(1,.ptr 0 0),(5,.i r18)] [.cells (cE e),.cells [.i n8,.i n9,.undef],.cells [.i r12,.i r13,.i r17]] (ac (cv (ku e.Number 1 1000 e_r12)) (ac (cv (qL (!is_10) 13 e_r13)) (ac (gw c14) (ac (cv (qL (!decide ((e.Values.length:Int)=n9)) 2 e_r17)) (ac (hs (.call 86 [.slice 2 0 3 3 1] [.cells (cE e),.cells [.i n8,.i n9,.undef],.cells [.i r12,.i r13,.i r17]] [2] [vl encI ([r12,r13,r17]:List Int)] (.i r18)) (xw (FzL.cons (Fz.lit rfl rfl (FzL.still (AllST.cons tI (AllST.cons tI (AllST.cons tI AllST.nil))))) FzL.nil) (kS N ([r12,r13,r17]:List Int) e_r18) tI rfl)) az)))))) (Sub.norm [] [some 0] rfl rfl (.keep (.ptr rfl) (.keep (.same nI) .nil)) (.keep rfl (.same (qf.cons nI (qf.cons nS (qf.cons (qh encS _) (qf.cons (qh encI _) (qf.cons nS qf.nil)))))) rfl rfl .nil))
 intro _ hsub
 refine Goes.sub hsub ?_
 refine sq (Goes.rg fol [(1,.ptr 0 0),(5,.i bad_19),(43,.bool (!decide (bad_19=0)))] [.cells (cE e)] ?_)
 refine Goes.ifB (b:=!decide (bad_19=0)) (by kernel_rfl) (fun c21=>?_) (fun c21=>?_)
 ·rw[if_pos (c21)]at h
  refine sq (Goes.rg fol [(2,.i bad_19)] [.cells (cE e)] ?_)
  refine Goes.ret ?_
  obtain rfl:=si h
  exact(Goes.retW (xs:=[.i bad_19]) (by kernel_rfl) (FzW.still tI))
 ·rw[if_neg (nb c21)]at h
  refine Goes.skip ?_
  refine sq ?_
  refine sq (Goes.rg fol [(1,.ptr 0 0),(46,vl encS e.Names),(47,.i (e.Names.length:Int)),(48,.i 0)] [.cells (cE e)] ?_)
  refine Goes.block ?_
  obtain⟨r23,g23,h⟩:=bnd h
  refine Goes.imp (Q:=fun x s'=>(x= .exit 0∧(.inl ())=r23∧Sub s' (ofG 75 [(1,.ptr 0 0)],[.cells (cE e)]))∨(x= .ret∧ ∃q24,(.inr q24)=r23∧qW Tryz.prog [.tmp 2] (.i q24) .ret s')) ?_ ?_
  ·refine Goes.loopS (fun M s=> ∃(n22:Int),s=(ofG 75 [(1,.ptr 0 0),(46,vl encS e.Names),(47,.i (e.Names.length:Int)),(48,.i n22)],[.cells (cE e)])∧zG N e M n22=some r23) ?_ (m:=N) ⟨_,rfl,g23⟩
   rintro M s ⟨n22,rfl,g23⟩
   cases M with
   |zero=>simp only[zG]at g23;cases g23
   |succ M=>
    rw[zG]at g23
    refine sq (Goes.rg fol [(1,.ptr 0 0),(46,vl encS e.Names),(47,.i (e.Names.length:Int)),(48,.i n22),(49,.bool (decide (n22<(e.Names.length:Int))))] [.cells (cE e)] ?_)
    refine sq ?_
    refine Goes.ifB (b:=decide (n22<(e.Names.length:Int))) (by kernel_rfl) (fun c25=>?_) (fun c25=>?_)
    ·rw[if_pos (ot c25)]at g23
     refine Goes.skip ?_
     refine sq (Goes.block ?_)
     refine sq ?_
     obtain⟨x26,e_x26,g23⟩:=bnd g23
     refine Goes.rq fol [0,1] [(1,.ptr 0 0),(7,.str x26),(46,vl encS e.Names),(47,.i (e.Names.length:Int)),(48,.i n22)] [.cells (cE e)] (ac (iv vT encS e_x26) (ac (lv 0 ce9 encS e_x26 rfl) az)) ?_
     refine sq ?_
     obtain⟨r27,e_r27,g23⟩:=bnd g23
     refine Goes.rq fol [1] [(1,.ptr 0 0),(8,.i r27),(46,vl encS e.Names),(47,.i (e.Names.length:Int)),(48,.i n22)] [.cells (cE e)] (ac (cv (yM N x26 e_r27)) az) ?_
     refine sq (Goes.rg fol [(1,.ptr 0 0),(8,.i r27),(46,vl encS e.Names),(47,.i (e.Names.length:Int)),(48,.i n22),(55,.bool (!decide (r27=0)))] [.cells (cE e)] ?_)
     refine Goes.ifB (b:=!decide (r27=0)) (by kernel_rfl) (fun c28=>?_) (fun c28=>?_)
     ·rw[if_pos (c28)]at g23
      refine sq (Goes.rg fol [(2,.i r27)] [.cells (cE e)] ?_)
      refine Goes.ret ?_
      obtain rfl:=si g23
      exact Or.inr (⟨rfl,_,rfl,(Goes.retW (xs:=[.i r27]) (by kernel_rfl) (FzW.still tI))⟩)
     ·rw[if_neg (nb c28)]at g23
      refine Goes.skip ?_
      refine Goes.rg fol [(1,.ptr 0 0),(46,vl encS e.Names),(47,.i (e.Names.length:Int)),(48,.i (w64 (n22+1)))] [.cells (cE e)] ?_
      exact⟨M,(ofG 75 [(1,.ptr 0 0),(46,vl encS e.Names),(47,.i (e.Names.length:Int)),(48,.i (w64 (n22+1)))],[.cells (cE e)]),Nat.lt_succ_self _,(Sub.refl _),_,rfl,g23⟩
    ·rw[if_neg (of_ c25)]at g23
     refine Goes.exit ?_
     obtain rfl:=si g23
     exact Or.inl (⟨rfl,rfl,(Sub.keep [1] rfl rfl)⟩)
  rintro x s' (⟨rfl,rfl,hsub⟩|⟨rfl,q38,rfl,hret⟩)
  ·try dsimp only at h
   refine Goes.sub hsub ?_
   refine sq ?_
   refine sq (Goes.rg fol [(1,.ptr 0 0),(59,vl encI e.Values),(60,.i (e.Values.length:Int)),(61,.i 0)] [.cells (cE e)] ?_)
   refine Goes.block ?_
   obtain⟨r30,g30,h⟩:=bnd h
   refine Goes.imp (Q:=fun x s'=>(x= .exit 2∧(.inl ())=r30∧Sub s' (ofG 75 [(1,.ptr 0 0)],[.cells (cE e)]))∨(x= .ret∧ ∃q31,(.inr q31)=r30∧qW Tryz.prog [.tmp 2] (.i q31) .ret s')) ?_ ?_
   ·refine Goes.loopS (fun M s=> ∃(n29:Int),s=(ofG 75 [(1,.ptr 0 0),(59,vl encI e.Values),(60,.i (e.Values.length:Int)),(61,.i n29)],[.cells (cE e)])∧zH e M n29=some r30) ?_ (m:=N) ⟨_,rfl,g30⟩
    rintro M s ⟨n29,rfl,g30⟩
    cases M with
    |zero=>simp only[zH]at g30;cases g30
    |succ M=>
     rw[zH]at g30
     refine sq (Goes.rg fol [(1,.ptr 0 0),(59,vl encI e.Values),(60,.i (e.Values.length:Int)),(61,.i n29),(62,.bool (decide (n29<(e.Values.length:Int))))] [.cells (cE e)] ?_)
     refine sq ?_
     refine Goes.ifB (b:=decide (n29<(e.Values.length:Int))) (by kernel_rfl) (fun c32=>?_) (fun c32=>?_)
     ·rw[if_pos (ot c32)]at g30
      refine Goes.skip ?_
      refine sq (Goes.block ?_)
      refine sq ?_
      obtain⟨x33,e_x33,g30⟩:=bnd g30
      refine Goes.rq fol [0,1] [(1,.ptr 0 0),(10,.i x33),(59,vl encI e.Values),(60,.i (e.Values.length:Int)),(61,.i n29)] [.cells (cE e)] (ac (iv xL encI e_x33) (ac (lv 0 ce3 encI e_x33 rfl) az)) ?_
      refine sq ?_
      obtain⟨r34,e_r34,g30⟩:=bnd g30
      refine Goes.rq fol [1] [(1,.ptr 0 0),(11,.i r34),(59,vl encI e.Values),(60,.i (e.Values.length:Int)),(61,.i n29)] [.cells (cE e)] (ac (cv (ku x33 0 999999999 e_r34)) az) ?_
      refine sq (Goes.rg fol [(1,.ptr 0 0),(11,.i r34),(59,vl encI e.Values),(60,.i (e.Values.length:Int)),(61,.i n29),(68,.bool (!decide (r34=0)))] [.cells (cE e)] ?_)
      refine Goes.ifB (b:=!decide (r34=0)) (by kernel_rfl) (fun c35=>?_) (fun c35=>?_)
      ·rw[if_pos (c35)]at g30
       refine sq (Goes.rg fol [(2,.i r34)] [.cells (cE e)] ?_)
       refine Goes.ret ?_
       obtain rfl:=si g30
       exact Or.inr (⟨rfl,_,rfl,(Goes.retW (xs:=[.i r34]) (by kernel_rfl) (FzW.still tI))⟩)
      ·rw[if_neg (nb c35)]at g30
       refine Goes.skip ?_
       refine Goes.rg fol [(1,.ptr 0 0),(59,vl encI e.Values),(60,.i (e.Values.length:Int)),(61,.i (w64 (n29+1)))] [.cells (cE e)] ?_
       exact⟨M,(ofG 75 [(1,.ptr 0 0),(59,vl encI e.Values),(60,.i (e.Values.length:Int)),(61,.i (w64 (n29+1)))],[.cells (cE e)]),Nat.lt_succ_self _,(Sub.refl _),_,rfl,g30⟩
     ·rw[if_neg (of_ c32)]at g30
      refine Goes.exit ?_
      obtain rfl:=si g30
      exact Or.inl (⟨rfl,rfl,(Sub.keep [1] rfl rfl)⟩)
   rintro x s' (⟨rfl,rfl,hsub⟩|⟨rfl,q37,rfl,hret⟩)
   ·try dsimp only at h
    refine Goes.sub hsub ?_
    refine sq ?_
    obtain⟨r36,e_r36,h⟩:=bnd h
    refine Goes.rq fol [3] [(2,.i r36)] [.cells (cE e)] (ac (cv (qL (!(e.Text==[])) 1 e_r36)) az) ?_
    refine Goes.ret ?_
    obtain rfl:=si h
    exact(Goes.retW (xs:=[.i r36]) (by kernel_rfl) (FzW.still tI))
   ·try dsimp only at h
    obtain rfl:=si h
    exact hret
  ·try dsimp only at h
   obtain rfl:=si h
   exact hret
def yB:Option (List Int):=
 qew (some []) ((app 8 ([]:List Int) ([]:List Int)).bind fun l1=>
 some l1)
theorem qcL {res:List Int} (h:yB=some res):qw Tryz.prog (.fn 166) [vl encI ([]:List Int)] [] (vl encI res) []:=by
 unfold yB at h
 refine Goes.fnW Tryz.func166 rfl rfl (m:=8) rfl (rs:=[.tmp 2]) rfl (l:=[(0,vl encI ([]:List Int))]) rfl ?_
 refine sq (Goes.rg fol [(0,vl encI ([]:List Int))] [] ?_)
 refine sq ?_
 refine sq (Goes.rg fol [(0,vl encI ([]:List Int)),(4,.anyb)] [] ?_)
 refine Goes.condAny (by kernel_rfl) ?_ ?_
 ·replace h:=(qaI h).1
  refine sq (Goes.rg fol [(2,.nilslice)] [] ?_)
  refine Goes.ret ?_
  obtain rfl:=si h
  exact(Goes.retW (xs:=[.nilslice]) (by kernel_rfl) (FzW.nilv (E:=encI)))
 ·replace h:=(qaI h).2
  refine Goes.skip ?_
  refine sq ?_
  obtain⟨l1,e_l1,h⟩:=bnd h
  refine Goes.rq fol [2] [(2,.oslice 1 l1.length 1)] [.dead,.cells (l1.flatMap encI.c)] (ac (hs (.run [0] (qQ Tryz.prog [24,24] (.slice 0 0 0 0 1) (vl encI ([]:List Int))) [.cells []] (.oslice 1 l1.length 1) [.dead,.cells (l1.flatMap encI.c)] true) (kN xL (E:=encI) rfl (qa7 (E:=encI) rfl _) (qb2 (E:=encI) rfl rfl rfl e_l1 rfl))) az) ?_
  refine Goes.ret ?_
  obtain rfl:=si h
  exact(Goes.retW (xs:=[.oslice 1 l1.length 1]) (by kernel_rfl) (FzW.fz (Fz.os (E:=encI) rfl rfl (nl rfl))))
def yJ (x:Int) (xs:List Int):Option (List Int):=
 (app 8 ([]:List Int) (x::xs)).bind fun l1=>
 some l1
theorem qcQ (x:Int) (xs:List Int) {res:List Int} (h:yJ x xs=some res):qw Tryz.prog (.fn 166) [vl encI (x::xs)] [] (vl encI res) []:=by
 unfold yJ at h
 refine Goes.fnW Tryz.func166 rfl rfl (m:=8) rfl (rs:=[.tmp 2]) rfl (l:=[(0,vl encI (x::xs))]) rfl ?_
 refine sq (Goes.rg fol [(0,vl encI (x::xs))] [] ?_)
 refine sq ?_
 refine sq (Goes.rg fol [(0,vl encI (x::xs)),(4,.bool false)] [] ?_)
 refine Goes.ifB (b:=false) (by kernel_rfl) (fun c=>(by cases c)) (fun _=>?_)
 refine Goes.skip ?_
 refine sq ?_
 obtain⟨l1,e_l1,h⟩:=bnd h
 refine Goes.rq fol [2] [(2,.oslice 1 l1.length 1)] [.dead,.cells (l1.flatMap encI.c)] (ac (hs (.run [0] (qQ Tryz.prog [24,24] (.slice 0 0 0 0 1) (vl encI (x::xs))) [.cells []] (.oslice 1 l1.length 1) [.dead,.cells (l1.flatMap encI.c)] true) (kN xL (E:=encI) rfl (qa7 (E:=encI) rfl _) (qb2 (E:=encI) rfl rfl rfl e_l1 rfl))) az) ?_
 refine Goes.ret ?_
 obtain rfl:=si h
 exact(Goes.retW (xs:=[.oslice 1 l1.length 1]) (by kernel_rfl) (FzW.fz (Fz.os (E:=encI) rfl rfl (nl rfl))))
def slices_Clone_int:List Int→Option (List Int)
 |[]=>yB
 |x::xs=>yJ x xs
theorem qdQ (l:List Int) {res:List Int} (h:slices_Clone_int l=some res):qw Tryz.prog (.fn 166) [vl encI l] [] (vl encI res) []:=by
 cases l with
 |nil=>exact qcL h
 |cons x xs=>exact qcQ x xs h
def z8 (e:ql):Option ql:=
 (slices_Clone_string e.Names).bind fun r1=>
 (slices_Clone_int e.Values).bind fun r2=>
 some (⟨e.Number,e.Kind,r1,r2,e.Text⟩:ql)
theorem qaE (e:ql) {res:ql} (h:z8 e=some res):qw Tryz.prog (.fn 115) [.agg (cE e)] [] (.agg (cE res)) []:=by
 unfold z8 at h
 refine Goes.fnW Tryz.func115 rfl rfl (m:=12) rfl (rs:=[.cell 2 26]) rfl (l:=[(0,.agg (cE e))]) rfl ?_
 refine sq (Goes.rg fol [(1,.ptr 0 0),(2,.ptr 1 0)] [.cells (cE e),.cells [.i 0,.str [],.nilslice,.nilslice,.str []]] ?_)
 refine sq ?_
 obtain⟨r1,e_r1,h⟩:=bnd h
 obtain⟨r2,e_r2,h⟩:=bnd h
 refine Goes.rq fol [2,5] [(1,.ptr 0 0),(2,.ptr 1 0)] [.cells [.i e.Number,.str e.Kind,vl encS r1,vl encI r2,.str e.Text],.cells [.i 0,.str [],.nilslice,.nilslice,.str []]] (ac (cv (qaz e.Names e_r1)) (ac (cv (qdQ e.Values e_r2)) az)) ?_
 refine sq (Goes.rg fol [(2,.ptr 1 0)] [.cells [.i e.Number,.str e.Kind,vl encS r1,vl encI r2,.str e.Text],.cells [.i e.Number,.str e.Kind,vl encS r1,vl encI r2,.str e.Text]] ?_)
 refine Goes.ret ?_
 obtain rfl:=si h
 exact(Goes.retW (xs:=[.agg [.i e.Number,.str e.Kind,vl encS r1,vl encI r2,.str e.Text]]) (by kernel_rfl) (FzW.agg (qz.cons (FzW.still tI) (qz.cons (FzW.still tS) (qz.cons (FzW.still (vU encS _ (nl rfl))) (qz.cons (FzW.still (vU encI _ (nl rfl))) (qz.cons (FzW.still tS) qz.nil)))))))
end Go.Av
