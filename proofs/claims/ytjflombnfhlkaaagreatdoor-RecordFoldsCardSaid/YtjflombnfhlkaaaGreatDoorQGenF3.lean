/-
  Walks of functions: what each computes, as a plain function.
-/
import Derived.Test.YtjflombnfhlkaaaGreatDoorQGenF2
noncomputable section
namespace Go.Av
open Go.Proofs Go.RowKit
set_option linter.unusedSectionVars false
set_option linter.unusedVariables false
set_option linter.unusedSimpArgs false
set_option maxRecDepth 100000
def kJ (a0_:List qm) (a1_:Int) (i_1:Int):Nat→Option Unit
 |0=>none
 |K+1=>
  (if i_1>a1_ then
  (idx a0_ i_1).bind fun x6=>
  (idx a0_ (w64 (i_1-1))).bind fun x7=>
  (xE x6 x7).bind fun r8=>
  some (decide (r8<0))
  else
  some false:Option Bool).bind fun b9=>
  if b9=true then
  none
  else
  some ()
def qJ (N:Nat) (a0_:List qm) (a1_:Int) (a2_:Int):Nat→Int→Option Unit
 |0,_=>none
 |K+1,i_1=>
  if i_1<a2_ then
  (kJ a0_ a1_ i_1 N).bind fun _=>
  qJ N a0_ a1_ a2_ K (w64 (i_1+1))
  else
  some ()
def kr (N:Nat) (a0_:List qm) (a1_:Int) (a2_:Int):Option Unit:=
 (qJ N a0_ a1_ a2_ N (w64 (a1_+1))).bind fun _=>
 some ()
theorem jT (N:Nat) (a0_:List qm) (a1_:Int) (a2_:Int) (h:kr N a0_ a1_ a2_=some ()):qw Tryz.prog (.fn 200) [vl qa a0_,.i a1_,.i a2_,.func (.func 125) [] []] [] (.tuple []) []:=by
 unfold kr at h
 refine Goes.fnH Tryz.func200 rfl rfl (m:=53) rfl (rs:=[]) rfl (l:=[(0,vl qa a0_),(1,.i a1_),(2,.i a2_),(3,.func (.func 125) [] [])]) rfl ?_
 intro B hB
 refine Goes.subQ ?_
 refine sq (Goes.rg fol [(0,vl qa a0_),(1,.i a1_),(2,.i a2_),(3,.func (.func 125) [] []),(8,.i (w64 (a1_+1)))] [] ?_)
 refine Goes.block ?_
 obtain⟨r2,g2,h⟩:=bnd h
 refine Goes.imp (Q:=fun x s'=>(x= .exit 0∧()=r2∧Sub s' (ofG 53 [],[]))) ?_ ?_
 ·refine Goes.loopS (fun M s=> ∃(i_1:Int),s=(ofG 53 [(0,vl qa a0_),(1,.i a1_),(2,.i a2_),(3,.func (.func 125) [] []),(8,.i i_1)],[])∧qJ N a0_ a1_ a2_ M i_1=some r2) ?_ (m:=N) ⟨_,rfl,g2⟩
  rintro M s ⟨i_1,rfl,g2⟩
  cases M with
  |zero=>simp only[qJ]at g2;cases g2
  |succ M=>
   rw[qJ]at g2
   refine sq ?_
   refine sq (Goes.rg fol [(0,vl qa a0_),(1,.i a1_),(2,.i a2_),(3,.func (.func 125) [] []),(8,.i i_1),(14,.bool (decide (i_1<a2_)))] [] ?_)
   refine Goes.ifB (b:=decide (i_1<a2_)) (by kernel_rfl) (fun c3=>?_) (fun c3=>?_)
   ·rw[if_pos (ot c3)]at g2
    refine Goes.skip ?_
    refine sq (Goes.block ?_)
    refine sq (Goes.rg fol [(0,vl qa a0_),(1,.i a1_),(2,.i a2_),(3,.func (.func 125) [] []),(8,.i i_1),(9,.i i_1)] [] ?_)
    refine Goes.block ?_
    obtain⟨r4,g4,g2⟩:=bnd g2
    refine Goes.imp (Q:=fun x s'=>(x= .exit 2∧()=r4∧Sub s' (ofG 53 [(0,vl qa a0_),(1,.i a1_),(2,.i a2_),(3,.func (.func 125) [] []),(8,.i i_1)],[]))) ?_ ?_
    ·refine Goes.loopS (fun M s=>s=(ofG 53 [(0,vl qa a0_),(1,.i a1_),(2,.i a2_),(3,.func (.func 125) [] []),(8,.i i_1),(9,.i i_1)],[])∧kJ a0_ a1_ i_1 M=some r4) ?_ (m:=N) ⟨rfl,g4⟩
     rintro M s ⟨rfl,g4⟩
     cases M with
     |zero=>simp only[kJ]at g4;cases g4
     |succ M=>
      rw[kJ]at g4
      refine sq ?_
      refine sq ?_
      obtain⟨b9,g_v10,g4⟩:=bnd g4
      refine Goes.cut (s':=(ofG 53 [(0,vl qa a0_),(1,.i a1_),(2,.i a2_),(3,.func (.func 125) [] []),(8,.i i_1),(9,.i i_1),(34,.bool b9)],[])) ?_ ?_
      ·rcases Bool.eq_false_or_eq_true (decide (i_1>a1_))with c5|c5
       ·rw[if_pos (ot c5)]at g_v10
        obtain⟨x6,e_x6,g_v10⟩:=bnd g_v10
        obtain⟨x7,e_x7,g_v10⟩:=bnd g_v10
        obtain⟨r8,e_r8,g_v10⟩:=bnd g_v10
        obtain rfl:=si g_v10
        exact qp.rq fol [3,7,8,12,13,14] [(0,vl qa a0_),(1,.i a1_),(2,.i a2_),(3,.func (.func 125) [] []),(8,.i i_1),(9,.i i_1),(34,.bool (decide (r8<0)))] [] (ac (gw c5) (ac (iv qbs qa e_x6) (ac (la qbM qa e_x6) (ac (iv qbs qa e_x7) (ac (la qbM qa e_x7) (ac (cv (qbN x6 x7 e_r8)) az))))))
       ·rw[if_neg (of_ c5)]at g_v10
        obtain rfl:=si g_v10
        exact qp.rq fol [3] [(0,vl qa a0_),(1,.i a1_),(2,.i a2_),(3,.func (.func 125) [] []),(8,.i i_1),(9,.i i_1),(34,.bool false)] [] (ac (gw c5) az)
      refine Goes.ifB (b:=b9) (by kernel_rfl) (fun c11=>?_) (fun c11=>?_)
      ·rw[if_pos (c11)]at g4
       cases g4
      ·rw[if_neg (nb c11)]at g4
       refine Goes.exit ?_
       obtain rfl:=si g4
       exact⟨rfl,rfl,(Sub.keep [0,1,2,3,8] rfl rfl)⟩
    rintro x s' ⟨rfl,rfl,hsub⟩
    refine Goes.sub hsub ?_
    refine Goes.rg fol [(0,vl qa a0_),(1,.i a1_),(2,.i a2_),(3,.func (.func 125) [] []),(8,.i (w64 (i_1+1)))] [] ?_
    exact⟨M,(ofG 53 [(0,vl qa a0_),(1,.i a1_),(2,.i a2_),(3,.func (.func 125) [] []),(8,.i (w64 (i_1+1)))],[]),Nat.lt_succ_self _,(Sub.refl _),_,rfl,g2⟩
   ·rw[if_neg (of_ c3)]at g2
    refine Goes.exit ?_
    obtain rfl:=si g2
    exact⟨rfl,rfl,(Sub.keep [] rfl rfl)⟩
 rintro x s' ⟨rfl,rfl,hsub⟩
 exact⟨_,hsub,(Goes.retH (xs:=[]) (by kernel_rfl) (qdS.refl _ _))⟩
def qZ (N:Nat) (a0_:List qm) (a1_:Int):Nat→Int→Int→Option Int
 |0,_,_=>none
 |K+1,a_1,b_2=>
  if b_2≤a1_ then
  (kr N a0_ a_1 b_2).bind fun _=>
  qZ N a0_ a1_ K b_2 (w64 (b_2+20))
  else
  some a_1
def zC (a1_:Int) (blockSize_8:Int):Nat→Option Unit
 |0=>none
 |K+1=>
  if(w64 (2*blockSize_8))≤a1_ then
  none
  else
  some ()
def qY (N:Nat) (a1_:Int):Nat→Int→Option Unit
 |0,_=>none
 |K+1,blockSize_8=>
  if blockSize_8<a1_ then
  (zC a1_ blockSize_8 N).bind fun _=>
  ((if(w64 (0+blockSize_8))<a1_ then
  none
  else
  some ():Option Unit)).bind fun _=>
  qY N a1_ K (w64 (blockSize_8*2))
  else
  some ()
def zY (N:Nat) (a0_:List qm) (a1_:Int):Option Unit:=
 (qZ N a0_ a1_ N 0 20).bind fun a_3=>
 (kr N a0_ a_3 a1_).bind fun _=>
 (qY N a1_ N 20).bind fun _=>
 some ()
theorem qaB (N:Nat) (a0_:List qm) (a1_:Int) (h:zY N a0_ a1_=some ()):qw Tryz.prog (.fn 170) [vl qa a0_,.i a1_,.func (.func 125) [] []] [] (.tuple []) []:=by
 unfold zY at h
 refine Goes.fnH Tryz.func170 rfl rfl (m:=63) rfl (rs:=[]) rfl (l:=[(0,vl qa a0_),(1,.i a1_),(2,.func (.func 125) [] [])]) rfl ?_
 intro B hB
 refine Goes.subQ ?_
 refine sq (Goes.rg fol [(0,vl qa a0_),(1,.i a1_),(2,.func (.func 125) [] []),(6,.i 20)] [] ?_)
 refine sq (Goes.rg fol [(0,vl qa a0_),(1,.i a1_),(2,.func (.func 125) [] []),(6,.i 20),(7,.i 0),(8,.i 20)] [] ?_)
 refine sq (Goes.block ?_)
 obtain⟨r4,g4,h⟩:=bnd h
 refine Goes.imp (Q:=fun x s'=>(x= .exit 0∧ ∃a_3,a_3=r4∧Sub s' (ofG 63 [(0,vl qa a0_),(1,.i a1_),(2,.func (.func 125) [] []),(6,.i 20),(7,.i a_3)],[]))) ?_ ?_
 ·refine Goes.loopS (fun M s=> ∃(a_1:Int) (b_2:Int),s=(ofG 63 [(0,vl qa a0_),(1,.i a1_),(2,.func (.func 125) [] []),(6,.i 20),(7,.i a_1),(8,.i b_2)],[])∧qZ N a0_ a1_ M a_1 b_2=some r4) ?_ (m:=N) ⟨_,_,rfl,g4⟩
  rintro M s ⟨a_1,b_2,rfl,g4⟩
  cases M with
  |zero=>simp only[qZ]at g4;cases g4
  |succ M=>
   rw[qZ]at g4
   refine sq ?_
   refine sq (Goes.rg fol [(0,vl qa a0_),(1,.i a1_),(2,.func (.func 125) [] []),(6,.i 20),(7,.i a_1),(8,.i b_2),(13,.bool (decide (b_2≤a1_)))] [] ?_)
   refine Goes.ifB (b:=decide (b_2≤a1_)) (by kernel_rfl) (fun c5=>?_) (fun c5=>?_)
   ·rw[if_pos (ot c5)]at g4
    refine Goes.skip ?_
    refine Goes.block ?_
    refine sq ?_
    obtain⟨_,e_r6,g4⟩:=bnd g4
    refine Goes.rq fol [4] [(0,vl qa a0_),(1,.i a1_),(2,.func (.func 125) [] []),(6,.i 20),(8,.i b_2)] [] (ac (hs (.callH 200 [vl qa a0_,.i a_1,.i b_2,.func (.func 125) [] []] [] [] (.tuple []) []) (jl [] [] (jT N a0_ a_1 b_2 e_r6) .nil rfl rfl .nil (qg.cons (.same (qh qa _)) (qg.cons (.same nI) (qg.cons (.same nI) (qg.cons (.same (qx.func qf.nil qf.nil)) qg.nil)))) (.same (qx.tuple qf.nil)) rfl)) az) ?_
    refine sq (Goes.rg fol [(0,vl qa a0_),(1,.i a1_),(2,.func (.func 125) [] []),(6,.i 20),(7,.i b_2),(8,.i b_2)] [] ?_)
    refine Goes.rg fol [(0,vl qa a0_),(1,.i a1_),(2,.func (.func 125) [] []),(6,.i 20),(7,.i b_2),(8,.i (w64 (b_2+20)))] [] ?_
    exact⟨M,(ofG 63 [(0,vl qa a0_),(1,.i a1_),(2,.func (.func 125) [] []),(6,.i 20),(7,.i b_2),(8,.i (w64 (b_2+20)))],[]),Nat.lt_succ_self _,(Sub.refl _),_,_,rfl,g4⟩
   ·rw[if_neg (of_ c5)]at g4
    refine Goes.exit ?_
    obtain rfl:=si g4
    exact⟨rfl,_,rfl,(Sub.keep [0,1,2,6,7] rfl rfl)⟩
 rintro x s' ⟨rfl,a_3,rfl,hsub⟩
 refine Goes.sub hsub ?_
 refine sq ?_
 obtain⟨_,e_r7,h⟩:=bnd h
 refine Goes.rq fol [4] [(0,vl qa a0_),(1,.i a1_),(2,.func (.func 125) [] []),(6,.i 20)] [] (ac (hs (.callH 200 [vl qa a0_,.i a_3,.i a1_,.func (.func 125) [] []] [] [] (.tuple []) []) (jl [] [] (jT N a0_ a_3 a1_ e_r7) .nil rfl rfl .nil (qg.cons (.same (qh qa _)) (qg.cons (.same nI) (qg.cons (.same nI) (qg.cons (.same (qx.func qf.nil qf.nil)) qg.nil)))) (.same (qx.tuple qf.nil)) rfl)) az) ?_
 refine Goes.block ?_
 obtain⟨r9,g9,h⟩:=bnd h
 refine Goes.imp (Q:=fun x s'=>(x= .exit 2∧()=r9∧Sub s' (ofG 63 [],[]))) ?_ ?_
 ·refine Goes.loopS (fun M s=> ∃(blockSize_8:Int),s=(ofG 63 [(0,vl qa a0_),(1,.i a1_),(2,.func (.func 125) [] []),(6,.i blockSize_8)],[])∧qY N a1_ M blockSize_8=some r9) ?_ (m:=N) ⟨_,rfl,g9⟩
  rintro M s ⟨blockSize_8,rfl,g9⟩
  cases M with
  |zero=>simp only[qY]at g9;cases g9
  |succ M=>
   rw[qY]at g9
   refine sq ?_
   refine sq (Goes.rg fol [(0,vl qa a0_),(1,.i a1_),(2,.func (.func 125) [] []),(6,.i blockSize_8),(30,.bool (decide (blockSize_8<a1_)))] [] ?_)
   refine Goes.ifB (b:=decide (blockSize_8<a1_)) (by kernel_rfl) (fun c10=>?_) (fun c10=>?_)
   ·rw[if_pos (ot c10)]at g9
    refine Goes.skip ?_
    refine Goes.block ?_
    refine sq (Goes.rg fol [(0,vl qa a0_),(1,.i a1_),(2,.func (.func 125) [] []),(6,.i blockSize_8),(7,.i 0),(8,.i (w64 (2*blockSize_8)))] [] ?_)
    refine sq (Goes.block ?_)
    obtain⟨r11,g11,g9⟩:=bnd g9
    refine Goes.imp (Q:=fun x s'=>(x= .exit 4∧()=r11∧Sub s' (ofG 63 [(0,vl qa a0_),(1,.i a1_),(2,.func (.func 125) [] []),(6,.i blockSize_8),(7,.i 0)],[]))) ?_ ?_
    ·refine Goes.loopS (fun M s=>s=(ofG 63 [(0,vl qa a0_),(1,.i a1_),(2,.func (.func 125) [] []),(6,.i blockSize_8),(7,.i 0),(8,.i (w64 (2*blockSize_8)))],[])∧zC a1_ blockSize_8 M=some r11) ?_ (m:=N) ⟨rfl,g11⟩
     rintro M s ⟨rfl,g11⟩
     cases M with
     |zero=>simp only[zC]at g11;cases g11
     |succ M=>
      rw[zC]at g11
      refine sq ?_
      refine sq (Goes.rg fol [(0,vl qa a0_),(1,.i a1_),(2,.func (.func 125) [] []),(6,.i blockSize_8),(7,.i 0),(8,.i (w64 (2*blockSize_8))),(35,.bool (decide ((w64 (2*blockSize_8))≤a1_)))] [] ?_)
      refine Goes.ifB (b:=decide ((w64 (2*blockSize_8))≤a1_)) (by kernel_rfl) (fun c12=>?_) (fun c12=>?_)
      ·rw[if_pos (ot c12)]at g11
       cases g11
      ·rw[if_neg (of_ c12)]at g11
       refine Goes.exit ?_
       obtain rfl:=si g11
       exact⟨rfl,rfl,(Sub.keep [0,1,2,6,7] rfl rfl)⟩
    rintro x s' ⟨rfl,rfl,hsub⟩
    refine Goes.sub hsub ?_
    refine sq ?_
    refine sq (Goes.rg fol [(0,vl qa a0_),(1,.i a1_),(2,.func (.func 125) [] []),(6,.i blockSize_8),(7,.i 0),(9,.i (w64 (0+blockSize_8)))] [] ?_)
    refine sq (Goes.rg fol [(0,vl qa a0_),(1,.i a1_),(2,.func (.func 125) [] []),(6,.i blockSize_8),(7,.i 0),(9,.i (w64 (0+blockSize_8))),(54,.bool (decide ((w64 (0+blockSize_8))<a1_)))] [] ?_)
    obtain⟨r13,g13,g9⟩:=bnd g9
    refine Goes.imp (Q:=fun x s'=>(x= .normal∧()=r13∧Sub s' (ofG 63 [(0,vl qa a0_),(1,.i a1_),(2,.func (.func 125) [] []),(6,.i blockSize_8)],[]))) ?_ ?_
    ·refine Goes.ifB (b:=decide ((w64 (0+blockSize_8))<a1_)) (by kernel_rfl) (fun c14=>?_) (fun c14=>?_)
     ·rw[if_pos (ot c14)]at g13
      cases g13
     ·rw[if_neg (of_ c14)]at g13
      refine Goes.skip ?_
      obtain rfl:=si g13
      exact⟨rfl,rfl,(Sub.keep [0,1,2,6] rfl rfl)⟩
    rintro x s' ⟨rfl,rfl,hsub⟩
    refine Goes.sub hsub ?_
    refine Goes.rg fol [(0,vl qa a0_),(1,.i a1_),(2,.func (.func 125) [] []),(6,.i (w64 (blockSize_8*2)))] [] ?_
    exact⟨M,(ofG 63 [(0,vl qa a0_),(1,.i a1_),(2,.func (.func 125) [] []),(6,.i (w64 (blockSize_8*2)))],[]),Nat.lt_succ_self _,(Sub.refl _),_,rfl,g9⟩
   ·rw[if_neg (of_ c10)]at g9
    refine Goes.exit ?_
    obtain rfl:=si g9
    exact⟨rfl,rfl,(Sub.keep [] rfl rfl)⟩
 rintro x s' ⟨rfl,rfl,hsub⟩
 exact⟨_,hsub,(Goes.retH (xs:=[]) (by kernel_rfl) (qdS.refl _ _))⟩
def kY (N:Nat) (a0_:List qm):Option Unit:=
 (zY N a0_ (a0_.length:Int)).bind fun _=>
 some ()
theorem qax (N:Nat) (a0_:List qm) (h:kY N a0_=some ()):qw Tryz.prog (.fn 124) [vl qa a0_,.func (.func 125) [] []] [] (.tuple []) []:=by
 unfold kY at h
 refine Goes.fnH Tryz.func124 rfl rfl (m:=9) rfl (rs:=[]) rfl (l:=[(0,vl qa a0_),(1,.func (.func 125) [] [])]) rfl ?_
 intro B hB
 refine Goes.subQ ?_
 obtain⟨_,e_r1,h⟩:=bnd h
 refine Goes.rq fol [4] [] [] (ac (hs (.callH 170 [vl qa a0_,.i (a0_.length:Int),.func (.func 125) [] []] [] [] (.tuple []) []) (jl [] [] (qaB N a0_ (a0_.length:Int) e_r1) .nil rfl rfl .nil (qg.cons (.same (qh qa _)) (qg.cons (.same nI) (qg.cons (.same (qx.func qf.nil qf.nil)) qg.nil))) (.same (qx.tuple qf.nil)) rfl)) az) ?_
 exact⟨_,Sub.refl _,(Goes.retH (xs:=[]) (by kernel_rfl) (qdS.refl _ _))⟩
def kM (a0_:List ql) (a1_:Option (List StateT)):Option ((Option (List StateT))×Int×(List qj)):=
 ((match a1_ with
 |none=>
 some ((none:Option (List StateT)),decide (0=0))
 |some l4=>
 some ((some l4),decide ((l4.length:Int)=0))):Option ((Option (List StateT))×Bool)).bind fun(o5,b6)=>
 if b6=true then
 some (o5,0,[])
 else
 ((match o5 with
 |none=>
 (idx ([]:List StateT) (w64 (0-1))).bind fun x10=>
 some ((none:Option (List StateT)),x10.register.Day,x10.register.Slings)
 |some l9=>
 (idx l9 (w64 ((l9.length:Int)-1))).bind fun x11=>
 some ((some l9),x11.register.Day,x11.register.Slings)):Option ((Option (List StateT))×Int×(List qj))).bind fun(o12,n13,l14)=>
 some (o12,n13,l14)
theorem qbf (a0_:List ql) (a1_:Option (List StateT)) {o1:Option (List StateT)} {n2:Int} {l3:List qj} (h:kM a0_ a1_=some (o1,n2,l3)):qw Tryz.prog (.fn 81) [.ptr 0 0] [.cells [.gslice 1 a0_.length 5,hsl 2 3 a1_],.cells (a0_.flatMap qc.c),.cells ((hof a1_).flatMap qo.c)] (.agg [.i n2,vl qb l3]) [.cells [.gslice 1 a0_.length 5,hsl 2 3 o1],.cells (a0_.flatMap qc.c),.cells ((hof o1).flatMap qo.c)]:=by
 unfold kM at h
 refine Goes.fnH Tryz.func81 rfl rfl (m:=23) rfl (rs:=[.cell 2 31]) rfl (l:=[(0,.ptr 0 0)]) rfl ?_
 intro B hB
 refine sq (Goes.rg fol [(0,.ptr 0 0),(2,.ptr 3 0)] [.cells [.gslice 1 a0_.length 5,hsl 2 3 a1_],.cells (a0_.flatMap qc.c),.cells ((hof a1_).flatMap qo.c),bZ] ?_)
 refine sq ?_
 refine sq ?_
 obtain⟨⟨o5,b6⟩,g_v7,h⟩:=bnd h
 refine Goes.cutS (s':=(ofG 23 [(0,.ptr 0 0),(2,.ptr 3 0),(8,.bool b6)],[.cells [.gslice 1 a0_.length 5,hsl 2 3 o5],.cells (a0_.flatMap qc.c),.cells ((hof o5).flatMap qo.c),bZ])) ?_ ?_
 ·rcases a1_ with _|l4
  ·try dsimp only at g_v7
   simp only[Option.some.injEq,Prod.mk.injEq]at g_v7
   obtain⟨rfl,rfl⟩:=g_v7
   exact qp.sub (qp.rg fol [(0,.ptr 0 0),(2,.ptr 3 0),(8,.bool (decide (0=0)))] [.cells [.gslice 1 a0_.length 5,.nilslice],.cells (a0_.flatMap qc.c),.cells ((hof (none:Option (List StateT))).flatMap qo.c),bZ]) (Sub.norm [] [some 0,some 1,some 2,some 3] (by rw[hB];rfl) rfl (.keep (.ptr rfl) (.keep (.ptr rfl) (.keep (.same nB) .nil))) (.keep rfl (.cells (qg.cons (.gslice rfl) (qg.cons (kF.hs0) qg.nil))) rfl rfl (.keep rfl (.same fa) rfl rfl (.keep rfl (.same fa) rfl rfl (.keep rfl (.same (qf.cons nI (qf.cons (qx.nilslice) qf.nil))) rfl rfl .nil)))))
  ·try dsimp only at g_v7
   simp only[Option.some.injEq,Prod.mk.injEq]at g_v7
   obtain⟨rfl,rfl⟩:=g_v7
   exact qp.sub (qp.rg fol [(0,.ptr 0 0),(2,.ptr 3 0),(8,.bool (decide ((l4.length:Int)=0)))] [.cells [.gslice 1 a0_.length 5,.oslice 2 l4.length 3],.cells (a0_.flatMap qc.c),.cells (l4.flatMap qo.c),bZ]) (Sub.norm [] [some 0,some 1,some 2,some 3] (by rw[hB];rfl) rfl (.keep (.ptr rfl) (.keep (.ptr rfl) (.keep (.same nB) .nil))) (.keep rfl (.cells (qg.cons (.gslice rfl) (qg.cons ((kF.hs1 rfl)) qg.nil))) rfl rfl (.keep rfl (.same fa) rfl rfl (.keep rfl (.same fa) rfl rfl (.keep rfl (.same (qf.cons nI (qf.cons (qx.nilslice) qf.nil))) rfl rfl .nil)))))
 intro _ hsub
 try dsimp only at h
 refine Goes.sub hsub ?_
 refine Goes.ifB (b:=b6) (by kernel_rfl) (fun c8=>?_) (fun c8=>?_)
 ·rw[if_pos (c8)]at h
  refine sq (Goes.rg fol [(2,.ptr 3 0)] [.cells [.gslice 1 a0_.length 5,hsl 2 3 o5],.cells (a0_.flatMap qc.c),.cells ((hof o5).flatMap qo.c),bZ] ?_)
  refine Goes.ret ?_
  simp only[Option.some.injEq,Prod.mk.injEq]at h
  obtain⟨rfl,rfl,rfl⟩:=h
  exact(Goes.retH (xs:=[.agg [.i 0,.nilslice]]) (by kernel_rfl) (Sub.norm [] [some 0,some 1,some 2] (by rw[hB];rfl) rfl (.keep (.aggL (qg.cons (.same nI) (qg.cons (.nilv) qg.nil))) .nil) (.keep rfl (.cells (qg.cons (.gslice rfl) (qg.cons ((kF.hs rfl)) qg.nil))) rfl rfl (.keep rfl (.same fa) rfl rfl (.keep rfl (.same fa) rfl rfl .nil)))))
 ·rw[if_neg (nb c8)]at h
  refine Goes.skip ?_
  refine sq ?_
  obtain⟨⟨o12,n13,l14⟩,g_v15,h⟩:=bnd h
  refine Goes.cutS (s':=(ofG 23 [(2,.ptr 3 0)],[.cells [.gslice 1 a0_.length 5,hsl 2 3 o12],.cells (a0_.flatMap qc.c),.cells ((hof o12).flatMap qo.c),.cells [.i n13,vl qb l14]])) ?_ ?_
  ·rcases o5 with _|l9
   ·try dsimp only at g_v15
    obtain⟨x10,e_x10,g_v15⟩:=bnd g_v15
    simp only[Option.some.injEq,Prod.mk.injEq]at g_v15
    obtain⟨rfl,rfl,rfl⟩:=g_v15
    exact qp.sub (qp.rq fol [10,12] [(2,.ptr 3 0)] [.cells [.gslice 1 a0_.length 5,.nilslice],.cells (a0_.flatMap qc.c),.cells ((hof (none:Option (List StateT))).flatMap qo.c),.cells [.i x10.register.Day,vl qb x10.register.Slings]] (ac (hs (.done (.opt (qF Tryz.prog 163 (.nilslice) (.i (w64 (0-1))))) (.fptr (([]:List StateT).flatMap qo.c) ((w64 (0-1):Int).toNat*3+0))) (qnE e_x10)) (ac (hs (.done (jd Tryz.prog 31 (.fptr (([]:List StateT).flatMap qo.c) ((w64 (0-1):Int).toNat*3+1))) (.agg [.i x10.register.Day,vl qb x10.register.Slings])) (ld_vp ag31 (E:=qo) rfl e_x10 rfl rfl)) az))) (Sub.norm [] [some 0,some 1,some 2,some 3] (by rw[hB];rfl) rfl (.keep (.ptr rfl) .nil) (.keep rfl (.cells (qg.cons (.gslice rfl) (qg.cons (kF.hs0) qg.nil))) rfl rfl (.keep rfl (.same fa) rfl rfl (.keep rfl (.same fa) rfl rfl (.keep rfl (.same (qf.cons nI (qf.cons (qh qb _) qf.nil))) rfl rfl .nil)))))
   ·try dsimp only at g_v15
    obtain⟨x11,e_x11,g_v15⟩:=bnd g_v15
    simp only[Option.some.injEq,Prod.mk.injEq]at g_v15
    obtain⟨rfl,rfl,rfl⟩:=g_v15
    exact qp.sub (qp.rq fol [10,12] [(2,.ptr 3 0)] [.cells [.gslice 1 a0_.length 5,.oslice 2 l9.length 3],.cells (a0_.flatMap qc.c),.cells (l9.flatMap qo.c),.cells [.i x11.register.Day,vl qb x11.register.Slings]] (ac (hs (.done (.opt (qF Tryz.prog 163 (.oslice 2 l9.length 3) (.i (w64 ((l9.length:Int)-1))))) (.ptr 2 ((w64 ((l9.length:Int)-1):Int).toNat*3+0))) (qaU qkj e_x11)) (ac (hs (.run [2] (jd Tryz.prog 31 (.ptr 2 ((w64 ((l9.length:Int)-1):Int).toNat*3+1))) [.cells [.gslice 1 a0_.length 5,.oslice 2 l9.length 3],.cells (a0_.flatMap qc.c),.cells (l9.flatMap qo.c),bZ] (.agg [.i x11.register.Day,vl qb x11.register.Slings]) [.cells [.gslice 1 a0_.length 5,.oslice 2 l9.length 3],.cells (a0_.flatMap qc.c),.cells (l9.flatMap qo.c),bZ] false) (ld_pp ag31 (E:=qo) (l:=l9) rfl rfl e_x11 rfl rfl)) az))) (Sub.norm [] [some 0,some 1,some 2,some 3] (by rw[hB];rfl) rfl (.keep (.ptr rfl) .nil) (.keep rfl (.cells (qg.cons (.gslice rfl) (qg.cons ((kF.hs1 rfl)) qg.nil))) rfl rfl (.keep rfl (.same fa) rfl rfl (.keep rfl (.same fa) rfl rfl (.keep rfl (.same (qf.cons nI (qf.cons (qh qb _) qf.nil))) rfl rfl .nil)))))
  intro _ hsub
  try dsimp only at h
  refine Goes.sub hsub ?_
  refine Goes.ret ?_
  simp only[Option.some.injEq,Prod.mk.injEq]at h
  obtain⟨rfl,rfl,rfl⟩:=h
  exact(Goes.retH (xs:=[.agg [.i n13,vl qb l14]]) (by kernel_rfl) (Sub.norm [] [some 0,some 1,some 2] (by rw[hB];rfl) rfl (.keep (.aggL (qg.cons (.same nI) (qg.cons (.same (qh qb _)) qg.nil))) .nil) (.keep rfl (.cells (qg.cons (.gslice rfl) (qg.cons ((kF.hs rfl)) qg.nil))) rfl rfl (.keep rfl (.same fa) rfl rfl (.keep rfl (.same fa) rfl rfl .nil)))))
def qC (a0_:Int) (a1_:List qj):Option (List qj):=
 (mk 88 (a1_.length:Int) (⟨[],[],0,0,0,0,0,0,false⟩:qj)).bind fun l2=>
 (some (cpy l2 a1_)).bind fun l3=>
 some l3
theorem zi (a0_:Int) (a1_:List qj) {l1:List qj} (h:qC a0_ a1_=some l1):qw Tryz.prog (.fn 82) [.agg [.i a0_,vl qb a1_]] [] (.agg [.i a0_,.slice 0 0 l1.length l1.length 9]) [bS l1]:=by
 unfold qC at h
 refine Goes.fnH Tryz.func82 rfl rfl (m:=16) rfl (rs:=[.cell 2 31]) rfl (l:=[(0,.agg [.i a0_,vl qb a1_])]) rfl ?_
 intro B hB
 refine sq (Goes.rg fol [(1,.ptr 0 0),(2,.ptr 1 0)] [.cells [.i a0_,vl qb a1_],bZ] ?_)
 refine sq ?_
 obtain⟨l2,e_l2,h⟩:=bnd h
 refine Goes.rq fol [3] [(1,.ptr 0 0),(2,.ptr 1 0),(3,.slice 2 0 l2.length l2.length 9)] [.cells [.i a0_,vl qb a1_],bZ,bS l2] (ac (hs (.run [] (xB Tryz.prog 29 (.i (a1_.length:Int)) (.i (a1_.length:Int))) [.cells [.i a0_,vl qb a1_],bZ] (.slice 2 0 l2.length l2.length 9) [.cells [.i a0_,vl qb a1_],bZ,bS l2] false) (qjo qcc (E:=qb) (z:=(⟨[],[],0,0,0,0,0,0,false⟩:qj)) rfl (by kernel_rfl) e_l2 rfl)) az) ?_
 refine sq ?_
 obtain⟨l3,e_l3,h⟩:=bnd h
 refine Goes.rq fol [3] [(1,.ptr 0 0),(2,.ptr 1 0),(3,.slice 2 0 l2.length l2.length 9)] [.cells [.i a0_,vl qb a1_],bZ,bS l3] (ac (hs (.run [2] (qbJ Tryz.prog [29,29] (.slice 2 0 l2.length l2.length 9) (vl qb a1_)) [.cells [.i a0_,vl qb a1_],bZ,bS l2] (.i ((Nat.min a1_.length l2.length:Nat):Int)) [.cells [.i a0_,vl qb a1_],bZ,bS l3] true) (qjP qcc (E:=qb) (l:=l2) rfl (qa7 (E:=qb) rfl _) (.inl rfl) rfl rfl e_l3 rfl)) az) ?_
 refine Goes.sub (show Sub (ofG 16 [(1,.ptr 0 0),(2,.ptr 1 0),(3,.slice 2 0 l2.length l2.length 9)],[.cells [.i a0_,vl qb a1_],bZ,bS l3]) (ofG 16 [(1,.ptr 0 0),(2,.ptr 1 0),(3,.slice 2 0 l3.length l3.length 9)],[.cells [.i a0_,vl qb a1_],bZ,bS l3])from(Sub.norm [] [some 0,some 1,some 2] (by rw[hB];rfl) rfl (.keep (.ptr rfl) (.keep (.ptr rfl) (.keep (.sliceE rfl (qfW e_l3)) .nil))) (.keep rfl (.same (qf.cons nI (qf.cons (qh qb _) qf.nil))) rfl rfl (.keep rfl (.same (qf.cons nI (qf.cons (qx.nilslice) qf.nil))) rfl rfl (.keep rfl (.same fa) rfl rfl .nil))))) ?_
 refine sq (Goes.rg fol [(2,.ptr 1 0)] [.cells [.i a0_,vl qb a1_],.cells [.i a0_,.slice 2 0 l3.length l3.length 9],bS l3] ?_)
 refine Goes.ret ?_
 obtain rfl:=si h
 exact(Goes.retH (xs:=[.agg [.i a0_,.slice 2 0 l3.length l3.length 9]]) (by kernel_rfl) (Sub.norm [] [some 2] (by rw[hB];rfl) rfl (.keep (.aggL (qg.cons (.same nI) (qg.cons (.slice rfl) qg.nil))) .nil) (.keep rfl (.same fa) rfl rfl .nil)))
def jy (a0_:List qj) (a1_:Int) (a2_:Str) (a3_:Str) (a4_:Int) (a5_:Int) (a6_:Int) (a7_:Int) (a8_:Int) (a9_:Int) (a10_:Bool):Option (List qj):=
 (at' a0_ a1_).bind fun j2=>
 if 1=0 then
 some a0_
 else
 if a1_=(a0_.length:Int)then
 ((match a0_ with
 |[]=>
 some ([(⟨a2_,a3_,a4_,a5_,a6_,a7_,a8_,a9_,a10_⟩:qj)]:List qj)
 |x5::xs6=>
 (app 88 (x5::xs6) [(⟨a2_,a3_,a4_,a5_,a6_,a7_,a8_,a9_,a10_⟩:qj)]).bind fun l7=>
 some l7):Option (List qj)).bind fun l8=>
 some l8
 else
 if(w64 ((a0_.length:Int)+1))>(a0_.length:Int)then
 (qkV 88 a0_ j2 (w64 ((w64 ((a0_.length:Int)+1))-a1_)) (⟨[],[],0,0,0,0,0,0,false⟩:qj)).bind fun l11=>
 (if a1_=0 then
 (some (cpy l11 ([(⟨a2_,a3_,a4_,a5_,a6_,a7_,a8_,a9_,a10_⟩:qj)]:List qj))).bind fun l13=>
 some l13
 else
 (at' l11 a1_).bind fun j14=>
 ((if j14<l11.length then some ()else none:Option Unit)).bind fun u15=>
 (some (qeL l11 j14 ([(⟨a2_,a3_,a4_,a5_,a6_,a7_,a8_,a9_,a10_⟩:qj)]:List qj))).bind fun l16=>
 some l16:Option (List qj)).bind fun l17=>
 (if(w64 (a1_+1))=0 then
 (some (cpy l17 (a0_.drop j2))).bind fun l20=>
 some l20
 else
 (at' l17 (w64 (a1_+1))).bind fun j21=>
 ((if j21<l17.length then some ()else none:Option Unit)).bind fun u22=>
 (some (qeL l17 j21 (a0_.drop j2))).bind fun l23=>
 some l23:Option (List qj)).bind fun l24=>
 some l24
 else
 none
theorem qbG (a0_:List qj) (a1_:Int) (a2_:Str) (a3_:Str) (a4_:Int) (a5_:Int) (a6_:Int) (a7_:Int) (a8_:Int) (a9_:Int) (a10_:Bool) {s_1:List qj} (h:jy a0_ a1_ a2_ a3_ a4_ a5_ a6_ a7_ a8_ a9_ a10_=some s_1):qw Tryz.prog (.fn 181) [.slice 0 0 a0_.length a0_.length 9,.i a1_,.slice 1 0 1 1 9] [bS a0_,.cells (cT a2_ a3_ a4_ a5_ a6_ a7_ a8_ a9_ a10_)] (vl qb s_1) [.dead,.cells (cT a2_ a3_ a4_ a5_ a6_ a7_ a8_ a9_ a10_)]:=by
 unfold jy at h
 refine Goes.fnH Tryz.func181 rfl rfl (m:=95) rfl (rs:=[.tmp 6]) rfl (l:=[(0,.slice 0 0 a0_.length a0_.length 9),(1,.i a1_),(2,.slice 1 0 1 1 9)]) rfl ?_
 intro B hB
 refine sq (Goes.rg fol [(0,.slice 0 0 a0_.length a0_.length 9),(1,.i a1_),(2,.slice 1 0 1 1 9)] [bS a0_,.cells (cT a2_ a3_ a4_ a5_ a6_ a7_ a8_ a9_ a10_)] ?_)
 refine sq ?_
 obtain⟨j2,e_j2,h⟩:=bnd h
 refine Goes.rq fol [2] [(0,.slice 0 0 a0_.length a0_.length 9),(1,.i a1_),(2,.slice 1 0 1 1 9)] [bS a0_,.cells (cT a2_ a3_ a4_ a5_ a6_ a7_ a8_ a9_ a10_)] (ac (hs (.done (.opt (kU Tryz.prog 29 (.slice 0 0 a0_.length a0_.length 9) (some (.i a1_)) none none)) (qex 0 9 a0_.length j2)) (qfY qcc e_j2)) az) ?_
 refine sq (Goes.rg fol [(0,.slice 0 0 a0_.length a0_.length 9),(1,.i a1_),(2,.slice 1 0 1 1 9),(7,.i 1)] [bS a0_,.cells (cT a2_ a3_ a4_ a5_ a6_ a7_ a8_ a9_ a10_)] ?_)
 refine sq ?_
 refine sq (Goes.rg fol [(0,.slice 0 0 a0_.length a0_.length 9),(1,.i a1_),(2,.slice 1 0 1 1 9),(7,.i 1),(16,.bool (decide (1=0)))] [bS a0_,.cells (cT a2_ a3_ a4_ a5_ a6_ a7_ a8_ a9_ a10_)] ?_)
 refine Goes.ifB (b:=decide (1=0)) (by kernel_rfl) (fun c3=>?_) (fun c3=>?_)
 ·rw[if_pos (ot c3)]at h
  refine sq (Goes.rg fol [(6,.slice 0 0 a0_.length a0_.length 9)] [bS a0_,.cells (cT a2_ a3_ a4_ a5_ a6_ a7_ a8_ a9_ a10_)] ?_)
  refine Goes.ret ?_
  obtain rfl:=si h
  exact(Goes.retH (xs:=[.slice 0 0 a0_.length a0_.length 9]) (by kernel_rfl) (Sub.norm [0] [some 0,some 1] (by rw[hB];rfl) rfl (.keep (.frz (Fz.sl (E:=qb) rfl rfl (nl rfl)) (qh qb _)) .nil) (.lost (.keep rfl (.same (qf.cons nS (qf.cons nS (qf.cons nI (qf.cons nI (qf.cons nI (qf.cons nI (qf.cons nI (qf.cons nI (qf.cons nB qf.nil)))))))))) rfl rfl .nil))))
 ·rw[if_neg (of_ c3)]at h
  refine Goes.skip ?_
  refine sq (Goes.rg fol [(0,.slice 0 0 a0_.length a0_.length 9),(1,.i a1_),(2,.slice 1 0 1 1 9),(7,.i 1),(8,.i (a0_.length:Int))] [bS a0_,.cells (cT a2_ a3_ a4_ a5_ a6_ a7_ a8_ a9_ a10_)] ?_)
  refine sq ?_
  refine sq (Goes.rg fol [(0,.slice 0 0 a0_.length a0_.length 9),(1,.i a1_),(2,.slice 1 0 1 1 9),(7,.i 1),(8,.i (a0_.length:Int)),(22,.bool (decide (a1_=(a0_.length:Int))))] [bS a0_,.cells (cT a2_ a3_ a4_ a5_ a6_ a7_ a8_ a9_ a10_)] ?_)
  refine Goes.ifB (b:=decide (a1_=(a0_.length:Int))) (by kernel_rfl) (fun c4=>?_) (fun c4=>?_)
  ·rw[if_pos (ot c4)]at h
   refine sq ?_
   obtain⟨l8,g_v9,h⟩:=bnd h
   refine Goes.cutS (s':=(ofG 95 [(6,.oslice 2 l8.length 9)],[.dead,.cells (cT a2_ a3_ a4_ a5_ a6_ a7_ a8_ a9_ a10_),bS l8])) ?_ ?_
   ·rcases a0_ with _|⟨x5,xs6⟩
    ·try dsimp only at g_v9
     obtain rfl:=si g_v9
     exact qp.sub (qp.rg fol [(6,.oslice 2 1 9)] [.dead,.cells (cT a2_ a3_ a4_ a5_ a6_ a7_ a8_ a9_ a10_),.cells (cT a2_ a3_ a4_ a5_ a6_ a7_ a8_ a9_ a10_)]) (Sub.norm [] [some 0,some 1,some 2] (by rw[hB];rfl) rfl (.keep (kF.osliceE rfl rfl) .nil) (.lost (.keep rfl (.same (qf.cons nS (qf.cons nS (qf.cons nI (qf.cons nI (qf.cons nI (qf.cons nI (qf.cons nI (qf.cons nI (qf.cons nB qf.nil)))))))))) rfl rfl (.keep rfl (.same fa) rfl rfl .nil))))
    ·try dsimp only at g_v9
     obtain⟨l7,e_l7,g_v9⟩:=bnd g_v9
     obtain rfl:=si g_v9
     exact qp.sub (qp.rq fol [2] [(6,.oslice 2 l7.length 9)] [.cells ((x5::xs6).flatMap qb.c),.cells (cT a2_ a3_ a4_ a5_ a6_ a7_ a8_ a9_ a10_),bS l7] (ac (hs (.run [0,1] (qQ Tryz.prog [29,29] (.slice 0 0 (x5::xs6).length (x5::xs6).length 9) (.slice 1 0 1 1 9)) [.cells ((x5::xs6).flatMap qb.c),.cells (cT a2_ a3_ a4_ a5_ a6_ a7_ a8_ a9_ a10_)] (.oslice 2 l7.length 9) [.cells ((x5::xs6).flatMap qb.c),.cells (cT a2_ a3_ a4_ a5_ a6_ a7_ a8_ a9_ a10_),bS l7] false) (qnx qcc (E:=qb) (l:=(x5::xs6)) (ys:=[(⟨a2_,a3_,a4_,a5_,a6_,a7_,a8_,a9_,a10_⟩:qj)]) rfl rfl rfl rfl rfl rfl rfl rfl e_l7 rfl)) az)) (Sub.norm [] [some 0,some 1,some 2] (by rw[hB];rfl) rfl (.keep (.oslice rfl) .nil) (.lost (.keep rfl (.same (qf.cons nS (qf.cons nS (qf.cons nI (qf.cons nI (qf.cons nI (qf.cons nI (qf.cons nI (qf.cons nI (qf.cons nB qf.nil)))))))))) rfl rfl (.keep rfl (.same fa) rfl rfl .nil))))
   intro _ hsub
   refine Goes.sub hsub ?_
   refine Goes.ret ?_
   obtain rfl:=si h
   exact(Goes.retH (xs:=[.oslice 2 l8.length 9]) (by kernel_rfl) (Sub.norm [2] [some 0,some 1] (by rw[hB];rfl) rfl (.keep (.frz (Fz.os (E:=qb) rfl rfl (nl rfl)) (qh qb _)) .nil) (.lost (.keep rfl (.same (qf.cons nS (qf.cons nS (qf.cons nI (qf.cons nI (qf.cons nI (qf.cons nI (qf.cons nI (qf.cons nI (qf.cons nB qf.nil)))))))))) rfl rfl .nil))))
  ·rw[if_neg (of_ c4)]at h
   refine Goes.skip ?_
   refine sq ?_
   refine sq (Goes.rg fol [(0,.slice 0 0 a0_.length a0_.length 9),(1,.i a1_),(2,.slice 1 0 1 1 9),(7,.i 1),(8,.i (a0_.length:Int)),(31,.bool (decide ((w64 ((a0_.length:Int)+1))>(a0_.length:Int))))] [bS a0_,.cells (cT a2_ a3_ a4_ a5_ a6_ a7_ a8_ a9_ a10_)] ?_)
   refine Goes.ifB (b:=decide ((w64 ((a0_.length:Int)+1))>(a0_.length:Int))) (by kernel_rfl) (fun c10=>?_) (fun c10=>?_)
   ·rw[if_pos (ot c10)]at h
    refine sq ?_
    obtain⟨l11,e_l11,h⟩:=bnd h
    refine Goes.rq fol [2,8] [(0,.slice 0 0 a0_.length a0_.length 9),(1,.i a1_),(2,.slice 1 0 1 1 9),(7,.i 1),(9,.oslice 2 l11.length 9)] [bS a0_,.cells (cT a2_ a3_ a4_ a5_ a6_ a7_ a8_ a9_ a10_),bS l11] (ac (hs (.done (.opt (kU Tryz.prog 29 (.slice 0 0 a0_.length a0_.length 9) none (some (.i a1_)) none)) (.slice 0 0 j2 a0_.length 9)) (qnm qcc e_j2)) (ac (hs (.run [0] (qQ Tryz.prog [29,3] (.slice 0 0 j2 a0_.length 9) (.i (w64 ((w64 ((a0_.length:Int)+1))-a1_)))) [bS a0_,.cells (cT a2_ a3_ a4_ a5_ a6_ a7_ a8_ a9_ a10_)] (.oslice 2 l11.length 9) [bS a0_,.cells (cT a2_ a3_ a4_ a5_ a6_ a7_ a8_ a9_ a10_),bS l11] false) (qm6 qcc it3 (E:=qb) rfl (z:=(⟨[],[],0,0,0,0,0,0,false⟩:qj)) (by kernel_rfl) rfl rfl e_l11 rfl)) az)) ?_
    refine sq ?_
    obtain⟨l17,g_v18,h⟩:=bnd h
    refine Goes.cutS (s':=(ofG 95 [(0,.slice 0 0 a0_.length a0_.length 9),(1,.i a1_),(7,.i 1),(9,.oslice 2 l17.length 9)],[bS a0_,.cells (cT a2_ a3_ a4_ a5_ a6_ a7_ a8_ a9_ a10_),bS l17])) ?_ ?_
    ·rcases Bool.eq_false_or_eq_true (decide (a1_=0))with c12|c12
     ·rw[if_pos (ot c12)]at g_v18
      obtain⟨l13,e_l13,g_v18⟩:=bnd g_v18
      obtain rfl:=si g_v18
      exact qp.sub (qp.rq fol [2,4] [(0,.slice 0 0 a0_.length a0_.length 9),(1,.i a1_),(7,.i 1),(9,.oslice 2 l11.length 9)] [bS a0_,.cells (cT a2_ a3_ a4_ a5_ a6_ a7_ a8_ a9_ a10_),bS l13] (ac (hs (.done (.opt (kU Tryz.prog 29 (.oslice 2 l11.length 9) (some (.i a1_)) none none)) (.oslice 2 l11.length 9)) (qkb qcc (ot c12))) (ac (hs (.run [2,1] (qbJ Tryz.prog [29,29] (.oslice 2 l11.length 9) (.slice 1 0 1 1 9)) [bS a0_,.cells (cT a2_ a3_ a4_ a5_ a6_ a7_ a8_ a9_ a10_),bS l11] (.i ((Nat.min ([(⟨a2_,a3_,a4_,a5_,a6_,a7_,a8_,a9_,a10_⟩:qj)]:List qj).length l11.length:Nat):Int)) [bS a0_,.cells (cT a2_ a3_ a4_ a5_ a6_ a7_ a8_ a9_ a10_),bS l13] true) (qjP qcc (E:=qb) (l:=l11) rfl (xR (E:=qb) (ys:=([(⟨a2_,a3_,a4_,a5_,a6_,a7_,a8_,a9_,a10_⟩:qj)]:List qj)) rfl rfl rfl rfl) (.inr rfl) rfl rfl e_l13 rfl)) az))) ((show Sub (ofG 95 [(0,.slice 0 0 a0_.length a0_.length 9),(1,.i a1_),(7,.i 1),(9,.oslice 2 l11.length 9)],[bS a0_,.cells (cT a2_ a3_ a4_ a5_ a6_ a7_ a8_ a9_ a10_),bS l13]) (ofG 95 [(0,.slice 0 0 a0_.length a0_.length 9),(1,.i a1_),(7,.i 1),(9,.oslice 2 l13.length 9)],[bS a0_,.cells (cT a2_ a3_ a4_ a5_ a6_ a7_ a8_ a9_ a10_),bS l13])from(Sub.norm [] [some 0,some 1,some 2] (by rw[hB];rfl) rfl (.keep (.slice rfl) (.keep (.same nI) (.keep (.same nI) (.keep (.osliceE rfl (qfW e_l13)) .nil)))) (.keep rfl (.same fa) rfl rfl (.keep rfl (.same (qf.cons nS (qf.cons nS (qf.cons nI (qf.cons nI (qf.cons nI (qf.cons nI (qf.cons nI (qf.cons nI (qf.cons nB qf.nil)))))))))) rfl rfl (.keep rfl (.same fa) rfl rfl .nil))))).trans (Sub.refl _))
     ·rw[if_neg (of_ c12)]at g_v18
      obtain⟨j14,e_j14,g_v18⟩:=bnd g_v18
      obtain⟨u15,e_u15,g_v18⟩:=bnd g_v18
      obtain⟨l16,e_l16,g_v18⟩:=bnd g_v18
      obtain rfl:=si g_v18
      exact qp.sub (qp.rq fol [2,4] [(0,.slice 0 0 a0_.length a0_.length 9),(1,.i a1_),(7,.i 1),(9,.oslice 2 l11.length 9)] [bS a0_,.cells (cT a2_ a3_ a4_ a5_ a6_ a7_ a8_ a9_ a10_),bS l16] (ac (hs (.done (.opt (kU Tryz.prog 29 (.oslice 2 l11.length 9) (some (.i a1_)) none none)) (.wslice 2 (j14*9) (l11.length-j14) 9)) (qi4 qcc (of_decide_eq_false c12) e_j14 (qkh e_u15))) (ac (hs (.run [2,1] (qbJ Tryz.prog [29,29] (.wslice 2 (j14*9) (l11.length-j14) 9) (.slice 1 0 1 1 9)) [bS a0_,.cells (cT a2_ a3_ a4_ a5_ a6_ a7_ a8_ a9_ a10_),bS l11] (.i ((Nat.min ([(⟨a2_,a3_,a4_,a5_,a6_,a7_,a8_,a9_,a10_⟩:qj)]:List qj).length (l11.length-j14):Nat):Int)) [bS a0_,.cells (cT a2_ a3_ a4_ a5_ a6_ a7_ a8_ a9_ a10_),bS l16] true) (qkm qcc (E:=qb) rfl (l:=l11) (xR (E:=qb) (ys:=([(⟨a2_,a3_,a4_,a5_,a6_,a7_,a8_,a9_,a10_⟩:qj)]:List qj)) rfl rfl rfl rfl) (qhb e_j14) rfl rfl e_l16 rfl)) az))) ((show Sub (ofG 95 [(0,.slice 0 0 a0_.length a0_.length 9),(1,.i a1_),(7,.i 1),(9,.oslice 2 l11.length 9)],[bS a0_,.cells (cT a2_ a3_ a4_ a5_ a6_ a7_ a8_ a9_ a10_),bS l16]) (ofG 95 [(0,.slice 0 0 a0_.length a0_.length 9),(1,.i a1_),(7,.i 1),(9,.oslice 2 l16.length 9)],[bS a0_,.cells (cT a2_ a3_ a4_ a5_ a6_ a7_ a8_ a9_ a10_),bS l16])from(Sub.norm [] [some 0,some 1,some 2] (by rw[hB];rfl) rfl (.keep (.slice rfl) (.keep (.same nI) (.keep (.same nI) (.keep (.osliceE rfl (qhB (qhb e_j14) e_l16)) .nil)))) (.keep rfl (.same fa) rfl rfl (.keep rfl (.same (qf.cons nS (qf.cons nS (qf.cons nI (qf.cons nI (qf.cons nI (qf.cons nI (qf.cons nI (qf.cons nI (qf.cons nB qf.nil)))))))))) rfl rfl (.keep rfl (.same fa) rfl rfl .nil))))).trans (Sub.refl _))
    intro _ hsub
    refine Goes.sub hsub ?_
    refine sq ?_
    obtain⟨l24,g_v25,h⟩:=bnd h
    refine Goes.cutS (s':=(ofG 95 [(9,.oslice 2 l24.length 9)],[bS a0_,.cells (cT a2_ a3_ a4_ a5_ a6_ a7_ a8_ a9_ a10_),bS l24])) ?_ ?_
    ·rcases Bool.eq_false_or_eq_true (decide ((w64 (a1_+1))=0))with c19|c19
     ·rw[if_pos (ot c19)]at g_v25
      obtain⟨l20,e_l20,g_v25⟩:=bnd g_v25
      obtain rfl:=si g_v25
      exact qp.sub (qp.rq fol [4,7,8] [(9,.oslice 2 l17.length 9)] [bS a0_,.cells (cT a2_ a3_ a4_ a5_ a6_ a7_ a8_ a9_ a10_),bS l20] (ac (hs (.done (.opt (kU Tryz.prog 29 (.oslice 2 l17.length 9) (some (.i (w64 (a1_+1)))) none none)) (.oslice 2 l17.length 9)) (qkb qcc (ot c19))) (ac (hs (.done (.opt (kU Tryz.prog 29 (.slice 0 0 a0_.length a0_.length 9) (some (.i a1_)) none none)) (qex 0 9 a0_.length j2)) (qfY qcc e_j2)) (ac (hs (.run [2,0] (qbJ Tryz.prog [29,29] (.oslice 2 l17.length 9) (qex 0 9 a0_.length j2)) [bS a0_,.cells (cT a2_ a3_ a4_ a5_ a6_ a7_ a8_ a9_ a10_),bS l17] (.i ((Nat.min (a0_.drop j2).length l17.length:Nat):Int)) [bS a0_,.cells (cT a2_ a3_ a4_ a5_ a6_ a7_ a8_ a9_ a10_),bS l20] true) (qjP qcc (E:=qb) (l:=l17) rfl (qhn (E:=qb) rfl rfl rfl (qhb e_j2)) (.inr rfl) rfl rfl e_l20 rfl)) az)))) ((show Sub (ofG 95 [(9,.oslice 2 l17.length 9)],[bS a0_,.cells (cT a2_ a3_ a4_ a5_ a6_ a7_ a8_ a9_ a10_),bS l20]) (ofG 95 [(9,.oslice 2 l20.length 9)],[bS a0_,.cells (cT a2_ a3_ a4_ a5_ a6_ a7_ a8_ a9_ a10_),bS l20])from(Sub.norm [] [some 0,some 1,some 2] (by rw[hB];rfl) rfl (.keep (.osliceE rfl (qfW e_l20)) .nil) (.keep rfl (.same fa) rfl rfl (.keep rfl (.same (qf.cons nS (qf.cons nS (qf.cons nI (qf.cons nI (qf.cons nI (qf.cons nI (qf.cons nI (qf.cons nI (qf.cons nB qf.nil)))))))))) rfl rfl (.keep rfl (.same fa) rfl rfl .nil))))).trans (Sub.refl _))
     ·rw[if_neg (of_ c19)]at g_v25
      obtain⟨j21,e_j21,g_v25⟩:=bnd g_v25
      obtain⟨u22,e_u22,g_v25⟩:=bnd g_v25
      obtain⟨l23,e_l23,g_v25⟩:=bnd g_v25
      obtain rfl:=si g_v25
      exact qp.sub (qp.rq fol [4,7,8] [(9,.oslice 2 l17.length 9)] [bS a0_,.cells (cT a2_ a3_ a4_ a5_ a6_ a7_ a8_ a9_ a10_),bS l23] (ac (hs (.done (.opt (kU Tryz.prog 29 (.oslice 2 l17.length 9) (some (.i (w64 (a1_+1)))) none none)) (.wslice 2 (j21*9) (l17.length-j21) 9)) (qi4 qcc (of_decide_eq_false c19) e_j21 (qkh e_u22))) (ac (hs (.done (.opt (kU Tryz.prog 29 (.slice 0 0 a0_.length a0_.length 9) (some (.i a1_)) none none)) (qex 0 9 a0_.length j2)) (qfY qcc e_j2)) (ac (hs (.run [2,0] (qbJ Tryz.prog [29,29] (.wslice 2 (j21*9) (l17.length-j21) 9) (qex 0 9 a0_.length j2)) [bS a0_,.cells (cT a2_ a3_ a4_ a5_ a6_ a7_ a8_ a9_ a10_),bS l17] (.i ((Nat.min (a0_.drop j2).length (l17.length-j21):Nat):Int)) [bS a0_,.cells (cT a2_ a3_ a4_ a5_ a6_ a7_ a8_ a9_ a10_),bS l23] true) (qkm qcc (E:=qb) rfl (l:=l17) (qhn (E:=qb) rfl rfl rfl (qhb e_j2)) (qhb e_j21) rfl rfl e_l23 rfl)) az)))) ((show Sub (ofG 95 [(9,.oslice 2 l17.length 9)],[bS a0_,.cells (cT a2_ a3_ a4_ a5_ a6_ a7_ a8_ a9_ a10_),bS l23]) (ofG 95 [(9,.oslice 2 l23.length 9)],[bS a0_,.cells (cT a2_ a3_ a4_ a5_ a6_ a7_ a8_ a9_ a10_),bS l23])from(Sub.norm [] [some 0,some 1,some 2] (by rw[hB];rfl) rfl (.keep (.osliceE rfl (qhB (qhb e_j21) e_l23)) .nil) (.keep rfl (.same fa) rfl rfl (.keep rfl (.same (qf.cons nS (qf.cons nS (qf.cons nI (qf.cons nI (qf.cons nI (qf.cons nI (qf.cons nI (qf.cons nI (qf.cons nB qf.nil)))))))))) rfl rfl (.keep rfl (.same fa) rfl rfl .nil))))).trans (Sub.refl _))
    intro _ hsub
    refine Goes.sub hsub ?_
    refine sq (Goes.rg fol [(6,.oslice 2 l24.length 9)] [bS a0_,.cells (cT a2_ a3_ a4_ a5_ a6_ a7_ a8_ a9_ a10_),bS l24] ?_)
    refine Goes.ret ?_
    obtain rfl:=si h
    exact(Goes.retH (xs:=[.oslice 2 l24.length 9]) (by kernel_rfl) (Sub.norm [2] [some 0,some 1] (by rw[hB];rfl) rfl (.keep (.frz (Fz.os (E:=qb) rfl rfl (nl rfl)) (qh qb _)) .nil) (.lost (.keep rfl (.same (qf.cons nS (qf.cons nS (qf.cons nI (qf.cons nI (qf.cons nI (qf.cons nI (qf.cons nI (qf.cons nI (qf.cons nB qf.nil)))))))))) rfl rfl .nil))))
   ·rw[if_neg (of_ c10)]at h
    cases h
def xk (N:Nat) (a0_:Int) (a1_:List qj) (a2_:Int) (a3_:Str) (a4_:List Str) (a5_:List Int) (a6_:Str):Option ((List qj)×Int):=
 (idx a5_ 0).bind fun x3=>
 (idx a5_ 1).bind fun x4=>
 (idx a5_ 2).bind fun x5=>
 (idx a4_ 0).bind fun x6=>
 (jb N (⟨a0_,a1_⟩:vY) x6).bind fun r7=>
 (qU r7.2 9).bind fun r8=>
 (kV x4 1 9999).bind fun r9=>
 (kV x5 1 9999).bind fun r10=>
 (vN (w64 (x3+x4))).bind fun r11=>
 (qU (decide ((a1_.length:Int)≥256)) 5).bind fun r12=>
 (qV N ([r8,r9,r10,r11,r12]:List Int)).bind fun r13=>
 if(!decide (r13=0))=true then
 some (a1_,r13)
 else
 (idx a4_ 1).bind fun x15=>
 (jy a1_ r7.1 x6 x15 x3 (w64 (x3+x4)) x5 0 0 0 false).bind fun s_17=>
 some (s_17,0)
theorem qeD (N:Nat) (a0_:Int) (a1_:List qj) (a2_:Int) (a3_:Str) (a4_:List Str) (a5_:List Int) (a6_:Str) {l1:List qj} {e_2:Int} (h:xk N a0_ a1_ a2_ a3_ a4_ a5_ a6_=some (l1,e_2)):qw Tryz.prog (.fn 141) [.agg [.i a0_,.slice 0 0 a1_.length a1_.length 9],.agg (cF a2_ a3_ a4_ a5_ a6_)] [bS a1_] (.tuple [.agg [.i a0_,vl qb l1],.i e_2]) [.dead]:=by
 unfold xk at h
 refine Goes.fnH Tryz.func141 rfl rfl (m:=77) rfl (rs:=[.cell 4 31,.tmp 5]) rfl (l:=[(0,.agg [.i a0_,.slice 0 0 a1_.length a1_.length 9]),(1,.agg (cF a2_ a3_ a4_ a5_ a6_))]) rfl ?_
 intro B hB
 refine sq (Goes.rg fol [(2,.ptr 1 0),(3,.ptr 2 0),(4,.ptr 3 0)] [bS a1_,.cells [.i a0_,.slice 0 0 a1_.length a1_.length 9],.cells (cF a2_ a3_ a4_ a5_ a6_),bZ] ?_)
 refine sq ?_
 obtain⟨x3,e_x3,h⟩:=bnd h
 obtain⟨x4,e_x4,h⟩:=bnd h
 obtain⟨x5,e_x5,h⟩:=bnd h
 refine Goes.rq fol [2,3,6,7,10,11] [(2,.ptr 1 0),(3,.ptr 2 0),(4,.ptr 3 0),(6,.i x3),(7,.i x4),(8,.i x5)] [bS a1_,.cells [.i a0_,.slice 0 0 a1_.length a1_.length 9],.cells (cF a2_ a3_ a4_ a5_ a6_),bZ] (ac (iv xL encI e_x3) (ac (lv 0 ce3 encI e_x3 rfl) (ac (iv xL encI e_x4) (ac (lv 0 ce3 encI e_x4 rfl) (ac (iv xL encI e_x5) (ac (lv 0 ce3 encI e_x5 rfl) az)))))) ?_
 refine sq ?_
 obtain⟨x6,e_x6,h⟩:=bnd h
 obtain⟨r7,e_r7,h⟩:=bnd h
 refine Goes.rq fol [3,4,5] [(2,.ptr 1 0),(3,.ptr 2 0),(4,.ptr 3 0),(6,.i x3),(7,.i x4),(8,.i x5),(9,.i r7.1),(10,.bool r7.2)] [bS a1_,.cells [.i a0_,.slice 0 0 a1_.length a1_.length 9],.cells (cF a2_ a3_ a4_ a5_ a6_),bZ] (ac (iv vT encS e_x6) (ac (lv 0 ce9 encS e_x6 rfl) (ac (hs (.call 93 [.agg [.i a0_,.slice 0 0 a1_.length a1_.length 9],.str x6] [bS a1_,.cells [.i a0_,.slice 0 0 a1_.length a1_.length 9],.cells (cF a2_ a3_ a4_ a5_ a6_),bZ] [0] [.agg [.i a0_,vl qb a1_],.str x6] (.tuple [.i r7.1,.bool r7.2])) (xw (FzL.cons (Fz.agg (FzL.cons (Fz.still tI) (FzL.cons (Fz.sl (E:=qb) rfl rfl (nl rfl)) FzL.nil))) (FzL.cons (Fz.still tS) FzL.nil)) (qah N (⟨a0_,a1_⟩:vY) x6 e_r7) (Still.tuple (AllST.cons tI (AllST.cons tB AllST.nil))) rfl)) az))) ?_
 refine sq ?_
 refine sq ?_
 obtain⟨r8,e_r8,h⟩:=bnd h
 obtain⟨r9,e_r9,h⟩:=bnd h
 obtain⟨r10,e_r10,h⟩:=bnd h
 obtain⟨r11,e_r11,h⟩:=bnd h
 obtain⟨r12,e_r12,h⟩:=bnd h
 obtain⟨r13,e_r13,h⟩:=bnd h
 refine Goes.rq fol [1,3,5,9,14,16] [(2,.ptr 1 0),(3,.ptr 2 0),(4,.ptr 3 0),(6,.i x3),(7,.i x4),(8,.i x5),(9,.i r7.1),(11,.i r13)] [bS a1_,.cells [.i a0_,.slice 0 0 a1_.length a1_.length 9],.cells (cF a2_ a3_ a4_ a5_ a6_),bZ,.cells [.i r8,.i r9,.i r10,.i r11,.i r12]] (ac (cv (qL r7.2 9 e_r8)) (ac (cv (ku x4 1 9999 e_r9)) (ac (cv (ku x5 1 9999 e_r10)) (ac (cv (qbu (w64 (x3+x4)) e_r11)) (ac (cv (qL (decide ((a1_.length:Int)≥256)) 5 e_r12)) (ac (hs (.call 86 [.slice 4 0 5 5 1] [bS a1_,.cells [.i a0_,.slice 0 0 a1_.length a1_.length 9],.cells (cF a2_ a3_ a4_ a5_ a6_),bZ,.cells [.i r8,.i r9,.i r10,.i r11,.i r12]] [4] [vl encI ([r8,r9,r10,r11,r12]:List Int)] (.i r13)) (xw (FzL.cons (Fz.lit rfl rfl (FzL.still (AllST.cons tI (AllST.cons tI (AllST.cons tI (AllST.cons tI (AllST.cons tI AllST.nil))))))) FzL.nil) (kS N ([r8,r9,r10,r11,r12]:List Int) e_r13) tI rfl)) az)))))) ?_
 refine sq (Goes.rg fol [(2,.ptr 1 0),(3,.ptr 2 0),(4,.ptr 3 0),(6,.i x3),(7,.i x4),(8,.i x5),(9,.i r7.1),(11,.i r13),(52,.bool (!decide (r13=0)))] [bS a1_,.cells [.i a0_,.slice 0 0 a1_.length a1_.length 9],.cells (cF a2_ a3_ a4_ a5_ a6_),bZ,.cells [.i r8,.i r9,.i r10,.i r11,.i r12]] ?_)
 refine Goes.ifB (b:=!decide (r13=0)) (by kernel_rfl) (fun c14=>?_) (fun c14=>?_)
 ·rw[if_pos (c14)]at h
  refine sq (Goes.rg fol [(4,.ptr 3 0),(5,.i r13)] [bS a1_,.cells [.i a0_,.slice 0 0 a1_.length a1_.length 9],.cells (cF a2_ a3_ a4_ a5_ a6_),.cells [.i a0_,.slice 0 0 a1_.length a1_.length 9],.cells [.i r8,.i r9,.i r10,.i r11,.i r12]] ?_)
  refine Goes.ret ?_
  simp only[Option.some.injEq,Prod.mk.injEq]at h
  obtain⟨rfl,rfl⟩:=h
  exact(Goes.retH (xs:=[.agg [.i a0_,.slice 0 0 a1_.length a1_.length 9],.i r13]) (by kernel_rfl) (Sub.norm [0] [some 0] (by rw[hB];rfl) rfl (.keep (.tupleL (qg.cons (.aggL (qg.cons (.same nI) (qg.cons (.frz (Fz.sl (E:=qb) rfl rfl (nl rfl)) (qh qb _)) qg.nil))) (qg.cons (.same nI) qg.nil))) .nil) (.lost .nil)))
 ·rw[if_neg (nb c14)]at h
  refine Goes.skip ?_
  refine sq ?_
  obtain⟨x15,e_x15,h⟩:=bnd h
  refine Goes.rq fol [2,3,6,7] [(2,.ptr 1 0),(4,.ptr 3 0),(9,.i r7.1),(12,.ptr 5 0)] [bS a1_,.cells [.i a0_,.slice 0 0 a1_.length a1_.length 9],.cells (cF a2_ a3_ a4_ a5_ a6_),bZ,.cells [.i r8,.i r9,.i r10,.i r11,.i r12],.cells [.str x6,.str x15,.i x3,.i (w64 (x3+x4)),.i x5,.i 0,.i 0,.i 0,.bool false]] (ac (iv vT encS e_x6) (ac (lv 0 ce9 encS e_x6 rfl) (ac (iv vT encS e_x15) (ac (lv 0 ce9 encS e_x15 rfl) az)))) ?_
  refine sq ?_
  obtain⟨s_17,e_r16,h⟩:=bnd h
  refine Goes.rq fol [5] [(2,.ptr 1 0),(4,.ptr 3 0)] [.dead,.cells [.i a0_,vl qb s_17],.cells (cF a2_ a3_ a4_ a5_ a6_),bZ,.cells [.i r8,.i r9,.i r10,.i r11,.i r12],.cells [.str x6,.str x15,.i x3,.i (w64 (x3+x4)),.i x5,.i 0,.i 0,.i 0,.bool false],.cells [.str x6,.str x15,.i x3,.i (w64 (x3+x4)),.i x5,.i 0,.i 0,.i 0,.bool false]] (ac (hs (.callH 181 [.slice 0 0 a1_.length a1_.length 9,.i r7.1,.slice 6 0 1 1 9] [bS a1_,.cells [.i a0_,.slice 0 0 a1_.length a1_.length 9],.cells (cF a2_ a3_ a4_ a5_ a6_),bZ,.cells [.i r8,.i r9,.i r10,.i r11,.i r12],.cells [.str x6,.str x15,.i x3,.i (w64 (x3+x4)),.i x5,.i 0,.i 0,.i 0,.bool false],.cells [.str x6,.str x15,.i x3,.i (w64 (x3+x4)),.i x5,.i 0,.i 0,.i 0,.bool false]] [0,6] (vl qb s_17) [.dead,.cells [.i a0_,.slice 0 0 a1_.length a1_.length 9],.cells (cF a2_ a3_ a4_ a5_ a6_),bZ,.cells [.i r8,.i r9,.i r10,.i r11,.i r12],.cells [.str x6,.str x15,.i x3,.i (w64 (x3+x4)),.i x5,.i 0,.i 0,.i 0,.bool false],.cells [.str x6,.str x15,.i x3,.i (w64 (x3+x4)),.i x5,.i 0,.i 0,.i 0,.bool false]]) (jl [some 0,some 6] [none,none,none,none,none,none,some 1] (qbG a1_ r7.1 x6 x15 x3 (w64 (x3+x4)) x5 0 0 0 false e_r16) (.keep rfl (.same fa) rfl rfl (.keep rfl (.cells (qg.cons (.same nS) (qg.cons (.same nS) (qg.cons (.same nI) (qg.cons (.same nI) (qg.cons (.same nI) (qg.cons (.same nI) (qg.cons (.same nI) (qg.cons (.same nI) (qg.cons (.same nB) qg.nil)))))))))) rfl rfl .nil)) rfl rfl (.dead (.old rfl rfl (.old rfl rfl (.old rfl rfl (.old rfl rfl (.old rfl rfl (.back rfl rfl (.cells (qg.cons (.same nS) (qg.cons (.same nS) (qg.cons (.same nI) (qg.cons (.same nI) (qg.cons (.same nI) (qg.cons (.same nI) (qg.cons (.same nI) (qg.cons (.same nI) (qg.cons (.same nB) qg.nil)))))))))) rfl .nil))))))) (qg.cons (.slice rfl) (qg.cons (.same nI) (qg.cons (.slice rfl) qg.nil))) (.same (qh qb _)) rfl)) az) ?_
  refine sq (Goes.rg fol [(4,.ptr 3 0),(5,.i 0)] [.dead,.cells [.i a0_,vl qb s_17],.cells (cF a2_ a3_ a4_ a5_ a6_),.cells [.i a0_,vl qb s_17],.cells [.i r8,.i r9,.i r10,.i r11,.i r12],.cells [.str x6,.str x15,.i x3,.i (w64 (x3+x4)),.i x5,.i 0,.i 0,.i 0,.bool false],.cells [.str x6,.str x15,.i x3,.i (w64 (x3+x4)),.i x5,.i 0,.i 0,.i 0,.bool false]] ?_)
  refine Goes.ret ?_
  simp only[Option.some.injEq,Prod.mk.injEq]at h
  obtain⟨rfl,rfl⟩:=h
  exact(Goes.retH (xs:=[.agg [.i a0_,vl qb s_17],.i 0]) (by kernel_rfl) (Sub.norm [] [some 0] (by rw[hB];rfl) rfl (.keep (.tupleL (qg.cons (.aggL (qg.cons (.same nI) (qg.cons (.same (qh qb _)) qg.nil))) (qg.cons (.same nI) qg.nil))) .nil) (.lost .nil)))
def kT (N:Nat) (a0_:Int) (a1_:List qj) (a2_:Str) (a3_:Int):Option (Int×Bool×Int):=
 (jb N (⟨a0_,a1_⟩:vY) a2_).bind fun r4=>
 if(!r4.2)=true then
 some (0,false,10)
 else
 (idx a1_ r4.1).bind fun x6=>
 (ja x6 a3_).bind fun r7=>
 (qU r7 20).bind fun r8=>
 some (r4.1,true,r8)
theorem vG (N:Nat) (a0_:Int) (a1_:List qj) (a2_:Str) (a3_:Int) {i1:Int} {ok2:Bool} {name_3:Int} (h:kT N a0_ a1_ a2_ a3_=some (i1,ok2,name_3)):qw Tryz.prog (.fn 182) [.agg [.i a0_,.slice 0 0 a1_.length a1_.length 9],.str a2_,.i a3_] [bS a1_] (.tuple [pz ok2 0 ((i1:Int).toNat*9+0),.i name_3]) [bS a1_]:=by
 unfold kT at h
 refine Goes.fnH Tryz.func182 rfl rfl (m:=30) rfl (rs:=[.tmp 6,.tmp 7]) rfl (l:=[(0,.agg [.i a0_,.slice 0 0 a1_.length a1_.length 9]),(1,.str a2_),(2,.i a3_)]) rfl ?_
 intro B hB
 refine sq (Goes.rg fol [(1,.str a2_),(2,.i a3_),(3,.ptr 1 0)] [bS a1_,.cells [.i a0_,.slice 0 0 a1_.length a1_.length 9]] ?_)
 refine sq ?_
 obtain⟨r4,e_r4,h⟩:=bnd h
 refine Goes.rq fol [2] [(2,.i a3_),(3,.ptr 1 0),(8,.i r4.1),(9,.bool r4.2)] [bS a1_,.cells [.i a0_,.slice 0 0 a1_.length a1_.length 9]] (ac (hs (.call 93 [.agg [.i a0_,.slice 0 0 a1_.length a1_.length 9],.str a2_] [bS a1_,.cells [.i a0_,.slice 0 0 a1_.length a1_.length 9]] [0] [.agg [.i a0_,vl qb a1_],.str a2_] (.tuple [.i r4.1,.bool r4.2])) (xw (FzL.cons (Fz.agg (FzL.cons (Fz.still tI) (FzL.cons (Fz.sl (E:=qb) rfl rfl (nl rfl)) FzL.nil))) (FzL.cons (Fz.still tS) FzL.nil)) (qah N (⟨a0_,a1_⟩:vY) a2_ e_r4) (Still.tuple (AllST.cons tI (AllST.cons tB AllST.nil))) rfl)) az) ?_
 refine sq ?_
 refine sq (Goes.rg fol [(2,.i a3_),(3,.ptr 1 0),(8,.i r4.1),(18,.bool (!r4.2))] [bS a1_,.cells [.i a0_,.slice 0 0 a1_.length a1_.length 9]] ?_)
 refine Goes.ifB (b:=!r4.2) (by kernel_rfl) (fun c5=>?_) (fun c5=>?_)
 ·rw[if_pos (c5)]at h
  refine sq (Goes.rg fol [(6,.nilptr),(7,.i 10)] [bS a1_,.cells [.i a0_,.slice 0 0 a1_.length a1_.length 9]] ?_)
  refine Goes.ret ?_
  simp only[Option.some.injEq,Prod.mk.injEq]at h
  obtain⟨rfl,rfl,rfl⟩:=h
  exact(Goes.retH (xs:=[.nilptr,.i 10]) (by kernel_rfl) (Sub.norm [] [some 0] (by rw[hB];rfl) rfl (.keep (.tupleL (qg.cons (kF.pz0) (qg.cons (.same nI) qg.nil))) .nil) (.keep rfl (.same fa) rfl rfl .nil)))
 ·rw[if_neg (nb c5)]at h
  refine Goes.skip ?_
  refine sq ?_
  obtain⟨x6,e_x6,h⟩:=bnd h
  refine Goes.rq fol [3] [(2,.i a3_),(10,.ptr 0 ((r4.1:Int).toNat*9+0))] [bS a1_,.cells [.i a0_,.slice 0 0 a1_.length a1_.length 9]] (ac (hs (.done (.opt (qF Tryz.prog 29 (.slice 0 0 a1_.length a1_.length 9) (.i r4.1))) (.ptr 0 ((r4.1:Int).toNat*9+0))) (qiL qcc e_x6)) az) ?_
  refine sq ?_
  obtain⟨r7,e_r7,h⟩:=bnd h
  obtain⟨r8,e_r8,h⟩:=bnd h
  refine Goes.rq fol [3,5,6] [(6,.ptr 0 ((r4.1:Int).toNat*9+0)),(7,.i r8)] [bS a1_,.cells [.i a0_,.slice 0 0 a1_.length a1_.length 9]] (ac (hs (.run [0] (jd Tryz.prog 68 (.ptr 0 ((r4.1:Int).toNat*9+0))) [bS a1_,.cells [.i a0_,.slice 0 0 a1_.length a1_.length 9]] (.agg (cS x6)) [bS a1_,.cells [.i a0_,.slice 0 0 a1_.length a1_.length 9]] false) (qfu ag68 (E:=qb) (l:=a1_) rfl rfl e_x6)) (ac (cv (qai x6 a3_ e_r7)) (ac (cv (qL r7 20 e_r8)) az))) ?_
  refine Goes.ret ?_
  simp only[Option.some.injEq,Prod.mk.injEq]at h
  obtain⟨rfl,rfl,rfl⟩:=h
  exact(Goes.retH (xs:=[.ptr 0 ((r4.1:Int).toNat*9+0),.i r8]) (by kernel_rfl) (Sub.norm [] [some 0] (by rw[hB];rfl) rfl (.keep (.tupleL (qg.cons ((kF.pz1 rfl)) (qg.cons (.same nI) qg.nil))) .nil) (.keep rfl (.same fa) rfl rfl .nil)))
def yc (N:Nat) (a0_:Int) (a1_:List qj) (a2_:Int) (a3_:Str) (a4_:List Str) (a5_:List Int) (a6_:Str):Option ((List qj)×Int):=
 (idx a5_ 0).bind fun x3=>
 (idx a5_ 1).bind fun x4=>
 (idx a4_ 0).bind fun x5=>
 (kT N a0_ a1_ x5 x3).bind fun(i7,ok8,name_9)=>
 (kV x4 2 999999999).bind fun r10=>
 (qV N ([name_9,r10]:List Int)).bind fun r11=>
 if(!decide (r11=0))=true then
 some (a1_,r11)
 else
 ((match ok8 with
 |false=>
 none
 |true=>
 (idx a1_ i7).bind fun x13=>
 (put a1_ i7 (⟨x13.Name,x13.Batch,x13.Born,x13.Last,x13.Uses,x13.Used,w64 (x4.tdiv 2),x13.Until,x13.Gone⟩:qj)).bind fun l14=>
 (idx l14 i7).bind fun x15=>
 (put l14 i7 (⟨x15.Name,x15.Batch,x15.Born,x15.Last,x15.Uses,x15.Used,x15.Limit,(if x13.Last<(w64 (x3+365))then x13.Last else(w64 (x3+365))),x15.Gone⟩:qj)).bind fun l16=>
 some l16):Option (List qj)).bind fun l17=>
 some (l17,0)
theorem qdM (N:Nat) (a0_:Int) (a1_:List qj) (a2_:Int) (a3_:Str) (a4_:List Str) (a5_:List Int) (a6_:Str) {l1:List qj} {e_2:Int} (h:yc N a0_ a1_ a2_ a3_ a4_ a5_ a6_=some (l1,e_2)):qw Tryz.prog (.fn 142) [.agg [.i a0_,.slice 0 0 a1_.length a1_.length 9],.agg (cF a2_ a3_ a4_ a5_ a6_)] [bS a1_] (.tuple [.agg [.i a0_,.slice 0 0 l1.length l1.length 9],.i e_2]) [bS l1]:=by
 unfold yc at h
 refine Goes.fnH Tryz.func142 rfl rfl (m:=53) rfl (rs:=[.cell 4 31,.tmp 5]) rfl (l:=[(0,.agg [.i a0_,.slice 0 0 a1_.length a1_.length 9]),(1,.agg (cF a2_ a3_ a4_ a5_ a6_))]) rfl ?_
 intro B hB
 refine sq (Goes.rg fol [(2,.ptr 1 0),(3,.ptr 2 0),(4,.ptr 3 0)] [bS a1_,.cells [.i a0_,.slice 0 0 a1_.length a1_.length 9],.cells (cF a2_ a3_ a4_ a5_ a6_),bZ] ?_)
 refine sq ?_
 obtain⟨x3,e_x3,h⟩:=bnd h
 obtain⟨x4,e_x4,h⟩:=bnd h
 refine Goes.rq fol [2,3,6,7] [(2,.ptr 1 0),(3,.ptr 2 0),(4,.ptr 3 0),(6,.i x3),(7,.i x4)] [bS a1_,.cells [.i a0_,.slice 0 0 a1_.length a1_.length 9],.cells (cF a2_ a3_ a4_ a5_ a6_),bZ] (ac (iv xL encI e_x3) (ac (lv 0 ce3 encI e_x3 rfl) (ac (iv xL encI e_x4) (ac (lv 0 ce3 encI e_x4 rfl) az)))) ?_
 refine sq ?_
 obtain⟨x5,e_x5,h⟩:=bnd h
 obtain⟨⟨i7,ok8,name_9⟩,e_r6,h⟩:=bnd h
 try dsimp only at h
 refine Goes.rq fol [3,4,6] [(2,.ptr 1 0),(4,.ptr 3 0),(6,.i x3),(7,.i x4),(8,pz ok8 0 ((i7:Int).toNat*9+0)),(9,.i name_9)] [bS a1_,.cells [.i a0_,.slice 0 0 a1_.length a1_.length 9],.cells (cF a2_ a3_ a4_ a5_ a6_),bZ] (ac (iv vT encS e_x5) (ac (lv 0 ce9 encS e_x5 rfl) (ac (hs (.callH 182 [.agg [.i a0_,.slice 0 0 a1_.length a1_.length 9],.str x5,.i x3] [bS a1_,.cells [.i a0_,.slice 0 0 a1_.length a1_.length 9],.cells (cF a2_ a3_ a4_ a5_ a6_),bZ] [0] (.tuple [pz ok8 0 ((i7:Int).toNat*9+0),.i name_9]) [bS a1_,.cells [.i a0_,.slice 0 0 a1_.length a1_.length 9],.cells (cF a2_ a3_ a4_ a5_ a6_),bZ]) (jl [some 0] [some 0,none,none,none] (vG N a0_ a1_ x5 x3 e_r6) (.keep rfl (.same fa) rfl rfl .nil) rfl rfl (.back rfl rfl (.same fa) rfl (.old rfl rfl (.old rfl rfl (.old rfl rfl .nil)))) (qg.cons (.aggL (qg.cons (.same nI) (qg.cons (.slice rfl) qg.nil))) (qg.cons (.same nS) (qg.cons (.same nI) qg.nil))) (.tupleL (qg.cons ((kF.pz rfl)) (qg.cons (.same nI) qg.nil))) rfl)) az))) ?_
 refine sq ?_
 refine sq ?_
 obtain⟨r10,e_r10,h⟩:=bnd h
 obtain⟨r11,e_r11,h⟩:=bnd h
 refine Goes.rq fol [2,4] [(2,.ptr 1 0),(4,.ptr 3 0),(6,.i x3),(7,.i x4),(8,pz ok8 0 ((i7:Int).toNat*9+0)),(9,.i r11)] [bS a1_,.cells [.i a0_,.slice 0 0 a1_.length a1_.length 9],.cells (cF a2_ a3_ a4_ a5_ a6_),bZ,.cells [.i name_9,.i r10]] (ac (cv (ku x4 2 999999999 e_r10)) (ac (hs (.call 86 [.slice 4 0 2 2 1] [bS a1_,.cells [.i a0_,.slice 0 0 a1_.length a1_.length 9],.cells (cF a2_ a3_ a4_ a5_ a6_),bZ,.cells [.i name_9,.i r10]] [4] [vl encI ([name_9,r10]:List Int)] (.i r11)) (xw (FzL.cons (Fz.lit rfl rfl (FzL.still (AllST.cons tI (AllST.cons tI AllST.nil)))) FzL.nil) (kS N ([name_9,r10]:List Int) e_r11) tI rfl)) az)) ?_
 refine sq (Goes.rg fol [(2,.ptr 1 0),(4,.ptr 3 0),(6,.i x3),(7,.i x4),(8,pz ok8 0 ((i7:Int).toNat*9+0)),(9,.i r11),(34,.bool (!decide (r11=0)))] [bS a1_,.cells [.i a0_,.slice 0 0 a1_.length a1_.length 9],.cells (cF a2_ a3_ a4_ a5_ a6_),bZ,.cells [.i name_9,.i r10]] ?_)
 refine Goes.ifB (b:=!decide (r11=0)) (by kernel_rfl) (fun c12=>?_) (fun c12=>?_)
 ·rw[if_pos (c12)]at h
  refine sq (Goes.rg fol [(4,.ptr 3 0),(5,.i r11)] [bS a1_,.cells [.i a0_,.slice 0 0 a1_.length a1_.length 9],.cells (cF a2_ a3_ a4_ a5_ a6_),.cells [.i a0_,.slice 0 0 a1_.length a1_.length 9],.cells [.i name_9,.i r10]] ?_)
  refine Goes.ret ?_
  simp only[Option.some.injEq,Prod.mk.injEq]at h
  obtain⟨rfl,rfl⟩:=h
  exact(Goes.retH (xs:=[.agg [.i a0_,.slice 0 0 a1_.length a1_.length 9],.i r11]) (by kernel_rfl) (Sub.norm [] [some 0] (by rw[hB];rfl) rfl (.keep (.tupleL (qg.cons (.aggL (qg.cons (.same nI) (qg.cons (.slice rfl) qg.nil))) (qg.cons (.same nI) qg.nil))) .nil) (.keep rfl (.same fa) rfl rfl .nil)))
 ·rw[if_neg (nb c12)]at h
  refine Goes.skip ?_
  refine sq ?_
  obtain⟨l17,g_v18,h⟩:=bnd h
  refine Goes.cutS (s':=(ofG 53 [(2,.ptr 1 0),(4,.ptr 2 0)],[bS l17,.cells [.i a0_,.slice 0 0 l17.length l17.length 9],bZ])) ?_ ?_
  ·rcases ok8 with _|_
   ·try dsimp only at g_v18
    cases g_v18
   ·try dsimp only at g_v18
    obtain⟨x13,e_x13,g_v18⟩:=bnd g_v18
    obtain⟨l14,e_l14,g_v18⟩:=bnd g_v18
    obtain⟨x15,e_x15,g_v18⟩:=bnd g_v18
    obtain⟨l16,e_l16,g_v18⟩:=bnd g_v18
    obtain rfl:=si g_v18
    exact qp.sub (qp.rq fol [9,13,16] [(2,.ptr 1 0),(4,.ptr 3 0)] [bS l16,.cells [.i a0_,.slice 0 0 a1_.length a1_.length 9],.cells (cF a2_ a3_ a4_ a5_ a6_),bZ,.cells [.i name_9,.i r10]] (ac (hs (.run [0] (jd Tryz.prog 3 (.ptr 0 ((i7:Int).toNat*9+3))) [bS a1_,.cells [.i a0_,.slice 0 0 a1_.length a1_.length 9],.cells (cF a2_ a3_ a4_ a5_ a6_),bZ,.cells [.i name_9,.i r10]] (.i x13.Last) [bS a1_,.cells [.i a0_,.slice 0 0 a1_.length a1_.length 9],.cells (cF a2_ a3_ a4_ a5_ a6_),bZ,.cells [.i name_9,.i r10]] false) (qhG ce3 (E:=qb) (l:=a1_) rfl rfl e_x13 (nl rfl) rfl)) (ac (hs (.run [0] (yA Tryz.prog 3 (.ptr 0 ((i7:Int).toNat*9+6)) (.i (w64 (x4.tdiv 2)))) [bS a1_,.cells [.i a0_,.slice 0 0 a1_.length a1_.length 9],.cells (cF a2_ a3_ a4_ a5_ a6_),bZ,.cells [.i name_9,.i r10]] .undef [bS l14,.cells [.i a0_,.slice 0 0 a1_.length a1_.length 9],.cells (cF a2_ a3_ a4_ a5_ a6_),bZ,.cells [.i name_9,.i r10]] true) (qbK (E:=qb) (l:=a1_) (y:=(⟨x13.Name,x13.Batch,x13.Born,x13.Last,x13.Uses,x13.Used,w64 (x4.tdiv 2),x13.Until,x13.Gone⟩:qj)) rfl (show _=some 1 by kernel_rfl) rfl e_x13 rfl rfl rfl rfl rfl e_l14 rfl)) (ac (hs (.run [0] (yA Tryz.prog 3 (.ptr 0 ((i7:Int).toNat*9+7)) (.i (if x13.Last<(w64 (x3+365))then x13.Last else(w64 (x3+365))))) [bS l14,.cells [.i a0_,.slice 0 0 a1_.length a1_.length 9],.cells (cF a2_ a3_ a4_ a5_ a6_),bZ,.cells [.i name_9,.i r10]] .undef [bS l16,.cells [.i a0_,.slice 0 0 a1_.length a1_.length 9],.cells (cF a2_ a3_ a4_ a5_ a6_),bZ,.cells [.i name_9,.i r10]] true) (qbK (E:=qb) (l:=l14) (y:=(⟨x15.Name,x15.Batch,x15.Born,x15.Last,x15.Uses,x15.Used,x15.Limit,(if x13.Last<(w64 (x3+365))then x13.Last else(w64 (x3+365))),x15.Gone⟩:qj)) rfl (show _=some 1 by kernel_rfl) rfl e_x15 rfl rfl rfl rfl rfl e_l16 rfl)) az)))) ((show Sub (ofG 53 [(2,.ptr 1 0),(4,.ptr 3 0)],[bS l16,.cells [.i a0_,.slice 0 0 a1_.length a1_.length 9],.cells (cF a2_ a3_ a4_ a5_ a6_),bZ,.cells [.i name_9,.i r10]]) (ofG 53 [(2,.ptr 1 0),(4,.ptr 2 0)],[bS l16,.cells [.i a0_,.slice 0 0 l16.length l16.length 9],bZ])from(Sub.norm [] [some 0,some 1,some 3] (by rw[hB];rfl) rfl (.keep (.ptr rfl) (.keep (.ptr rfl) .nil)) (.keep rfl (.same fa) rfl rfl (.keep rfl (.cells (qg.cons (.same nI) (qg.cons (.sliceE rfl ((y7 e_l14).trans (y7 e_l16))) qg.nil))) rfl rfl (.keep rfl (.same (qf.cons nI (qf.cons (qx.nilslice) qf.nil))) rfl rfl .nil))))).trans (Sub.refl _))
  intro _ hsub
  refine Goes.sub hsub ?_
  refine sq (Goes.rg fol [(4,.ptr 2 0),(5,.i 0)] [bS l17,.cells [.i a0_,.slice 0 0 l17.length l17.length 9],.cells [.i a0_,.slice 0 0 l17.length l17.length 9]] ?_)
  refine Goes.ret ?_
  simp only[Option.some.injEq,Prod.mk.injEq]at h
  obtain⟨rfl,rfl⟩:=h
  exact(Goes.retH (xs:=[.agg [.i a0_,.slice 0 0 l17.length l17.length 9],.i 0]) (by kernel_rfl) (Sub.norm [] [some 0] (by rw[hB];rfl) rfl (.keep (.tupleL (qg.cons (.aggL (qg.cons (.same nI) (qg.cons (.slice rfl) qg.nil))) (qg.cons (.same nI) qg.nil))) .nil) (.keep rfl (.same fa) rfl rfl .nil)))
def xm (N:Nat) (a0_:Int) (a1_:List qj) (a2_:Int) (a3_:Str) (a4_:List Str) (a5_:List Int) (a6_:Str):Option ((List qj)×Int):=
 (idx a5_ 0).bind fun x3=>
 (idx a5_ 1).bind fun x4=>
 (idx a4_ 0).bind fun x5=>
 (kT N a0_ a1_ x5 x3).bind fun(i7,ok8,name_9)=>
 if(!decide (name_9=0))=true then
 some (a1_,name_9)
 else
 ((match ok8 with
 |false=>
 none
 |true=>
 (idx a1_ i7).bind fun x11=>
 (vH x11 x3).bind fun r12=>
 (qU (!r12) 24).bind fun r13=>
 (qU (decide (x4>x11.Limit)) 31).bind fun r14=>
 (qV N ([r13,r14]:List Int)).bind fun r15=>
 some (r13,r14,r15)):Option (Int×Int×Int)).bind fun(n16,n17,bad_18)=>
 if(!decide (bad_18=0))=true then
 some (a1_,bad_18)
 else
 (idx a1_ i7).bind fun x21=>
 (put a1_ i7 (⟨x21.Name,x21.Batch,x21.Born,x21.Last,x21.Uses,w64 (x21.Used+1),x21.Limit,x21.Until,x21.Gone⟩:qj)).bind fun l22=>
 some (l22,0)
theorem qet (N:Nat) (a0_:Int) (a1_:List qj) (a2_:Int) (a3_:Str) (a4_:List Str) (a5_:List Int) (a6_:Str) {l1:List qj} {e_2:Int} (h:xm N a0_ a1_ a2_ a3_ a4_ a5_ a6_=some (l1,e_2)):qw Tryz.prog (.fn 143) [.agg [.i a0_,.slice 0 0 a1_.length a1_.length 9],.agg (cF a2_ a3_ a4_ a5_ a6_)] [bS a1_] (.tuple [.agg [.i a0_,.slice 0 0 l1.length l1.length 9],.i e_2]) [bS l1]:=by
 unfold xm at h
 refine Goes.fnH Tryz.func143 rfl rfl (m:=60) rfl (rs:=[.cell 4 31,.tmp 5]) rfl (l:=[(0,.agg [.i a0_,.slice 0 0 a1_.length a1_.length 9]),(1,.agg (cF a2_ a3_ a4_ a5_ a6_))]) rfl ?_
 intro B hB
 refine sq (Goes.rg fol [(2,.ptr 1 0),(3,.ptr 2 0),(4,.ptr 3 0)] [bS a1_,.cells [.i a0_,.slice 0 0 a1_.length a1_.length 9],.cells (cF a2_ a3_ a4_ a5_ a6_),bZ] ?_)
 refine sq ?_
 obtain⟨x3,e_x3,h⟩:=bnd h
 obtain⟨x4,e_x4,h⟩:=bnd h
 refine Goes.rq fol [2,3,6,7] [(2,.ptr 1 0),(3,.ptr 2 0),(4,.ptr 3 0),(6,.i x3),(7,.i x4)] [bS a1_,.cells [.i a0_,.slice 0 0 a1_.length a1_.length 9],.cells (cF a2_ a3_ a4_ a5_ a6_),bZ] (ac (iv xL encI e_x3) (ac (lv 0 ce3 encI e_x3 rfl) (ac (iv xL encI e_x4) (ac (lv 0 ce3 encI e_x4 rfl) az)))) ?_
 refine sq ?_
 obtain⟨x5,e_x5,h⟩:=bnd h
 obtain⟨⟨i7,ok8,name_9⟩,e_r6,h⟩:=bnd h
 try dsimp only at h
 refine Goes.rq fol [3,4,6] [(2,.ptr 1 0),(4,.ptr 3 0),(6,.i x3),(7,.i x4),(8,pz ok8 0 ((i7:Int).toNat*9+0)),(9,.i name_9)] [bS a1_,.cells [.i a0_,.slice 0 0 a1_.length a1_.length 9],.cells (cF a2_ a3_ a4_ a5_ a6_),bZ] (ac (iv vT encS e_x5) (ac (lv 0 ce9 encS e_x5 rfl) (ac (hs (.callH 182 [.agg [.i a0_,.slice 0 0 a1_.length a1_.length 9],.str x5,.i x3] [bS a1_,.cells [.i a0_,.slice 0 0 a1_.length a1_.length 9],.cells (cF a2_ a3_ a4_ a5_ a6_),bZ] [0] (.tuple [pz ok8 0 ((i7:Int).toNat*9+0),.i name_9]) [bS a1_,.cells [.i a0_,.slice 0 0 a1_.length a1_.length 9],.cells (cF a2_ a3_ a4_ a5_ a6_),bZ]) (jl [some 0] [some 0,none,none,none] (vG N a0_ a1_ x5 x3 e_r6) (.keep rfl (.same fa) rfl rfl .nil) rfl rfl (.back rfl rfl (.same fa) rfl (.old rfl rfl (.old rfl rfl (.old rfl rfl .nil)))) (qg.cons (.aggL (qg.cons (.same nI) (qg.cons (.slice rfl) qg.nil))) (qg.cons (.same nS) (qg.cons (.same nI) qg.nil))) (.tupleL (qg.cons ((kF.pz rfl)) (qg.cons (.same nI) qg.nil))) rfl)) az))) ?_
 refine sq ?_
 refine sq (Goes.rg fol [(2,.ptr 1 0),(4,.ptr 3 0),(6,.i x3),(7,.i x4),(8,pz ok8 0 ((i7:Int).toNat*9+0)),(9,.i name_9),(29,.bool (!decide (name_9=0)))] [bS a1_,.cells [.i a0_,.slice 0 0 a1_.length a1_.length 9],.cells (cF a2_ a3_ a4_ a5_ a6_),bZ] ?_)
 refine Goes.ifB (b:=!decide (name_9=0)) (by kernel_rfl) (fun c10=>?_) (fun c10=>?_)
 ·rw[if_pos (c10)]at h
  refine sq (Goes.rg fol [(4,.ptr 3 0),(5,.i name_9)] [bS a1_,.cells [.i a0_,.slice 0 0 a1_.length a1_.length 9],.cells (cF a2_ a3_ a4_ a5_ a6_),.cells [.i a0_,.slice 0 0 a1_.length a1_.length 9]] ?_)
  refine Goes.ret ?_
  simp only[Option.some.injEq,Prod.mk.injEq]at h
  obtain⟨rfl,rfl⟩:=h
  exact(Goes.retH (xs:=[.agg [.i a0_,.slice 0 0 a1_.length a1_.length 9],.i name_9]) (by kernel_rfl) (Sub.norm [] [some 0] (by rw[hB];rfl) rfl (.keep (.tupleL (qg.cons (.aggL (qg.cons (.same nI) (qg.cons (.slice rfl) qg.nil))) (qg.cons (.same nI) qg.nil))) .nil) (.keep rfl (.same fa) rfl rfl .nil)))
 ·rw[if_neg (nb c10)]at h
  refine Goes.skip ?_
  refine sq ?_
  refine sq ?_
  obtain⟨⟨n16,n17,bad_18⟩,g_v19,h⟩:=bnd h
  refine Goes.cut (s':=(ofG 60 [(2,.ptr 1 0),(4,.ptr 3 0),(8,.ptr 0 ((i7:Int).toNat*9+0)),(9,.i bad_18)],[bS a1_,.cells [.i a0_,.slice 0 0 a1_.length a1_.length 9],.cells (cF a2_ a3_ a4_ a5_ a6_),bZ,.cells [.i n16,.i n17]])) ?_ ?_
  ·rcases ok8 with _|_
   ·try dsimp only at g_v19
    cases g_v19
   ·try dsimp only at g_v19
    obtain⟨x11,e_x11,g_v19⟩:=bnd g_v19
    obtain⟨r12,e_r12,g_v19⟩:=bnd g_v19
    obtain⟨r13,e_r13,g_v19⟩:=bnd g_v19
    obtain⟨r14,e_r14,g_v19⟩:=bnd g_v19
    obtain⟨r15,e_r15,g_v19⟩:=bnd g_v19
    simp only[Option.some.injEq,Prod.mk.injEq]at g_v19
    obtain⟨rfl,rfl,rfl⟩:=g_v19
    exact qp.rq fol [2,4,6,11,13,15] [(2,.ptr 1 0),(4,.ptr 3 0),(8,.ptr 0 ((i7:Int).toNat*9+0)),(9,.i r15)] [bS a1_,.cells [.i a0_,.slice 0 0 a1_.length a1_.length 9],.cells (cF a2_ a3_ a4_ a5_ a6_),bZ,.cells [.i r13,.i r14]] (ac (hs (.run [0] (jd Tryz.prog 68 (.ptr 0 ((i7:Int).toNat*9+0))) [bS a1_,.cells [.i a0_,.slice 0 0 a1_.length a1_.length 9],.cells (cF a2_ a3_ a4_ a5_ a6_),bZ] (.agg (cS x11)) [bS a1_,.cells [.i a0_,.slice 0 0 a1_.length a1_.length 9],.cells (cF a2_ a3_ a4_ a5_ a6_),bZ] false) (qfu ag68 (E:=qb) (l:=a1_) rfl rfl e_x11)) (ac (cv (qcP x11 x3 e_r12)) (ac (cv (qL (!r12) 24 e_r13)) (ac (hs (.run [0] (jd Tryz.prog 3 (.ptr 0 ((i7:Int).toNat*9+6))) [bS a1_,.cells [.i a0_,.slice 0 0 a1_.length a1_.length 9],.cells (cF a2_ a3_ a4_ a5_ a6_),bZ] (.i x11.Limit) [bS a1_,.cells [.i a0_,.slice 0 0 a1_.length a1_.length 9],.cells (cF a2_ a3_ a4_ a5_ a6_),bZ] false) (qhG ce3 (E:=qb) (l:=a1_) rfl rfl e_x11 (nl rfl) rfl)) (ac (cv (qL (decide (x4>x11.Limit)) 31 e_r14)) (ac (hs (.call 86 [.slice 4 0 2 2 1] [bS a1_,.cells [.i a0_,.slice 0 0 a1_.length a1_.length 9],.cells (cF a2_ a3_ a4_ a5_ a6_),bZ,.cells [.i r13,.i r14]] [4] [vl encI ([r13,r14]:List Int)] (.i r15)) (xw (FzL.cons (Fz.lit rfl rfl (FzL.still (AllST.cons tI (AllST.cons tI AllST.nil)))) FzL.nil) (kS N ([r13,r14]:List Int) e_r15) tI rfl)) az))))))
  try dsimp only at h
  refine sq (Goes.rg fol [(2,.ptr 1 0),(4,.ptr 3 0),(8,.ptr 0 ((i7:Int).toNat*9+0)),(9,.i bad_18),(49,.bool (!decide (bad_18=0)))] [bS a1_,.cells [.i a0_,.slice 0 0 a1_.length a1_.length 9],.cells (cF a2_ a3_ a4_ a5_ a6_),bZ,.cells [.i n16,.i n17]] ?_)
  refine Goes.ifB (b:=!decide (bad_18=0)) (by kernel_rfl) (fun c20=>?_) (fun c20=>?_)
  ·rw[if_pos (c20)]at h
   refine sq (Goes.rg fol [(4,.ptr 3 0),(5,.i bad_18)] [bS a1_,.cells [.i a0_,.slice 0 0 a1_.length a1_.length 9],.cells (cF a2_ a3_ a4_ a5_ a6_),.cells [.i a0_,.slice 0 0 a1_.length a1_.length 9],.cells [.i n16,.i n17]] ?_)
   refine Goes.ret ?_
   simp only[Option.some.injEq,Prod.mk.injEq]at h
   obtain⟨rfl,rfl⟩:=h
   exact(Goes.retH (xs:=[.agg [.i a0_,.slice 0 0 a1_.length a1_.length 9],.i bad_18]) (by kernel_rfl) (Sub.norm [] [some 0] (by rw[hB];rfl) rfl (.keep (.tupleL (qg.cons (.aggL (qg.cons (.same nI) (qg.cons (.slice rfl) qg.nil))) (qg.cons (.same nI) qg.nil))) .nil) (.keep rfl (.same fa) rfl rfl .nil)))
  ·rw[if_neg (nb c20)]at h
   refine Goes.skip ?_
   refine sq ?_
   obtain⟨x21,e_x21,h⟩:=bnd h
   obtain⟨l22,e_l22,h⟩:=bnd h
   refine Goes.rq fol [3,7] [(2,.ptr 1 0),(4,.ptr 3 0)] [bS l22,.cells [.i a0_,.slice 0 0 a1_.length a1_.length 9],.cells (cF a2_ a3_ a4_ a5_ a6_),bZ,.cells [.i n16,.i n17]] (ac (hs (.run [0] (jd Tryz.prog 3 (.ptr 0 ((i7:Int).toNat*9+5))) [bS a1_,.cells [.i a0_,.slice 0 0 a1_.length a1_.length 9],.cells (cF a2_ a3_ a4_ a5_ a6_),bZ,.cells [.i n16,.i n17]] (.i x21.Used) [bS a1_,.cells [.i a0_,.slice 0 0 a1_.length a1_.length 9],.cells (cF a2_ a3_ a4_ a5_ a6_),bZ,.cells [.i n16,.i n17]] false) (qhG ce3 (E:=qb) (l:=a1_) rfl rfl e_x21 (nl rfl) rfl)) (ac (hs (.run [0] (yA Tryz.prog 3 (.ptr 0 ((i7:Int).toNat*9+5)) (.i (w64 (x21.Used+1)))) [bS a1_,.cells [.i a0_,.slice 0 0 a1_.length a1_.length 9],.cells (cF a2_ a3_ a4_ a5_ a6_),bZ,.cells [.i n16,.i n17]] .undef [bS l22,.cells [.i a0_,.slice 0 0 a1_.length a1_.length 9],.cells (cF a2_ a3_ a4_ a5_ a6_),bZ,.cells [.i n16,.i n17]] true) (qbK (E:=qb) (l:=a1_) (y:=(⟨x21.Name,x21.Batch,x21.Born,x21.Last,x21.Uses,w64 (x21.Used+1),x21.Limit,x21.Until,x21.Gone⟩:qj)) rfl (show _=some 1 by kernel_rfl) rfl e_x21 rfl rfl rfl rfl rfl e_l22 rfl)) az)) ?_
   refine Goes.sub (show Sub (ofG 60 [(2,.ptr 1 0),(4,.ptr 3 0)],[bS l22,.cells [.i a0_,.slice 0 0 a1_.length a1_.length 9],.cells (cF a2_ a3_ a4_ a5_ a6_),bZ,.cells [.i n16,.i n17]]) (ofG 60 [(2,.ptr 1 0),(4,.ptr 2 0)],[bS l22,.cells [.i a0_,.slice 0 0 l22.length l22.length 9],bZ])from(Sub.norm [] [some 0,some 1,some 3] (by rw[hB];rfl) rfl (.keep (.ptr rfl) (.keep (.ptr rfl) .nil)) (.keep rfl (.same fa) rfl rfl (.keep rfl (.cells (qg.cons (.same nI) (qg.cons (.sliceE rfl (y7 e_l22)) qg.nil))) rfl rfl (.keep rfl (.same (qf.cons nI (qf.cons (qx.nilslice) qf.nil))) rfl rfl .nil))))) ?_
   refine sq (Goes.rg fol [(4,.ptr 2 0),(5,.i 0)] [bS l22,.cells [.i a0_,.slice 0 0 l22.length l22.length 9],.cells [.i a0_,.slice 0 0 l22.length l22.length 9]] ?_)
   refine Goes.ret ?_
   simp only[Option.some.injEq,Prod.mk.injEq]at h
   obtain⟨rfl,rfl⟩:=h
   exact(Goes.retH (xs:=[.agg [.i a0_,.slice 0 0 l22.length l22.length 9],.i 0]) (by kernel_rfl) (Sub.norm [] [some 0] (by rw[hB];rfl) rfl (.keep (.tupleL (qg.cons (.aggL (qg.cons (.same nI) (qg.cons (.slice rfl) qg.nil))) (qg.cons (.same nI) qg.nil))) .nil) (.keep rfl (.same fa) rfl rfl .nil)))
def vZ (N:Nat) (a0_:Int) (a1_:List qj) (a2_:Int) (a3_:Str) (a4_:List Str) (a5_:List Int) (a6_:Str):Option ((List qj)×Int):=
 (idx a4_ 0).bind fun x3=>
 (idx a5_ 0).bind fun x4=>
 (kT N a0_ a1_ x3 x4).bind fun(i6,ok7,name_8)=>
 if(!decide (name_8=0))=true then
 some (a1_,name_8)
 else
 ((match ok7 with
 |false=>
 none
 |true=>
 (idx a1_ i6).bind fun x10=>
 (put a1_ i6 (⟨x10.Name,x10.Batch,x10.Born,x10.Last,x10.Uses,x10.Used,x10.Limit,x10.Until,true⟩:qj)).bind fun l11=>
 some l11):Option (List qj)).bind fun l12=>
 some (l12,0)
theorem qdN (N:Nat) (a0_:Int) (a1_:List qj) (a2_:Int) (a3_:Str) (a4_:List Str) (a5_:List Int) (a6_:Str) {l1:List qj} {e_2:Int} (h:vZ N a0_ a1_ a2_ a3_ a4_ a5_ a6_=some (l1,e_2)):qw Tryz.prog (.fn 144) [.agg [.i a0_,.slice 0 0 a1_.length a1_.length 9],.agg (cF a2_ a3_ a4_ a5_ a6_)] [bS a1_] (.tuple [.agg [.i a0_,.slice 0 0 l1.length l1.length 9],.i e_2]) [bS l1]:=by
 unfold vZ at h
 refine Goes.fnH Tryz.func144 rfl rfl (m:=29) rfl (rs:=[.cell 4 31,.tmp 5]) rfl (l:=[(0,.agg [.i a0_,.slice 0 0 a1_.length a1_.length 9]),(1,.agg (cF a2_ a3_ a4_ a5_ a6_))]) rfl ?_
 intro B hB
 refine sq (Goes.rg fol [(2,.ptr 1 0),(3,.ptr 2 0),(4,.ptr 3 0)] [bS a1_,.cells [.i a0_,.slice 0 0 a1_.length a1_.length 9],.cells (cF a2_ a3_ a4_ a5_ a6_),bZ] ?_)
 refine sq ?_
 obtain⟨x3,e_x3,h⟩:=bnd h
 obtain⟨x4,e_x4,h⟩:=bnd h
 obtain⟨⟨i6,ok7,name_8⟩,e_r5,h⟩:=bnd h
 try dsimp only at h
 refine Goes.rq fol [3,4,7,8,9] [(2,.ptr 1 0),(4,.ptr 3 0),(6,pz ok7 0 ((i6:Int).toNat*9+0)),(7,.i name_8)] [bS a1_,.cells [.i a0_,.slice 0 0 a1_.length a1_.length 9],.cells (cF a2_ a3_ a4_ a5_ a6_),bZ] (ac (iv vT encS e_x3) (ac (lv 0 ce9 encS e_x3 rfl) (ac (iv xL encI e_x4) (ac (lv 0 ce3 encI e_x4 rfl) (ac (hs (.callH 182 [.agg [.i a0_,.slice 0 0 a1_.length a1_.length 9],.str x3,.i x4] [bS a1_,.cells [.i a0_,.slice 0 0 a1_.length a1_.length 9],.cells (cF a2_ a3_ a4_ a5_ a6_),bZ] [0] (.tuple [pz ok7 0 ((i6:Int).toNat*9+0),.i name_8]) [bS a1_,.cells [.i a0_,.slice 0 0 a1_.length a1_.length 9],.cells (cF a2_ a3_ a4_ a5_ a6_),bZ]) (jl [some 0] [some 0,none,none,none] (vG N a0_ a1_ x3 x4 e_r5) (.keep rfl (.same fa) rfl rfl .nil) rfl rfl (.back rfl rfl (.same fa) rfl (.old rfl rfl (.old rfl rfl (.old rfl rfl .nil)))) (qg.cons (.aggL (qg.cons (.same nI) (qg.cons (.slice rfl) qg.nil))) (qg.cons (.same nS) (qg.cons (.same nI) qg.nil))) (.tupleL (qg.cons ((kF.pz rfl)) (qg.cons (.same nI) qg.nil))) rfl)) az))))) ?_
 refine sq ?_
 refine sq (Goes.rg fol [(2,.ptr 1 0),(4,.ptr 3 0),(6,pz ok7 0 ((i6:Int).toNat*9+0)),(7,.i name_8),(22,.bool (!decide (name_8=0)))] [bS a1_,.cells [.i a0_,.slice 0 0 a1_.length a1_.length 9],.cells (cF a2_ a3_ a4_ a5_ a6_),bZ] ?_)
 refine Goes.ifB (b:=!decide (name_8=0)) (by kernel_rfl) (fun c9=>?_) (fun c9=>?_)
 ·rw[if_pos (c9)]at h
  refine sq (Goes.rg fol [(4,.ptr 3 0),(5,.i name_8)] [bS a1_,.cells [.i a0_,.slice 0 0 a1_.length a1_.length 9],.cells (cF a2_ a3_ a4_ a5_ a6_),.cells [.i a0_,.slice 0 0 a1_.length a1_.length 9]] ?_)
  refine Goes.ret ?_
  simp only[Option.some.injEq,Prod.mk.injEq]at h
  obtain⟨rfl,rfl⟩:=h
  exact(Goes.retH (xs:=[.agg [.i a0_,.slice 0 0 a1_.length a1_.length 9],.i name_8]) (by kernel_rfl) (Sub.norm [] [some 0] (by rw[hB];rfl) rfl (.keep (.tupleL (qg.cons (.aggL (qg.cons (.same nI) (qg.cons (.slice rfl) qg.nil))) (qg.cons (.same nI) qg.nil))) .nil) (.keep rfl (.same fa) rfl rfl .nil)))
 ·rw[if_neg (nb c9)]at h
  refine Goes.skip ?_
  refine sq ?_
  obtain⟨l12,g_v13,h⟩:=bnd h
  refine Goes.cutS (s':=(ofG 29 [(2,.ptr 1 0),(4,.ptr 2 0)],[bS l12,.cells [.i a0_,.slice 0 0 l12.length l12.length 9],bZ])) ?_ ?_
  ·rcases ok7 with _|_
   ·try dsimp only at g_v13
    cases g_v13
   ·try dsimp only at g_v13
    obtain⟨x10,e_x10,g_v13⟩:=bnd g_v13
    obtain⟨l11,e_l11,g_v13⟩:=bnd g_v13
    obtain rfl:=si g_v13
    exact qp.sub (qp.rq fol [3] [(2,.ptr 1 0),(4,.ptr 3 0)] [bS l11,.cells [.i a0_,.slice 0 0 a1_.length a1_.length 9],.cells (cF a2_ a3_ a4_ a5_ a6_),bZ] (ac (hs (.run [0] (yA Tryz.prog 4 (.ptr 0 ((i6:Int).toNat*9+8)) (.bool true)) [bS a1_,.cells [.i a0_,.slice 0 0 a1_.length a1_.length 9],.cells (cF a2_ a3_ a4_ a5_ a6_),bZ] .undef [bS l11,.cells [.i a0_,.slice 0 0 a1_.length a1_.length 9],.cells (cF a2_ a3_ a4_ a5_ a6_),bZ] true) (qbK (E:=qb) (l:=a1_) (y:=(⟨x10.Name,x10.Batch,x10.Born,x10.Last,x10.Uses,x10.Used,x10.Limit,x10.Until,true⟩:qj)) rfl (show _=some 1 by kernel_rfl) rfl e_x10 rfl rfl rfl rfl rfl e_l11 rfl)) az)) ((show Sub (ofG 29 [(2,.ptr 1 0),(4,.ptr 3 0)],[bS l11,.cells [.i a0_,.slice 0 0 a1_.length a1_.length 9],.cells (cF a2_ a3_ a4_ a5_ a6_),bZ]) (ofG 29 [(2,.ptr 1 0),(4,.ptr 2 0)],[bS l11,.cells [.i a0_,.slice 0 0 l11.length l11.length 9],bZ])from(Sub.norm [] [some 0,some 1,some 3] (by rw[hB];rfl) rfl (.keep (.ptr rfl) (.keep (.ptr rfl) .nil)) (.keep rfl (.same fa) rfl rfl (.keep rfl (.cells (qg.cons (.same nI) (qg.cons (.sliceE rfl (y7 e_l11)) qg.nil))) rfl rfl (.keep rfl (.same (qf.cons nI (qf.cons (qx.nilslice) qf.nil))) rfl rfl .nil))))).trans (Sub.refl _))
  intro _ hsub
  refine Goes.sub hsub ?_
  refine sq (Goes.rg fol [(4,.ptr 2 0),(5,.i 0)] [bS l12,.cells [.i a0_,.slice 0 0 l12.length l12.length 9],.cells [.i a0_,.slice 0 0 l12.length l12.length 9]] ?_)
  refine Goes.ret ?_
  simp only[Option.some.injEq,Prod.mk.injEq]at h
  obtain⟨rfl,rfl⟩:=h
  exact(Goes.retH (xs:=[.agg [.i a0_,.slice 0 0 l12.length l12.length 9],.i 0]) (by kernel_rfl) (Sub.norm [] [some 0] (by rw[hB];rfl) rfl (.keep (.tupleL (qg.cons (.aggL (qg.cons (.same nI) (qg.cons (.slice rfl) qg.nil))) (qg.cons (.same nI) qg.nil))) .nil) (.keep rfl (.same fa) rfl rfl .nil)))
def kz (a1_:List qj) (a4_:List Str) (a5_:List Int):Nat→(List qj)→Int→Int→Option ((List qj)×Int)
 |0,_,_,_=>none
 |K+1,l3,n4,bad_5=>
  if n4<(a1_.length:Int)then
  (((idx l3 n4).bind fun x13=>
  (idx a4_ 0).bind fun x14=>
  if(!(x13.Batch==x14))=true then
  some (l3,bad_5)
  else
  ((if bad_5=10 then
  some 20
  else
  some bad_5:Option Int)).bind fun bad_16=>
  (idx a5_ 0).bind fun x19=>
  (ja x13 x19).bind fun r20=>
  ((if(!r20)=true then
  some 0
  else
  some bad_16:Option Int)).bind fun bad_21=>
  (put l3 n4 (⟨x13.Name,x13.Batch,x13.Born,x13.Last,x13.Uses,x13.Used,x13.Limit,x13.Until,true⟩:qj)).bind fun l24=>
  some (l24,bad_21):Option ((List qj)×Int))).bind fun(l10,bad_11)=>
  kz a1_ a4_ a5_ K l10 (w64 (n4+1)) bad_11
  else
  some (l3,bad_5)
def vE (N:Nat) (a0_:Int) (a1_:List qj) (a2_:Int) (a3_:Str) (a4_:List Str) (a5_:List Int) (a6_:Str):Option ((List qj)×Int):=
 (kz a1_ a4_ a5_ N a1_ 0 10).bind fun(l6,bad_7)=>
 some (l6,bad_7)
theorem qcR (N:Nat) (a0_:Int) (a1_:List qj) (a2_:Int) (a3_:Str) (a4_:List Str) (a5_:List Int) (a6_:Str) {l1:List qj} {e_2:Int} (h:vE N a0_ a1_ a2_ a3_ a4_ a5_ a6_=some (l1,e_2)):qw Tryz.prog (.fn 145) [.agg [.i a0_,.slice 0 0 a1_.length a1_.length 9],.agg (cF a2_ a3_ a4_ a5_ a6_)] [bS a1_] (.tuple [.agg [.i a0_,.slice 0 0 l1.length l1.length 9],.i e_2]) [bS l1]:=by
 unfold vE at h
 refine Goes.fnH Tryz.func145 rfl rfl (m:=45) rfl (rs:=[.cell 4 31,.tmp 5]) rfl (l:=[(0,.agg [.i a0_,.slice 0 0 a1_.length a1_.length 9]),(1,.agg (cF a2_ a3_ a4_ a5_ a6_))]) rfl ?_
 intro B hB
 refine sq (Goes.rg fol [(2,.ptr 1 0),(3,.ptr 2 0),(4,.ptr 3 0)] [bS a1_,.cells [.i a0_,.slice 0 0 a1_.length a1_.length 9],.cells (cF a2_ a3_ a4_ a5_ a6_),bZ] ?_)
 refine sq (Goes.rg fol [(2,.ptr 1 0),(3,.ptr 2 0),(4,.ptr 3 0),(6,.i 10)] [bS a1_,.cells [.i a0_,.slice 0 0 a1_.length a1_.length 9],.cells (cF a2_ a3_ a4_ a5_ a6_),bZ] ?_)
 refine sq ?_
 refine sq (Goes.rg fol [(2,.ptr 1 0),(3,.ptr 2 0),(4,.ptr 3 0),(6,.i 10),(11,.i (a1_.length:Int)),(12,.i 0)] [bS a1_,.cells [.i a0_,.slice 0 0 a1_.length a1_.length 9],.cells (cF a2_ a3_ a4_ a5_ a6_),bZ] ?_)
 refine Goes.block ?_
 obtain⟨r8,g8,h⟩:=bnd h
 refine Goes.imp (Q:=fun x s'=>(x= .exit 0∧ ∃l6 bad_7,(l6,bad_7)=r8∧Sub s' (ofG 45 [(2,.ptr 1 0),(4,.ptr 2 0),(6,.i bad_7)],[bS l6,.cells [.i a0_,.slice 0 0 l6.length l6.length 9],bZ]))) ?_ ?_
 ·refine Goes.loopS (fun M s=> ∃(l3:List qj) (n4:Int) (bad_5:Int),s=(ofG 45 [(2,.ptr 1 0),(3,.ptr 2 0),(4,.ptr 3 0),(6,.i bad_5),(11,.i (a1_.length:Int)),(12,.i n4)],[bS l3,.cells [.i a0_,.slice 0 0 l3.length l3.length 9],.cells (cF a2_ a3_ a4_ a5_ a6_),bZ])∧kz a1_ a4_ a5_ M l3 n4 bad_5=some r8) ?_ (m:=N) ⟨_,_,_,rfl,g8⟩
  rintro M s ⟨l3,n4,bad_5,rfl,g8⟩
  cases M with
  |zero=>simp only[kz]at g8;cases g8
  |succ M=>
   rw[kz]at g8
   refine sq (Goes.rg fol [(2,.ptr 1 0),(3,.ptr 2 0),(4,.ptr 3 0),(6,.i bad_5),(11,.i (a1_.length:Int)),(12,.i n4),(13,.bool (decide (n4<(a1_.length:Int))))] [bS l3,.cells [.i a0_,.slice 0 0 l3.length l3.length 9],.cells (cF a2_ a3_ a4_ a5_ a6_),bZ] ?_)
   refine sq ?_
   refine Goes.ifB (b:=decide (n4<(a1_.length:Int))) (by kernel_rfl) (fun c9=>?_) (fun c9=>?_)
   ·rw[if_pos (ot c9)]at g8
    refine Goes.skip ?_
    refine sq ?_
    obtain⟨r12,g12,g8⟩:=bnd g8
    refine Goes.imp (Q:=fun x s'=>(x= .normal∧ ∃l10 bad_11,(l10,bad_11)=r12∧Sub s' (ofG 45 [(2,.ptr 1 0),(3,.ptr 2 0),(4,.ptr 3 0),(6,.i bad_11),(11,.i (a1_.length:Int)),(12,.i n4)],[bS l10,.cells [.i a0_,.slice 0 0 l10.length l10.length 9],.cells (cF a2_ a3_ a4_ a5_ a6_),bZ]))) ?_ ?_
    ·refine Goes.block ?_
     refine sq (Goes.rg fol [(2,.ptr 1 0),(3,.ptr 2 0),(4,.ptr 3 0),(6,.i bad_5),(7,.i n4),(11,.i (a1_.length:Int)),(12,.i n4)] [bS l3,.cells [.i a0_,.slice 0 0 l3.length l3.length 9],.cells (cF a2_ a3_ a4_ a5_ a6_),bZ] ?_)
     refine sq ?_
     obtain⟨x13,e_x13,g12⟩:=bnd g12
     refine Goes.rq fol [3] [(2,.ptr 1 0),(3,.ptr 2 0),(4,.ptr 3 0),(6,.i bad_5),(8,.ptr 0 ((n4:Int).toNat*9+0)),(11,.i (a1_.length:Int)),(12,.i n4)] [bS l3,.cells [.i a0_,.slice 0 0 l3.length l3.length 9],.cells (cF a2_ a3_ a4_ a5_ a6_),bZ] (ac (hs (.done (.opt (qF Tryz.prog 29 (.slice 0 0 l3.length l3.length 9) (.i n4))) (.ptr 0 ((n4:Int).toNat*9+0))) (qiL qcc e_x13)) az) ?_
     refine sq ?_
     refine sq ?_
     obtain⟨x14,e_x14,g12⟩:=bnd g12
     refine Goes.rq fol [3,6,7] [(2,.ptr 1 0),(3,.ptr 2 0),(4,.ptr 3 0),(6,.i bad_5),(8,.ptr 0 ((n4:Int).toNat*9+0)),(11,.i (a1_.length:Int)),(12,.i n4),(27,.bool (!(x13.Batch==x14)))] [bS l3,.cells [.i a0_,.slice 0 0 l3.length l3.length 9],.cells (cF a2_ a3_ a4_ a5_ a6_),bZ] (ac (hs (.run [0] (jd Tryz.prog 9 (.ptr 0 ((n4:Int).toNat*9+1))) [bS l3,.cells [.i a0_,.slice 0 0 l3.length l3.length 9],.cells (cF a2_ a3_ a4_ a5_ a6_),bZ] (.str x13.Batch) [bS l3,.cells [.i a0_,.slice 0 0 l3.length l3.length 9],.cells (cF a2_ a3_ a4_ a5_ a6_),bZ] false) (qhG ce9 (E:=qb) (l:=l3) rfl rfl e_x13 (nl rfl) rfl)) (ac (iv vT encS e_x14) (ac (lv 0 ce9 encS e_x14 rfl) az))) ?_
     refine Goes.ifB (b:=!(x13.Batch==x14)) (by kernel_rfl) (fun c15=>?_) (fun c15=>?_)
     ·rw[if_pos (c15)]at g12
      refine Goes.exit ?_
      obtain rfl:=si g12
      exact⟨rfl,_,_,rfl,(Sub.keep [2,3,4,6,11,12] rfl rfl)⟩
     ·rw[if_neg (nb c15)]at g12
      refine Goes.skip ?_
      refine sq ?_
      refine sq (Goes.rg fol [(2,.ptr 1 0),(3,.ptr 2 0),(4,.ptr 3 0),(6,.i bad_5),(8,.ptr 0 ((n4:Int).toNat*9+0)),(11,.i (a1_.length:Int)),(12,.i n4),(29,.bool (decide (bad_5=10)))] [bS l3,.cells [.i a0_,.slice 0 0 l3.length l3.length 9],.cells (cF a2_ a3_ a4_ a5_ a6_),bZ] ?_)
      obtain⟨r17,g17,g12⟩:=bnd g12
      refine Goes.imp (Q:=fun x s'=>(x= .normal∧ ∃bad_16,bad_16=r17∧Sub s' (ofG 45 [(2,.ptr 1 0),(3,.ptr 2 0),(4,.ptr 3 0),(6,.i bad_16),(8,.ptr 0 ((n4:Int).toNat*9+0)),(11,.i (a1_.length:Int)),(12,.i n4)],[bS l3,.cells [.i a0_,.slice 0 0 l3.length l3.length 9],.cells (cF a2_ a3_ a4_ a5_ a6_),bZ]))) ?_ ?_
      ·refine Goes.ifB (b:=decide (bad_5=10)) (by kernel_rfl) (fun c18=>?_) (fun c18=>?_)
       ·rw[if_pos (ot c18)]at g17
        refine Goes.rg fol [(2,.ptr 1 0),(3,.ptr 2 0),(4,.ptr 3 0),(6,.i 20),(8,.ptr 0 ((n4:Int).toNat*9+0)),(11,.i (a1_.length:Int)),(12,.i n4)] [bS l3,.cells [.i a0_,.slice 0 0 l3.length l3.length 9],.cells (cF a2_ a3_ a4_ a5_ a6_),bZ] ?_
        obtain rfl:=si g17
        exact⟨rfl,_,rfl,(Sub.refl _)⟩
       ·rw[if_neg (of_ c18)]at g17
        refine Goes.skip ?_
        obtain rfl:=si g17
        exact⟨rfl,_,rfl,(Sub.keep [2,3,4,6,8,11,12] rfl rfl)⟩
      rintro x s' ⟨rfl,bad_16,rfl,hsub⟩
      refine Goes.sub hsub ?_
      refine sq ?_
      refine sq ?_
      obtain⟨x19,e_x19,g12⟩:=bnd g12
      obtain⟨r20,e_r20,g12⟩:=bnd g12
      refine Goes.rq fol [2,5,6,7] [(2,.ptr 1 0),(3,.ptr 2 0),(4,.ptr 3 0),(6,.i bad_16),(8,.ptr 0 ((n4:Int).toNat*9+0)),(11,.i (a1_.length:Int)),(12,.i n4),(38,.bool (!r20))] [bS l3,.cells [.i a0_,.slice 0 0 l3.length l3.length 9],.cells (cF a2_ a3_ a4_ a5_ a6_),bZ] (ac (hs (.run [0] (jd Tryz.prog 68 (.ptr 0 ((n4:Int).toNat*9+0))) [bS l3,.cells [.i a0_,.slice 0 0 l3.length l3.length 9],.cells (cF a2_ a3_ a4_ a5_ a6_),bZ] (.agg (cS x13)) [bS l3,.cells [.i a0_,.slice 0 0 l3.length l3.length 9],.cells (cF a2_ a3_ a4_ a5_ a6_),bZ] false) (qfu ag68 (E:=qb) (l:=l3) rfl rfl e_x13)) (ac (iv xL encI e_x19) (ac (lv 0 ce3 encI e_x19 rfl) (ac (cv (qai x13 x19 e_r20)) az)))) ?_
      obtain⟨r22,g22,g12⟩:=bnd g12
      refine Goes.imp (Q:=fun x s'=>(x= .normal∧ ∃bad_21,bad_21=r22∧Sub s' (ofG 45 [(2,.ptr 1 0),(3,.ptr 2 0),(4,.ptr 3 0),(6,.i bad_21),(8,.ptr 0 ((n4:Int).toNat*9+0)),(11,.i (a1_.length:Int)),(12,.i n4)],[bS l3,.cells [.i a0_,.slice 0 0 l3.length l3.length 9],.cells (cF a2_ a3_ a4_ a5_ a6_),bZ]))) ?_ ?_
      ·refine Goes.ifB (b:=!r20) (by kernel_rfl) (fun c23=>?_) (fun c23=>?_)
       ·rw[if_pos (c23)]at g22
        refine Goes.rg fol [(2,.ptr 1 0),(3,.ptr 2 0),(4,.ptr 3 0),(6,.i 0),(8,.ptr 0 ((n4:Int).toNat*9+0)),(11,.i (a1_.length:Int)),(12,.i n4)] [bS l3,.cells [.i a0_,.slice 0 0 l3.length l3.length 9],.cells (cF a2_ a3_ a4_ a5_ a6_),bZ] ?_
        obtain rfl:=si g22
        exact⟨rfl,_,rfl,(Sub.refl _)⟩
       ·rw[if_neg (nb c23)]at g22
        refine Goes.skip ?_
        obtain rfl:=si g22
        exact⟨rfl,_,rfl,(Sub.keep [2,3,4,6,8,11,12] rfl rfl)⟩
      rintro x s' ⟨rfl,bad_21,rfl,hsub⟩
      refine Goes.sub hsub ?_
      obtain⟨l24,e_l24,g12⟩:=bnd g12
      refine Goes.rq fol [3] [(2,.ptr 1 0),(3,.ptr 2 0),(4,.ptr 3 0),(6,.i bad_21),(11,.i (a1_.length:Int)),(12,.i n4)] [bS l24,.cells [.i a0_,.slice 0 0 l3.length l3.length 9],.cells (cF a2_ a3_ a4_ a5_ a6_),bZ] (ac (hs (.run [0] (yA Tryz.prog 4 (.ptr 0 ((n4:Int).toNat*9+8)) (.bool true)) [bS l3,.cells [.i a0_,.slice 0 0 l3.length l3.length 9],.cells (cF a2_ a3_ a4_ a5_ a6_),bZ] .undef [bS l24,.cells [.i a0_,.slice 0 0 l3.length l3.length 9],.cells (cF a2_ a3_ a4_ a5_ a6_),bZ] true) (qbK (E:=qb) (l:=l3) (y:=(⟨x13.Name,x13.Batch,x13.Born,x13.Last,x13.Uses,x13.Used,x13.Limit,x13.Until,true⟩:qj)) rfl (show _=some 1 by kernel_rfl) rfl e_x13 rfl rfl rfl rfl rfl e_l24 rfl)) az) ?_
      obtain rfl:=si g12
      exact⟨rfl,_,_,rfl,((show Sub (ofG 45 [(2,.ptr 1 0),(3,.ptr 2 0),(4,.ptr 3 0),(6,.i bad_21),(11,.i (a1_.length:Int)),(12,.i n4)],[bS l24,.cells [.i a0_,.slice 0 0 l3.length l3.length 9],.cells (cF a2_ a3_ a4_ a5_ a6_),bZ]) (ofG 45 [(2,.ptr 1 0),(3,.ptr 2 0),(4,.ptr 3 0),(6,.i bad_21),(11,.i (a1_.length:Int)),(12,.i n4)],[bS l24,.cells [.i a0_,.slice 0 0 l24.length l24.length 9],.cells (cF a2_ a3_ a4_ a5_ a6_),bZ])from(Sub.norm [] [some 0,some 1,some 2,some 3] (by rw[hB];rfl) rfl (.keep (.ptr rfl) (.keep (.ptr rfl) (.keep (.ptr rfl) (.keep (.same nI) (.keep (.same nI) (.keep (.same nI) .nil)))))) (.keep rfl (.same fa) rfl rfl (.keep rfl (.cells (qg.cons (.same nI) (qg.cons (.sliceE rfl (y7 e_l24)) qg.nil))) rfl rfl (.keep rfl (.same (qf.cons nI (qf.cons nS (qf.cons (qh encS _) (qf.cons (qh encI _) (qf.cons nS qf.nil)))))) rfl rfl (.keep rfl (.same (qf.cons nI (qf.cons (qx.nilslice) qf.nil))) rfl rfl .nil)))))).trans (Sub.refl _))⟩
    rintro x s' ⟨rfl,l10,bad_11,rfl,hsub⟩
    try dsimp only at g8
    refine Goes.sub hsub ?_
    refine Goes.rg fol [(2,.ptr 1 0),(3,.ptr 2 0),(4,.ptr 3 0),(6,.i bad_11),(11,.i (a1_.length:Int)),(12,.i (w64 (n4+1)))] [bS l10,.cells [.i a0_,.slice 0 0 l10.length l10.length 9],.cells (cF a2_ a3_ a4_ a5_ a6_),bZ] ?_
    exact⟨M,(ofG 45 [(2,.ptr 1 0),(3,.ptr 2 0),(4,.ptr 3 0),(6,.i bad_11),(11,.i (a1_.length:Int)),(12,.i (w64 (n4+1)))],[bS l10,.cells [.i a0_,.slice 0 0 l10.length l10.length 9],.cells (cF a2_ a3_ a4_ a5_ a6_),bZ]),Nat.lt_succ_self _,(Sub.refl _),_,_,_,rfl,g8⟩
   ·rw[if_neg (of_ c9)]at g8
    refine Goes.exit ?_
    obtain rfl:=si g8
    exact⟨rfl,_,_,rfl,(Sub.norm [] [some 0,some 1,some 3] (by rw[hB];rfl) rfl (.keep (.ptr rfl) (.drop (.keep (.ptr rfl) (.keep (.same nI) .nil)))) (.keep rfl (.same fa) rfl rfl (.keep rfl (.cells (qg.cons (.same nI) (qg.cons (.slice rfl) qg.nil))) rfl rfl (.keep rfl (.same (qf.cons nI (qf.cons (qx.nilslice) qf.nil))) rfl rfl .nil))))⟩
 rintro x s' ⟨rfl,l6,bad_7,rfl,hsub⟩
 try dsimp only at h
 refine Goes.sub hsub ?_
 refine sq (Goes.rg fol [(4,.ptr 2 0),(5,.i bad_7)] [bS l6,.cells [.i a0_,.slice 0 0 l6.length l6.length 9],.cells [.i a0_,.slice 0 0 l6.length l6.length 9]] ?_)
 refine Goes.ret ?_
 simp only[Option.some.injEq,Prod.mk.injEq]at h
 obtain⟨rfl,rfl⟩:=h
 exact(Goes.retH (xs:=[.agg [.i a0_,.slice 0 0 l6.length l6.length 9],.i bad_7]) (by kernel_rfl) (Sub.norm [] [some 0] (by rw[hB];rfl) rfl (.keep (.tupleL (qg.cons (.aggL (qg.cons (.same nI) (qg.cons (.slice rfl) qg.nil))) (qg.cons (.same nI) qg.nil))) .nil) (.keep rfl (.same fa) rfl rfl .nil)))
def qG (N:Nat) (a0_:Int) (a1_:List qj) (a2_:Int) (a3_:Str) (a4_:List Str) (a5_:List Int) (a6_:Str):Option (Int×(List qj)×Int):=
 (idx a5_ 0).bind fun x4=>
 (vN x4).bind fun r5=>
 (qU (decide (x4<a0_)) 19).bind fun r6=>
 (qV N ([r5,r6]:List Int)).bind fun r7=>
 if(!decide (r7=0))=true then
 some (0,[],r7)
 else
 ((zA).bind fun r9=>
 if(a3_==[109,97,107,101])=true then
 (qC a0_ a1_).bind fun l12=>
 (xk N a0_ l12 a2_ a3_ a4_ a5_ a6_).bind fun(l14,e_15)=>
 some (l14,e_15)
 else
 if(a3_==[116,101,115,116])=true then
 (qC a0_ a1_).bind fun l18=>
 (yc N a0_ l18 a2_ a3_ a4_ a5_ a6_).bind fun(l20,e_21)=>
 some (l20,e_21)
 else
 if(a3_==[117,115,101])=true then
 (qC a0_ a1_).bind fun l24=>
 (xm N a0_ l24 a2_ a3_ a4_ a5_ a6_).bind fun(l26,e_27)=>
 some (l26,e_27)
 else
 if(a3_==[102,97,105,108])=true then
 (qC a0_ a1_).bind fun l30=>
 (vZ N a0_ l30 a2_ a3_ a4_ a5_ a6_).bind fun(l32,e_33)=>
 some (l32,e_33)
 else
 if(a3_==[114,101,99,97,108,108])=true then
 (qC a0_ a1_).bind fun l36=>
 (vE N a0_ l36 a2_ a3_ a4_ a5_ a6_).bind fun(l38,e_39)=>
 some (l38,e_39)
 else
 if(a3_==[117,110,100,111])=true then
 none
 else
 none:Option ((List qj)×Int)).bind fun(l45,bad_46)=>
 some (x4,l45,bad_46)
theorem qbg (N:Nat) (a0_:Int) (a1_:List qj) (a2_:Int) (a3_:Str) (a4_:List Str) (a5_:List Int) (a6_:Str) {n1:Int} {l2:List qj} {e_3:Int} (h:qG N a0_ a1_ a2_ a3_ a4_ a5_ a6_=some (n1,l2,e_3)):qw Tryz.prog (.fn 147) [.agg [.i a0_,vl qb a1_],.agg (cF a2_ a3_ a4_ a5_ a6_)] [] (.tuple [.agg [.i n1,vl qb l2],.i e_3]) []:=by
 unfold qG at h
 refine Goes.fnH Tryz.func147 rfl rfl (m:=43) rfl (rs:=[.cell 4 31,.tmp 5]) rfl (l:=[(0,.agg [.i a0_,vl qb a1_]),(1,.agg (cF a2_ a3_ a4_ a5_ a6_))]) rfl ?_
 intro B hB
 refine sq (Goes.rg fol [(2,.ptr 0 0),(3,.ptr 1 0),(4,.ptr 2 0)] [.cells [.i a0_,vl qb a1_],.cells (cF a2_ a3_ a4_ a5_ a6_),bZ] ?_)
 refine sq ?_
 obtain⟨x4,e_x4,h⟩:=bnd h
 refine Goes.rq fol [2,3] [(2,.ptr 0 0),(3,.ptr 1 0),(4,.ptr 2 0),(6,.i x4)] [.cells [.i a0_,vl qb a1_],.cells (cF a2_ a3_ a4_ a5_ a6_),bZ] (ac (iv xL encI e_x4) (ac (lv 0 ce3 encI e_x4 rfl) az)) ?_
 refine sq ?_
 refine sq ?_
 obtain⟨r5,e_r5,h⟩:=bnd h
 obtain⟨r6,e_r6,h⟩:=bnd h
 obtain⟨r7,e_r7,h⟩:=bnd h
 refine Goes.rq fol [1,6,8] [(2,.ptr 0 0),(3,.ptr 1 0),(4,.ptr 2 0),(6,.i x4),(7,.i r7)] [.cells [.i a0_,vl qb a1_],.cells (cF a2_ a3_ a4_ a5_ a6_),bZ,.cells [.i r5,.i r6]] (ac (cv (qbu x4 e_r5)) (ac (cv (qL (decide (x4<a0_)) 19 e_r6)) (ac (hs (.call 86 [.slice 3 0 2 2 1] [.cells [.i a0_,vl qb a1_],.cells (cF a2_ a3_ a4_ a5_ a6_),bZ,.cells [.i r5,.i r6]] [3] [vl encI ([r5,r6]:List Int)] (.i r7)) (xw (FzL.cons (Fz.lit rfl rfl (FzL.still (AllST.cons tI (AllST.cons tI AllST.nil)))) FzL.nil) (kS N ([r5,r6]:List Int) e_r7) tI rfl)) az))) ?_
 refine sq (Goes.rg fol [(2,.ptr 0 0),(3,.ptr 1 0),(4,.ptr 2 0),(6,.i x4),(7,.i r7),(24,.bool (!decide (r7=0)))] [.cells [.i a0_,vl qb a1_],.cells (cF a2_ a3_ a4_ a5_ a6_),bZ,.cells [.i r5,.i r6]] ?_)
 refine Goes.ifB (b:=!decide (r7=0)) (by kernel_rfl) (fun c8=>?_) (fun c8=>?_)
 ·rw[if_pos (c8)]at h
  refine sq (Goes.rg fol [(4,.ptr 2 0),(5,.i r7)] [.cells [.i a0_,vl qb a1_],.cells (cF a2_ a3_ a4_ a5_ a6_),bZ,.cells [.i r5,.i r6]] ?_)
  refine Goes.ret ?_
  simp only[Option.some.injEq,Prod.mk.injEq]at h
  obtain⟨rfl,rfl,rfl⟩:=h
  exact(Goes.retH (xs:=[.agg [.i 0,.nilslice],.i r7]) (by kernel_rfl) (Sub.norm [] [] (by rw[hB];rfl) rfl (.keep (.tupleL (qg.cons (.aggL (qg.cons (.same nI) (qg.cons (.nilv) qg.nil))) (qg.cons (.same nI) qg.nil))) .nil) .nil))
 ·rw[if_neg (nb c8)]at h
  refine Goes.skip ?_
  refine sq ?_
  obtain⟨⟨l45,bad_46⟩,g_v47,h⟩:=bnd h
  refine Goes.cutS (s':=(ofG 43 [(4,.ptr 0 0),(6,.i x4),(8,.ptr 1 0),(9,.i bad_46)],[bZ,.cells [.i a0_,vl qb l45]])) ?_ ?_
  ·obtain⟨r9,e_r9,g_v47⟩:=bnd g_v47
   rcases Bool.eq_false_or_eq_true (a3_==[109,97,107,101])with c10|c10
   ·rw[if_pos (c10)]at g_v47
    obtain⟨l12,e_r11,g_v47⟩:=bnd g_v47
    obtain⟨⟨l14,e_15⟩,e_r13,g_v47⟩:=bnd g_v47
    try dsimp only at g_v47
    simp only[Option.some.injEq,Prod.mk.injEq]at g_v47
    obtain⟨rfl,rfl⟩:=g_v47
    exact qp.sub (qp.rq fol [0,3,6,8] [(4,.ptr 2 0),(6,.i x4),(8,.ptr 5 0),(9,.i e_15)] [.cells [.i a0_,vl qb a1_],.cells (cF a2_ a3_ a4_ a5_ a6_),bZ,.cells [.i r5,.i r6],.dead,.cells [.i a0_,vl qb l14]] (ac (cv (qH e_r9)) (ac (hs (.done (kP Tryz.prog 154 (fm1) (.str a3_) false) (.agg [.i 2,.i 3,.func (.func 141) [] []])) (qeq qav [[109,97,107,101],[116,101,115,116],[117,115,101],[102,97,105,108],[114,101,99,97,108,108],[117,110,100,111]] (jk c10) rfl)) (ac (hs (.callH 82 [.agg [.i a0_,vl qb a1_]] [.cells [.i a0_,vl qb a1_],.cells (cF a2_ a3_ a4_ a5_ a6_),bZ,.cells [.i r5,.i r6]] [] (.agg [.i a0_,.slice 4 0 l12.length l12.length 9]) [.cells [.i a0_,vl qb a1_],.cells (cF a2_ a3_ a4_ a5_ a6_),bZ,.cells [.i r5,.i r6],bS l12]) (jl [] [none,none,none,none,some 0] (zi a0_ a1_ e_r11) .nil rfl rfl (.old rfl rfl (.old rfl rfl (.old rfl rfl (.old rfl rfl (.new rfl rfl (.same fa) rfl .nil))))) (qg.cons (.same (qx.agg (qf.cons nI (qf.cons (qh qb _) qf.nil)))) qg.nil) (.aggL (qg.cons (.same nI) (qg.cons (.slice rfl) qg.nil))) rfl)) (ac (hs (.callH 141 [.agg [.i a0_,.slice 4 0 l12.length l12.length 9],.agg (cF a2_ a3_ a4_ a5_ a6_)] [.cells [.i a0_,vl qb a1_],.cells (cF a2_ a3_ a4_ a5_ a6_),bZ,.cells [.i r5,.i r6],bS l12] [4] (.tuple [.agg [.i a0_,vl qb l14],.i e_15]) [.cells [.i a0_,vl qb a1_],.cells (cF a2_ a3_ a4_ a5_ a6_),bZ,.cells [.i r5,.i r6],.dead]) (jl [some 4] [none,none,none,none,none] (qeD N a0_ l12 a2_ a3_ a4_ a5_ a6_ e_r13) (.keep rfl (.same fa) rfl rfl .nil) rfl rfl (.old rfl rfl (.old rfl rfl (.old rfl rfl (.old rfl rfl (.dead .nil))))) (qg.cons (.aggL (qg.cons (.same nI) (qg.cons (.slice rfl) qg.nil))) (qg.cons (.same (qx.agg (qf.cons nI (qf.cons nS (qf.cons (qh encS _) (qf.cons (qh encI _) (qf.cons nS qf.nil))))))) qg.nil)) (.same (qx.tuple (qf.cons (qx.agg (qf.cons nI (qf.cons (qh qb _) qf.nil))) (qf.cons nI qf.nil)))) rfl)) az))))) (Sub.norm [] [some 2,some 5] (by rw[hB];rfl) rfl (.keep (.ptr rfl) (.keep (.same nI) (.keep (.ptr rfl) (.keep (.same nI) .nil)))) (.keep rfl (.same (qf.cons nI (qf.cons (qx.nilslice) qf.nil))) rfl rfl (.keep rfl (.same (qf.cons nI (qf.cons (qh qb _) qf.nil))) rfl rfl .nil)))
   ·rw[if_neg (nb c10)]at g_v47
    rcases Bool.eq_false_or_eq_true (a3_==[116,101,115,116])with c16|c16
    ·rw[if_pos (c16)]at g_v47
     obtain⟨l18,e_r17,g_v47⟩:=bnd g_v47
     obtain⟨⟨l20,e_21⟩,e_r19,g_v47⟩:=bnd g_v47
     try dsimp only at g_v47
     simp only[Option.some.injEq,Prod.mk.injEq]at g_v47
     obtain⟨rfl,rfl⟩:=g_v47
     exact qp.sub (qp.rq fol [0,3,6,8] [(4,.ptr 2 0),(6,.i x4),(8,.ptr 5 0),(9,.i e_21)] [.cells [.i a0_,vl qb a1_],.cells (cF a2_ a3_ a4_ a5_ a6_),bZ,.cells [.i r5,.i r6],bS l20,.cells [.i a0_,.slice 4 0 l20.length l20.length 9]] (ac (cv (qH e_r9)) (ac (hs (.done (kP Tryz.prog 154 (fm1) (.str a3_) false) (.agg [.i 1,.i 2,.func (.func 142) [] []])) (qeq qav [[109,97,107,101],[116,101,115,116],[117,115,101],[102,97,105,108],[114,101,99,97,108,108],[117,110,100,111]] (qy c10 (jk c16)) rfl)) (ac (hs (.callH 82 [.agg [.i a0_,vl qb a1_]] [.cells [.i a0_,vl qb a1_],.cells (cF a2_ a3_ a4_ a5_ a6_),bZ,.cells [.i r5,.i r6]] [] (.agg [.i a0_,.slice 4 0 l18.length l18.length 9]) [.cells [.i a0_,vl qb a1_],.cells (cF a2_ a3_ a4_ a5_ a6_),bZ,.cells [.i r5,.i r6],bS l18]) (jl [] [none,none,none,none,some 0] (zi a0_ a1_ e_r17) .nil rfl rfl (.old rfl rfl (.old rfl rfl (.old rfl rfl (.old rfl rfl (.new rfl rfl (.same fa) rfl .nil))))) (qg.cons (.same (qx.agg (qf.cons nI (qf.cons (qh qb _) qf.nil)))) qg.nil) (.aggL (qg.cons (.same nI) (qg.cons (.slice rfl) qg.nil))) rfl)) (ac (hs (.callH 142 [.agg [.i a0_,.slice 4 0 l18.length l18.length 9],.agg (cF a2_ a3_ a4_ a5_ a6_)] [.cells [.i a0_,vl qb a1_],.cells (cF a2_ a3_ a4_ a5_ a6_),bZ,.cells [.i r5,.i r6],bS l18] [4] (.tuple [.agg [.i a0_,.slice 4 0 l20.length l20.length 9],.i e_21]) [.cells [.i a0_,vl qb a1_],.cells (cF a2_ a3_ a4_ a5_ a6_),bZ,.cells [.i r5,.i r6],bS l20]) (jl [some 4] [none,none,none,none,some 0] (qdM N a0_ l18 a2_ a3_ a4_ a5_ a6_ e_r19) (.keep rfl (.same fa) rfl rfl .nil) rfl rfl (.old rfl rfl (.old rfl rfl (.old rfl rfl (.old rfl rfl (.back rfl rfl (.same fa) rfl .nil))))) (qg.cons (.aggL (qg.cons (.same nI) (qg.cons (.slice rfl) qg.nil))) (qg.cons (.same (qx.agg (qf.cons nI (qf.cons nS (qf.cons (qh encS _) (qf.cons (qh encI _) (qf.cons nS qf.nil))))))) qg.nil)) (.tupleL (qg.cons (.aggL (qg.cons (.same nI) (qg.cons (.slice rfl) qg.nil))) (qg.cons (.same nI) qg.nil))) rfl)) az))))) (Sub.norm [4] [some 2,some 5] (by rw[hB];rfl) rfl (.keep (.ptr rfl) (.keep (.same nI) (.keep (.ptr rfl) (.keep (.same nI) .nil)))) (.keep rfl (.same (qf.cons nI (qf.cons (qx.nilslice) qf.nil))) rfl rfl (.keep rfl (.cells (qg.cons (.same nI) (qg.cons (.frz (Fz.sl (E:=qb) rfl rfl (nl rfl)) (qh qb _)) qg.nil))) rfl rfl .nil)))
    ·rw[if_neg (nb c16)]at g_v47
     rcases Bool.eq_false_or_eq_true (a3_==[117,115,101])with c22|c22
     ·rw[if_pos (c22)]at g_v47
      obtain⟨l24,e_r23,g_v47⟩:=bnd g_v47
      obtain⟨⟨l26,e_27⟩,e_r25,g_v47⟩:=bnd g_v47
      try dsimp only at g_v47
      simp only[Option.some.injEq,Prod.mk.injEq]at g_v47
      obtain⟨rfl,rfl⟩:=g_v47
      exact qp.sub (qp.rq fol [0,3,6,8] [(4,.ptr 2 0),(6,.i x4),(8,.ptr 5 0),(9,.i e_27)] [.cells [.i a0_,vl qb a1_],.cells (cF a2_ a3_ a4_ a5_ a6_),bZ,.cells [.i r5,.i r6],bS l26,.cells [.i a0_,.slice 4 0 l26.length l26.length 9]] (ac (cv (qH e_r9)) (ac (hs (.done (kP Tryz.prog 154 (fm1) (.str a3_) false) (.agg [.i 1,.i 2,.func (.func 143) [] []])) (qeq qav [[109,97,107,101],[116,101,115,116],[117,115,101],[102,97,105,108],[114,101,99,97,108,108],[117,110,100,111]] (qy c10 (qy c16 (jk c22))) rfl)) (ac (hs (.callH 82 [.agg [.i a0_,vl qb a1_]] [.cells [.i a0_,vl qb a1_],.cells (cF a2_ a3_ a4_ a5_ a6_),bZ,.cells [.i r5,.i r6]] [] (.agg [.i a0_,.slice 4 0 l24.length l24.length 9]) [.cells [.i a0_,vl qb a1_],.cells (cF a2_ a3_ a4_ a5_ a6_),bZ,.cells [.i r5,.i r6],bS l24]) (jl [] [none,none,none,none,some 0] (zi a0_ a1_ e_r23) .nil rfl rfl (.old rfl rfl (.old rfl rfl (.old rfl rfl (.old rfl rfl (.new rfl rfl (.same fa) rfl .nil))))) (qg.cons (.same (qx.agg (qf.cons nI (qf.cons (qh qb _) qf.nil)))) qg.nil) (.aggL (qg.cons (.same nI) (qg.cons (.slice rfl) qg.nil))) rfl)) (ac (hs (.callH 143 [.agg [.i a0_,.slice 4 0 l24.length l24.length 9],.agg (cF a2_ a3_ a4_ a5_ a6_)] [.cells [.i a0_,vl qb a1_],.cells (cF a2_ a3_ a4_ a5_ a6_),bZ,.cells [.i r5,.i r6],bS l24] [4] (.tuple [.agg [.i a0_,.slice 4 0 l26.length l26.length 9],.i e_27]) [.cells [.i a0_,vl qb a1_],.cells (cF a2_ a3_ a4_ a5_ a6_),bZ,.cells [.i r5,.i r6],bS l26]) (jl [some 4] [none,none,none,none,some 0] (qet N a0_ l24 a2_ a3_ a4_ a5_ a6_ e_r25) (.keep rfl (.same fa) rfl rfl .nil) rfl rfl (.old rfl rfl (.old rfl rfl (.old rfl rfl (.old rfl rfl (.back rfl rfl (.same fa) rfl .nil))))) (qg.cons (.aggL (qg.cons (.same nI) (qg.cons (.slice rfl) qg.nil))) (qg.cons (.same (qx.agg (qf.cons nI (qf.cons nS (qf.cons (qh encS _) (qf.cons (qh encI _) (qf.cons nS qf.nil))))))) qg.nil)) (.tupleL (qg.cons (.aggL (qg.cons (.same nI) (qg.cons (.slice rfl) qg.nil))) (qg.cons (.same nI) qg.nil))) rfl)) az))))) (Sub.norm [4] [some 2,some 5] (by rw[hB];rfl) rfl (.keep (.ptr rfl) (.keep (.same nI) (.keep (.ptr rfl) (.keep (.same nI) .nil)))) (.keep rfl (.same (qf.cons nI (qf.cons (qx.nilslice) qf.nil))) rfl rfl (.keep rfl (.cells (qg.cons (.same nI) (qg.cons (.frz (Fz.sl (E:=qb) rfl rfl (nl rfl)) (qh qb _)) qg.nil))) rfl rfl .nil)))
     ·rw[if_neg (nb c22)]at g_v47
      rcases Bool.eq_false_or_eq_true (a3_==[102,97,105,108])with c28|c28
      ·rw[if_pos (c28)]at g_v47
       obtain⟨l30,e_r29,g_v47⟩:=bnd g_v47
       obtain⟨⟨l32,e_33⟩,e_r31,g_v47⟩:=bnd g_v47
       try dsimp only at g_v47
       simp only[Option.some.injEq,Prod.mk.injEq]at g_v47
       obtain⟨rfl,rfl⟩:=g_v47
       exact qp.sub (qp.rq fol [0,3,6,8] [(4,.ptr 2 0),(6,.i x4),(8,.ptr 5 0),(9,.i e_33)] [.cells [.i a0_,vl qb a1_],.cells (cF a2_ a3_ a4_ a5_ a6_),bZ,.cells [.i r5,.i r6],bS l32,.cells [.i a0_,.slice 4 0 l32.length l32.length 9]] (ac (cv (qH e_r9)) (ac (hs (.done (kP Tryz.prog 154 (fm1) (.str a3_) false) (.agg [.i 1,.i 1,.func (.func 144) [] []])) (qeq qav [[109,97,107,101],[116,101,115,116],[117,115,101],[102,97,105,108],[114,101,99,97,108,108],[117,110,100,111]] (qy c10 (qy c16 (qy c22 (jk c28)))) rfl)) (ac (hs (.callH 82 [.agg [.i a0_,vl qb a1_]] [.cells [.i a0_,vl qb a1_],.cells (cF a2_ a3_ a4_ a5_ a6_),bZ,.cells [.i r5,.i r6]] [] (.agg [.i a0_,.slice 4 0 l30.length l30.length 9]) [.cells [.i a0_,vl qb a1_],.cells (cF a2_ a3_ a4_ a5_ a6_),bZ,.cells [.i r5,.i r6],bS l30]) (jl [] [none,none,none,none,some 0] (zi a0_ a1_ e_r29) .nil rfl rfl (.old rfl rfl (.old rfl rfl (.old rfl rfl (.old rfl rfl (.new rfl rfl (.same fa) rfl .nil))))) (qg.cons (.same (qx.agg (qf.cons nI (qf.cons (qh qb _) qf.nil)))) qg.nil) (.aggL (qg.cons (.same nI) (qg.cons (.slice rfl) qg.nil))) rfl)) (ac (hs (.callH 144 [.agg [.i a0_,.slice 4 0 l30.length l30.length 9],.agg (cF a2_ a3_ a4_ a5_ a6_)] [.cells [.i a0_,vl qb a1_],.cells (cF a2_ a3_ a4_ a5_ a6_),bZ,.cells [.i r5,.i r6],bS l30] [4] (.tuple [.agg [.i a0_,.slice 4 0 l32.length l32.length 9],.i e_33]) [.cells [.i a0_,vl qb a1_],.cells (cF a2_ a3_ a4_ a5_ a6_),bZ,.cells [.i r5,.i r6],bS l32]) (jl [some 4] [none,none,none,none,some 0] (qdN N a0_ l30 a2_ a3_ a4_ a5_ a6_ e_r31) (.keep rfl (.same fa) rfl rfl .nil) rfl rfl (.old rfl rfl (.old rfl rfl (.old rfl rfl (.old rfl rfl (.back rfl rfl (.same fa) rfl .nil))))) (qg.cons (.aggL (qg.cons (.same nI) (qg.cons (.slice rfl) qg.nil))) (qg.cons (.same (qx.agg (qf.cons nI (qf.cons nS (qf.cons (qh encS _) (qf.cons (qh encI _) (qf.cons nS qf.nil))))))) qg.nil)) (.tupleL (qg.cons (.aggL (qg.cons (.same nI) (qg.cons (.slice rfl) qg.nil))) (qg.cons (.same nI) qg.nil))) rfl)) az))))) (Sub.norm [4] [some 2,some 5] (by rw[hB];rfl) rfl (.keep (.ptr rfl) (.keep (.same nI) (.keep (.ptr rfl) (.keep (.same nI) .nil)))) (.keep rfl (.same (qf.cons nI (qf.cons (qx.nilslice) qf.nil))) rfl rfl (.keep rfl (.cells (qg.cons (.same nI) (qg.cons (.frz (Fz.sl (E:=qb) rfl rfl (nl rfl)) (qh qb _)) qg.nil))) rfl rfl .nil)))
      ·rw[if_neg (nb c28)]at g_v47
       rcases Bool.eq_false_or_eq_true (a3_==[114,101,99,97,108,108])with c34|c34
       ·rw[if_pos (c34)]at g_v47
        obtain⟨l36,e_r35,g_v47⟩:=bnd g_v47
        obtain⟨⟨l38,e_39⟩,e_r37,g_v47⟩:=bnd g_v47
        try dsimp only at g_v47
        simp only[Option.some.injEq,Prod.mk.injEq]at g_v47
        obtain⟨rfl,rfl⟩:=g_v47
        exact qp.sub (qp.rq fol [0,3,6,8] [(4,.ptr 2 0),(6,.i x4),(8,.ptr 5 0),(9,.i e_39)] [.cells [.i a0_,vl qb a1_],.cells (cF a2_ a3_ a4_ a5_ a6_),bZ,.cells [.i r5,.i r6],bS l38,.cells [.i a0_,.slice 4 0 l38.length l38.length 9]] (ac (cv (qH e_r9)) (ac (hs (.done (kP Tryz.prog 154 (fm1) (.str a3_) false) (.agg [.i 1,.i 1,.func (.func 145) [] []])) (qeq qav [[109,97,107,101],[116,101,115,116],[117,115,101],[102,97,105,108],[114,101,99,97,108,108],[117,110,100,111]] (qy c10 (qy c16 (qy c22 (qy c28 (jk c34))))) rfl)) (ac (hs (.callH 82 [.agg [.i a0_,vl qb a1_]] [.cells [.i a0_,vl qb a1_],.cells (cF a2_ a3_ a4_ a5_ a6_),bZ,.cells [.i r5,.i r6]] [] (.agg [.i a0_,.slice 4 0 l36.length l36.length 9]) [.cells [.i a0_,vl qb a1_],.cells (cF a2_ a3_ a4_ a5_ a6_),bZ,.cells [.i r5,.i r6],bS l36]) (jl [] [none,none,none,none,some 0] (zi a0_ a1_ e_r35) .nil rfl rfl (.old rfl rfl (.old rfl rfl (.old rfl rfl (.old rfl rfl (.new rfl rfl (.same fa) rfl .nil))))) (qg.cons (.same (qx.agg (qf.cons nI (qf.cons (qh qb _) qf.nil)))) qg.nil) (.aggL (qg.cons (.same nI) (qg.cons (.slice rfl) qg.nil))) rfl)) (ac (hs (.callH 145 [.agg [.i a0_,.slice 4 0 l36.length l36.length 9],.agg (cF a2_ a3_ a4_ a5_ a6_)] [.cells [.i a0_,vl qb a1_],.cells (cF a2_ a3_ a4_ a5_ a6_),bZ,.cells [.i r5,.i r6],bS l36] [4] (.tuple [.agg [.i a0_,.slice 4 0 l38.length l38.length 9],.i e_39]) [.cells [.i a0_,vl qb a1_],.cells (cF a2_ a3_ a4_ a5_ a6_),bZ,.cells [.i r5,.i r6],bS l38]) (jl [some 4] [none,none,none,none,some 0] (qcR N a0_ l36 a2_ a3_ a4_ a5_ a6_ e_r37) (.keep rfl (.same fa) rfl rfl .nil) rfl rfl (.old rfl rfl (.old rfl rfl (.old rfl rfl (.old rfl rfl (.back rfl rfl (.same fa) rfl .nil))))) (qg.cons (.aggL (qg.cons (.same nI) (qg.cons (.slice rfl) qg.nil))) (qg.cons (.same (qx.agg (qf.cons nI (qf.cons nS (qf.cons (qh encS _) (qf.cons (qh encI _) (qf.cons nS qf.nil))))))) qg.nil)) (.tupleL (qg.cons (.aggL (qg.cons (.same nI) (qg.cons (.slice rfl) qg.nil))) (qg.cons (.same nI) qg.nil))) rfl)) az))))) (Sub.norm [4] [some 2,some 5] (by rw[hB];rfl) rfl (.keep (.ptr rfl) (.keep (.same nI) (.keep (.ptr rfl) (.keep (.same nI) .nil)))) (.keep rfl (.same (qf.cons nI (qf.cons (qx.nilslice) qf.nil))) rfl rfl (.keep rfl (.cells (qg.cons (.same nI) (qg.cons (.frz (Fz.sl (E:=qb) rfl rfl (nl rfl)) (qh qb _)) qg.nil))) rfl rfl .nil)))
       ·rw[if_neg (nb c34)]at g_v47
        rcases Bool.eq_false_or_eq_true (a3_==[117,110,100,111])with c40|c40
        ·rw[if_pos (c40)]at g_v47
         cases g_v47
        ·rw[if_neg (nb c40)]at g_v47
         cases g_v47
  intro _ hsub
  try dsimp only at h
  refine Goes.sub hsub ?_
  refine sq (Goes.rg fol [(4,.ptr 0 0),(8,.ptr 1 0),(9,.i bad_46)] [bZ,.cells [.i x4,vl qb l45]] ?_)
  refine sq (Goes.rg fol [(4,.ptr 0 0),(5,.i bad_46)] [.cells [.i x4,vl qb l45],.cells [.i x4,vl qb l45]] ?_)
  refine Goes.ret ?_
  simp only[Option.some.injEq,Prod.mk.injEq]at h
  obtain⟨rfl,rfl,rfl⟩:=h
  exact(Goes.retH (xs:=[.agg [.i x4,vl qb l45],.i bad_46]) (by kernel_rfl) (Sub.norm [] [] (by rw[hB];rfl) rfl (.keep (.tupleL (qg.cons (.aggL (qg.cons (.same nI) (qg.cons (.same (qh qb _)) qg.nil))) (qg.cons (.same nI) qg.nil))) .nil) .nil))
def jA (N:Nat) (a0_:List ql) (a1_:Option (List StateT)) (a2_:Int) (a3_:Str) (a4_:List Str) (a5_:List Int) (a6_:Str):Option ((List ql)×(Option (List StateT))×Int):=
 if(!decide (a2_=(w64 ((a0_.length:Int)+1))))=true then
 some (a0_,a1_,11)
 else
 if(a3_==[117,110,100,111])=true then
 ((match a1_ with
 |none=>
 some ((none:Option (List StateT)),decide (0=0))
 |some l6=>
 some ((some l6),decide ((l6.length:Int)=0))):Option ((Option (List StateT))×Bool)).bind fun(o7,b8)=>
 if b8=true then
 some (a0_,o7,12)
 else
 ((match o7 with
 |none=>
 (cut ([]:List StateT) 0 (w64 (0-1))).bind fun s12=>
 some (none:Option (List StateT))
 |some l11=>
 (cut l11 0 (w64 ((l11.length:Int)-1))).bind fun l13=>
 some (some l13)):Option (Option (List StateT))).bind fun o14=>
 (z8 (⟨a2_,a3_,a4_,a5_,a6_⟩:ql)).bind fun r16=>
 (app 88 a0_ [r16]).bind fun l17=>
 some (l17,o14,0)
 else
 (kM a0_ a1_).bind fun(o19,n20,l21)=>
 (qG N n20 l21 a2_ a3_ a4_ a5_ a6_).bind fun(n23,l24,e_25)=>
 if(!decide (e_25=0))=true then
 some (a0_,o19,e_25)
 else
 ((match o19 with
 |none=>
 some ([(⟨a2_,(⟨n23,l24⟩:vY)⟩:StateT)]:List StateT)
 |some l27=>
 (app 40 l27 [(⟨a2_,(⟨n23,l24⟩:vY)⟩:StateT)]).bind fun l28=>
 some l28):Option (List StateT)).bind fun l29=>
 (z8 (⟨a2_,a3_,a4_,a5_,a6_⟩:ql)).bind fun r31=>
 (app 88 a0_ [r31]).bind fun l32=>
 some (l32,(some l29),0)
theorem qbE (N:Nat) (a0_:List ql) (a1_:Option (List StateT)) (a2_:Int) (a3_:Str) (a4_:List Str) (a5_:List Int) (a6_:Str) {l1:List ql} {o2:Option (List StateT)} {h_3:Int} (h:jA N a0_ a1_ a2_ a3_ a4_ a5_ a6_=some (l1,o2,h_3)):qw Tryz.prog (.fn 91) [.ptr 0 0,.agg (cF a2_ a3_ a4_ a5_ a6_)] [.cells [.gslice 1 a0_.length 5,hsl 2 3 a1_],.cells (a0_.flatMap qc.c),.cells ((hof a1_).flatMap qo.c)] (.i h_3) [.cells [.gslice 3 l1.length 5,hsl 4 3 o2],.dead,.dead,.cells (l1.flatMap qc.c),.cells ((hof o2).flatMap qo.c)]:=by
 unfold jA at h
 refine Goes.fnH Tryz.func91 rfl rfl (m:=73) rfl (rs:=[.tmp 4]) rfl (l:=[(0,.ptr 0 0),(1,.agg (cF a2_ a3_ a4_ a5_ a6_))]) rfl ?_
 intro B hB
 refine sq (Goes.rg fol [(0,.ptr 0 0),(3,.ptr 3 0)] [.cells [.gslice 1 a0_.length 5,hsl 2 3 a1_],.cells (a0_.flatMap qc.c),.cells ((hof a1_).flatMap qo.c),.cells (cF a2_ a3_ a4_ a5_ a6_)] ?_)
 refine sq ?_
 refine sq (Goes.rg fol [(0,.ptr 0 0),(3,.ptr 3 0),(15,.bool (!decide (a2_=(w64 ((a0_.length:Int)+1)))))] [.cells [.gslice 1 a0_.length 5,hsl 2 3 a1_],.cells (a0_.flatMap qc.c),.cells ((hof a1_).flatMap qo.c),.cells (cF a2_ a3_ a4_ a5_ a6_)] ?_)
 refine Goes.ifB (b:=!decide (a2_=(w64 ((a0_.length:Int)+1)))) (by kernel_rfl) (fun c4=>?_) (fun c4=>?_)
 ·rw[if_pos (c4)]at h
  refine sq (Goes.rg fol [(4,.i 11)] [.cells [.gslice 1 a0_.length 5,hsl 2 3 a1_],.cells (a0_.flatMap qc.c),.cells ((hof a1_).flatMap qo.c),.cells (cF a2_ a3_ a4_ a5_ a6_)] ?_)
  refine Goes.ret ?_
  simp only[Option.some.injEq,Prod.mk.injEq]at h
  obtain⟨rfl,rfl,rfl⟩:=h
  exact(Goes.retH (xs:=[.i 11]) (by kernel_rfl) (Sub.norm [] [some 0,some 1,some 2,some 1,some 2] (by rw[hB];rfl) rfl (.keep (.same nI) .nil) (.keep rfl (.cells (qg.cons (.gslice rfl) (qg.cons ((kF.hs rfl)) qg.nil))) rfl rfl (.lost (.lost (.keep rfl (.same fa) rfl rfl (.keep rfl (.same fa) rfl rfl .nil)))))))
 ·rw[if_neg (nb c4)]at h
  refine Goes.skip ?_
  refine sq ?_
  refine sq (Goes.rg fol [(0,.ptr 0 0),(3,.ptr 3 0),(18,.bool (a3_==[117,110,100,111]))] [.cells [.gslice 1 a0_.length 5,hsl 2 3 a1_],.cells (a0_.flatMap qc.c),.cells ((hof a1_).flatMap qo.c),.cells (cF a2_ a3_ a4_ a5_ a6_)] ?_)
  refine Goes.ifB (b:=a3_==[117,110,100,111]) (by kernel_rfl) (fun c5=>?_) (fun c5=>?_)
  ·rw[if_pos (c5)]at h
   refine sq ?_
   refine sq ?_
   obtain⟨⟨o7,b8⟩,g_v9,h⟩:=bnd h
   refine Goes.cutS (s':=(ofG 73 [(0,.ptr 0 0),(3,.ptr 3 0),(24,.bool b8)],[.cells [.gslice 1 a0_.length 5,hsl 2 3 o7],.cells (a0_.flatMap qc.c),.cells ((hof o7).flatMap qo.c),.cells (cF a2_ a3_ a4_ a5_ a6_)])) ?_ ?_
   ·rcases a1_ with _|l6
    ·try dsimp only at g_v9
     simp only[Option.some.injEq,Prod.mk.injEq]at g_v9
     obtain⟨rfl,rfl⟩:=g_v9
     exact qp.sub (qp.rg fol [(0,.ptr 0 0),(3,.ptr 3 0),(24,.bool (decide (0=0)))] [.cells [.gslice 1 a0_.length 5,.nilslice],.cells (a0_.flatMap qc.c),.cells ((hof (none:Option (List StateT))).flatMap qo.c),.cells (cF a2_ a3_ a4_ a5_ a6_)]) (Sub.norm [] [some 0,some 1,some 2,some 3] (by rw[hB];rfl) rfl (.keep (.ptr rfl) (.keep (.ptr rfl) (.keep (.same nB) .nil))) (.keep rfl (.cells (qg.cons (.gslice rfl) (qg.cons (kF.hs0) qg.nil))) rfl rfl (.keep rfl (.same fa) rfl rfl (.keep rfl (.same fa) rfl rfl (.keep rfl (.same (qf.cons nI (qf.cons nS (qf.cons (qh encS _) (qf.cons (qh encI _) (qf.cons nS qf.nil)))))) rfl rfl .nil)))))
    ·try dsimp only at g_v9
     simp only[Option.some.injEq,Prod.mk.injEq]at g_v9
     obtain⟨rfl,rfl⟩:=g_v9
     exact qp.sub (qp.rg fol [(0,.ptr 0 0),(3,.ptr 3 0),(24,.bool (decide ((l6.length:Int)=0)))] [.cells [.gslice 1 a0_.length 5,.oslice 2 l6.length 3],.cells (a0_.flatMap qc.c),.cells (l6.flatMap qo.c),.cells (cF a2_ a3_ a4_ a5_ a6_)]) (Sub.norm [] [some 0,some 1,some 2,some 3] (by rw[hB];rfl) rfl (.keep (.ptr rfl) (.keep (.ptr rfl) (.keep (.same nB) .nil))) (.keep rfl (.cells (qg.cons (.gslice rfl) (qg.cons ((kF.hs1 rfl)) qg.nil))) rfl rfl (.keep rfl (.same fa) rfl rfl (.keep rfl (.same fa) rfl rfl (.keep rfl (.same (qf.cons nI (qf.cons nS (qf.cons (qh encS _) (qf.cons (qh encI _) (qf.cons nS qf.nil)))))) rfl rfl .nil)))))
   intro _ hsub
   try dsimp only at h
   refine Goes.sub hsub ?_
   refine Goes.ifB (b:=b8) (by kernel_rfl) (fun c10=>?_) (fun c10=>?_)
   ·rw[if_pos (c10)]at h
    refine sq (Goes.rg fol [(4,.i 12)] [.cells [.gslice 1 a0_.length 5,hsl 2 3 o7],.cells (a0_.flatMap qc.c),.cells ((hof o7).flatMap qo.c),.cells (cF a2_ a3_ a4_ a5_ a6_)] ?_)
    refine Goes.ret ?_
    simp only[Option.some.injEq,Prod.mk.injEq]at h
    obtain⟨rfl,rfl,rfl⟩:=h
    exact(Goes.retH (xs:=[.i 12]) (by kernel_rfl) (Sub.norm [] [some 0,some 1,some 2,some 1,some 2] (by rw[hB];rfl) rfl (.keep (.same nI) .nil) (.keep rfl (.cells (qg.cons (.gslice rfl) (qg.cons ((kF.hs rfl)) qg.nil))) rfl rfl (.lost (.lost (.keep rfl (.same fa) rfl rfl (.keep rfl (.same fa) rfl rfl .nil)))))))
   ·rw[if_neg (nb c10)]at h
    refine Goes.skip ?_
    obtain⟨o14,g_v15,h⟩:=bnd h
    refine Goes.cutS (s':=(ofG 73 [(0,.ptr 0 0),(3,.ptr 3 0)],[.cells [.gslice 1 a0_.length 5,hsl 2 3 o14],.cells (a0_.flatMap qc.c),.cells ((hof o14).flatMap qo.c),.cells (cF a2_ a3_ a4_ a5_ a6_)])) ?_ ?_
    ·rcases o7 with _|l11
     ·try dsimp only at g_v15
      obtain⟨s12,e_s12,g_v15⟩:=bnd g_v15
      obtain rfl:=si g_v15
      exact qp.sub (qp.rq fol [11] [(0,.ptr 0 0),(3,.ptr 3 0)] [.cells [.gslice 1 a0_.length 5,.nilslice],.cells (a0_.flatMap qc.c),.cells ((hof (none:Option (List StateT))).flatMap qo.c),.cells (cF a2_ a3_ a4_ a5_ a6_)] (ac (hs (.done (.opt (kU Tryz.prog 163 .nilslice none (some (.i (w64 (0-1)))) none)) .nilslice) (qnr (α:=StateT) qkj none (some (w64 (0-1))) e_s12)) az)) (Sub.norm [] [some 0,some 1,some 2,some 3] (by rw[hB];rfl) rfl (.keep (.ptr rfl) (.keep (.ptr rfl) .nil)) (.keep rfl (.cells (qg.cons (.gslice rfl) (qg.cons (kF.hs0) qg.nil))) rfl rfl (.keep rfl (.same fa) rfl rfl (.keep rfl (.same fa) rfl rfl (.keep rfl (.same (qf.cons nI (qf.cons nS (qf.cons (qh encS _) (qf.cons (qh encI _) (qf.cons nS qf.nil)))))) rfl rfl .nil)))))
     ·try dsimp only at g_v15
      obtain⟨l13,e_l13,g_v15⟩:=bnd g_v15
      obtain rfl:=si g_v15
      exact qp.sub (qp.rq fol [11] [(0,.ptr 0 0),(3,.ptr 3 0)] [.cells [.gslice 1 a0_.length 5,.oslice 2 l13.length 3],.cells (a0_.flatMap qc.c),.cells (l11.flatMap qo.c),.cells (cF a2_ a3_ a4_ a5_ a6_)] (ac (hs (.done (.opt (kU Tryz.prog 163 (.oslice 2 l11.length 3) none (some (.i (w64 ((l11.length:Int)-1)))) none)) (.oslice 2 l13.length 3)) (sh_os qkj e_l13)) az)) ((show Sub (ofG 73 [(0,.ptr 0 0),(3,.ptr 3 0)],[.cells [.gslice 1 a0_.length 5,.oslice 2 l13.length 3],.cells (a0_.flatMap qc.c),.cells (l11.flatMap qo.c),.cells (cF a2_ a3_ a4_ a5_ a6_)]) (ofG 73 [(0,.ptr 0 0),(3,.ptr 3 0)],[.cells [.gslice 1 a0_.length 5,.oslice 2 l13.length 3],.cells (a0_.flatMap qc.c),.cells (l13.flatMap qo.c),.cells (cF a2_ a3_ a4_ a5_ a6_)])from(Sub.norm [] [some 0,some 1,some 2,some 3] (by rw[hB];rfl) rfl (.keep (.ptr rfl) (.keep (.ptr rfl) .nil)) (.keep rfl (.cells (qg.cons (.gslice rfl) (qg.cons (.oslice rfl) qg.nil))) rfl rfl (.keep rfl (.same fa) rfl rfl (.keep rfl (qbF.cut e_l13) rfl rfl (.keep rfl (.same (qf.cons nI (qf.cons nS (qf.cons (qh encS _) (qf.cons (qh encI _) (qf.cons nS qf.nil)))))) rfl rfl .nil)))))).trans (Sub.norm [] [some 0,some 1,some 2,some 3] (by rw[hB];rfl) rfl (.keep (.ptr rfl) (.keep (.ptr rfl) .nil)) (.keep rfl (.cells (qg.cons (.gslice rfl) (qg.cons ((kF.hs1 rfl)) qg.nil))) rfl rfl (.keep rfl (.same fa) rfl rfl (.keep rfl (.same fa) rfl rfl (.keep rfl (.same (qf.cons nI (qf.cons nS (qf.cons (qh encS _) (qf.cons (qh encI _) (qf.cons nS qf.nil)))))) rfl rfl .nil))))))
    intro _ hsub
    refine Goes.sub hsub ?_
    refine sq ?_
    obtain⟨r16,e_r16,h⟩:=bnd h
    obtain⟨l17,e_l17,h⟩:=bnd h
    refine Goes.rq fol [6,8] [] [.cells [.gslice 5 l17.length 5,hsl 2 3 o14],.dead,.cells ((hof o14).flatMap qo.c),.cells (cF a2_ a3_ a4_ a5_ a6_),.cells (cE r16),.cells (l17.flatMap qc.c)] (ac (cv (qaE (⟨a2_,a3_,a4_,a5_,a6_⟩:ql) e_r16)) (ac (hs (.run [1,4] (qQ Tryz.prog [22,22] (.gslice 1 a0_.length 5) (.slice 4 0 1 1 5)) [.cells [.gslice 1 a0_.length 5,hsl 2 3 o14],.cells (a0_.flatMap qc.c),.cells ((hof o14).flatMap qo.c),.cells (cF a2_ a3_ a4_ a5_ a6_),.cells (cE r16)] (.gslice 5 l17.length 5) [.cells [.gslice 1 a0_.length 5,hsl 2 3 o14],.dead,.cells ((hof o14).flatMap qo.c),.cells (cF a2_ a3_ a4_ a5_ a6_),.cells (cE r16),.cells (l17.flatMap qc.c)] true) (kN vM (E:=qc) rfl (xR (E:=qc) (ys:=[r16]) rfl rfl rfl rfl) (qb4 (E:=qc) (l:=a0_) rfl rfl rfl e_l17 rfl))) az)) ?_
    refine sq (Goes.rg fol [(4,.i 0)] [.cells [.gslice 5 l17.length 5,hsl 2 3 o14],.dead,.cells ((hof o14).flatMap qo.c),.cells (cF a2_ a3_ a4_ a5_ a6_),.cells (cE r16),.cells (l17.flatMap qc.c)] ?_)
    refine Goes.ret ?_
    simp only[Option.some.injEq,Prod.mk.injEq]at h
    obtain⟨rfl,rfl,rfl⟩:=h
    exact(Goes.retH (xs:=[.i 0]) (by kernel_rfl) (Sub.norm [] [some 0,some 1,some 2,some 5,some 2] (by rw[hB];rfl) rfl (.keep (.same nI) .nil) (.keep rfl (.cells (qg.cons (.gslice rfl) (qg.cons ((kF.hs rfl)) qg.nil))) rfl rfl (.lost (.lost (.keep rfl (.same fa) rfl rfl (.keep rfl (.same fa) rfl rfl .nil)))))))
  ·rw[if_neg (nb c5)]at h
   refine sq ?_
   obtain⟨⟨o19,n20,l21⟩,e_r18,h⟩:=bnd h
   try dsimp only at h
   obtain⟨⟨n23,l24,e_25⟩,e_r22,h⟩:=bnd h
   try dsimp only at h
   refine Goes.rq fol [1,3] [(0,.ptr 0 0),(3,.ptr 3 0),(5,.ptr 4 0),(6,.i e_25)] [.cells [.gslice 1 a0_.length 5,hsl 2 3 o19],.cells (a0_.flatMap qc.c),.cells ((hof o19).flatMap qo.c),.cells (cF a2_ a3_ a4_ a5_ a6_),.cells [.i n23,vl qb l24]] (ac (hs (.callH 81 [.ptr 0 0] [.cells [.gslice 1 a0_.length 5,hsl 2 3 a1_],.cells (a0_.flatMap qc.c),.cells ((hof a1_).flatMap qo.c),.cells (cF a2_ a3_ a4_ a5_ a6_)] [0,1,2] (.agg [.i n20,vl qb l21]) [.cells [.gslice 1 a0_.length 5,hsl 2 3 o19],.cells (a0_.flatMap qc.c),.cells ((hof o19).flatMap qo.c),.cells (cF a2_ a3_ a4_ a5_ a6_)]) (jl [some 0,some 1,some 2] [some 0,some 1,some 2,none] (qbf a0_ a1_ e_r18) (.keep rfl (.cells (qg.cons (.gslice rfl) (qg.cons ((kF.hs rfl)) qg.nil))) rfl rfl (.keep rfl (.same fa) rfl rfl (.keep rfl (.same fa) rfl rfl .nil))) rfl rfl (.back rfl rfl (.cells (qg.cons (.gslice rfl) (qg.cons ((kF.hs rfl)) qg.nil))) rfl (.back rfl rfl (.same fa) rfl (.back rfl rfl (.same fa) rfl (.old rfl rfl .nil)))) (qg.cons (.ptr rfl) qg.nil) (.same (qx.agg (qf.cons nI (qf.cons (qh qb _) qf.nil)))) rfl)) (ac (hs (.callH 147 [.agg [.i n20,vl qb l21],.agg (cF a2_ a3_ a4_ a5_ a6_)] [.cells [.gslice 1 a0_.length 5,hsl 2 3 o19],.cells (a0_.flatMap qc.c),.cells ((hof o19).flatMap qo.c),.cells (cF a2_ a3_ a4_ a5_ a6_)] [] (.tuple [.agg [.i n23,vl qb l24],.i e_25]) [.cells [.gslice 1 a0_.length 5,hsl 2 3 o19],.cells (a0_.flatMap qc.c),.cells ((hof o19).flatMap qo.c),.cells (cF a2_ a3_ a4_ a5_ a6_)]) (jl [] [none,none,none,none] (qbg N n20 l21 a2_ a3_ a4_ a5_ a6_ e_r22) .nil rfl rfl (.old rfl rfl (.old rfl rfl (.old rfl rfl (.old rfl rfl .nil)))) (qg.cons (.same (qx.agg (qf.cons nI (qf.cons (qh qb _) qf.nil)))) (qg.cons (.same (qx.agg (qf.cons nI (qf.cons nS (qf.cons (qh encS _) (qf.cons (qh encI _) (qf.cons nS qf.nil))))))) qg.nil)) (.same (qx.tuple (qf.cons (qx.agg (qf.cons nI (qf.cons (qh qb _) qf.nil))) (qf.cons nI qf.nil)))) rfl)) az)) ?_
   refine sq ?_
   refine sq (Goes.rg fol [(0,.ptr 0 0),(3,.ptr 3 0),(5,.ptr 4 0),(6,.i e_25),(47,.bool (!decide (e_25=0)))] [.cells [.gslice 1 a0_.length 5,hsl 2 3 o19],.cells (a0_.flatMap qc.c),.cells ((hof o19).flatMap qo.c),.cells (cF a2_ a3_ a4_ a5_ a6_),.cells [.i n23,vl qb l24]] ?_)
   refine Goes.ifB (b:=!decide (e_25=0)) (by kernel_rfl) (fun c26=>?_) (fun c26=>?_)
   ·rw[if_pos (c26)]at h
    refine sq (Goes.rg fol [(4,.i e_25)] [.cells [.gslice 1 a0_.length 5,hsl 2 3 o19],.cells (a0_.flatMap qc.c),.cells ((hof o19).flatMap qo.c),.cells (cF a2_ a3_ a4_ a5_ a6_),.cells [.i n23,vl qb l24]] ?_)
    refine Goes.ret ?_
    simp only[Option.some.injEq,Prod.mk.injEq]at h
    obtain⟨rfl,rfl,rfl⟩:=h
    exact(Goes.retH (xs:=[.i e_25]) (by kernel_rfl) (Sub.norm [] [some 0,some 1,some 2,some 1,some 2] (by rw[hB];rfl) rfl (.keep (.same nI) .nil) (.keep rfl (.cells (qg.cons (.gslice rfl) (qg.cons ((kF.hs rfl)) qg.nil))) rfl rfl (.lost (.lost (.keep rfl (.same fa) rfl rfl (.keep rfl (.same fa) rfl rfl .nil)))))))
   ·rw[if_neg (nb c26)]at h
    refine Goes.skip ?_
    obtain⟨l29,g_v30,h⟩:=bnd h
    refine Goes.cutS (s':=(ofG 73 [(0,.ptr 0 0),(3,.ptr 4 0)],[.cells [.gslice 1 a0_.length 5,.oslice 3 l29.length 3],.cells (a0_.flatMap qc.c),.dead,.cells (l29.flatMap qo.c),.cells (cF a2_ a3_ a4_ a5_ a6_)])) ?_ ?_
    ·rcases o19 with _|l27
     ·try dsimp only at g_v30
      obtain rfl:=si g_v30
      exact qp.sub (qp.rg fol [(0,.ptr 0 0),(3,.ptr 3 0)] [.cells [.gslice 1 a0_.length 5,.oslice 6 1 3],.cells (a0_.flatMap qc.c),.cells ((hof (none:Option (List StateT))).flatMap qo.c),.cells (cF a2_ a3_ a4_ a5_ a6_),.cells [.i n23,vl qb l24],.cells [.i a2_,.i n23,vl qb l24],.cells [.i a2_,.i n23,vl qb l24]]) (Sub.norm [] [some 0,some 1,some 2,some 6,some 3] (by rw[hB];rfl) rfl (.keep (.ptr rfl) (.keep (.ptr rfl) .nil)) (.keep rfl (.cells (qg.cons (.gslice rfl) (qg.cons ((kF.osliceE rfl rfl)) qg.nil))) rfl rfl (.keep rfl (.same fa) rfl rfl (.lost (.keep rfl (.same fa) rfl rfl (.keep rfl (.same (qf.cons nI (qf.cons nS (qf.cons (qh encS _) (qf.cons (qh encI _) (qf.cons nS qf.nil)))))) rfl rfl .nil))))))
     ·try dsimp only at g_v30
      obtain⟨l28,e_l28,g_v30⟩:=bnd g_v30
      obtain rfl:=si g_v30
      exact qp.sub (qp.rq fol [10] [(0,.ptr 0 0),(3,.ptr 3 0)] [.cells [.gslice 1 a0_.length 5,.oslice 6 l28.length 3],.cells (a0_.flatMap qc.c),.dead,.cells (cF a2_ a3_ a4_ a5_ a6_),.cells [.i n23,vl qb l24],.cells [.i a2_,.i n23,vl qb l24],.cells (l28.flatMap qo.c)] (ac (hs (.run [2,5] (qQ Tryz.prog [163,163] (.oslice 2 l27.length 3) (.slice 5 0 1 1 3)) [.cells [.gslice 1 a0_.length 5,.oslice 2 l27.length 3],.cells (a0_.flatMap qc.c),.cells (l27.flatMap qo.c),.cells (cF a2_ a3_ a4_ a5_ a6_),.cells [.i n23,vl qb l24],.cells [.i a2_,.i n23,vl qb l24]] (.oslice 6 l28.length 3) [.cells [.gslice 1 a0_.length 5,.oslice 2 l27.length 3],.cells (a0_.flatMap qc.c),.dead,.cells (cF a2_ a3_ a4_ a5_ a6_),.cells [.i n23,vl qb l24],.cells [.i a2_,.i n23,vl qb l24],.cells (l28.flatMap qo.c)] true) (kN qkj (E:=qo) rfl (xR (E:=qo) (ys:=[(⟨a2_,(⟨n23,l24⟩:vY)⟩:StateT)]) rfl rfl rfl rfl) (qfA (E:=qo) (l:=l27) rfl rfl rfl e_l28 rfl))) az)) (Sub.norm [] [some 0,some 1,some 2,some 6,some 3] (by rw[hB];rfl) rfl (.keep (.ptr rfl) (.keep (.ptr rfl) .nil)) (.keep rfl (.cells (qg.cons (.gslice rfl) (qg.cons (.oslice rfl) qg.nil))) rfl rfl (.keep rfl (.same fa) rfl rfl (.lost (.keep rfl (.same fa) rfl rfl (.keep rfl (.same (qf.cons nI (qf.cons nS (qf.cons (qh encS _) (qf.cons (qh encI _) (qf.cons nS qf.nil)))))) rfl rfl .nil))))))
    intro _ hsub
    refine Goes.sub hsub ?_
    refine sq ?_
    obtain⟨r31,e_r31,h⟩:=bnd h
    obtain⟨l32,e_l32,h⟩:=bnd h
    refine Goes.rq fol [6,8] [] [.cells [.gslice 6 l32.length 5,.oslice 3 l29.length 3],.dead,.dead,.cells (l29.flatMap qo.c),.cells (cF a2_ a3_ a4_ a5_ a6_),.cells (cE r31),.cells (l32.flatMap qc.c)] (ac (cv (qaE (⟨a2_,a3_,a4_,a5_,a6_⟩:ql) e_r31)) (ac (hs (.run [1,5] (qQ Tryz.prog [22,22] (.gslice 1 a0_.length 5) (.slice 5 0 1 1 5)) [.cells [.gslice 1 a0_.length 5,.oslice 3 l29.length 3],.cells (a0_.flatMap qc.c),.dead,.cells (l29.flatMap qo.c),.cells (cF a2_ a3_ a4_ a5_ a6_),.cells (cE r31)] (.gslice 6 l32.length 5) [.cells [.gslice 1 a0_.length 5,.oslice 3 l29.length 3],.dead,.dead,.cells (l29.flatMap qo.c),.cells (cF a2_ a3_ a4_ a5_ a6_),.cells (cE r31),.cells (l32.flatMap qc.c)] true) (kN vM (E:=qc) rfl (xR (E:=qc) (ys:=[r31]) rfl rfl rfl rfl) (qb4 (E:=qc) (l:=a0_) rfl rfl rfl e_l32 rfl))) az)) ?_
    refine sq (Goes.rg fol [(4,.i 0)] [.cells [.gslice 6 l32.length 5,.oslice 3 l29.length 3],.dead,.dead,.cells (l29.flatMap qo.c),.cells (cF a2_ a3_ a4_ a5_ a6_),.cells (cE r31),.cells (l32.flatMap qc.c)] ?_)
    refine Goes.ret ?_
    simp only[Option.some.injEq,Prod.mk.injEq]at h
    obtain⟨rfl,rfl,rfl⟩:=h
    exact(Goes.retH (xs:=[.i 0]) (by kernel_rfl) (Sub.norm [] [some 0,some 1,some 2,some 6,some 3] (by rw[hB];rfl) rfl (.keep (.same nI) .nil) (.keep rfl (.cells (qg.cons (.gslice rfl) (qg.cons ((kF.hs1 rfl)) qg.nil))) rfl rfl (.lost (.lost (.keep rfl (.same fa) rfl rfl (.keep rfl (.same fa) rfl rfl .nil)))))))
def zM (N:Nat) (a0_:List ql) (a1_:Option (List StateT)) (a2_:Int) (a3_:Str) (a4_:List Str) (a5_:List Int) (a6_:Str):Option ((List ql)×(Option (List StateT))×Int):=
 (vR N (⟨a2_,a3_,a4_,a5_,a6_⟩:ql)).bind fun r4=>
 if(!decide (r4=0))=true then
 some (a0_,a1_,r4)
 else
 (jA N a0_ a1_ a2_ a3_ a4_ a5_ a6_).bind fun(l7,o8,h_9)=>
 some (l7,o8,h_9)
theorem qay (N:Nat) (a0_:List ql) (a1_:Option (List StateT)) (a2_:Int) (a3_:Str) (a4_:List Str) (a5_:List Int) (a6_:Str) {l1:List ql} {o2:Option (List StateT)} {h_3:Int} (h:zM N a0_ a1_ a2_ a3_ a4_ a5_ a6_=some (l1,o2,h_3)):qw Tryz.prog (.fn 128) [.ptr 0 0,.agg (cF a2_ a3_ a4_ a5_ a6_)] [.cells [.gslice 1 a0_.length 5,hsl 2 3 a1_],.cells (a0_.flatMap qc.c),.cells ((hof a1_).flatMap qo.c)] (.i h_3) [.cells [.gslice 3 l1.length 5,hsl 4 3 o2],.dead,.dead,.cells (l1.flatMap qc.c),.cells ((hof o2).flatMap qo.c)]:=by
 unfold zM at h
 refine Goes.fnH Tryz.func128 rfl rfl (m:=14) rfl (rs:=[.tmp 4]) rfl (l:=[(0,.ptr 0 0),(1,.agg (cF a2_ a3_ a4_ a5_ a6_))]) rfl ?_
 intro B hB
 refine sq (Goes.rg fol [(0,.ptr 0 0),(3,.ptr 3 0)] [.cells [.gslice 1 a0_.length 5,hsl 2 3 a1_],.cells (a0_.flatMap qc.c),.cells ((hof a1_).flatMap qo.c),.cells (cF a2_ a3_ a4_ a5_ a6_)] ?_)
 refine sq ?_
 refine sq ?_
 obtain⟨r4,e_r4,h⟩:=bnd h
 refine Goes.rq fol [1] [(0,.ptr 0 0),(3,.ptr 3 0),(5,.i r4)] [.cells [.gslice 1 a0_.length 5,hsl 2 3 a1_],.cells (a0_.flatMap qc.c),.cells ((hof a1_).flatMap qo.c),.cells (cF a2_ a3_ a4_ a5_ a6_)] (ac (cv (qcZ N (⟨a2_,a3_,a4_,a5_,a6_⟩:ql) e_r4)) az) ?_
 refine sq (Goes.rg fol [(0,.ptr 0 0),(3,.ptr 3 0),(5,.i r4),(9,.bool (!decide (r4=0)))] [.cells [.gslice 1 a0_.length 5,hsl 2 3 a1_],.cells (a0_.flatMap qc.c),.cells ((hof a1_).flatMap qo.c),.cells (cF a2_ a3_ a4_ a5_ a6_)] ?_)
 refine Goes.ifB (b:=!decide (r4=0)) (by kernel_rfl) (fun c5=>?_) (fun c5=>?_)
 ·rw[if_pos (c5)]at h
  refine sq (Goes.rg fol [(4,.i r4)] [.cells [.gslice 1 a0_.length 5,hsl 2 3 a1_],.cells (a0_.flatMap qc.c),.cells ((hof a1_).flatMap qo.c),.cells (cF a2_ a3_ a4_ a5_ a6_)] ?_)
  refine Goes.ret ?_
  simp only[Option.some.injEq,Prod.mk.injEq]at h
  obtain⟨rfl,rfl,rfl⟩:=h
  exact(Goes.retH (xs:=[.i r4]) (by kernel_rfl) (Sub.norm [] [some 0,some 1,some 2,some 1,some 2] (by rw[hB];rfl) rfl (.keep (.same nI) .nil) (.keep rfl (.cells (qg.cons (.gslice rfl) (qg.cons ((kF.hs rfl)) qg.nil))) rfl rfl (.lost (.lost (.keep rfl (.same fa) rfl rfl (.keep rfl (.same fa) rfl rfl .nil)))))))
 ·rw[if_neg (nb c5)]at h
  refine Goes.skip ?_
  refine sq ?_
  obtain⟨⟨l7,o8,h_9⟩,e_r6,h⟩:=bnd h
  try dsimp only at h
  refine Goes.rq fol [2] [(4,.i h_9)] [.cells [.gslice 4 l7.length 5,hsl 5 3 o8],.dead,.dead,.cells (cF a2_ a3_ a4_ a5_ a6_),.cells (l7.flatMap qc.c),.cells ((hof o8).flatMap qo.c)] (ac (hs (.callH 91 [.ptr 0 0,.agg (cF a2_ a3_ a4_ a5_ a6_)] [.cells [.gslice 1 a0_.length 5,hsl 2 3 a1_],.cells (a0_.flatMap qc.c),.cells ((hof a1_).flatMap qo.c),.cells (cF a2_ a3_ a4_ a5_ a6_)] [0,1,2] (.i h_9) [.cells [.gslice 4 l7.length 5,hsl 5 3 o8],.dead,.dead,.cells (cF a2_ a3_ a4_ a5_ a6_),.cells (l7.flatMap qc.c),.cells ((hof o8).flatMap qo.c)]) (jl [some 0,some 1,some 2] [some 0,none,none,none,some 3,some 4] (qbE N a0_ a1_ a2_ a3_ a4_ a5_ a6_ e_r6) (.keep rfl (.cells (qg.cons (.gslice rfl) (qg.cons ((kF.hs rfl)) qg.nil))) rfl rfl (.keep rfl (.same fa) rfl rfl (.keep rfl (.same fa) rfl rfl .nil))) rfl rfl (.back rfl rfl (.cells (qg.cons (.gslice rfl) (qg.cons ((kF.hs rfl)) qg.nil))) rfl (.dead (.dead (.old rfl rfl (.new rfl rfl (.same fa) rfl (.new rfl rfl (.same fa) rfl .nil)))))) (qg.cons (.ptr rfl) (qg.cons (.same (qx.agg (qf.cons nI (qf.cons nS (qf.cons (qh encS _) (qf.cons (qh encI _) (qf.cons nS qf.nil))))))) qg.nil)) (.same nI) rfl)) az) ?_
  refine Goes.ret ?_
  simp only[Option.some.injEq,Prod.mk.injEq]at h
  obtain⟨rfl,rfl,rfl⟩:=h
  exact(Goes.retH (xs:=[.i h_9]) (by kernel_rfl) (Sub.norm [] [some 0,some 1,some 2,some 4,some 5] (by rw[hB];rfl) rfl (.keep (.same nI) .nil) (.keep rfl (.cells (qg.cons (.gslice rfl) (qg.cons ((kF.hs rfl)) qg.nil))) rfl rfl (.lost (.lost (.keep rfl (.same fa) rfl rfl (.keep rfl (.same fa) rfl rfl .nil)))))))
def jO (a0_:qm) (a1_:List qm):Option (List qm):=
 (app 48 ([]:List qm) (a0_::a1_)).bind fun l2=>
 some l2
theorem qb7 (a0_:qm) (a1_:List qm) {l1:List qm} (h:jO a0_ a1_=some l1):qw Tryz.prog (.fn 123) [vl qa (a0_::a1_)] [] (.oslice 0 l1.length 4) [.cells (l1.flatMap qa.c)]:=by
 unfold jO at h
 refine Goes.fnH Tryz.func123 rfl rfl (m:=8) rfl (rs:=[.tmp 2]) rfl (l:=[(0,vl qa (a0_::a1_))]) rfl ?_
 intro B hB
 refine sq (Goes.rg fol [(0,vl qa (a0_::a1_))] [] ?_)
 refine sq ?_
 refine sq (Goes.rg fol [(0,vl qa (a0_::a1_)),(4,.bool false)] [] ?_)
 refine Goes.ifB (b:=false) (by kernel_rfl) (fun c=>(by cases c)) (fun _=>?_)
 refine Goes.skip ?_
 refine sq ?_
 obtain⟨l2,e_l2,h⟩:=bnd h
 refine Goes.rq fol [2] [(2,.oslice 1 l2.length 4)] [.dead,.cells (l2.flatMap qa.c)] (ac (hs (.run [0] (qQ Tryz.prog [96,96] (.slice 0 0 0 0 4) (vl qa (a0_::a1_))) [.cells []] (.oslice 1 l2.length 4) [.dead,.cells (l2.flatMap qa.c)] true) (kN qbs (E:=qa) rfl (qa7 (E:=qa) rfl _) (qb2 (E:=qa) rfl rfl rfl e_l2 rfl))) az) ?_
 refine Goes.ret ?_
 obtain rfl:=si h
 exact(Goes.retH (xs:=[.oslice 1 l2.length 4]) (by kernel_rfl) (Sub.norm [] [some 1] (by rw[hB];rfl) rfl (.keep (.oslice rfl) .nil) (.keep rfl (.same fa) rfl rfl .nil)))
def qD (a1_:Int):Nat→(List qm)→Int→Option (List qm)
 |0,_,_=>none
 |K+1,l7,j_8=>
  (if j_8>a1_ then
  (idx l7 j_8).bind fun x12=>
  (idx l7 (w64 (j_8-1))).bind fun x13=>
  (xE x12 x13).bind fun r14=>
  some (decide (r14<0))
  else
  some false:Option Bool).bind fun b15=>
  if b15=true then
  (idx l7 (w64 (j_8-1))).bind fun x18=>
  (idx l7 j_8).bind fun x19=>
  (put l7 j_8 x18).bind fun l20=>
  (idx l20 (w64 (j_8-1))).bind fun x21=>
  (put l20 (w64 (j_8-1)) x19).bind fun l22=>
  qD a1_ K l22 (w64 (j_8-1))
  else
  some l7
def qA (N:Nat) (a1_:Int) (a2_:Int):Nat→(List qm)→Int→Option (List qm)
 |0,_,_=>none
 |K+1,l2,i_3=>
  if i_3<a2_ then
  (qD a1_ N l2 i_3).bind fun l9=>
  qA N a1_ a2_ K l9 (w64 (i_3+1))
  else
  some l2
def qP (N:Nat) (a0_:List qm) (a1_:Int) (a2_:Int):Option (List qm):=
 (qA N a1_ a2_ N a0_ (w64 (a1_+1))).bind fun l4=>
 some l4
theorem jP (N:Nat) (a0_:List qm) (a1_:Int) (a2_:Int) {l1:List qm} (h:qP N a0_ a1_ a2_=some l1):qw Tryz.prog (.fn 200) [.oslice 0 a0_.length 4,.i a1_,.i a2_,.func (.func 125) [] []] [.cells (a0_.flatMap qa.c)] (.tuple []) [.cells (l1.flatMap qa.c)]:=by
 unfold qP at h
 refine Goes.fnH Tryz.func200 rfl rfl (m:=53) rfl (rs:=[]) rfl (l:=[(0,.oslice 0 a0_.length 4),(1,.i a1_),(2,.i a2_),(3,.func (.func 125) [] [])]) rfl ?_
 intro B hB
 refine Goes.subQ ?_
 refine sq (Goes.rg fol [(0,.oslice 0 a0_.length 4),(1,.i a1_),(2,.i a2_),(3,.func (.func 125) [] []),(8,.i (w64 (a1_+1)))] [.cells (a0_.flatMap qa.c)] ?_)
 refine Goes.block ?_
 obtain⟨r5,g5,h⟩:=bnd h
 refine Goes.imp (Q:=fun x s'=>(x= .exit 0∧ ∃l4,l4=r5∧Sub s' (ofG 53 [],[.cells (l4.flatMap qa.c)]))) ?_ ?_
 ·refine Goes.loopS (fun M s=> ∃(l2:List qm) (i_3:Int),s=(ofG 53 [(0,.oslice 0 l2.length 4),(1,.i a1_),(2,.i a2_),(3,.func (.func 125) [] []),(8,.i i_3)],[.cells (l2.flatMap qa.c)])∧qA N a1_ a2_ M l2 i_3=some r5) ?_ (m:=N) ⟨_,_,rfl,g5⟩
  rintro M s ⟨l2,i_3,rfl,g5⟩
  cases M with
  |zero=>simp only[qA]at g5;cases g5
  |succ M=>
   rw[qA]at g5
   refine sq ?_
   refine sq (Goes.rg fol [(0,.oslice 0 l2.length 4),(1,.i a1_),(2,.i a2_),(3,.func (.func 125) [] []),(8,.i i_3),(14,.bool (decide (i_3<a2_)))] [.cells (l2.flatMap qa.c)] ?_)
   refine Goes.ifB (b:=decide (i_3<a2_)) (by kernel_rfl) (fun c6=>?_) (fun c6=>?_)
   ·rw[if_pos (ot c6)]at g5
    refine Goes.skip ?_
    refine sq (Goes.block ?_)
    refine sq (Goes.rg fol [(0,.oslice 0 l2.length 4),(1,.i a1_),(2,.i a2_),(3,.func (.func 125) [] []),(8,.i i_3),(9,.i i_3)] [.cells (l2.flatMap qa.c)] ?_)
    refine Goes.block ?_
    obtain⟨r10,g10,g5⟩:=bnd g5
    refine Goes.imp (Q:=fun x s'=>(x= .exit 2∧ ∃l9,l9=r10∧Sub s' (ofG 53 [(0,.oslice 0 l9.length 4),(1,.i a1_),(2,.i a2_),(3,.func (.func 125) [] []),(8,.i i_3)],[.cells (l9.flatMap qa.c)]))) ?_ ?_
    ·refine Goes.loopS (fun M s=> ∃(l7:List qm) (j_8:Int),s=(ofG 53 [(0,.oslice 0 l7.length 4),(1,.i a1_),(2,.i a2_),(3,.func (.func 125) [] []),(8,.i i_3),(9,.i j_8)],[.cells (l7.flatMap qa.c)])∧qD a1_ M l7 j_8=some r10) ?_ (m:=N) ⟨_,_,rfl,g10⟩
     rintro M s ⟨l7,j_8,rfl,g10⟩
     cases M with
     |zero=>simp only[qD]at g10;cases g10
     |succ M=>
      rw[qD]at g10
      refine sq ?_
      refine sq ?_
      obtain⟨b15,g_v16,g10⟩:=bnd g10
      refine Goes.cut (s':=(ofG 53 [(0,.oslice 0 l7.length 4),(1,.i a1_),(2,.i a2_),(3,.func (.func 125) [] []),(8,.i i_3),(9,.i j_8),(34,.bool b15)],[.cells (l7.flatMap qa.c)])) ?_ ?_
      ·rcases Bool.eq_false_or_eq_true (decide (j_8>a1_))with c11|c11
       ·rw[if_pos (ot c11)]at g_v16
        obtain⟨x12,e_x12,g_v16⟩:=bnd g_v16
        obtain⟨x13,e_x13,g_v16⟩:=bnd g_v16
        obtain⟨r14,e_r14,g_v16⟩:=bnd g_v16
        obtain rfl:=si g_v16
        exact qp.rq fol [3,7,8,12,13,14] [(0,.oslice 0 l7.length 4),(1,.i a1_),(2,.i a2_),(3,.func (.func 125) [] []),(8,.i i_3),(9,.i j_8),(34,.bool (decide (r14<0)))] [.cells (l7.flatMap qa.c)] (ac (gw c11) (ac (hs (.done (.opt (qF Tryz.prog 96 (.oslice 0 l7.length 4) (.i j_8))) (.ptr 0 ((j_8:Int).toNat*4+0))) (qaU qbs e_x12)) (ac (hs (.run [0] (jd Tryz.prog 132 (.ptr 0 ((j_8:Int).toNat*4+0))) [.cells (l7.flatMap qa.c)] (.agg [.str x12.Desk,.i x12.Number,.i x12.Clock,.str x12.Line]) [.cells (l7.flatMap qa.c)] false) (qfu qbM (E:=qa) (l:=l7) rfl rfl e_x12)) (ac (hs (.done (.opt (qF Tryz.prog 96 (.oslice 0 l7.length 4) (.i (w64 (j_8-1))))) (.ptr 0 ((w64 (j_8-1):Int).toNat*4+0))) (qaU qbs e_x13)) (ac (hs (.run [0] (jd Tryz.prog 132 (.ptr 0 ((w64 (j_8-1):Int).toNat*4+0))) [.cells (l7.flatMap qa.c)] (.agg [.str x13.Desk,.i x13.Number,.i x13.Clock,.str x13.Line]) [.cells (l7.flatMap qa.c)] false) (qfu qbM (E:=qa) (l:=l7) rfl rfl e_x13)) (ac (cv (qbN x12 x13 e_r14)) az))))))
       ·rw[if_neg (of_ c11)]at g_v16
        obtain rfl:=si g_v16
        exact qp.rq fol [3] [(0,.oslice 0 l7.length 4),(1,.i a1_),(2,.i a2_),(3,.func (.func 125) [] []),(8,.i i_3),(9,.i j_8),(34,.bool false)] [.cells (l7.flatMap qa.c)] (ac (gw c11) az)
      refine Goes.ifB (b:=b15) (by kernel_rfl) (fun c17=>?_) (fun c17=>?_)
      ·rw[if_pos (c17)]at g10
       refine Goes.skip ?_
       refine sq (Goes.block ?_)
       obtain⟨x18,e_x18,g10⟩:=bnd g10
       obtain⟨x19,e_x19,g10⟩:=bnd g10
       obtain⟨l20,e_l20,g10⟩:=bnd g10
       obtain⟨x21,e_x21,g10⟩:=bnd g10
       obtain⟨l22,e_l22,g10⟩:=bnd g10
       refine Goes.rq fol [8,9,12,13,14,15,16,17] [(0,.oslice 0 l7.length 4),(1,.i a1_),(2,.i a2_),(3,.func (.func 125) [] []),(8,.i i_3),(9,.i j_8)] [.cells (l22.flatMap qa.c)] (ac (hs (.done (.opt (qF Tryz.prog 96 (.oslice 0 l7.length 4) (.i (w64 (j_8-1))))) (.ptr 0 ((w64 (j_8-1):Int).toNat*4+0))) (qaU qbs e_x18)) (ac (hs (.run [0] (jd Tryz.prog 132 (.ptr 0 ((w64 (j_8-1):Int).toNat*4+0))) [.cells (l7.flatMap qa.c)] (.agg [.str x18.Desk,.i x18.Number,.i x18.Clock,.str x18.Line]) [.cells (l7.flatMap qa.c)] false) (qfu qbM (E:=qa) (l:=l7) rfl rfl e_x18)) (ac (hs (.done (.opt (qF Tryz.prog 96 (.oslice 0 l7.length 4) (.i j_8))) (.ptr 0 ((j_8:Int).toNat*4+0))) (qaU qbs e_x19)) (ac (hs (.run [0] (jd Tryz.prog 132 (.ptr 0 ((j_8:Int).toNat*4+0))) [.cells (l7.flatMap qa.c)] (.agg [.str x19.Desk,.i x19.Number,.i x19.Clock,.str x19.Line]) [.cells (l7.flatMap qa.c)] false) (qfu qbM (E:=qa) (l:=l7) rfl rfl e_x19)) (ac (hs (.done (.opt (qF Tryz.prog 96 (.oslice 0 l7.length 4) (.i j_8))) (.ptr 0 ((j_8:Int).toNat*4+0))) (qaU qbs e_x19)) (ac (hs (.run [0] (yA Tryz.prog 132 (.ptr 0 ((j_8:Int).toNat*4+0)) (.agg [.str x18.Desk,.i x18.Number,.i x18.Clock,.str x18.Line])) [.cells (l7.flatMap qa.c)] .undef [.cells (l20.flatMap qa.c)] true) (qbK (E:=qa) (l:=l7) (y:=x18) rfl (show _=some 4 by kernel_rfl) rfl e_x19 rfl rfl rfl rfl rfl e_l20 rfl)) (ac (hs (.done (.opt (qF Tryz.prog 96 (.oslice 0 l7.length 4) (.i (w64 (j_8-1))))) (.ptr 0 ((w64 (j_8-1):Int).toNat*4+0))) (qaU qbs e_x18)) (ac (hs (.run [0] (yA Tryz.prog 132 (.ptr 0 ((w64 (j_8-1):Int).toNat*4+0)) (.agg [.str x19.Desk,.i x19.Number,.i x19.Clock,.str x19.Line])) [.cells (l20.flatMap qa.c)] .undef [.cells (l22.flatMap qa.c)] true) (qbK (E:=qa) (l:=l20) (y:=x19) rfl (show _=some 4 by kernel_rfl) rfl e_x21 rfl rfl rfl rfl rfl e_l22 rfl)) az)))))))) ?_
       refine Goes.sub (show Sub (ofG 53 [(0,.oslice 0 l7.length 4),(1,.i a1_),(2,.i a2_),(3,.func (.func 125) [] []),(8,.i i_3),(9,.i j_8)],[.cells (l22.flatMap qa.c)]) (ofG 53 [(0,.oslice 0 l22.length 4),(1,.i a1_),(2,.i a2_),(3,.func (.func 125) [] []),(8,.i i_3),(9,.i j_8)],[.cells (l22.flatMap qa.c)])from(Sub.norm [] [some 0] (by rw[hB];rfl) rfl (.keep (.osliceE rfl ((y7 e_l20).trans (y7 e_l22))) (.keep (.same nI) (.keep (.same nI) (.keep (.same (qx.func qf.nil qf.nil)) (.keep (.same nI) (.keep (.same nI) .nil)))))) (.keep rfl (.same fa) rfl rfl .nil))) ?_
       refine Goes.rg fol [(0,.oslice 0 l22.length 4),(1,.i a1_),(2,.i a2_),(3,.func (.func 125) [] []),(8,.i i_3),(9,.i (w64 (j_8-1)))] [.cells (l22.flatMap qa.c)] ?_
       exact⟨M,(ofG 53 [(0,.oslice 0 l22.length 4),(1,.i a1_),(2,.i a2_),(3,.func (.func 125) [] []),(8,.i i_3),(9,.i (w64 (j_8-1)))],[.cells (l22.flatMap qa.c)]),Nat.lt_succ_self _,(Sub.refl _),_,_,rfl,g10⟩
      ·rw[if_neg (nb c17)]at g10
       refine Goes.exit ?_
       obtain rfl:=si g10
       exact⟨rfl,_,rfl,(Sub.keep [0,1,2,3,8] rfl rfl)⟩
    rintro x s' ⟨rfl,l9,rfl,hsub⟩
    refine Goes.sub hsub ?_
    refine Goes.rg fol [(0,.oslice 0 l9.length 4),(1,.i a1_),(2,.i a2_),(3,.func (.func 125) [] []),(8,.i (w64 (i_3+1)))] [.cells (l9.flatMap qa.c)] ?_
    exact⟨M,(ofG 53 [(0,.oslice 0 l9.length 4),(1,.i a1_),(2,.i a2_),(3,.func (.func 125) [] []),(8,.i (w64 (i_3+1)))],[.cells (l9.flatMap qa.c)]),Nat.lt_succ_self _,(Sub.refl _),_,_,rfl,g5⟩
   ·rw[if_neg (of_ c6)]at g5
    refine Goes.exit ?_
    obtain rfl:=si g5
    exact⟨rfl,_,rfl,(Sub.keep [] rfl rfl)⟩
 rintro x s' ⟨rfl,l4,rfl,hsub⟩
 obtain rfl:=si h
 exact⟨_,hsub,(Goes.retH (xs:=[]) (by kernel_rfl) (qdS.refl _ _))⟩
def qO (N:Nat) (a1_:Int):Nat→(List qm)→Int→Int→Option ((List qm)×Int)
 |0,_,_,_=>none
 |K+1,l2,a_3,b_4=>
  if b_4≤a1_ then
  (qP N l2 a_3 b_4).bind fun l10=>
  ((if l2.length=l10.length then some ()else none:Option Unit)).bind fun u11=>
  qO N a1_ K l10 b_4 (w64 (b_4+20))
  else
  some (l2,a_3)
def zD (a1_:Int) (blockSize_15:Int):Nat→Option Unit
 |0=>none
 |K+1=>
  if(w64 (2*blockSize_15))≤a1_ then
  none
  else
  some ()
def qN (N:Nat) (a1_:Int):Nat→Int→Option Unit
 |0,_=>none
 |K+1,blockSize_15=>
  if blockSize_15<a1_ then
  (zD a1_ blockSize_15 N).bind fun _=>
  ((if(w64 (0+blockSize_15))<a1_ then
  none
  else
  some ():Option Unit)).bind fun _=>
  qN N a1_ K (w64 (blockSize_15*2))
  else
  some ()
def zX (N:Nat) (a0_:List qm) (a1_:Int):Option (List qm):=
 (qO N a1_ N a0_ 0 20).bind fun(l5,a_6)=>
 (qP N l5 a_6 a1_).bind fun l13=>
 ((if l5.length=l13.length then some ()else none:Option Unit)).bind fun u14=>
 (qN N a1_ N 20).bind fun _=>
 some l13
theorem qaA (N:Nat) (a0_:List qm) (a1_:Int) {l1:List qm} (h:zX N a0_ a1_=some l1):qw Tryz.prog (.fn 170) [.oslice 0 a0_.length 4,.i a1_,.func (.func 125) [] []] [.cells (a0_.flatMap qa.c)] (.tuple []) [.cells (l1.flatMap qa.c)]:=by
 unfold zX at h
 refine Goes.fnH Tryz.func170 rfl rfl (m:=63) rfl (rs:=[]) rfl (l:=[(0,.oslice 0 a0_.length 4),(1,.i a1_),(2,.func (.func 125) [] [])]) rfl ?_
 intro B hB
 refine Goes.subQ ?_
 refine sq (Goes.rg fol [(0,.oslice 0 a0_.length 4),(1,.i a1_),(2,.func (.func 125) [] []),(6,.i 20)] [.cells (a0_.flatMap qa.c)] ?_)
 refine sq (Goes.rg fol [(0,.oslice 0 a0_.length 4),(1,.i a1_),(2,.func (.func 125) [] []),(6,.i 20),(7,.i 0),(8,.i 20)] [.cells (a0_.flatMap qa.c)] ?_)
 refine sq (Goes.block ?_)
 obtain⟨r7,g7,h⟩:=bnd h
 refine Goes.imp (Q:=fun x s'=>(x= .exit 0∧ ∃l5 a_6,(l5,a_6)=r7∧Sub s' (ofG 63 [(0,.oslice 0 l5.length 4),(1,.i a1_),(2,.func (.func 125) [] []),(6,.i 20),(7,.i a_6)],[.cells (l5.flatMap qa.c)]))) ?_ ?_
 ·refine Goes.loopS (fun M s=> ∃(l2:List qm) (a_3:Int) (b_4:Int),s=(ofG 63 [(0,.oslice 0 l2.length 4),(1,.i a1_),(2,.func (.func 125) [] []),(6,.i 20),(7,.i a_3),(8,.i b_4)],[.cells (l2.flatMap qa.c)])∧qO N a1_ M l2 a_3 b_4=some r7) ?_ (m:=N) ⟨_,_,_,rfl,g7⟩
  rintro M s ⟨l2,a_3,b_4,rfl,g7⟩
  cases M with
  |zero=>simp only[qO]at g7;cases g7
  |succ M=>
   rw[qO]at g7
   refine sq ?_
   refine sq (Goes.rg fol [(0,.oslice 0 l2.length 4),(1,.i a1_),(2,.func (.func 125) [] []),(6,.i 20),(7,.i a_3),(8,.i b_4),(13,.bool (decide (b_4≤a1_)))] [.cells (l2.flatMap qa.c)] ?_)
   refine Goes.ifB (b:=decide (b_4≤a1_)) (by kernel_rfl) (fun c8=>?_) (fun c8=>?_)
   ·rw[if_pos (ot c8)]at g7
    refine Goes.skip ?_
    refine Goes.block ?_
    refine sq ?_
    obtain⟨l10,e_r9,g7⟩:=bnd g7
    obtain⟨u11,e_u11,g7⟩:=bnd g7
    refine Goes.rq fol [4] [(0,.oslice 0 l2.length 4),(1,.i a1_),(2,.func (.func 125) [] []),(6,.i 20),(8,.i b_4)] [.cells (l10.flatMap qa.c)] (ac (hs (.callH 200 [.oslice 0 l2.length 4,.i a_3,.i b_4,.func (.func 125) [] []] [.cells (l2.flatMap qa.c)] [0] (.tuple []) [.cells (l10.flatMap qa.c)]) (jl [some 0] [some 0] (jP N l2 a_3 b_4 e_r9) (.keep rfl (.same fa) rfl rfl .nil) rfl rfl (.back rfl rfl (.same fa) rfl .nil) (qg.cons (.oslice rfl) (qg.cons (.same nI) (qg.cons (.same nI) (qg.cons (.same (qx.func qf.nil qf.nil)) qg.nil)))) (.same (qx.tuple qf.nil)) rfl)) az) ?_
    refine Goes.sub (show Sub (ofG 63 [(0,.oslice 0 l2.length 4),(1,.i a1_),(2,.func (.func 125) [] []),(6,.i 20),(8,.i b_4)],[.cells (l10.flatMap qa.c)]) (ofG 63 [(0,.oslice 0 l10.length 4),(1,.i a1_),(2,.func (.func 125) [] []),(6,.i 20),(8,.i b_4)],[.cells (l10.flatMap qa.c)])from(Sub.norm [] [some 0] (by rw[hB];rfl) rfl (.keep (.osliceE rfl (qh6 e_u11)) (.keep (.same nI) (.keep (.same (qx.func qf.nil qf.nil)) (.keep (.same nI) (.keep (.same nI) .nil))))) (.keep rfl (.same fa) rfl rfl .nil))) ?_
    refine sq (Goes.rg fol [(0,.oslice 0 l10.length 4),(1,.i a1_),(2,.func (.func 125) [] []),(6,.i 20),(7,.i b_4),(8,.i b_4)] [.cells (l10.flatMap qa.c)] ?_)
    refine Goes.rg fol [(0,.oslice 0 l10.length 4),(1,.i a1_),(2,.func (.func 125) [] []),(6,.i 20),(7,.i b_4),(8,.i (w64 (b_4+20)))] [.cells (l10.flatMap qa.c)] ?_
    exact⟨M,(ofG 63 [(0,.oslice 0 l10.length 4),(1,.i a1_),(2,.func (.func 125) [] []),(6,.i 20),(7,.i b_4),(8,.i (w64 (b_4+20)))],[.cells (l10.flatMap qa.c)]),Nat.lt_succ_self _,(Sub.refl _),_,_,_,rfl,g7⟩
   ·rw[if_neg (of_ c8)]at g7
    refine Goes.exit ?_
    obtain rfl:=si g7
    exact⟨rfl,_,_,rfl,(Sub.keep [0,1,2,6,7] rfl rfl)⟩
 rintro x s' ⟨rfl,l5,a_6,rfl,hsub⟩
 try dsimp only at h
 refine Goes.sub hsub ?_
 refine sq ?_
 obtain⟨l13,e_r12,h⟩:=bnd h
 obtain⟨u14,e_u14,h⟩:=bnd h
 refine Goes.rq fol [4] [(0,.oslice 0 l5.length 4),(1,.i a1_),(2,.func (.func 125) [] []),(6,.i 20)] [.cells (l13.flatMap qa.c)] (ac (hs (.callH 200 [.oslice 0 l5.length 4,.i a_6,.i a1_,.func (.func 125) [] []] [.cells (l5.flatMap qa.c)] [0] (.tuple []) [.cells (l13.flatMap qa.c)]) (jl [some 0] [some 0] (jP N l5 a_6 a1_ e_r12) (.keep rfl (.same fa) rfl rfl .nil) rfl rfl (.back rfl rfl (.same fa) rfl .nil) (qg.cons (.oslice rfl) (qg.cons (.same nI) (qg.cons (.same nI) (qg.cons (.same (qx.func qf.nil qf.nil)) qg.nil)))) (.same (qx.tuple qf.nil)) rfl)) az) ?_
 refine Goes.sub (show Sub (ofG 63 [(0,.oslice 0 l5.length 4),(1,.i a1_),(2,.func (.func 125) [] []),(6,.i 20)],[.cells (l13.flatMap qa.c)]) (ofG 63 [(0,.oslice 0 l13.length 4),(1,.i a1_),(2,.func (.func 125) [] []),(6,.i 20)],[.cells (l13.flatMap qa.c)])from(Sub.norm [] [some 0] (by rw[hB];rfl) rfl (.keep (.osliceE rfl (qh6 e_u14)) (.keep (.same nI) (.keep (.same (qx.func qf.nil qf.nil)) (.keep (.same nI) .nil)))) (.keep rfl (.same fa) rfl rfl .nil))) ?_
 refine Goes.block ?_
 obtain⟨r16,g16,h⟩:=bnd h
 refine Goes.imp (Q:=fun x s'=>(x= .exit 2∧()=r16∧Sub s' (ofG 63 [],[.cells (l13.flatMap qa.c)]))) ?_ ?_
 ·refine Goes.loopS (fun M s=> ∃(blockSize_15:Int),s=(ofG 63 [(0,.oslice 0 l13.length 4),(1,.i a1_),(2,.func (.func 125) [] []),(6,.i blockSize_15)],[.cells (l13.flatMap qa.c)])∧qN N a1_ M blockSize_15=some r16) ?_ (m:=N) ⟨_,rfl,g16⟩
  rintro M s ⟨blockSize_15,rfl,g16⟩
  cases M with
  |zero=>simp only[qN]at g16;cases g16
  |succ M=>
   rw[qN]at g16
   refine sq ?_
   refine sq (Goes.rg fol [(0,.oslice 0 l13.length 4),(1,.i a1_),(2,.func (.func 125) [] []),(6,.i blockSize_15),(30,.bool (decide (blockSize_15<a1_)))] [.cells (l13.flatMap qa.c)] ?_)
   refine Goes.ifB (b:=decide (blockSize_15<a1_)) (by kernel_rfl) (fun c17=>?_) (fun c17=>?_)
   ·rw[if_pos (ot c17)]at g16
    refine Goes.skip ?_
    refine Goes.block ?_
    refine sq (Goes.rg fol [(0,.oslice 0 l13.length 4),(1,.i a1_),(2,.func (.func 125) [] []),(6,.i blockSize_15),(7,.i 0),(8,.i (w64 (2*blockSize_15)))] [.cells (l13.flatMap qa.c)] ?_)
    refine sq (Goes.block ?_)
    obtain⟨r18,g18,g16⟩:=bnd g16
    refine Goes.imp (Q:=fun x s'=>(x= .exit 4∧()=r18∧Sub s' (ofG 63 [(0,.oslice 0 l13.length 4),(1,.i a1_),(2,.func (.func 125) [] []),(6,.i blockSize_15),(7,.i 0)],[.cells (l13.flatMap qa.c)]))) ?_ ?_
    ·refine Goes.loopS (fun M s=>s=(ofG 63 [(0,.oslice 0 l13.length 4),(1,.i a1_),(2,.func (.func 125) [] []),(6,.i blockSize_15),(7,.i 0),(8,.i (w64 (2*blockSize_15)))],[.cells (l13.flatMap qa.c)])∧zD a1_ blockSize_15 M=some r18) ?_ (m:=N) ⟨rfl,g18⟩
     rintro M s ⟨rfl,g18⟩
     cases M with
     |zero=>simp only[zD]at g18;cases g18
     |succ M=>
      rw[zD]at g18
      refine sq ?_
      refine sq (Goes.rg fol [(0,.oslice 0 l13.length 4),(1,.i a1_),(2,.func (.func 125) [] []),(6,.i blockSize_15),(7,.i 0),(8,.i (w64 (2*blockSize_15))),(35,.bool (decide ((w64 (2*blockSize_15))≤a1_)))] [.cells (l13.flatMap qa.c)] ?_)
      refine Goes.ifB (b:=decide ((w64 (2*blockSize_15))≤a1_)) (by kernel_rfl) (fun c19=>?_) (fun c19=>?_)
      ·rw[if_pos (ot c19)]at g18
       cases g18
      ·rw[if_neg (of_ c19)]at g18
       refine Goes.exit ?_
       obtain rfl:=si g18
       exact⟨rfl,rfl,(Sub.keep [0,1,2,6,7] rfl rfl)⟩
    rintro x s' ⟨rfl,rfl,hsub⟩
    refine Goes.sub hsub ?_
    refine sq ?_
    refine sq (Goes.rg fol [(0,.oslice 0 l13.length 4),(1,.i a1_),(2,.func (.func 125) [] []),(6,.i blockSize_15),(7,.i 0),(9,.i (w64 (0+blockSize_15)))] [.cells (l13.flatMap qa.c)] ?_)
    refine sq (Goes.rg fol [(0,.oslice 0 l13.length 4),(1,.i a1_),(2,.func (.func 125) [] []),(6,.i blockSize_15),(7,.i 0),(9,.i (w64 (0+blockSize_15))),(54,.bool (decide ((w64 (0+blockSize_15))<a1_)))] [.cells (l13.flatMap qa.c)] ?_)
    obtain⟨r20,g20,g16⟩:=bnd g16
    refine Goes.imp (Q:=fun x s'=>(x= .normal∧()=r20∧Sub s' (ofG 63 [(0,.oslice 0 l13.length 4),(1,.i a1_),(2,.func (.func 125) [] []),(6,.i blockSize_15)],[.cells (l13.flatMap qa.c)]))) ?_ ?_
    ·refine Goes.ifB (b:=decide ((w64 (0+blockSize_15))<a1_)) (by kernel_rfl) (fun c21=>?_) (fun c21=>?_)
     ·rw[if_pos (ot c21)]at g20
      cases g20
     ·rw[if_neg (of_ c21)]at g20
      refine Goes.skip ?_
      obtain rfl:=si g20
      exact⟨rfl,rfl,(Sub.keep [0,1,2,6] rfl rfl)⟩
    rintro x s' ⟨rfl,rfl,hsub⟩
    refine Goes.sub hsub ?_
    refine Goes.rg fol [(0,.oslice 0 l13.length 4),(1,.i a1_),(2,.func (.func 125) [] []),(6,.i (w64 (blockSize_15*2)))] [.cells (l13.flatMap qa.c)] ?_
    exact⟨M,(ofG 63 [(0,.oslice 0 l13.length 4),(1,.i a1_),(2,.func (.func 125) [] []),(6,.i (w64 (blockSize_15*2)))],[.cells (l13.flatMap qa.c)]),Nat.lt_succ_self _,(Sub.refl _),_,rfl,g16⟩
   ·rw[if_neg (of_ c17)]at g16
    refine Goes.exit ?_
    obtain rfl:=si g16
    exact⟨rfl,rfl,(Sub.keep [] rfl rfl)⟩
 rintro x s' ⟨rfl,rfl,hsub⟩
 obtain rfl:=si h
 exact⟨_,hsub,(Goes.retH (xs:=[]) (by kernel_rfl) (qdS.refl _ _))⟩
def kX (N:Nat) (a0_:List qm):Option (List qm):=
 (zX N a0_ (a0_.length:Int)).bind fun l3=>
 ((if a0_.length=l3.length then some ()else none:Option Unit)).bind fun u4=>
 some l3
theorem qaw (N:Nat) (a0_:List qm) {l1:List qm} (h:kX N a0_=some l1):qw Tryz.prog (.fn 124) [.oslice 0 a0_.length 4,.func (.func 125) [] []] [.cells (a0_.flatMap qa.c)] (.tuple []) [.cells (l1.flatMap qa.c)]:=by
 unfold kX at h
 refine Goes.fnH Tryz.func124 rfl rfl (m:=9) rfl (rs:=[]) rfl (l:=[(0,.oslice 0 a0_.length 4),(1,.func (.func 125) [] [])]) rfl ?_
 intro B hB
 refine Goes.subQ ?_
 obtain⟨l3,e_r2,h⟩:=bnd h
 obtain⟨u4,e_u4,h⟩:=bnd h
 refine Goes.rq fol [4] [] [.cells (l3.flatMap qa.c)] (ac (hs (.callH 170 [.oslice 0 a0_.length 4,.i (a0_.length:Int),.func (.func 125) [] []] [.cells (a0_.flatMap qa.c)] [0] (.tuple []) [.cells (l3.flatMap qa.c)]) (jl [some 0] [some 0] (qaA N a0_ (a0_.length:Int) e_r2) (.keep rfl (.same fa) rfl rfl .nil) rfl rfl (.back rfl rfl (.same fa) rfl .nil) (qg.cons (.oslice rfl) (qg.cons (.same nI) (qg.cons (.same (qx.func qf.nil qf.nil)) qg.nil))) (.same (qx.tuple qf.nil)) rfl)) az) ?_
 obtain rfl:=si h
 exact⟨_,(show Sub (ofG 9 [],[.cells (l3.flatMap qa.c)]) (ofG 9 [],[.cells (l3.flatMap qa.c)])from(Sub.norm [] [some 0] (by rw[hB];rfl) rfl .nil (.keep rfl (.same fa) rfl rfl .nil))),(Goes.retH (xs:=[]) (by kernel_rfl) (qdS.refl _ _))⟩
def jL (N:Nat) (r3:List qm):Nat→(List ql)→(List qB)→(Option (List StateT))→Int→Option ((List ql)×(Option (List StateT))×(List qB))
 |0,_,_,_,_=>none
 |K+1,l5,l6,o7,n8=>
  if n8<(r3.length:Int)then
  (((idx r3 n8).bind fun x18=>
  (j5 N x18.Line).bind fun r19=>
  (zM N l5 o7 (w64 ((l5.length:Int)+1)) r19.1.Kind r19.1.Names r19.1.Values r19.1.Text).bind fun(l21,o22,h_23)=>
  if(!decide (h_23=0))=true then
  (zm x18).bind fun r25=>
  (app 24 l6 [r25]).bind fun l26=>
  some (l21,o22,l26)
  else
  some (l21,o22,l6):Option ((List ql)×(Option (List StateT))×(List qB)))).bind fun(l14,o15,l16)=>
  jL N r3 K l14 l16 o15 (w64 (n8+1))
  else
  some (l5,o7,l6)
def xU (N:Nat):Option ((List ql)×(List qB)×Int):=
 (zP N ([]:List qm)).bind fun r1=>
 if(!decide (r1=0))=true then
 some ([],[],r1)
 else
 (xc ([]:List qm)).bind fun r3=>
 (kY N r3).bind fun _=>
 (jL N r3 N ([]:List ql) ([]:List qB) (none:Option (List StateT)) 0).bind fun(l9,o10,l11)=>
 some (l9,l11,0)
theorem qe6 (N:Nat) {res:(List ql)×(List qB)×Int} (h:xU N=some res):qw Tryz.prog (.fn 59) [vl qa ([]:List qm)] [] (.tuple [vl qc res.1,vl qd res.2.1,.i res.2.2]) []:=by
 unfold xU at h
 refine Goes.fnW Tryz.func59 rfl rfl (m:=58) rfl (rs:=[.tmp 2,.tmp 3,.tmp 4]) rfl (l:=[(0,vl qa ([]:List qm))]) rfl ?_
 refine sq (Goes.rg fol [(0,vl qa ([]:List qm))] [] ?_)
 refine sq ?_
 refine sq ?_
 obtain⟨r1,e_r1,h⟩:=bnd h
 refine Goes.rq fol [1] [(0,vl qa ([]:List qm)),(5,.i r1)] [] (ac (cv (xq N ([]:List qm) e_r1)) az) ?_
 refine sq (Goes.rg fol [(0,vl qa ([]:List qm)),(5,.i r1),(16,.bool (!decide (r1=0)))] [] ?_)
 refine Goes.ifB (b:=!decide (r1=0)) (by kernel_rfl) (fun c2=>?_) (fun c2=>?_)
 ·rw[if_pos (c2)]at h
  refine sq (Goes.rg fol [(2,.nilslice),(3,.nilslice),(4,.i r1)] [] ?_)
  refine Goes.ret ?_
  obtain rfl:=si h
  exact(Goes.retW (xs:=[.nilslice,.nilslice,.i r1]) (by kernel_rfl) (FzW.tuple (qz.cons (FzW.nilv (E:=qc)) (qz.cons (FzW.nilv (E:=qd)) (qz.cons (FzW.still tI) qz.nil)))))
 ·rw[if_neg (nb c2)]at h
  refine Goes.skip ?_
  refine sq ?_
  obtain⟨r3,e_r3,h⟩:=bnd h
  refine Goes.rq fol [1] [(6,vl qa r3)] [] (ac (cv (qc7 ([]:List qm) e_r3)) az) ?_
  refine sq ?_
  obtain⟨_,e_r4,h⟩:=bnd h
  refine Goes.rq fol [1] [(6,vl qa r3)] [] (ac (hs (.callH 124 [vl qa r3,.func (.func 125) [] []] [] [] (.tuple []) []) (jl [] [] (qax N r3 e_r4) .nil rfl rfl .nil (qg.cons (.same (qh qa _)) (qg.cons (.same (qx.func qf.nil qf.nil)) qg.nil)) (.same (qx.tuple qf.nil)) rfl)) az) ?_
  refine sq (Goes.rg fol [(6,vl qa r3),(7,.ptr 0 0)] [.cells [.nilslice,.nilslice]] ?_)
  refine sq (Goes.rg fol [(6,vl qa r3),(7,.ptr 0 0),(8,.nilslice)] [.cells [.nilslice,.nilslice]] ?_)
  refine sq ?_
  refine sq (Goes.rg fol [(7,.ptr 0 0),(8,.nilslice),(24,vl qa r3),(25,.i (r3.length:Int)),(26,.i 0)] [.cells [.nilslice,.nilslice]] ?_)
  refine Goes.block ?_
  obtain⟨r12,g12,h⟩:=bnd h
  refine Goes.imp (Q:=fun x s'=>(x= .exit 0∧ ∃l9 o10 l11,(l9,o10,l11)=r12∧Sub s' (ofG 58 [(7,.ptr 0 0),(8,.gslice 3 l11.length 2)],[.cells [.gslice 1 l9.length 5,hsl 2 3 o10],.cells (l9.flatMap qc.c),.cells ((hof o10).flatMap qo.c),.cells (l11.flatMap qd.c)]))) ?_ ?_
  ·refine Goes.sub (s':=(ofG 58 [(7,.ptr 0 0),(8,.gslice 3 ([]:List qB).length 2),(24,vl qa r3),(25,.i (r3.length:Int)),(26,.i 0)],[.cells [.gslice 1 ([]:List ql).length 5,hsl 2 3 (none:Option (List StateT))],.cells (([]:List ql).flatMap qc.c),.cells ((hof (none:Option (List StateT))).flatMap qo.c),.cells (([]:List qB).flatMap qd.c)])) (Sub.norm [] [some 0,none,none,none] rfl rfl (.keep (.ptr rfl) (.keep .nil (.keep (.same (qh qa _)) (.keep (.same nI) (.keep (.same nI) .nil))))) (.keep rfl (.cells (qg.cons (.nil) (qg.cons (kF.hs0) qg.nil))) rfl rfl (.fresh (.fresh (.fresh .nil))))) ?_
   refine Goes.loopS (fun M s=> ∃(l5:List ql) (l6:List qB) (o7:Option (List StateT)) (n8:Int),s=(ofG 58 [(7,.ptr 0 0),(8,.gslice 3 l6.length 2),(24,vl qa r3),(25,.i (r3.length:Int)),(26,.i n8)],[.cells [.gslice 1 l5.length 5,hsl 2 3 o7],.cells (l5.flatMap qc.c),.cells ((hof o7).flatMap qo.c),.cells (l6.flatMap qd.c)])∧jL N r3 M l5 l6 o7 n8=some r12) ?_ (m:=N) ⟨_,_,_,_,rfl,g12⟩
   rintro M s ⟨l5,l6,o7,n8,rfl,g12⟩
   cases M with
   |zero=>simp only[jL]at g12;cases g12
   |succ M=>
    rw[jL]at g12
    refine sq (Goes.rg fol [(7,.ptr 0 0),(8,.gslice 3 l6.length 2),(24,vl qa r3),(25,.i (r3.length:Int)),(26,.i n8),(27,.bool (decide (n8<(r3.length:Int))))] [.cells [.gslice 1 l5.length 5,hsl 2 3 o7],.cells (l5.flatMap qc.c),.cells ((hof o7).flatMap qo.c),.cells (l6.flatMap qd.c)] ?_)
    refine sq ?_
    refine Goes.ifB (b:=decide (n8<(r3.length:Int))) (by kernel_rfl) (fun c13=>?_) (fun c13=>?_)
    ·rw[if_pos (ot c13)]at g12
     refine Goes.skip ?_
     refine sq ?_
     obtain⟨r17,g17,g12⟩:=bnd g12
     refine Goes.imp (Q:=fun x s'=>(x= .normal∧ ∃l14 o15 l16,(l14,o15,l16)=r17∧Sub s' (ofG 58 [(7,.ptr 0 0),(8,.gslice 3 l16.length 2),(24,vl qa r3),(25,.i (r3.length:Int)),(26,.i n8)],[.cells [.gslice 1 l14.length 5,hsl 2 3 o15],.cells (l14.flatMap qc.c),.cells ((hof o15).flatMap qo.c),.cells (l16.flatMap qd.c)]))) ?_ ?_
     ·refine Goes.block ?_
      refine sq ?_
      obtain⟨x18,e_x18,g17⟩:=bnd g17
      refine Goes.rq fol [0,1] [(7,.ptr 0 0),(8,.gslice 3 l6.length 2),(10,.ptr 4 0),(24,vl qa r3),(25,.i (r3.length:Int)),(26,.i n8)] [.cells [.gslice 1 l5.length 5,hsl 2 3 o7],.cells (l5.flatMap qc.c),.cells ((hof o7).flatMap qo.c),.cells (l6.flatMap qd.c),.cells [.str x18.Desk,.i x18.Number,.i x18.Clock,.str x18.Line]] (ac (iv qbs qa e_x18) (ac (la qbM qa e_x18) az)) ?_
      refine sq ?_
      obtain⟨r19,e_r19,g17⟩:=bnd g17
      refine Goes.rq fol [2] [(7,.ptr 0 0),(8,.gslice 3 l6.length 2),(10,.ptr 4 0),(11,.ptr 5 0),(24,vl qa r3),(25,.i (r3.length:Int)),(26,.i n8)] [.cells [.gslice 1 l5.length 5,hsl 2 3 o7],.cells (l5.flatMap qc.c),.cells ((hof o7).flatMap qo.c),.cells (l6.flatMap qd.c),.cells [.str x18.Desk,.i x18.Number,.i x18.Clock,.str x18.Line],.cells (cE r19.1)] (ac (cv (qaa N x18.Line e_r19)) az) ?_
      refine sq (Goes.rg fol [(7,.ptr 0 0),(8,.gslice 3 l6.length 2),(10,.ptr 4 0),(11,.ptr 5 0),(24,vl qa r3),(25,.i (r3.length:Int)),(26,.i n8)] [.cells [.gslice 1 l5.length 5,hsl 2 3 o7],.cells (l5.flatMap qc.c),.cells ((hof o7).flatMap qo.c),.cells (l6.flatMap qd.c),.cells [.str x18.Desk,.i x18.Number,.i x18.Clock,.str x18.Line],.cells [.i (w64 ((l5.length:Int)+1)),.str r19.1.Kind,vl encS r19.1.Names,vl encI r19.1.Values,.str r19.1.Text]] ?_)
      refine sq ?_
      obtain⟨⟨l21,o22,h_23⟩,e_r20,g17⟩:=bnd g17
      try dsimp only at g17
      refine Goes.rq fol [2] [(7,.ptr 0 0),(8,.gslice 3 l6.length 2),(10,.ptr 4 0),(24,vl qa r3),(25,.i (r3.length:Int)),(26,.i n8),(46,.bool (!decide (h_23=0)))] [.cells [.gslice 6 l21.length 5,hsl 7 3 o22],.dead,.dead,.cells (l6.flatMap qd.c),.cells [.str x18.Desk,.i x18.Number,.i x18.Clock,.str x18.Line],.cells [.i (w64 ((l5.length:Int)+1)),.str r19.1.Kind,vl encS r19.1.Names,vl encI r19.1.Values,.str r19.1.Text],.cells (l21.flatMap qc.c),.cells ((hof o22).flatMap qo.c)] (ac (hs (.callH 128 [.ptr 0 0,.agg [.i (w64 ((l5.length:Int)+1)),.str r19.1.Kind,vl encS r19.1.Names,vl encI r19.1.Values,.str r19.1.Text]] [.cells [.gslice 1 l5.length 5,hsl 2 3 o7],.cells (l5.flatMap qc.c),.cells ((hof o7).flatMap qo.c),.cells (l6.flatMap qd.c),.cells [.str x18.Desk,.i x18.Number,.i x18.Clock,.str x18.Line],.cells [.i (w64 ((l5.length:Int)+1)),.str r19.1.Kind,vl encS r19.1.Names,vl encI r19.1.Values,.str r19.1.Text]] [0,1,2] (.i h_23) [.cells [.gslice 6 l21.length 5,hsl 7 3 o22],.dead,.dead,.cells (l6.flatMap qd.c),.cells [.str x18.Desk,.i x18.Number,.i x18.Clock,.str x18.Line],.cells [.i (w64 ((l5.length:Int)+1)),.str r19.1.Kind,vl encS r19.1.Names,vl encI r19.1.Values,.str r19.1.Text],.cells (l21.flatMap qc.c),.cells ((hof o22).flatMap qo.c)]) (jl [some 0,some 1,some 2] [some 0,none,none,none,none,none,some 3,some 4] (qay N l5 o7 (w64 ((l5.length:Int)+1)) r19.1.Kind r19.1.Names r19.1.Values r19.1.Text e_r20) (.keep rfl (.cells (qg.cons (.gslice rfl) (qg.cons ((kF.hs rfl)) qg.nil))) rfl rfl (.keep rfl (.same fa) rfl rfl (.keep rfl (.same fa) rfl rfl .nil))) rfl rfl (.back rfl rfl (.cells (qg.cons (.gslice rfl) (qg.cons ((kF.hs rfl)) qg.nil))) rfl (.dead (.dead (.old rfl rfl (.old rfl rfl (.old rfl rfl (.new rfl rfl (.same fa) rfl (.new rfl rfl (.same fa) rfl .nil)))))))) (qg.cons (.ptr rfl) (qg.cons (.same (qx.agg (qf.cons nI (qf.cons nS (qf.cons (qh encS _) (qf.cons (qh encI _) (qf.cons nS qf.nil))))))) qg.nil)) (.same nI) rfl)) az) ?_
      refine Goes.ifB (b:=!decide (h_23=0)) (by kernel_rfl) (fun c24=>?_) (fun c24=>?_)
      ·rw[if_pos (c24)]at g17
       obtain⟨r25,e_r25,g17⟩:=bnd g17
       obtain⟨l26,e_l26,g17⟩:=bnd g17
       refine Goes.rq fol [2,4] [(7,.ptr 0 0),(8,.gslice 9 l26.length 2),(24,vl qa r3),(25,.i (r3.length:Int)),(26,.i n8)] [.cells [.gslice 6 l21.length 5,hsl 7 3 o22],.dead,.dead,.dead,.cells [.str x18.Desk,.i x18.Number,.i x18.Clock,.str x18.Line],.cells [.i (w64 ((l5.length:Int)+1)),.str r19.1.Kind,vl encS r19.1.Names,vl encI r19.1.Values,.str r19.1.Text],.cells (l21.flatMap qc.c),.cells ((hof o22).flatMap qo.c),.cells [.str r25.Desk,.i r25.Number],.cells (l26.flatMap qd.c)] (ac (cv (zq x18 e_r25)) (ac (hs (.run [3,8] (qQ Tryz.prog [97,97] (.gslice 3 l6.length 2) (.slice 8 0 1 1 2)) [.cells [.gslice 6 l21.length 5,hsl 7 3 o22],.dead,.dead,.cells (l6.flatMap qd.c),.cells [.str x18.Desk,.i x18.Number,.i x18.Clock,.str x18.Line],.cells [.i (w64 ((l5.length:Int)+1)),.str r19.1.Kind,vl encS r19.1.Names,vl encI r19.1.Values,.str r19.1.Text],.cells (l21.flatMap qc.c),.cells ((hof o22).flatMap qo.c),.cells [.str r25.Desk,.i r25.Number]] (.gslice 9 l26.length 2) [.cells [.gslice 6 l21.length 5,hsl 7 3 o22],.dead,.dead,.dead,.cells [.str x18.Desk,.i x18.Number,.i x18.Clock,.str x18.Line],.cells [.i (w64 ((l5.length:Int)+1)),.str r19.1.Kind,vl encS r19.1.Names,vl encI r19.1.Values,.str r19.1.Text],.cells (l21.flatMap qc.c),.cells ((hof o22).flatMap qo.c),.cells [.str r25.Desk,.i r25.Number],.cells (l26.flatMap qd.c)] true) (kN qks (E:=qd) rfl (xR (E:=qd) (ys:=[r25]) rfl rfl rfl rfl) (qb4 (E:=qd) (l:=l6) rfl rfl rfl e_l26 rfl))) az)) ?_
       obtain rfl:=si g17
       exact⟨rfl,_,_,_,rfl,(Sub.norm [] [some 0,some 6,some 7,some 9] rfl rfl (.keep (.ptr rfl) (.keep (.gslice rfl) (.keep (.same (qh qa _)) (.keep (.same nI) (.keep (.same nI) .nil))))) (.keep rfl (.cells (qg.cons (.gslice rfl) (qg.cons ((kF.hs rfl)) qg.nil))) rfl rfl (.keep rfl (.same fa) rfl rfl (.keep rfl (.same fa) rfl rfl (.keep rfl (.same fa) rfl rfl .nil)))))⟩
      ·rw[if_neg (nb c24)]at g17
       refine Goes.skip ?_
       obtain rfl:=si g17
       exact⟨rfl,_,_,_,rfl,(Sub.norm [] [some 0,some 6,some 7,some 3] rfl rfl (.keep (.ptr rfl) (.keep (.gslice rfl) (.drop (.keep (.same (qh qa _)) (.keep (.same nI) (.keep (.same nI) .nil)))))) (.keep rfl (.cells (qg.cons (.gslice rfl) (qg.cons ((kF.hs rfl)) qg.nil))) rfl rfl (.keep rfl (.same fa) rfl rfl (.keep rfl (.same fa) rfl rfl (.keep rfl (.same fa) rfl rfl .nil)))))⟩
     rintro x s' ⟨rfl,l14,o15,l16,rfl,hsub⟩
     try dsimp only at g12
     refine Goes.sub hsub ?_
     refine Goes.rg fol [(7,.ptr 0 0),(8,.gslice 3 l16.length 2),(24,vl qa r3),(25,.i (r3.length:Int)),(26,.i (w64 (n8+1)))] [.cells [.gslice 1 l14.length 5,hsl 2 3 o15],.cells (l14.flatMap qc.c),.cells ((hof o15).flatMap qo.c),.cells (l16.flatMap qd.c)] ?_
     exact⟨M,(ofG 58 [(7,.ptr 0 0),(8,.gslice 3 l16.length 2),(24,vl qa r3),(25,.i (r3.length:Int)),(26,.i (w64 (n8+1)))],[.cells [.gslice 1 l14.length 5,hsl 2 3 o15],.cells (l14.flatMap qc.c),.cells ((hof o15).flatMap qo.c),.cells (l16.flatMap qd.c)]),Nat.lt_succ_self _,(Sub.refl _),_,_,_,_,rfl,g12⟩
    ·rw[if_neg (of_ c13)]at g12
     refine Goes.exit ?_
     obtain rfl:=si g12
     exact⟨rfl,_,_,_,rfl,(Sub.keep [7,8] rfl rfl)⟩
  rintro x s' ⟨rfl,l9,o10,l11,rfl,hsub⟩
  try dsimp only at h
  refine Goes.sub hsub ?_
  refine sq (Goes.rg fol [(2,.gslice 1 l9.length 5),(3,.gslice 3 l11.length 2),(4,.i 0)] [.cells [.gslice 1 l9.length 5,hsl 2 3 o10],.cells (l9.flatMap qc.c),.cells ((hof o10).flatMap qo.c),.cells (l11.flatMap qd.c)] ?_)
  refine Goes.ret ?_
  obtain rfl:=si h
  exact(Goes.retW (xs:=[.gslice 1 l9.length 5,.gslice 3 l11.length 2,.i 0]) (by kernel_rfl) (FzW.tuple (qz.cons (FzW.fz (Fz.gs (E:=qc) rfl rfl (nl rfl))) (qz.cons (FzW.fz (Fz.gs (E:=qd) rfl rfl (nl rfl))) (qz.cons (FzW.still tI) qz.nil)))))
def jg (N:Nat) (l6:List qm):Nat→(List ql)→(List qB)→(Option (List StateT))→Int→Option ((List ql)×(Option (List StateT))×(List qB))
 |0,_,_,_,_=>none
 |K+1,l8,l9,o10,n11=>
  if n11<(l6.length:Int)then
  (((idx l6 n11).bind fun x21=>
  (j5 N x21.Line).bind fun r22=>
  (zM N l8 o10 (w64 ((l8.length:Int)+1)) r22.1.Kind r22.1.Names r22.1.Values r22.1.Text).bind fun(l24,o25,h_26)=>
  if(!decide (h_26=0))=true then
  (zm x21).bind fun r28=>
  (app 24 l9 [r28]).bind fun l29=>
  some (l24,o25,l29)
  else
  some (l24,o25,l9):Option ((List ql)×(Option (List StateT))×(List qB)))).bind fun(l17,o18,l19)=>
  jg N l6 K l17 l19 o18 (w64 (n11+1))
  else
  some (l8,o10,l9)
def xV (N:Nat) (x:qm) (xs:List qm):Option ((List ql)×(List qB)×Int):=
 (zP N (x::xs)).bind fun r1=>
 if(!decide (r1=0))=true then
 some ([],[],r1)
 else
 (jO x xs).bind fun l4=>
 (kX N l4).bind fun l6=>
 ((if l4.length=l6.length then some ()else none:Option Unit)).bind fun u7=>
 (jg N l6 N ([]:List ql) ([]:List qB) (none:Option (List StateT)) 0).bind fun(l12,o13,l14)=>
 some (l12,l14,0)
theorem qeW (N:Nat) (x:qm) (xs:List qm) {res:(List ql)×(List qB)×Int} (h:xV N x xs=some res):qw Tryz.prog (.fn 59) [vl qa (x::xs)] [] (.tuple [vl qc res.1,vl qd res.2.1,.i res.2.2]) []:=by
 unfold xV at h
 refine Goes.fnW Tryz.func59 rfl rfl (m:=58) rfl (rs:=[.tmp 2,.tmp 3,.tmp 4]) rfl (l:=[(0,vl qa (x::xs))]) rfl ?_
 refine sq (Goes.rg fol [(0,vl qa (x::xs))] [] ?_)
 refine sq ?_
 refine sq ?_
 obtain⟨r1,e_r1,h⟩:=bnd h
 refine Goes.rq fol [1] [(0,vl qa (x::xs)),(5,.i r1)] [] (ac (cv (xq N (x::xs) e_r1)) az) ?_
 refine sq (Goes.rg fol [(0,vl qa (x::xs)),(5,.i r1),(16,.bool (!decide (r1=0)))] [] ?_)
 refine Goes.ifB (b:=!decide (r1=0)) (by kernel_rfl) (fun c2=>?_) (fun c2=>?_)
 ·rw[if_pos (c2)]at h
  refine sq (Goes.rg fol [(2,.nilslice),(3,.nilslice),(4,.i r1)] [] ?_)
  refine Goes.ret ?_
  obtain rfl:=si h
  exact(Goes.retW (xs:=[.nilslice,.nilslice,.i r1]) (by kernel_rfl) (FzW.tuple (qz.cons (FzW.nilv (E:=qc)) (qz.cons (FzW.nilv (E:=qd)) (qz.cons (FzW.still tI) qz.nil)))))
 ·rw[if_neg (nb c2)]at h
  refine Goes.skip ?_
  refine sq ?_
  obtain⟨l4,e_r3,h⟩:=bnd h
  refine Goes.rq fol [1] [(6,.oslice 0 l4.length 4)] [.cells (l4.flatMap qa.c)] (ac (hs (.callH 123 [vl qa (x::xs)] [] [] (.oslice 0 l4.length 4) [.cells (l4.flatMap qa.c)]) (jl [] [some 0] (qb7 x xs e_r3) .nil rfl rfl (.new rfl rfl (.same fa) rfl .nil) (qg.cons (.same (qh qa _)) qg.nil) (.oslice rfl) rfl)) az) ?_
  refine sq ?_
  obtain⟨l6,e_r5,h⟩:=bnd h
  obtain⟨u7,e_u7,h⟩:=bnd h
  refine Goes.rq fol [1] [(6,.oslice 0 l4.length 4)] [.cells (l6.flatMap qa.c)] (ac (hs (.callH 124 [.oslice 0 l4.length 4,.func (.func 125) [] []] [.cells (l4.flatMap qa.c)] [0] (.tuple []) [.cells (l6.flatMap qa.c)]) (jl [some 0] [some 0] (qaw N l4 e_r5) (.keep rfl (.same fa) rfl rfl .nil) rfl rfl (.back rfl rfl (.same fa) rfl .nil) (qg.cons (.oslice rfl) (qg.cons (.same (qx.func qf.nil qf.nil)) qg.nil)) (.same (qx.tuple qf.nil)) rfl)) az) ?_
  refine Goes.sub (show Sub (ofG 58 [(6,.oslice 0 l4.length 4)],[.cells (l6.flatMap qa.c)]) (ofG 58 [(6,.oslice 0 l6.length 4)],[.cells (l6.flatMap qa.c)])from(Sub.norm [] [some 0] rfl rfl (.keep (.osliceE rfl (qh6 e_u7)) .nil) (.keep rfl (.same fa) rfl rfl .nil))) ?_
  refine sq (Goes.rg fol [(6,.oslice 0 l6.length 4),(7,.ptr 1 0)] [.cells (l6.flatMap qa.c),.cells [.nilslice,.nilslice]] ?_)
  refine sq (Goes.rg fol [(6,.oslice 0 l6.length 4),(7,.ptr 1 0),(8,.nilslice)] [.cells (l6.flatMap qa.c),.cells [.nilslice,.nilslice]] ?_)
  refine sq ?_
  refine sq (Goes.rg fol [(7,.ptr 1 0),(8,.nilslice),(24,.oslice 0 l6.length 4),(25,.i (l6.length:Int)),(26,.i 0)] [.cells (l6.flatMap qa.c),.cells [.nilslice,.nilslice]] ?_)
  refine Goes.block ?_
  obtain⟨r15,g15,h⟩:=bnd h
  refine Goes.imp (Q:=fun x s'=>(x= .exit 0∧ ∃l12 o13 l14,(l12,o13,l14)=r15∧Sub s' (ofG 58 [(7,.ptr 0 0),(8,.gslice 3 l14.length 2)],[.cells [.gslice 1 l12.length 5,hsl 2 3 o13],.cells (l12.flatMap qc.c),.cells ((hof o13).flatMap qo.c),.cells (l14.flatMap qd.c)]))) ?_ ?_
  ·refine Goes.sub (s':=(ofG 58 [(7,.ptr 0 0),(8,.gslice 3 ([]:List qB).length 2),(24,.oslice 4 l6.length 4),(25,.i (l6.length:Int)),(26,.i 0)],[.cells [.gslice 1 ([]:List ql).length 5,hsl 2 3 (none:Option (List StateT))],.cells (([]:List ql).flatMap qc.c),.cells ((hof (none:Option (List StateT))).flatMap qo.c),.cells (([]:List qB).flatMap qd.c),.cells (l6.flatMap qa.c)])) (Sub.norm [] [some 1,none,none,none,some 0] rfl rfl (.keep (.ptr rfl) (.keep .nil (.keep (.oslice rfl) (.keep (.same nI) (.keep (.same nI) .nil))))) (.keep rfl (.cells (qg.cons (.nil) (qg.cons (kF.hs0) qg.nil))) rfl rfl (.fresh (.fresh (.fresh (.keep rfl (.same fa) rfl rfl .nil)))))) ?_
   refine Goes.loopS (fun M s=> ∃(l8:List ql) (l9:List qB) (o10:Option (List StateT)) (n11:Int),s=(ofG 58 [(7,.ptr 0 0),(8,.gslice 3 l9.length 2),(24,.oslice 4 l6.length 4),(25,.i (l6.length:Int)),(26,.i n11)],[.cells [.gslice 1 l8.length 5,hsl 2 3 o10],.cells (l8.flatMap qc.c),.cells ((hof o10).flatMap qo.c),.cells (l9.flatMap qd.c),.cells (l6.flatMap qa.c)])∧jg N l6 M l8 l9 o10 n11=some r15) ?_ (m:=N) ⟨_,_,_,_,rfl,g15⟩
   rintro M s ⟨l8,l9,o10,n11,rfl,g15⟩
   cases M with
   |zero=>simp only[jg]at g15;cases g15
   |succ M=>
    rw[jg]at g15
    refine sq (Goes.rg fol [(7,.ptr 0 0),(8,.gslice 3 l9.length 2),(24,.oslice 4 l6.length 4),(25,.i (l6.length:Int)),(26,.i n11),(27,.bool (decide (n11<(l6.length:Int))))] [.cells [.gslice 1 l8.length 5,hsl 2 3 o10],.cells (l8.flatMap qc.c),.cells ((hof o10).flatMap qo.c),.cells (l9.flatMap qd.c),.cells (l6.flatMap qa.c)] ?_)
    refine sq ?_
    refine Goes.ifB (b:=decide (n11<(l6.length:Int))) (by kernel_rfl) (fun c16=>?_) (fun c16=>?_)
    ·rw[if_pos (ot c16)]at g15
     refine Goes.skip ?_
     refine sq ?_
     obtain⟨r20,g20,g15⟩:=bnd g15
     refine Goes.imp (Q:=fun x s'=>(x= .normal∧ ∃l17 o18 l19,(l17,o18,l19)=r20∧Sub s' (ofG 58 [(7,.ptr 0 0),(8,.gslice 3 l19.length 2),(24,.oslice 4 l6.length 4),(25,.i (l6.length:Int)),(26,.i n11)],[.cells [.gslice 1 l17.length 5,hsl 2 3 o18],.cells (l17.flatMap qc.c),.cells ((hof o18).flatMap qo.c),.cells (l19.flatMap qd.c),.cells (l6.flatMap qa.c)]))) ?_ ?_
     ·refine Goes.block ?_
      refine sq ?_
      obtain⟨x21,e_x21,g20⟩:=bnd g20
      refine Goes.rq fol [0,1] [(7,.ptr 0 0),(8,.gslice 3 l9.length 2),(10,.ptr 5 0),(24,.oslice 4 l6.length 4),(25,.i (l6.length:Int)),(26,.i n11)] [.cells [.gslice 1 l8.length 5,hsl 2 3 o10],.cells (l8.flatMap qc.c),.cells ((hof o10).flatMap qo.c),.cells (l9.flatMap qd.c),.cells (l6.flatMap qa.c),.cells [.str x21.Desk,.i x21.Number,.i x21.Clock,.str x21.Line]] (ac (hs (.done (.opt (qF Tryz.prog 96 (.oslice 4 l6.length 4) (.i n11))) (.ptr 4 ((n11:Int).toNat*4+0))) (qaU qbs e_x21)) (ac (hs (.run [4] (jd Tryz.prog 132 (.ptr 4 ((n11:Int).toNat*4+0))) [.cells [.gslice 1 l8.length 5,hsl 2 3 o10],.cells (l8.flatMap qc.c),.cells ((hof o10).flatMap qo.c),.cells (l9.flatMap qd.c),.cells (l6.flatMap qa.c)] (.agg [.str x21.Desk,.i x21.Number,.i x21.Clock,.str x21.Line]) [.cells [.gslice 1 l8.length 5,hsl 2 3 o10],.cells (l8.flatMap qc.c),.cells ((hof o10).flatMap qo.c),.cells (l9.flatMap qd.c),.cells (l6.flatMap qa.c)] false) (qfu qbM (E:=qa) (l:=l6) rfl rfl e_x21)) az)) ?_
      refine sq ?_
      obtain⟨r22,e_r22,g20⟩:=bnd g20
      refine Goes.rq fol [2] [(7,.ptr 0 0),(8,.gslice 3 l9.length 2),(10,.ptr 5 0),(11,.ptr 6 0),(24,.oslice 4 l6.length 4),(25,.i (l6.length:Int)),(26,.i n11)] [.cells [.gslice 1 l8.length 5,hsl 2 3 o10],.cells (l8.flatMap qc.c),.cells ((hof o10).flatMap qo.c),.cells (l9.flatMap qd.c),.cells (l6.flatMap qa.c),.cells [.str x21.Desk,.i x21.Number,.i x21.Clock,.str x21.Line],.cells (cE r22.1)] (ac (cv (qaa N x21.Line e_r22)) az) ?_
      refine sq (Goes.rg fol [(7,.ptr 0 0),(8,.gslice 3 l9.length 2),(10,.ptr 5 0),(11,.ptr 6 0),(24,.oslice 4 l6.length 4),(25,.i (l6.length:Int)),(26,.i n11)] [.cells [.gslice 1 l8.length 5,hsl 2 3 o10],.cells (l8.flatMap qc.c),.cells ((hof o10).flatMap qo.c),.cells (l9.flatMap qd.c),.cells (l6.flatMap qa.c),.cells [.str x21.Desk,.i x21.Number,.i x21.Clock,.str x21.Line],.cells [.i (w64 ((l8.length:Int)+1)),.str r22.1.Kind,vl encS r22.1.Names,vl encI r22.1.Values,.str r22.1.Text]] ?_)
      refine sq ?_
      obtain⟨⟨l24,o25,h_26⟩,e_r23,g20⟩:=bnd g20
      try dsimp only at g20
      refine Goes.rq fol [2] [(7,.ptr 0 0),(8,.gslice 3 l9.length 2),(10,.ptr 5 0),(24,.oslice 4 l6.length 4),(25,.i (l6.length:Int)),(26,.i n11),(46,.bool (!decide (h_26=0)))] [.cells [.gslice 7 l24.length 5,hsl 8 3 o25],.dead,.dead,.cells (l9.flatMap qd.c),.cells (l6.flatMap qa.c),.cells [.str x21.Desk,.i x21.Number,.i x21.Clock,.str x21.Line],.cells [.i (w64 ((l8.length:Int)+1)),.str r22.1.Kind,vl encS r22.1.Names,vl encI r22.1.Values,.str r22.1.Text],.cells (l24.flatMap qc.c),.cells ((hof o25).flatMap qo.c)] (ac (hs (.callH 128 [.ptr 0 0,.agg [.i (w64 ((l8.length:Int)+1)),.str r22.1.Kind,vl encS r22.1.Names,vl encI r22.1.Values,.str r22.1.Text]] [.cells [.gslice 1 l8.length 5,hsl 2 3 o10],.cells (l8.flatMap qc.c),.cells ((hof o10).flatMap qo.c),.cells (l9.flatMap qd.c),.cells (l6.flatMap qa.c),.cells [.str x21.Desk,.i x21.Number,.i x21.Clock,.str x21.Line],.cells [.i (w64 ((l8.length:Int)+1)),.str r22.1.Kind,vl encS r22.1.Names,vl encI r22.1.Values,.str r22.1.Text]] [0,1,2] (.i h_26) [.cells [.gslice 7 l24.length 5,hsl 8 3 o25],.dead,.dead,.cells (l9.flatMap qd.c),.cells (l6.flatMap qa.c),.cells [.str x21.Desk,.i x21.Number,.i x21.Clock,.str x21.Line],.cells [.i (w64 ((l8.length:Int)+1)),.str r22.1.Kind,vl encS r22.1.Names,vl encI r22.1.Values,.str r22.1.Text],.cells (l24.flatMap qc.c),.cells ((hof o25).flatMap qo.c)]) (jl [some 0,some 1,some 2] [some 0,none,none,none,none,none,none,some 3,some 4] (qay N l8 o10 (w64 ((l8.length:Int)+1)) r22.1.Kind r22.1.Names r22.1.Values r22.1.Text e_r23) (.keep rfl (.cells (qg.cons (.gslice rfl) (qg.cons ((kF.hs rfl)) qg.nil))) rfl rfl (.keep rfl (.same fa) rfl rfl (.keep rfl (.same fa) rfl rfl .nil))) rfl rfl (.back rfl rfl (.cells (qg.cons (.gslice rfl) (qg.cons ((kF.hs rfl)) qg.nil))) rfl (.dead (.dead (.old rfl rfl (.old rfl rfl (.old rfl rfl (.old rfl rfl (.new rfl rfl (.same fa) rfl (.new rfl rfl (.same fa) rfl .nil))))))))) (qg.cons (.ptr rfl) (qg.cons (.same (qx.agg (qf.cons nI (qf.cons nS (qf.cons (qh encS _) (qf.cons (qh encI _) (qf.cons nS qf.nil))))))) qg.nil)) (.same nI) rfl)) az) ?_
      refine Goes.ifB (b:=!decide (h_26=0)) (by kernel_rfl) (fun c27=>?_) (fun c27=>?_)
      ·rw[if_pos (c27)]at g20
       obtain⟨r28,e_r28,g20⟩:=bnd g20
       obtain⟨l29,e_l29,g20⟩:=bnd g20
       refine Goes.rq fol [2,4] [(7,.ptr 0 0),(8,.gslice 10 l29.length 2),(24,.oslice 4 l6.length 4),(25,.i (l6.length:Int)),(26,.i n11)] [.cells [.gslice 7 l24.length 5,hsl 8 3 o25],.dead,.dead,.dead,.cells (l6.flatMap qa.c),.cells [.str x21.Desk,.i x21.Number,.i x21.Clock,.str x21.Line],.cells [.i (w64 ((l8.length:Int)+1)),.str r22.1.Kind,vl encS r22.1.Names,vl encI r22.1.Values,.str r22.1.Text],.cells (l24.flatMap qc.c),.cells ((hof o25).flatMap qo.c),.cells [.str r28.Desk,.i r28.Number],.cells (l29.flatMap qd.c)] (ac (cv (zq x21 e_r28)) (ac (hs (.run [3,9] (qQ Tryz.prog [97,97] (.gslice 3 l9.length 2) (.slice 9 0 1 1 2)) [.cells [.gslice 7 l24.length 5,hsl 8 3 o25],.dead,.dead,.cells (l9.flatMap qd.c),.cells (l6.flatMap qa.c),.cells [.str x21.Desk,.i x21.Number,.i x21.Clock,.str x21.Line],.cells [.i (w64 ((l8.length:Int)+1)),.str r22.1.Kind,vl encS r22.1.Names,vl encI r22.1.Values,.str r22.1.Text],.cells (l24.flatMap qc.c),.cells ((hof o25).flatMap qo.c),.cells [.str r28.Desk,.i r28.Number]] (.gslice 10 l29.length 2) [.cells [.gslice 7 l24.length 5,hsl 8 3 o25],.dead,.dead,.dead,.cells (l6.flatMap qa.c),.cells [.str x21.Desk,.i x21.Number,.i x21.Clock,.str x21.Line],.cells [.i (w64 ((l8.length:Int)+1)),.str r22.1.Kind,vl encS r22.1.Names,vl encI r22.1.Values,.str r22.1.Text],.cells (l24.flatMap qc.c),.cells ((hof o25).flatMap qo.c),.cells [.str r28.Desk,.i r28.Number],.cells (l29.flatMap qd.c)] true) (kN qks (E:=qd) rfl (xR (E:=qd) (ys:=[r28]) rfl rfl rfl rfl) (qb4 (E:=qd) (l:=l9) rfl rfl rfl e_l29 rfl))) az)) ?_
       obtain rfl:=si g20
       exact⟨rfl,_,_,_,rfl,(Sub.norm [] [some 0,some 7,some 8,some 10,some 4] rfl rfl (.keep (.ptr rfl) (.keep (.gslice rfl) (.keep (.oslice rfl) (.keep (.same nI) (.keep (.same nI) .nil))))) (.keep rfl (.cells (qg.cons (.gslice rfl) (qg.cons ((kF.hs rfl)) qg.nil))) rfl rfl (.keep rfl (.same fa) rfl rfl (.keep rfl (.same fa) rfl rfl (.keep rfl (.same fa) rfl rfl (.keep rfl (.same fa) rfl rfl .nil))))))⟩
      ·rw[if_neg (nb c27)]at g20
       refine Goes.skip ?_
       obtain rfl:=si g20
       exact⟨rfl,_,_,_,rfl,(Sub.norm [] [some 0,some 7,some 8,some 3,some 4] rfl rfl (.keep (.ptr rfl) (.keep (.gslice rfl) (.drop (.keep (.oslice rfl) (.keep (.same nI) (.keep (.same nI) .nil)))))) (.keep rfl (.cells (qg.cons (.gslice rfl) (qg.cons ((kF.hs rfl)) qg.nil))) rfl rfl (.keep rfl (.same fa) rfl rfl (.keep rfl (.same fa) rfl rfl (.keep rfl (.same fa) rfl rfl (.keep rfl (.same fa) rfl rfl .nil))))))⟩
     rintro x s' ⟨rfl,l17,o18,l19,rfl,hsub⟩
     try dsimp only at g15
     refine Goes.sub hsub ?_
     refine Goes.rg fol [(7,.ptr 0 0),(8,.gslice 3 l19.length 2),(24,.oslice 4 l6.length 4),(25,.i (l6.length:Int)),(26,.i (w64 (n11+1)))] [.cells [.gslice 1 l17.length 5,hsl 2 3 o18],.cells (l17.flatMap qc.c),.cells ((hof o18).flatMap qo.c),.cells (l19.flatMap qd.c),.cells (l6.flatMap qa.c)] ?_
     exact⟨M,(ofG 58 [(7,.ptr 0 0),(8,.gslice 3 l19.length 2),(24,.oslice 4 l6.length 4),(25,.i (l6.length:Int)),(26,.i (w64 (n11+1)))],[.cells [.gslice 1 l17.length 5,hsl 2 3 o18],.cells (l17.flatMap qc.c),.cells ((hof o18).flatMap qo.c),.cells (l19.flatMap qd.c),.cells (l6.flatMap qa.c)]),Nat.lt_succ_self _,(Sub.refl _),_,_,_,_,rfl,g15⟩
    ·rw[if_neg (of_ c16)]at g15
     refine Goes.exit ?_
     obtain rfl:=si g15
     exact⟨rfl,_,_,_,rfl,(Sub.norm [] [some 0,some 1,some 2,some 3] rfl rfl (.keep (.ptr rfl) (.keep (.gslice rfl) .nil)) (.keep rfl (.cells (qg.cons (.gslice rfl) (qg.cons ((kF.hs rfl)) qg.nil))) rfl rfl (.keep rfl (.same fa) rfl rfl (.keep rfl (.same fa) rfl rfl (.keep rfl (.same fa) rfl rfl .nil)))))⟩
  rintro x s' ⟨rfl,l12,o13,l14,rfl,hsub⟩
  try dsimp only at h
  refine Goes.sub hsub ?_
  refine sq (Goes.rg fol [(2,.gslice 1 l12.length 5),(3,.gslice 3 l14.length 2),(4,.i 0)] [.cells [.gslice 1 l12.length 5,hsl 2 3 o13],.cells (l12.flatMap qc.c),.cells ((hof o13).flatMap qo.c),.cells (l14.flatMap qd.c)] ?_)
  refine Goes.ret ?_
  obtain rfl:=si h
  exact(Goes.retW (xs:=[.gslice 1 l12.length 5,.gslice 3 l14.length 2,.i 0]) (by kernel_rfl) (FzW.tuple (qz.cons (FzW.fz (Fz.gs (E:=qc) rfl rfl (nl rfl))) (qz.cons (FzW.fz (Fz.gs (E:=qd) rfl rfl (nl rfl))) (qz.cons (FzW.still tI) qz.nil)))))
def qdc (N:Nat):List qm→Option ((List ql)×(List qB)×Int)
 |[]=>xU N
 |x::xs=>xV N x xs
theorem qgC (N:Nat) (l:List qm) {res:(List ql)×(List qB)×Int} (h:qdc N l=some res):qw Tryz.prog (.fn 59) [vl qa l] [] (.tuple [vl qc res.1,vl qd res.2.1,.i res.2.2]) []:=by
 cases l with
 |nil=>exact qe6 N h
 |cons x xs=>exact qeW N x xs h
end Go.Av
