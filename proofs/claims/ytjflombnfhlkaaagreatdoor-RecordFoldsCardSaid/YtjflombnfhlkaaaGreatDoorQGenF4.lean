/-
  Walks of functions: what each computes, as a plain function.
-/
import Derived.Test.YtjflombnfhlkaaaGreatDoorQGenF3
noncomputable section
namespace Go.Av
open Go.Proofs Go.RowKit
set_option linter.unusedSectionVars false
set_option linter.unusedVariables false
set_option linter.unusedSimpArgs false
set_option maxRecDepth 100000
def zk (n:Int) (low:Int) (high:Int):Option Bool:=
 (if n<low then
 some true
 else
 some (decide (n>high)):Option Bool).bind fun b2=>
 some b2
theorem kE (n:Int) (low:Int) (high:Int) {res:Bool} (h:zk n low high=some res):qw Tryz.prog (.fn 36) [.i n,.i low,.i high] [] (.bool res) []:=by
 unfold zk at h
 refine Goes.fnW Tryz.func36 rfl rfl (m:=15) rfl (rs:=[.tmp 6]) rfl (l:=[(0,.i n),(1,.i low),(2,.i high)]) rfl ?_
 refine sq (Goes.rg fol [(0,.i n),(1,.i low),(2,.i high)] [] ?_)
 refine sq ?_
 obtain⟨b2,g_v3,h⟩:=bnd h
 refine Goes.cut (s':=(ofG 15 [(6,.bool b2)],[])) ?_ ?_
 ·rcases Bool.eq_false_or_eq_true (decide (n<low))with c1|c1
  ·rw[if_pos (ot c1)]at g_v3
   obtain rfl:=si g_v3
   exact qp.rq fol [3] [(6,.bool true)] [] (ac (gw c1) az)
  ·rw[if_neg (of_ c1)]at g_v3
   obtain rfl:=si g_v3
   exact qp.rq fol [3] [(6,.bool (decide (n>high)))] [] (ac (gw c1) az)
 refine Goes.ret ?_
 obtain rfl:=si h
 exact(Goes.retW (xs:=[.bool b2]) (by kernel_rfl) (FzW.still tB))
def jX (s_:Str):Nat→Int→Option (Unit⊕Bool)
 |0,_=>none
 |K+1,i_5=>
  if i_5<(s_.length:Int)then
  (idx s_ i_5).bind fun c9=>
  (if(c9.toNat:Int)≥97 then
  if(c9.toNat:Int)≤122 then
  some true
  else
  if(c9.toNat:Int)≥65 then
  some (decide ((c9.toNat:Int)≤90))
  else
  some false
  else
  if(c9.toNat:Int)≥65 then
  some (decide ((c9.toNat:Int)≤90))
  else
  some false:Option Bool).bind fun letter_14=>
  (if(!letter_14)=true then
  if i_5=0 then
  some true
  else
  if(c9.toNat:Int)≥48 then
  if(c9.toNat:Int)≤57 then
  some false
  else
  some (!(decide ((c9.toNat:Int)=95)))
  else
  some (!(decide ((c9.toNat:Int)=95)))
  else
  some false:Option Bool).bind fun b20=>
  if b20=true then
  some (.inr false)
  else
  jX s_ K (w64 (i_5+1))
  else
  some (.inl ())
def yI (N:Nat) (s_:Str):Option Bool:=
 (if(s_.length:Int)<1 then
 some true
 else
 some (decide ((s_.length:Int)>24)):Option Bool).bind fun b2=>
 if b2=true then
 some false
 else
 (jX s_ N 0).bind (fun
 |(.inl ())=>
 some true
 |(.inr q23)=>
 some q23)
theorem qa6 (N:Nat) (s_:Str) {res:Bool} (h:yI N s_=some res):qw Tryz.prog (.fn 47) [.str s_] [] (.bool res) []:=by
 unfold yI at h
 refine Goes.fnW Tryz.func47 rfl rfl (m:=56) rfl (rs:=[.tmp 2]) rfl (l:=[(0,.str s_)]) rfl ?_
 refine sq (Goes.rg fol [(0,.str s_)] [] ?_)
 refine sq ?_
 refine sq ?_
 obtain⟨b2,g_v3,h⟩:=bnd h
 refine Goes.cut (s':=(ofG 56 [(0,.str s_),(13,.bool b2)],[])) ?_ ?_
 ·rcases Bool.eq_false_or_eq_true (decide ((s_.length:Int)<1))with c1|c1
  ·rw[if_pos (ot c1)]at g_v3
   obtain rfl:=si g_v3
   exact qp.rq fol [3] [(0,.str s_),(13,.bool true)] [] (ac (gw c1) az)
  ·rw[if_neg (of_ c1)]at g_v3
   obtain rfl:=si g_v3
   exact qp.rq fol [3] [(0,.str s_),(13,.bool (decide ((s_.length:Int)>24)))] [] (ac (gw c1) az)
 refine Goes.ifB (b:=b2) (by kernel_rfl) (fun c4=>?_) (fun c4=>?_)
 ·rw[if_pos (c4)]at h
  refine sq (Goes.rg fol [(2,.bool false)] [] ?_)
  refine Goes.ret ?_
  obtain rfl:=si h
  exact(Goes.retW (xs:=[.bool false]) (by kernel_rfl) (FzW.still tB))
 ·rw[if_neg (nb c4)]at h
  refine Goes.skip ?_
  refine sq ?_
  refine sq (Goes.rg fol [(0,.str s_),(3,.i 0)] [] ?_)
  refine Goes.block ?_
  obtain⟨r6,g6,h⟩:=bnd h
  refine Goes.imp (Q:=fun x s'=>(x= .exit 0∧(.inl ())=r6∧Sub s' (ofG 56 [],[]))∨(x= .ret∧ ∃q7,(.inr q7)=r6∧qW Tryz.prog [.tmp 2] (.bool q7) .ret s')) ?_ ?_
  ·refine Goes.loopS (fun M s=> ∃(i_5:Int),s=(ofG 56 [(0,.str s_),(3,.i i_5)],[])∧jX s_ M i_5=some r6) ?_ (m:=N) ⟨_,rfl,g6⟩
   rintro M s ⟨i_5,rfl,g6⟩
   cases M with
   |zero=>simp only[jX]at g6;cases g6
   |succ M=>
    rw[jX]at g6
    refine sq ?_
    refine sq (Goes.rg fol [(0,.str s_),(3,.i i_5),(17,.bool (decide (i_5<(s_.length:Int))))] [] ?_)
    refine Goes.ifB (b:=decide (i_5<(s_.length:Int))) (by kernel_rfl) (fun c8=>?_) (fun c8=>?_)
    ·rw[if_pos (ot c8)]at g6
     refine Goes.skip ?_
     refine sq (Goes.block ?_)
     refine sq ?_
     obtain⟨c9,e_c9,g6⟩:=bnd g6
     refine Goes.rq fol [2] [(0,.str s_),(3,.i i_5),(4,.int .u8 (c9.toNat:Int))] [] (ac (hs (.done (.opt (xh Tryz.prog 9 (.str s_) (.i i_5))) (.int .u8 (c9.toNat:Int))) (qbk st9 e_c9)) az) ?_
     refine sq ?_
     obtain⟨letter_14,g_v15,g6⟩:=bnd g6
     refine Goes.cut (s':=(ofG 56 [(0,.str s_),(3,.i i_5),(4,.int .u8 (c9.toNat:Int)),(5,.bool letter_14)],[])) ?_ ?_
     ·rcases Bool.eq_false_or_eq_true (decide ((c9.toNat:Int)≥97))with c10|c10
      ·rw[if_pos (ot c10)]at g_v15
       rcases Bool.eq_false_or_eq_true (decide ((c9.toNat:Int)≤122))with c11|c11
       ·rw[if_pos (ot c11)]at g_v15
        obtain rfl:=si g_v15
        exact qp.rq fol [2,6] [(0,.str s_),(3,.i i_5),(4,.int .u8 (c9.toNat:Int)),(5,.bool true)] [] (ac (gw c10) (ac (gw c11) az))
       ·rw[if_neg (of_ c11)]at g_v15
        rcases Bool.eq_false_or_eq_true (decide ((c9.toNat:Int)≥65))with c12|c12
        ·rw[if_pos (ot c12)]at g_v15
         obtain rfl:=si g_v15
         exact qp.rq fol [2,6,9] [(0,.str s_),(3,.i i_5),(4,.int .u8 (c9.toNat:Int)),(5,.bool (decide ((c9.toNat:Int)≤90)))] [] (ac (gw c10) (ac (gw c11) (ac (gw c12) az)))
        ·rw[if_neg (of_ c12)]at g_v15
         obtain rfl:=si g_v15
         exact qp.rq fol [2,6,9] [(0,.str s_),(3,.i i_5),(4,.int .u8 (c9.toNat:Int)),(5,.bool false)] [] (ac (gw c10) (ac (gw c11) (ac (gw c12) az)))
      ·rw[if_neg (of_ c10)]at g_v15
       rcases Bool.eq_false_or_eq_true (decide ((c9.toNat:Int)≥65))with c13|c13
       ·rw[if_pos (ot c13)]at g_v15
        obtain rfl:=si g_v15
        exact qp.rq fol [2,9] [(0,.str s_),(3,.i i_5),(4,.int .u8 (c9.toNat:Int)),(5,.bool (decide ((c9.toNat:Int)≤90)))] [] (ac (gw c10) (ac (gw c13) az))
       ·rw[if_neg (of_ c13)]at g_v15
        obtain rfl:=si g_v15
        exact qp.rq fol [2,9] [(0,.str s_),(3,.i i_5),(4,.int .u8 (c9.toNat:Int)),(5,.bool false)] [] (ac (gw c10) (ac (gw c13) az))
     refine sq ?_
     obtain⟨b20,g_v21,g6⟩:=bnd g6
     refine Goes.cut (s':=(ofG 56 [(0,.str s_),(3,.i i_5),(55,.bool b20)],[])) ?_ ?_
     ·rcases Bool.eq_false_or_eq_true (!letter_14)with c16|c16
      ·rw[if_pos (c16)]at g_v21
       rcases Bool.eq_false_or_eq_true (decide (i_5=0))with c17|c17
       ·rw[if_pos (ot c17)]at g_v21
        obtain rfl:=si g_v21
        exact qp.rq fol [2,5] [(0,.str s_),(3,.i i_5),(55,.bool true)] [] (ac (gw c16) (ac (gw c17) az))
       ·rw[if_neg (of_ c17)]at g_v21
        rcases Bool.eq_false_or_eq_true (decide ((c9.toNat:Int)≥48))with c18|c18
        ·rw[if_pos (ot c18)]at g_v21
         rcases Bool.eq_false_or_eq_true (decide ((c9.toNat:Int)≤57))with c19|c19
         ·rw[if_pos (ot c19)]at g_v21
          obtain rfl:=si g_v21
          exact qp.rq fol [2,5,8,12] [(0,.str s_),(3,.i i_5),(55,.bool false)] [] (ac (gw c16) (ac (gw c17) (ac (gw c18) (ac (gw c19) az))))
         ·rw[if_neg (of_ c19)]at g_v21
          obtain rfl:=si g_v21
          exact qp.rq fol [2,5,8,12] [(0,.str s_),(3,.i i_5),(55,.bool (!(decide ((c9.toNat:Int)=95))))] [] (ac (gw c16) (ac (gw c17) (ac (gw c18) (ac (gw c19) az))))
        ·rw[if_neg (of_ c18)]at g_v21
         obtain rfl:=si g_v21
         exact qp.rq fol [2,5,8] [(0,.str s_),(3,.i i_5),(55,.bool (!(decide ((c9.toNat:Int)=95))))] [] (ac (gw c16) (ac (gw c17) (ac (gw c18) az)))
      ·rw[if_neg (nb c16)]at g_v21
       obtain rfl:=si g_v21
       exact qp.rq fol [2] [(0,.str s_),(3,.i i_5),(55,.bool false)] [] (ac (gw c16) az)
     refine Goes.ifB (b:=b20) (by kernel_rfl) (fun c22=>?_) (fun c22=>?_)
     ·rw[if_pos (c22)]at g6
      refine sq (Goes.rg fol [(2,.bool false)] [] ?_)
      refine Goes.ret ?_
      obtain rfl:=si g6
      exact Or.inr (⟨rfl,_,rfl,(Goes.retW (xs:=[.bool false]) (by kernel_rfl) (FzW.still tB))⟩)
     ·rw[if_neg (nb c22)]at g6
      refine Goes.skip ?_
      refine Goes.rg fol [(0,.str s_),(3,.i (w64 (i_5+1)))] [] ?_
      exact⟨M,(ofG 56 [(0,.str s_),(3,.i (w64 (i_5+1)))],[]),Nat.lt_succ_self _,(Sub.refl _),_,rfl,g6⟩
    ·rw[if_neg (of_ c8)]at g6
     refine Goes.exit ?_
     obtain rfl:=si g6
     exact Or.inl (⟨rfl,rfl,(Sub.keep [] rfl rfl)⟩)
  rintro x s' (⟨rfl,rfl,hsub⟩|⟨rfl,q23,rfl,hret⟩)
  ·try dsimp only at h
   refine Goes.sub hsub ?_
   refine sq (Goes.rg fol [(2,.bool true)] [] ?_)
   refine Goes.ret ?_
   obtain rfl:=si h
   exact(Goes.retW (xs:=[.bool true]) (by kernel_rfl) (FzW.still tB))
  ·try dsimp only at h
   obtain rfl:=si h
   exact hret
def qaH (kind:Str):Option (Int×Int×Bool):=
 if(kind==[109,97,107,101])=true then
 some (2,3,true)
 else
 ((if(kind==[116,101,115,116])=true then
 some (kind==[116,101,115,116])
 else
 some (kind==[117,115,101]):Option Bool)).bind fun b2=>
 if b2=true then
 some (1,2,true)
 else
 ((if(kind==[102,97,105,108])=true then
 some (kind==[102,97,105,108])
 else
 some (kind==[114,101,99,97,108,108]):Option Bool)).bind fun b6=>
 if b6=true then
 some (1,1,true)
 else
 if(kind==[117,110,100,111])=true then
 some (0,0,true)
 else
 some (0,0,false)
theorem qdZ (kind:Str) {res:Int×Int×Bool} (h:qaH kind=some res):qw Tryz.prog (.fn 90) [.str kind] [] (.tuple [.i res.1,.i res.2.1,.bool res.2.2]) []:=by
 unfold qaH at h
 refine Goes.fnW Tryz.func90 rfl rfl (m:=16) rfl (rs:=[.tmp 2,.tmp 3,.tmp 4]) rfl (l:=[(0,.str kind)]) rfl ?_
 refine sq (Goes.rg fol [(0,.str kind)] [] ?_)
 refine sq ?_
 refine sq (Goes.rg fol [(5,.str kind)] [] ?_)
 refine Goes.block ?_
 refine sq (Goes.rg fol [(5,.str kind),(6,.bool (kind==[109,97,107,101]))] [] ?_)
 refine Goes.ifB (b:=kind==[109,97,107,101]) (by kernel_rfl) (fun c1=>?_) (fun c1=>?_)
 ·rw[if_pos (c1)]at h
  refine sq (Goes.rg fol [(2,.i 2),(3,.i 3),(4,.bool true)] [] ?_)
  refine Goes.ret ?_
  obtain rfl:=si h
  exact(Goes.retW (xs:=[.i 2,.i 3,.bool true]) (by kernel_rfl) (FzW.tuple (qz.cons (FzW.still tI) (qz.cons (FzW.still tI) (qz.cons (FzW.still tB) qz.nil)))))
 ·rw[if_neg (nb c1)]at h
  refine sq ?_
  refine sq (Goes.rg fol [(5,.str kind),(8,.bool (kind==[116,101,115,116]))] [] ?_)
  obtain⟨r3,g3,h⟩:=bnd h
  refine Goes.imp (Q:=fun x s'=>(x= .normal∧ ∃b2,b2=r3∧Sub s' (ofG 16 [(5,.str kind),(8,.bool b2)],[]))) ?_ ?_
  ·refine Goes.ifB (b:=kind==[116,101,115,116]) (by kernel_rfl) (fun c4=>?_) (fun c4=>?_)
   ·rw[if_pos (c4)]at g3
    refine Goes.skip ?_
    obtain rfl:=si g3
    exact⟨rfl,_,rfl,(Sub.refl _)⟩
   ·rw[if_neg (nb c4)]at g3
    refine Goes.rg fol [(5,.str kind),(8,.bool (kind==[117,115,101]))] [] ?_
    obtain rfl:=si g3
    exact⟨rfl,_,rfl,(Sub.refl _)⟩
  rintro x s' ⟨rfl,b2,rfl,hsub⟩
  refine Goes.sub hsub ?_
  refine Goes.ifB (b:=b2) (by kernel_rfl) (fun c5=>?_) (fun c5=>?_)
  ·rw[if_pos (c5)]at h
   refine sq (Goes.rg fol [(2,.i 1),(3,.i 2),(4,.bool true)] [] ?_)
   refine Goes.ret ?_
   obtain rfl:=si h
   exact(Goes.retW (xs:=[.i 1,.i 2,.bool true]) (by kernel_rfl) (FzW.tuple (qz.cons (FzW.still tI) (qz.cons (FzW.still tI) (qz.cons (FzW.still tB) qz.nil)))))
  ·rw[if_neg (nb c5)]at h
   refine sq ?_
   refine sq (Goes.rg fol [(5,.str kind),(11,.bool (kind==[102,97,105,108]))] [] ?_)
   obtain⟨r7,g7,h⟩:=bnd h
   refine Goes.imp (Q:=fun x s'=>(x= .normal∧ ∃b6,b6=r7∧Sub s' (ofG 16 [(5,.str kind),(11,.bool b6)],[]))) ?_ ?_
   ·refine Goes.ifB (b:=kind==[102,97,105,108]) (by kernel_rfl) (fun c8=>?_) (fun c8=>?_)
    ·rw[if_pos (c8)]at g7
     refine Goes.skip ?_
     obtain rfl:=si g7
     exact⟨rfl,_,rfl,(Sub.refl _)⟩
    ·rw[if_neg (nb c8)]at g7
     refine Goes.rg fol [(5,.str kind),(11,.bool (kind==[114,101,99,97,108,108]))] [] ?_
     obtain rfl:=si g7
     exact⟨rfl,_,rfl,(Sub.refl _)⟩
   rintro x s' ⟨rfl,b6,rfl,hsub⟩
   refine Goes.sub hsub ?_
   refine Goes.ifB (b:=b6) (by kernel_rfl) (fun c9=>?_) (fun c9=>?_)
   ·rw[if_pos (c9)]at h
    refine sq (Goes.rg fol [(2,.i 1),(3,.i 1),(4,.bool true)] [] ?_)
    refine Goes.ret ?_
    obtain rfl:=si h
    exact(Goes.retW (xs:=[.i 1,.i 1,.bool true]) (by kernel_rfl) (FzW.tuple (qz.cons (FzW.still tI) (qz.cons (FzW.still tI) (qz.cons (FzW.still tB) qz.nil)))))
   ·rw[if_neg (nb c9)]at h
    refine sq (Goes.rg fol [(14,.bool (kind==[117,110,100,111]))] [] ?_)
    refine Goes.ifB (b:=kind==[117,110,100,111]) (by kernel_rfl) (fun c10=>?_) (fun c10=>?_)
    ·rw[if_pos (c10)]at h
     refine sq (Goes.rg fol [(2,.i 0),(3,.i 0),(4,.bool true)] [] ?_)
     refine Goes.ret ?_
     obtain rfl:=si h
     exact(Goes.retW (xs:=[.i 0,.i 0,.bool true]) (by kernel_rfl) (FzW.tuple (qz.cons (FzW.still tI) (qz.cons (FzW.still tI) (qz.cons (FzW.still tB) qz.nil)))))
    ·rw[if_neg (nb c10)]at h
     refine Goes.skip ?_
     refine sq (Goes.rg fol [(2,.i 0),(3,.i 0),(4,.bool false)] [] ?_)
     refine Goes.ret ?_
     obtain rfl:=si h
     exact(Goes.retW (xs:=[.i 0,.i 0,.bool false]) (by kernel_rfl) (FzW.tuple (qz.cons (FzW.still tI) (qz.cons (FzW.still tI) (qz.cons (FzW.still tB) qz.nil)))))
def zT (s_:Str):Nat→(List Str)→Int→Int→Option (List Str)
 |0,_,_,_=>none
 |K+1,l1,from__2,i_3=>
  if i_3≤(s_.length:Int)then
  (((if i_3=(s_.length:Int)then
  some true
  else
  (idx s_ i_3).bind fun c11=>
  some (decide ((c11.toNat:Int)=32)):Option Bool).bind fun b12=>
  if b12=true then
  (cut s_ from__2 i_3).bind fun s15=>
  (app 16 l1 [s15]).bind fun l16=>
  some (l16,w64 (i_3+1))
  else
  some (l1,from__2):Option ((List Str)×Int))).bind fun(l7,from__8)=>
  zT s_ K l7 from__8 (w64 (i_3+1))
  else
  some l1
def qaY (N:Nat) (s_:Str):Option (List Str):=
 (zT s_ N ([]:List Str) 0 0).bind fun l4=>
 some l4
theorem qf3 (N:Nat) (s_:Str) {res:List Str} (h:qaY N s_=some res):qw Tryz.prog (.fn 137) [.str s_] [] (vl encS res) []:=by
 unfold qaY at h
 refine Goes.fnW Tryz.func137 rfl rfl (m:=32) rfl (rs:=[.tmp 2]) rfl (l:=[(0,.str s_)]) rfl ?_
 refine sq (Goes.rg fol [(0,.str s_)] [] ?_)
 refine sq (Goes.rg fol [(0,.str s_),(3,.nilslice)] [] ?_)
 refine sq (Goes.rg fol [(0,.str s_),(3,.nilslice),(4,.i 0)] [] ?_)
 refine sq ?_
 refine sq (Goes.rg fol [(0,.str s_),(3,.nilslice),(4,.i 0),(5,.i 0)] [] ?_)
 refine Goes.block ?_
 obtain⟨r5,g5,h⟩:=bnd h
 refine Goes.imp (Q:=fun x s'=>(x= .exit 0∧ ∃l4,l4=r5∧Sub s' (ofG 32 [(3,.gslice 0 l4.length 1)],[.cells (l4.flatMap encS.c)]))) ?_ ?_
 ·refine Goes.sub (s':=(ofG 32 [(0,.str s_),(3,.gslice 0 ([]:List Str).length 1),(4,.i 0),(5,.i 0)],[.cells (([]:List Str).flatMap encS.c)])) (Sub.norm [] [none] rfl rfl (.keep (.same nS) (.keep .nil (.keep (.same nI) (.keep (.same nI) .nil)))) (.fresh .nil)) ?_
  refine Goes.loopS (fun M s=> ∃(l1:List Str) (from__2:Int) (i_3:Int),s=(ofG 32 [(0,.str s_),(3,.gslice 0 l1.length 1),(4,.i from__2),(5,.i i_3)],[.cells (l1.flatMap encS.c)])∧zT s_ M l1 from__2 i_3=some r5) ?_ (m:=N) ⟨_,_,_,rfl,g5⟩
  rintro M s ⟨l1,from__2,i_3,rfl,g5⟩
  cases M with
  |zero=>simp only[zT]at g5;cases g5
  |succ M=>
   rw[zT]at g5
   refine sq ?_
   refine sq (Goes.rg fol [(0,.str s_),(3,.gslice 0 l1.length 1),(4,.i from__2),(5,.i i_3),(9,.bool (decide (i_3≤(s_.length:Int))))] [.cells (l1.flatMap encS.c)] ?_)
   refine Goes.ifB (b:=decide (i_3≤(s_.length:Int))) (by kernel_rfl) (fun c6=>?_) (fun c6=>?_)
   ·rw[if_pos (ot c6)]at g5
    refine Goes.skip ?_
    refine sq ?_
    obtain⟨r9,g9,g5⟩:=bnd g5
    refine Goes.imp (Q:=fun x s'=>(x= .normal∧ ∃l7 from__8,(l7,from__8)=r9∧Sub s' (ofG 32 [(0,.str s_),(3,.gslice 0 l7.length 1),(4,.i from__8),(5,.i i_3)],[.cells (l7.flatMap encS.c)]))) ?_ ?_
    ·refine Goes.block ?_
     refine sq ?_
     obtain⟨b12,g_v13,g9⟩:=bnd g9
     refine Goes.cut (s':=(ofG 32 [(0,.str s_),(3,.gslice 0 l1.length 1),(4,.i from__2),(5,.i i_3),(21,.bool b12)],[.cells (l1.flatMap encS.c)])) ?_ ?_
     ·rcases Bool.eq_false_or_eq_true (decide (i_3=(s_.length:Int)))with c10|c10
      ·rw[if_pos (ot c10)]at g_v13
       obtain rfl:=si g_v13
       exact qp.rq fol [4] [(0,.str s_),(3,.gslice 0 l1.length 1),(4,.i from__2),(5,.i i_3),(21,.bool true)] [.cells (l1.flatMap encS.c)] (ac (gw c10) az)
      ·rw[if_neg (of_ c10)]at g_v13
       obtain⟨c11,e_c11,g_v13⟩:=bnd g_v13
       obtain rfl:=si g_v13
       exact qp.rq fol [4,7] [(0,.str s_),(3,.gslice 0 l1.length 1),(4,.i from__2),(5,.i i_3),(21,.bool (decide ((c11.toNat:Int)=32)))] [.cells (l1.flatMap encS.c)] (ac (gw c10) (ac (hs (.done (.opt (xh Tryz.prog 9 (.str s_) (.i i_3))) (.int .u8 (c11.toNat:Int))) (qbk st9 e_c11)) az))
     refine Goes.ifB (b:=b12) (by kernel_rfl) (fun c14=>?_) (fun c14=>?_)
     ·rw[if_pos (c14)]at g9
      refine sq ?_
      obtain⟨s15,e_s15,g9⟩:=bnd g9
      obtain⟨l16,e_l16,g9⟩:=bnd g9
      refine Goes.rq fol [4,6] [(0,.str s_),(3,.gslice 2 l16.length 1),(5,.i i_3)] [.dead,.cells [.str s15],.cells (l16.flatMap encS.c)] (ac (hs (.done (.opt (kU Tryz.prog 9 (.str s_) (some (.i from__2)) (some (.i i_3)) none)) (.str s15)) (qhQ st9 (some from__2) (some i_3) e_s15)) (ac (hs (.run [0,1] (qQ Tryz.prog [23,23] (.gslice 0 l1.length 1) (.slice 1 0 1 1 1)) [.cells (l1.flatMap encS.c),.cells [.str s15]] (.gslice 2 l16.length 1) [.dead,.cells [.str s15],.cells (l16.flatMap encS.c)] true) (kN vT (E:=encS) rfl (xR (E:=encS) (ys:=[s15]) rfl rfl rfl rfl) (qb4 (E:=encS) (l:=l1) rfl rfl rfl e_l16 rfl))) az)) ?_
      refine Goes.rg fol [(0,.str s_),(3,.gslice 2 l16.length 1),(4,.i (w64 (i_3+1))),(5,.i i_3)] [.dead,.cells [.str s15],.cells (l16.flatMap encS.c)] ?_
      obtain rfl:=si g9
      exact⟨rfl,_,_,rfl,(Sub.norm [] [some 2] rfl rfl (.keep (.same nS) (.keep (.gslice rfl) (.keep (.same nI) (.keep (.same nI) .nil)))) (.keep rfl (.same fa) rfl rfl .nil))⟩
     ·rw[if_neg (nb c14)]at g9
      refine Goes.skip ?_
      obtain rfl:=si g9
      exact⟨rfl,_,_,rfl,(Sub.keep [0,3,4,5] rfl rfl)⟩
    rintro x s' ⟨rfl,l7,from__8,rfl,hsub⟩
    try dsimp only at g5
    refine Goes.sub hsub ?_
    refine Goes.rg fol [(0,.str s_),(3,.gslice 0 l7.length 1),(4,.i from__8),(5,.i (w64 (i_3+1)))] [.cells (l7.flatMap encS.c)] ?_
    exact⟨M,(ofG 32 [(0,.str s_),(3,.gslice 0 l7.length 1),(4,.i from__8),(5,.i (w64 (i_3+1)))],[.cells (l7.flatMap encS.c)]),Nat.lt_succ_self _,(Sub.refl _),_,_,_,rfl,g5⟩
   ·rw[if_neg (of_ c6)]at g5
    refine Goes.exit ?_
    obtain rfl:=si g5
    exact⟨rfl,_,rfl,(Sub.keep [3] rfl rfl)⟩
 rintro x s' ⟨rfl,l4,rfl,hsub⟩
 refine Goes.sub hsub ?_
 refine sq (Goes.rg fol [(2,.gslice 0 l4.length 1)] [.cells (l4.flatMap encS.c)] ?_)
 refine Goes.ret ?_
 obtain rfl:=si h
 exact(Goes.retW (xs:=[.gslice 0 l4.length 1]) (by kernel_rfl) (FzW.fz (Fz.gs (E:=encS) rfl rfl (nl rfl))))
def jf (s_:Str):Nat→Int→Int→Option (Int⊕(Int×Bool))
 |0,_,_=>none
 |K+1,n_8,i_9=>
  if i_9<(s_.length:Int)then
  ((idx s_ i_9).bind fun c14=>
  if(c14.toNat:Int)<48 then
  some true
  else
  some (decide ((c14.toNat:Int)>57)):Option Bool).bind fun b16=>
  if b16=true then
  some (.inr (0,false))
  else
  (idx s_ i_9).bind fun c19=>
  jf s_ K (w64 ((w64 (10*n_8))+(w64 (IntKind.wrap .u8 ((c19.toNat:Int)-48))))) (w64 (i_9+1))
  else
  some (.inl n_8)
def xS (N:Nat) (s_:Str):Option (Int×Bool):=
 (if(s_.length:Int)=0 then
 some true
 else
 if(s_.length:Int)>9 then
 some true
 else
 if(s_.length:Int)>1 then
 (idx s_ 0).bind fun c4=>
 some (decide ((c4.toNat:Int)=48))
 else
 some false:Option Bool).bind fun b5=>
 if b5=true then
 some (0,false)
 else
 (jf s_ N 0 0).bind (fun
 |(.inl n_10)=>
 some (n_10,true)
 |(.inr q20)=>
 some q20)
theorem qe5 (N:Nat) (s_:Str) {res:Int×Bool} (h:xS N s_=some res):qw Tryz.prog (.fn 138) [.str s_] [] (.tuple [.i res.1,.bool res.2]) []:=by
 unfold xS at h
 refine Goes.fnW Tryz.func138 rfl rfl (m:=49) rfl (rs:=[.tmp 2,.tmp 3]) rfl (l:=[(0,.str s_)]) rfl ?_
 refine sq (Goes.rg fol [(0,.str s_)] [] ?_)
 refine sq ?_
 refine sq ?_
 obtain⟨b5,g_v6,h⟩:=bnd h
 refine Goes.cut (s':=(ofG 49 [(0,.str s_),(23,.bool b5)],[])) ?_ ?_
 ·rcases Bool.eq_false_or_eq_true (decide ((s_.length:Int)=0))with c1|c1
  ·rw[if_pos (ot c1)]at g_v6
   obtain rfl:=si g_v6
   exact qp.rq fol [3] [(0,.str s_),(23,.bool true)] [] (ac (gw c1) az)
  ·rw[if_neg (of_ c1)]at g_v6
   rcases Bool.eq_false_or_eq_true (decide ((s_.length:Int)>9))with c2|c2
   ·rw[if_pos (ot c2)]at g_v6
    obtain rfl:=si g_v6
    exact qp.rq fol [3,8] [(0,.str s_),(23,.bool true)] [] (ac (gw c1) (ac (gw c2) az))
   ·rw[if_neg (of_ c2)]at g_v6
    rcases Bool.eq_false_or_eq_true (decide ((s_.length:Int)>1))with c3|c3
    ·rw[if_pos (ot c3)]at g_v6
     obtain⟨c4,e_c4,g_v6⟩:=bnd g_v6
     obtain rfl:=si g_v6
     exact qp.rq fol [3,8,12,14] [(0,.str s_),(23,.bool (decide ((c4.toNat:Int)=48)))] [] (ac (gw c1) (ac (gw c2) (ac (gw c3) (ac (hs (.done (.opt (xh Tryz.prog 9 (.str s_) (.i 0))) (.int .u8 (c4.toNat:Int))) (qbk st9 e_c4)) az))))
    ·rw[if_neg (of_ c3)]at g_v6
     obtain rfl:=si g_v6
     exact qp.rq fol [3,8,12] [(0,.str s_),(23,.bool false)] [] (ac (gw c1) (ac (gw c2) (ac (gw c3) az)))
 refine Goes.ifB (b:=b5) (by kernel_rfl) (fun c7=>?_) (fun c7=>?_)
 ·rw[if_pos (c7)]at h
  refine sq (Goes.rg fol [(2,.i 0),(3,.bool false)] [] ?_)
  refine Goes.ret ?_
  obtain rfl:=si h
  exact(Goes.retW (xs:=[.i 0,.bool false]) (by kernel_rfl) (FzW.tuple (qz.cons (FzW.still tI) (qz.cons (FzW.still tB) qz.nil))))
 ·rw[if_neg (nb c7)]at h
  refine Goes.skip ?_
  refine sq (Goes.rg fol [(0,.str s_),(4,.i 0)] [] ?_)
  refine sq ?_
  refine sq (Goes.rg fol [(0,.str s_),(4,.i 0),(5,.i 0)] [] ?_)
  refine Goes.block ?_
  obtain⟨r11,g11,h⟩:=bnd h
  refine Goes.imp (Q:=fun x s'=>(x= .exit 0∧ ∃n_10,(.inl n_10)=r11∧Sub s' (ofG 49 [(4,.i n_10)],[]))∨(x= .ret∧ ∃q12,(.inr q12)=r11∧qW Tryz.prog [.tmp 2,.tmp 3] (.tuple [.i q12.1,.bool q12.2]) .ret s')) ?_ ?_
  ·refine Goes.loopS (fun M s=> ∃(n_8:Int) (i_9:Int),s=(ofG 49 [(0,.str s_),(4,.i n_8),(5,.i i_9)],[])∧jf s_ M n_8 i_9=some r11) ?_ (m:=N) ⟨_,_,rfl,g11⟩
   rintro M s ⟨n_8,i_9,rfl,g11⟩
   cases M with
   |zero=>simp only[jf]at g11;cases g11
   |succ M=>
    rw[jf]at g11
    refine sq ?_
    refine sq (Goes.rg fol [(0,.str s_),(4,.i n_8),(5,.i i_9),(27,.bool (decide (i_9<(s_.length:Int))))] [] ?_)
    refine Goes.ifB (b:=decide (i_9<(s_.length:Int))) (by kernel_rfl) (fun c13=>?_) (fun c13=>?_)
    ·rw[if_pos (ot c13)]at g11
     refine Goes.skip ?_
     refine sq (Goes.block ?_)
     refine sq ?_
     refine sq ?_
     obtain⟨b16,g_v17,g11⟩:=bnd g11
     refine Goes.cut (s':=(ofG 49 [(0,.str s_),(4,.i n_8),(5,.i i_9),(39,.bool b16)],[])) ?_ ?_
     ·obtain⟨c14,e_c14,g_v17⟩:=bnd g_v17
      rcases Bool.eq_false_or_eq_true (decide ((c14.toNat:Int)<48))with c15|c15
      ·rw[if_pos (ot c15)]at g_v17
       obtain rfl:=si g_v17
       exact qp.rq fol [2,4] [(0,.str s_),(4,.i n_8),(5,.i i_9),(39,.bool true)] [] (ac (hs (.done (.opt (xh Tryz.prog 9 (.str s_) (.i i_9))) (.int .u8 (c14.toNat:Int))) (qbk st9 e_c14)) (ac (gw c15) az))
      ·rw[if_neg (of_ c15)]at g_v17
       obtain rfl:=si g_v17
       exact qp.rq fol [2,4,7] [(0,.str s_),(4,.i n_8),(5,.i i_9),(39,.bool (decide ((c14.toNat:Int)>57)))] [] (ac (hs (.done (.opt (xh Tryz.prog 9 (.str s_) (.i i_9))) (.int .u8 (c14.toNat:Int))) (qbk st9 e_c14)) (ac (gw c15) (ac (hs (.done (.opt (xh Tryz.prog 9 (.str s_) (.i i_9))) (.int .u8 (c14.toNat:Int))) (qbk st9 e_c14)) az)))
     refine Goes.ifB (b:=b16) (by kernel_rfl) (fun c18=>?_) (fun c18=>?_)
     ·rw[if_pos (c18)]at g11
      refine sq (Goes.rg fol [(2,.i 0),(3,.bool false)] [] ?_)
      refine Goes.ret ?_
      obtain rfl:=si g11
      exact Or.inr (⟨rfl,_,rfl,(Goes.retW (xs:=[.i 0,.bool false]) (by kernel_rfl) (FzW.tuple (qz.cons (FzW.still tI) (qz.cons (FzW.still tB) qz.nil))))⟩)
     ·rw[if_neg (nb c18)]at g11
      refine Goes.skip ?_
      obtain⟨c19,e_c19,g11⟩:=bnd g11
      refine Goes.rq fol [4] [(0,.str s_),(4,.i (w64 ((w64 (10*n_8))+(w64 (IntKind.wrap .u8 ((c19.toNat:Int)-48)))))),(5,.i i_9)] [] (ac (hs (.done (.opt (xh Tryz.prog 9 (.str s_) (.i i_9))) (.int .u8 (c19.toNat:Int))) (qbk st9 e_c19)) az) ?_
      refine Goes.rg fol [(0,.str s_),(4,.i (w64 ((w64 (10*n_8))+(w64 (IntKind.wrap .u8 ((c19.toNat:Int)-48)))))),(5,.i (w64 (i_9+1)))] [] ?_
      exact⟨M,(ofG 49 [(0,.str s_),(4,.i (w64 ((w64 (10*n_8))+(w64 (IntKind.wrap .u8 ((c19.toNat:Int)-48)))))),(5,.i (w64 (i_9+1)))],[]),Nat.lt_succ_self _,(Sub.refl _),_,_,rfl,g11⟩
    ·rw[if_neg (of_ c13)]at g11
     refine Goes.exit ?_
     obtain rfl:=si g11
     exact Or.inl (⟨rfl,_,rfl,(Sub.keep [4] rfl rfl)⟩)
  rintro x s' (⟨rfl,n_10,rfl,hsub⟩|⟨rfl,q20,rfl,hret⟩)
  ·try dsimp only at h
   refine Goes.sub hsub ?_
   refine sq (Goes.rg fol [(2,.i n_10),(3,.bool true)] [] ?_)
   refine Goes.ret ?_
   obtain rfl:=si h
   exact(Goes.retW (xs:=[.i n_10,.bool true]) (by kernel_rfl) (FzW.tuple (qz.cons (FzW.still tI) (qz.cons (FzW.still tB) qz.nil))))
  ·try dsimp only at h
   obtain rfl:=si h
   exact hret
def jD (N:Nat) (r1:List Str) (r3:Int×Int×Bool):Nat→(List Str)→(List Int)→Int→Option (((List Str)×(List Int))⊕(ql×Bool))
 |0,_,_,_=>none
 |K+1,l8,l9,i_10=>
  if i_10<(r1.length:Int)then
  (((idx r1 i_10).bind fun x20=>
  if(x20==[])=true then
  some (.inr ((⟨0,[],[],[],[]⟩:ql),false))
  else
  if i_10≤r3.1 then
  (app 16 l8 [x20]).bind fun l23=>
  some (.inl (l23,l9))
  else
  (xS N x20).bind fun r24=>
  if(!r24.2)=true then
  some (.inr ((⟨0,[],[],[],[]⟩:ql),false))
  else
  (app 8 l9 [r24.1]).bind fun l26=>
  some (.inl (l8,l26)):Option (((List Str)×(List Int))⊕(ql×Bool)))).bind (fun
  |(.inl (l16,l17))=>
  jD N r1 r3 K l16 l17 (w64 (i_10+1))
  |(.inr q27)=>
  some (.inr q27))
  else
  some (.inl (l8,l9))
def xI (N:Nat) (s_:Str):Option (ql×Bool):=
 (qaY N s_).bind fun r1=>
 (idx r1 0).bind fun x2=>
 (qaH x2).bind fun r3=>
 (if(!r3.2.2)=true then
 some true
 else
 some (!decide ((r1.length:Int)=(w64 ((w64 (1+r3.1))+r3.2.1)))):Option Bool).bind fun b5=>
 if b5=true then
 some ((⟨0,[],[],[],[]⟩:ql),false)
 else
 (jD N r1 r3 N ([]:List Str) ([]:List Int) 1).bind (fun
 |(.inl (l11,l12))=>
 some ((⟨0,x2,l11,l12,[]⟩:ql),true)
 |(.inr q28)=>
 some q28)
theorem qcF (N:Nat) (s_:Str) {res:ql×Bool} (h:xI N s_=some res):qw Tryz.prog (.fn 76) [.str s_] [] (.tuple [.agg (cE res.1),.bool res.2]) []:=by
 unfold xI at h
 refine Goes.fnW Tryz.func76 rfl rfl (m:=80) rfl (rs:=[.cell 2 26,.tmp 3]) rfl (l:=[(0,.str s_)]) rfl ?_
 refine sq (Goes.rg fol [(0,.str s_),(2,.ptr 0 0)] [.cells [.i 0,.str [],.nilslice,.nilslice,.str []]] ?_)
 refine sq ?_
 obtain⟨r1,e_r1,h⟩:=bnd h
 refine Goes.rq fol [1] [(2,.ptr 0 0),(4,vl encS r1)] [.cells [.i 0,.str [],.nilslice,.nilslice,.str []]] (ac (cv (qf3 N s_ e_r1)) az) ?_
 refine sq ?_
 obtain⟨x2,e_x2,h⟩:=bnd h
 obtain⟨r3,e_r3,h⟩:=bnd h
 refine Goes.rq fol [1,2,3] [(2,.ptr 0 0),(4,vl encS r1),(5,.i r3.1),(6,.i r3.2.1),(7,.bool r3.2.2)] [.cells [.i 0,.str [],.nilslice,.nilslice,.str []]] (ac (iv vT encS e_x2) (ac (lv 0 ce9 encS e_x2 rfl) (ac (cv (qdZ x2 e_r3)) az))) ?_
 refine sq ?_
 refine sq ?_
 obtain⟨b5,g_v6,h⟩:=bnd h
 refine Goes.cut (s':=(ofG 80 [(2,.ptr 0 0),(4,vl encS r1),(5,.i r3.1),(32,.bool b5)],[.cells [.i 0,.str [],.nilslice,.nilslice,.str []]])) ?_ ?_
 ·rcases Bool.eq_false_or_eq_true (!r3.2.2)with c4|c4
  ·rw[if_pos (c4)]at g_v6
   obtain rfl:=si g_v6
   exact qp.rq fol [2] [(2,.ptr 0 0),(4,vl encS r1),(5,.i r3.1),(32,.bool true)] [.cells [.i 0,.str [],.nilslice,.nilslice,.str []]] (ac (gw c4) az)
  ·rw[if_neg (nb c4)]at g_v6
   obtain rfl:=si g_v6
   exact qp.rq fol [2] [(2,.ptr 0 0),(4,vl encS r1),(5,.i r3.1),(32,.bool (!decide ((r1.length:Int)=(w64 ((w64 (1+r3.1))+r3.2.1)))))] [.cells [.i 0,.str [],.nilslice,.nilslice,.str []]] (ac (gw c4) az)
 refine Goes.ifB (b:=b5) (by kernel_rfl) (fun c7=>?_) (fun c7=>?_)
 ·rw[if_pos (c7)]at h
  refine sq (Goes.rg fol [(2,.ptr 0 0),(3,.bool false)] [.cells [.i 0,.str [],.nilslice,.nilslice,.str []]] ?_)
  refine Goes.ret ?_
  obtain rfl:=si h
  exact(Goes.retW (xs:=[.agg [.i 0,.str [],.nilslice,.nilslice,.str []],.bool false]) (by kernel_rfl) (FzW.tuple (qz.cons (FzW.agg (qz.cons (FzW.still tI) (qz.cons (FzW.still tS) (qz.cons (FzW.nilv (E:=encS)) (qz.cons (FzW.nilv (E:=encI)) (qz.cons (FzW.still tS) qz.nil)))))) (qz.cons (FzW.still tB) qz.nil))))
 ·rw[if_neg (nb c7)]at h
  refine Goes.skip ?_
  refine sq (Goes.rq fol [1,2] [(2,.ptr 0 0),(4,vl encS r1),(5,.i r3.1),(8,.ptr 1 0)] [.cells [.i 0,.str [],.nilslice,.nilslice,.str []],.cells [.i 0,.str x2,.nilslice,.nilslice,.str []]] (ac (iv vT encS e_x2) (ac (lv 0 ce9 encS e_x2 rfl) az)) ?_)
  refine sq ?_
  refine sq (Goes.rg fol [(2,.ptr 0 0),(4,vl encS r1),(5,.i r3.1),(8,.ptr 1 0),(9,.i 1)] [.cells [.i 0,.str [],.nilslice,.nilslice,.str []],.cells [.i 0,.str x2,.nilslice,.nilslice,.str []]] ?_)
  refine Goes.block ?_
  obtain⟨r13,g13,h⟩:=bnd h
  refine Goes.imp (Q:=fun x s'=>(x= .exit 0∧ ∃l11 l12,(.inl (l11,l12))=r13∧Sub s' (ofG 80 [(2,.ptr 0 0),(8,.ptr 1 0)],[.cells [.i 0,.str [],.nilslice,.nilslice,.str []],.cells [.i 0,.str x2,.gslice 2 l11.length 1,.gslice 3 l12.length 1,.str []],.cells (l11.flatMap encS.c),.cells (l12.flatMap encI.c)]))∨(x= .ret∧ ∃q14,(.inr q14)=r13∧qW Tryz.prog [.cell 2 26,.tmp 3] (.tuple [.agg (cE q14.1),.bool q14.2]) .ret s')) ?_ ?_
  ·refine Goes.sub (s':=(ofG 80 [(2,.ptr 0 0),(4,vl encS r1),(5,.i r3.1),(8,.ptr 1 0),(9,.i 1)],[.cells [.i 0,.str [],.nilslice,.nilslice,.str []],.cells [.i 0,.str x2,.gslice 2 ([]:List Str).length 1,.gslice 3 ([]:List Int).length 1,.str []],.cells (([]:List Str).flatMap encS.c),.cells (([]:List Int).flatMap encI.c)])) (Sub.norm [] [some 0,some 1,none,none] rfl rfl (.keep (.ptr rfl) (.keep (.same (qh encS _)) (.keep (.same nI) (.keep (.ptr rfl) (.keep (.same nI) .nil))))) (.keep rfl (.same (qf.cons nI (qf.cons nS (qf.cons (qx.nilslice) (qf.cons (qx.nilslice) (qf.cons nS qf.nil)))))) rfl rfl (.keep rfl (.cells (qg.cons (.same nI) (qg.cons (.same nS) (qg.cons (.nil) (qg.cons (.nil) (qg.cons (.same nS) qg.nil)))))) rfl rfl (.fresh (.fresh .nil))))) ?_
   refine Goes.loopS (fun M s=> ∃(l8:List Str) (l9:List Int) (i_10:Int),s=(ofG 80 [(2,.ptr 0 0),(4,vl encS r1),(5,.i r3.1),(8,.ptr 1 0),(9,.i i_10)],[.cells [.i 0,.str [],.nilslice,.nilslice,.str []],.cells [.i 0,.str x2,.gslice 2 l8.length 1,.gslice 3 l9.length 1,.str []],.cells (l8.flatMap encS.c),.cells (l9.flatMap encI.c)])∧jD N r1 r3 M l8 l9 i_10=some r13) ?_ (m:=N) ⟨_,_,_,rfl,g13⟩
   rintro M s ⟨l8,l9,i_10,rfl,g13⟩
   cases M with
   |zero=>simp only[jD]at g13;cases g13
   |succ M=>
    rw[jD]at g13
    refine sq ?_
    refine sq (Goes.rg fol [(2,.ptr 0 0),(4,vl encS r1),(5,.i r3.1),(8,.ptr 1 0),(9,.i i_10),(41,.bool (decide (i_10<(r1.length:Int))))] [.cells [.i 0,.str [],.nilslice,.nilslice,.str []],.cells [.i 0,.str x2,.gslice 2 l8.length 1,.gslice 3 l9.length 1,.str []],.cells (l8.flatMap encS.c),.cells (l9.flatMap encI.c)] ?_)
    refine Goes.ifB (b:=decide (i_10<(r1.length:Int))) (by kernel_rfl) (fun c15=>?_) (fun c15=>?_)
    ·rw[if_pos (ot c15)]at g13
     refine Goes.skip ?_
     refine sq ?_
     obtain⟨r18,g18,g13⟩:=bnd g13
     refine Goes.imp (Q:=fun x s'=>(x= .normal∧ ∃l16 l17,(.inl (l16,l17))=r18∧Sub s' (ofG 80 [(2,.ptr 0 0),(4,vl encS r1),(5,.i r3.1),(8,.ptr 1 0),(9,.i i_10)],[.cells [.i 0,.str [],.nilslice,.nilslice,.str []],.cells [.i 0,.str x2,.gslice 2 l16.length 1,.gslice 3 l17.length 1,.str []],.cells (l16.flatMap encS.c),.cells (l17.flatMap encI.c)]))∨(x= .ret∧ ∃q19,(.inr q19)=r18∧qW Tryz.prog [.cell 2 26,.tmp 3] (.tuple [.agg (cE q19.1),.bool q19.2]) .ret s')) ?_ ?_
     ·refine Goes.block ?_
      refine sq ?_
      refine sq ?_
      obtain⟨x20,e_x20,g18⟩:=bnd g18
      refine Goes.rq fol [2,3] [(2,.ptr 0 0),(4,vl encS r1),(5,.i r3.1),(8,.ptr 1 0),(9,.i i_10),(48,.bool (x20==[]))] [.cells [.i 0,.str [],.nilslice,.nilslice,.str []],.cells [.i 0,.str x2,.gslice 2 l8.length 1,.gslice 3 l9.length 1,.str []],.cells (l8.flatMap encS.c),.cells (l9.flatMap encI.c)] (ac (iv vT encS e_x20) (ac (lv 0 ce9 encS e_x20 rfl) az)) ?_
      refine Goes.ifB (b:=x20==[]) (by kernel_rfl) (fun c21=>?_) (fun c21=>?_)
      ·rw[if_pos (c21)]at g18
       refine sq (Goes.rg fol [(2,.ptr 0 0),(3,.bool false)] [.cells [.i 0,.str [],.nilslice,.nilslice,.str []],.cells [.i 0,.str x2,.gslice 2 l8.length 1,.gslice 3 l9.length 1,.str []],.cells (l8.flatMap encS.c),.cells (l9.flatMap encI.c)] ?_)
       refine Goes.ret ?_
       obtain rfl:=si g18
       exact Or.inr (⟨rfl,_,rfl,(Goes.retW (xs:=[.agg [.i 0,.str [],.nilslice,.nilslice,.str []],.bool false]) (by kernel_rfl) (FzW.tuple (qz.cons (FzW.agg (qz.cons (FzW.still tI) (qz.cons (FzW.still tS) (qz.cons (FzW.nilv (E:=encS)) (qz.cons (FzW.nilv (E:=encI)) (qz.cons (FzW.still tS) qz.nil)))))) (qz.cons (FzW.still tB) qz.nil))))⟩)
      ·rw[if_neg (nb c21)]at g18
       refine Goes.skip ?_
       refine sq ?_
       refine sq (Goes.rg fol [(2,.ptr 0 0),(4,vl encS r1),(5,.i r3.1),(8,.ptr 1 0),(9,.i i_10),(52,.bool (decide (i_10≤r3.1)))] [.cells [.i 0,.str [],.nilslice,.nilslice,.str []],.cells [.i 0,.str x2,.gslice 2 l8.length 1,.gslice 3 l9.length 1,.str []],.cells (l8.flatMap encS.c),.cells (l9.flatMap encI.c)] ?_)
       refine Goes.ifB (b:=decide (i_10≤r3.1)) (by kernel_rfl) (fun c22=>?_) (fun c22=>?_)
       ·rw[if_pos (ot c22)]at g18
        refine sq ?_
        obtain⟨l23,e_l23,g18⟩:=bnd g18
        refine Goes.rq fol [4,5,7] [(2,.ptr 0 0),(4,vl encS r1),(5,.i r3.1),(8,.ptr 1 0),(9,.i i_10)] [.cells [.i 0,.str [],.nilslice,.nilslice,.str []],.cells [.i 0,.str x2,.gslice 5 l23.length 1,.gslice 3 l9.length 1,.str []],.dead,.cells (l9.flatMap encI.c),.cells [.str x20],.cells (l23.flatMap encS.c)] (ac (iv vT encS e_x20) (ac (lv 0 ce9 encS e_x20 rfl) (ac (hs (.run [2,4] (qQ Tryz.prog [23,23] (.gslice 2 l8.length 1) (.slice 4 0 1 1 1)) [.cells [.i 0,.str [],.nilslice,.nilslice,.str []],.cells [.i 0,.str x2,.gslice 2 l8.length 1,.gslice 3 l9.length 1,.str []],.cells (l8.flatMap encS.c),.cells (l9.flatMap encI.c),.cells [.str x20]] (.gslice 5 l23.length 1) [.cells [.i 0,.str [],.nilslice,.nilslice,.str []],.cells [.i 0,.str x2,.gslice 2 l8.length 1,.gslice 3 l9.length 1,.str []],.dead,.cells (l9.flatMap encI.c),.cells [.str x20],.cells (l23.flatMap encS.c)] true) (kN vT (E:=encS) rfl (xR (E:=encS) (ys:=[x20]) rfl rfl rfl rfl) (qb4 (E:=encS) (l:=l8) rfl rfl rfl e_l23 rfl))) az))) ?_
        refine Goes.exit ?_
        obtain rfl:=si g18
        exact Or.inl (⟨rfl,_,_,rfl,(Sub.norm [] [some 0,some 1,some 5,some 3] rfl rfl (.keep (.ptr rfl) (.keep (.same (qh encS _)) (.keep (.same nI) (.keep (.ptr rfl) (.keep (.same nI) .nil))))) (.keep rfl (.same (qf.cons nI (qf.cons nS (qf.cons (qx.nilslice) (qf.cons (qx.nilslice) (qf.cons nS qf.nil)))))) rfl rfl (.keep rfl (.cells (qg.cons (.same nI) (qg.cons (.same nS) (qg.cons (.gslice rfl) (qg.cons (.gslice rfl) (qg.cons (.same nS) qg.nil)))))) rfl rfl (.keep rfl (.same fa) rfl rfl (.keep rfl (.same fa) rfl rfl .nil)))))⟩)
       ·rw[if_neg (of_ c22)]at g18
        refine Goes.skip ?_
        refine sq ?_
        obtain⟨r24,e_r24,g18⟩:=bnd g18
        refine Goes.rq fol [2,3,4] [(2,.ptr 0 0),(4,vl encS r1),(5,.i r3.1),(8,.ptr 1 0),(9,.i i_10),(10,.i r24.1),(11,.bool r24.2)] [.cells [.i 0,.str [],.nilslice,.nilslice,.str []],.cells [.i 0,.str x2,.gslice 2 l8.length 1,.gslice 3 l9.length 1,.str []],.cells (l8.flatMap encS.c),.cells (l9.flatMap encI.c)] (ac (iv vT encS e_x20) (ac (lv 0 ce9 encS e_x20 rfl) (ac (cv (qe5 N x20 e_r24)) az))) ?_
        refine sq ?_
        refine sq (Goes.rg fol [(2,.ptr 0 0),(4,vl encS r1),(5,.i r3.1),(8,.ptr 1 0),(9,.i i_10),(10,.i r24.1),(71,.bool (!r24.2))] [.cells [.i 0,.str [],.nilslice,.nilslice,.str []],.cells [.i 0,.str x2,.gslice 2 l8.length 1,.gslice 3 l9.length 1,.str []],.cells (l8.flatMap encS.c),.cells (l9.flatMap encI.c)] ?_)
        refine Goes.ifB (b:=!r24.2) (by kernel_rfl) (fun c25=>?_) (fun c25=>?_)
        ·rw[if_pos (c25)]at g18
         refine sq (Goes.rg fol [(2,.ptr 0 0),(3,.bool false)] [.cells [.i 0,.str [],.nilslice,.nilslice,.str []],.cells [.i 0,.str x2,.gslice 2 l8.length 1,.gslice 3 l9.length 1,.str []],.cells (l8.flatMap encS.c),.cells (l9.flatMap encI.c)] ?_)
         refine Goes.ret ?_
         obtain rfl:=si g18
         exact Or.inr (⟨rfl,_,rfl,(Goes.retW (xs:=[.agg [.i 0,.str [],.nilslice,.nilslice,.str []],.bool false]) (by kernel_rfl) (FzW.tuple (qz.cons (FzW.agg (qz.cons (FzW.still tI) (qz.cons (FzW.still tS) (qz.cons (FzW.nilv (E:=encS)) (qz.cons (FzW.nilv (E:=encI)) (qz.cons (FzW.still tS) qz.nil)))))) (qz.cons (FzW.still tB) qz.nil))))⟩)
        ·rw[if_neg (nb c25)]at g18
         refine Goes.skip ?_
         obtain⟨l26,e_l26,g18⟩:=bnd g18
         refine Goes.rq fol [4] [(2,.ptr 0 0),(4,vl encS r1),(5,.i r3.1),(8,.ptr 1 0),(9,.i i_10)] [.cells [.i 0,.str [],.nilslice,.nilslice,.str []],.cells [.i 0,.str x2,.gslice 2 l8.length 1,.gslice 5 l26.length 1,.str []],.cells (l8.flatMap encS.c),.dead,.cells [.i r24.1],.cells (l26.flatMap encI.c)] (ac (hs (.run [3,4] (qQ Tryz.prog [24,24] (.gslice 3 l9.length 1) (.slice 4 0 1 1 1)) [.cells [.i 0,.str [],.nilslice,.nilslice,.str []],.cells [.i 0,.str x2,.gslice 2 l8.length 1,.gslice 3 l9.length 1,.str []],.cells (l8.flatMap encS.c),.cells (l9.flatMap encI.c),.cells [.i r24.1]] (.gslice 5 l26.length 1) [.cells [.i 0,.str [],.nilslice,.nilslice,.str []],.cells [.i 0,.str x2,.gslice 2 l8.length 1,.gslice 3 l9.length 1,.str []],.cells (l8.flatMap encS.c),.dead,.cells [.i r24.1],.cells (l26.flatMap encI.c)] true) (kN xL (E:=encI) rfl (xR (E:=encI) (ys:=[r24.1]) rfl rfl rfl rfl) (qb4 (E:=encI) (l:=l9) rfl rfl rfl e_l26 rfl))) az) ?_
         obtain rfl:=si g18
         exact Or.inl (⟨rfl,_,_,rfl,(Sub.norm [] [some 0,some 1,some 2,some 5] rfl rfl (.keep (.ptr rfl) (.keep (.same (qh encS _)) (.keep (.same nI) (.keep (.ptr rfl) (.keep (.same nI) .nil))))) (.keep rfl (.same (qf.cons nI (qf.cons nS (qf.cons (qx.nilslice) (qf.cons (qx.nilslice) (qf.cons nS qf.nil)))))) rfl rfl (.keep rfl (.cells (qg.cons (.same nI) (qg.cons (.same nS) (qg.cons (.gslice rfl) (qg.cons (.gslice rfl) (qg.cons (.same nS) qg.nil)))))) rfl rfl (.keep rfl (.same fa) rfl rfl (.keep rfl (.same fa) rfl rfl .nil)))))⟩)
     rintro x s' (⟨rfl,l16,l17,rfl,hsub⟩|⟨rfl,q27,rfl,hret⟩)
     ·try dsimp only at g13
      refine Goes.sub hsub ?_
      refine Goes.rg fol [(2,.ptr 0 0),(4,vl encS r1),(5,.i r3.1),(8,.ptr 1 0),(9,.i (w64 (i_10+1)))] [.cells [.i 0,.str [],.nilslice,.nilslice,.str []],.cells [.i 0,.str x2,.gslice 2 l16.length 1,.gslice 3 l17.length 1,.str []],.cells (l16.flatMap encS.c),.cells (l17.flatMap encI.c)] ?_
      exact⟨M,(ofG 80 [(2,.ptr 0 0),(4,vl encS r1),(5,.i r3.1),(8,.ptr 1 0),(9,.i (w64 (i_10+1)))],[.cells [.i 0,.str [],.nilslice,.nilslice,.str []],.cells [.i 0,.str x2,.gslice 2 l16.length 1,.gslice 3 l17.length 1,.str []],.cells (l16.flatMap encS.c),.cells (l17.flatMap encI.c)]),Nat.lt_succ_self _,(Sub.refl _),_,_,_,rfl,g13⟩
     ·try dsimp only at g13
      obtain rfl:=si g13
      exact Or.inr (⟨rfl,_,rfl,hret⟩)
    ·rw[if_neg (of_ c15)]at g13
     refine Goes.exit ?_
     obtain rfl:=si g13
     exact Or.inl (⟨rfl,_,_,rfl,(Sub.keep [2,8] rfl rfl)⟩)
  rintro x s' (⟨rfl,l11,l12,rfl,hsub⟩|⟨rfl,q28,rfl,hret⟩)
  ·try dsimp only at h
   refine Goes.sub hsub ?_
   refine sq (Goes.rg fol [(2,.ptr 0 0),(3,.bool true)] [.cells [.i 0,.str x2,.gslice 2 l11.length 1,.gslice 3 l12.length 1,.str []],.cells [.i 0,.str x2,.gslice 2 l11.length 1,.gslice 3 l12.length 1,.str []],.cells (l11.flatMap encS.c),.cells (l12.flatMap encI.c)] ?_)
   refine Goes.ret ?_
   obtain rfl:=si h
   exact(Goes.retW (xs:=[.agg [.i 0,.str x2,.gslice 2 l11.length 1,.gslice 3 l12.length 1,.str []],.bool true]) (by kernel_rfl) (FzW.tuple (qz.cons (FzW.agg (qz.cons (FzW.still tI) (qz.cons (FzW.still tS) (qz.cons (FzW.fz (Fz.gs (E:=encS) rfl rfl (nl rfl))) (qz.cons (FzW.fz (Fz.gs (E:=encI) rfl rfl (nl rfl))) (qz.cons (FzW.still tS) qz.nil)))))) (qz.cons (FzW.still tB) qz.nil))))
  ·try dsimp only at h
   obtain rfl:=si h
   exact hret
def kQ (N:Nat) (l:List qm):Nat→Int→Option (Unit⊕Int)
 |0,_=>none
 |K+1,i_2=>
  if i_2<(l.length:Int)then
  (((idx l i_2).bind fun x8=>
  (yI N x8.Desk).bind fun r9=>
  if(!r9)=true then
  some (.inr 8)
  else
  ((zk x8.Number 1 1000).bind fun r11=>
  if r11=true then
  some true
  else
  (zk x8.Clock 1 1000000).bind fun r13=>
  some r13:Option Bool).bind fun b14=>
  if b14=true then
  some (.inr 3)
  else
  (xI N x8.Line).bind fun r17=>
  (if(!r17.2)=true then
  some true
  else
  some (r17.1.Kind==[117,110,100,111]):Option Bool).bind fun b19=>
  if b19=true then
  some (.inr 25)
  else
  if i_2>0 then
  (idx l (w64 (i_2-1))).bind fun x23=>
  (if(ltL x8.Desk x23.Desk)=true then
  some true
  else
  if(x8.Desk==x23.Desk)=true then
  if x8.Number≤x23.Number then
  some true
  else
  some (decide (x8.Clock≤x23.Clock))
  else
  some false:Option Bool).bind fun b27=>
  if b27=true then
  some (.inr 11)
  else
  some (.inl ())
  else
  some (.inl ()):Option (Unit⊕Int))).bind (fun
  |(.inl ())=>
  kQ N l K (w64 (i_2+1))
  |(.inr q30)=>
  some (.inr q30))
  else
  some (.inl ())
def yh (N:Nat) (l:List qm):Option Int:=
 if(l.length:Int)>1000 then
 some 5
 else
 (kQ N l N 0).bind (fun
 |(.inl ())=>
 some 0
 |(.inr q31)=>
 some q31)
theorem qdP (N:Nat) (l:List qm) {res:Int} (h:yh N l=some res):qw Tryz.prog (.fn 60) [vl qa l] [] (.i res) []:=by
 unfold yh at h
 refine Goes.fnW Tryz.func60 rfl rfl (m:=79) rfl (rs:=[.tmp 2]) rfl (l:=[(0,vl qa l)]) rfl ?_
 refine sq (Goes.rg fol [(0,vl qa l)] [] ?_)
 refine sq ?_
 refine sq (Goes.rg fol [(0,vl qa l),(10,.bool (decide ((l.length:Int)>1000)))] [] ?_)
 refine Goes.ifB (b:=decide ((l.length:Int)>1000)) (by kernel_rfl) (fun c1=>?_) (fun c1=>?_)
 ·rw[if_pos (ot c1)]at h
  refine sq (Goes.rg fol [(2,.i 5)] [] ?_)
  refine Goes.ret ?_
  obtain rfl:=si h
  exact(Goes.retW (xs:=[.i 5]) (by kernel_rfl) (FzW.still tI))
 ·rw[if_neg (of_ c1)]at h
  refine Goes.skip ?_
  refine sq ?_
  refine sq (Goes.rg fol [(0,vl qa l),(3,.i 0)] [] ?_)
  refine Goes.block ?_
  obtain⟨r3,g3,h⟩:=bnd h
  refine Goes.imp (Q:=fun x s'=>(x= .exit 0∧(.inl ())=r3∧Sub s' (ofG 79 [],[]))∨(x= .ret∧ ∃q4,(.inr q4)=r3∧qW Tryz.prog [.tmp 2] (.i q4) .ret s')) ?_ ?_
  ·refine Goes.loopS (fun M s=> ∃(i_2:Int),s=(ofG 79 [(0,vl qa l),(3,.i i_2)],[])∧kQ N l M i_2=some r3) ?_ (m:=N) ⟨_,rfl,g3⟩
   rintro M s ⟨i_2,rfl,g3⟩
   cases M with
   |zero=>simp only[kQ]at g3;cases g3
   |succ M=>
    rw[kQ]at g3
    refine sq ?_
    refine sq (Goes.rg fol [(0,vl qa l),(3,.i i_2),(14,.bool (decide (i_2<(l.length:Int))))] [] ?_)
    refine Goes.ifB (b:=decide (i_2<(l.length:Int))) (by kernel_rfl) (fun c5=>?_) (fun c5=>?_)
    ·rw[if_pos (ot c5)]at g3
     refine Goes.skip ?_
     refine sq ?_
     obtain⟨r6,g6,g3⟩:=bnd g3
     refine Goes.imp (Q:=fun x s'=>(x= .normal∧(.inl ())=r6∧Sub s' (ofG 79 [(0,vl qa l),(3,.i i_2)],[]))∨(x= .ret∧ ∃q7,(.inr q7)=r6∧qW Tryz.prog [.tmp 2] (.i q7) .ret s')) ?_ ?_
     ·refine Goes.block ?_
      refine sq ?_
      obtain⟨x8,e_x8,g6⟩:=bnd g6
      refine Goes.rq fol [2,3] [(0,vl qa l),(3,.i i_2),(4,.ptr 0 0)] [.cells [.str x8.Desk,.i x8.Number,.i x8.Clock,.str x8.Line]] (ac (iv qbv qa e_x8) (ac (la qhg qa e_x8) az)) ?_
      refine sq ?_
      refine sq ?_
      obtain⟨r9,e_r9,g6⟩:=bnd g6
      refine Goes.rq fol [2] [(0,vl qa l),(3,.i i_2),(4,.ptr 0 0),(24,.bool (!r9))] [.cells [.str x8.Desk,.i x8.Number,.i x8.Clock,.str x8.Line]] (ac (cv (qa6 N x8.Desk e_r9)) az) ?_
      refine Goes.ifB (b:=!r9) (by kernel_rfl) (fun c10=>?_) (fun c10=>?_)
      ·rw[if_pos (c10)]at g6
       refine sq (Goes.rg fol [(2,.i 8)] [.cells [.str x8.Desk,.i x8.Number,.i x8.Clock,.str x8.Line]] ?_)
       refine Goes.ret ?_
       obtain rfl:=si g6
       exact Or.inr (⟨rfl,_,rfl,(Goes.retW (xs:=[.i 8]) (by kernel_rfl) (FzW.still tI))⟩)
      ·rw[if_neg (nb c10)]at g6
       refine Goes.skip ?_
       refine sq ?_
       refine sq ?_
       obtain⟨b14,g_v15,g6⟩:=bnd g6
       refine Goes.cut (s':=(ofG 79 [(0,vl qa l),(3,.i i_2),(4,.ptr 0 0),(32,.bool b14)],[.cells [.str x8.Desk,.i x8.Number,.i x8.Clock,.str x8.Line]])) ?_ ?_
       ·obtain⟨r11,e_r11,g_v15⟩:=bnd g_v15
        rcases Bool.eq_false_or_eq_true (r11)with c12|c12
        ·rw[if_pos (c12)]at g_v15
         obtain rfl:=si g_v15
         exact qp.rq fol [2,3] [(0,vl qa l),(3,.i i_2),(4,.ptr 0 0),(32,.bool true)] [.cells [.str x8.Desk,.i x8.Number,.i x8.Clock,.str x8.Line]] (ac (cv (kE x8.Number 1 1000 e_r11)) (ac (gw c12) az))
        ·rw[if_neg (nb c12)]at g_v15
         obtain⟨r13,e_r13,g_v15⟩:=bnd g_v15
         obtain rfl:=si g_v15
         exact qp.rq fol [2,3,6] [(0,vl qa l),(3,.i i_2),(4,.ptr 0 0),(32,.bool r13)] [.cells [.str x8.Desk,.i x8.Number,.i x8.Clock,.str x8.Line]] (ac (cv (kE x8.Number 1 1000 e_r11)) (ac (gw c12) (ac (cv (kE x8.Clock 1 1000000 e_r13)) az)))
       refine Goes.ifB (b:=b14) (by kernel_rfl) (fun c16=>?_) (fun c16=>?_)
       ·rw[if_pos (c16)]at g6
        refine sq (Goes.rg fol [(2,.i 3)] [.cells [.str x8.Desk,.i x8.Number,.i x8.Clock,.str x8.Line]] ?_)
        refine Goes.ret ?_
        obtain rfl:=si g6
        exact Or.inr (⟨rfl,_,rfl,(Goes.retW (xs:=[.i 3]) (by kernel_rfl) (FzW.still tI))⟩)
       ·rw[if_neg (nb c16)]at g6
        refine Goes.skip ?_
        refine sq ?_
        obtain⟨r17,e_r17,g6⟩:=bnd g6
        refine Goes.rq fol [2] [(0,vl qa l),(3,.i i_2),(4,.ptr 0 0),(5,.ptr 1 0),(6,.bool r17.2)] [.cells [.str x8.Desk,.i x8.Number,.i x8.Clock,.str x8.Line],.cells (cE r17.1)] (ac (cv (qcF N x8.Line e_r17)) az) ?_
        refine sq ?_
        refine sq ?_
        obtain⟨b19,g_v20,g6⟩:=bnd g6
        refine Goes.cut (s':=(ofG 79 [(0,vl qa l),(3,.i i_2),(4,.ptr 0 0),(45,.bool b19)],[.cells [.str x8.Desk,.i x8.Number,.i x8.Clock,.str x8.Line],.cells (cE r17.1)])) ?_ ?_
        ·rcases Bool.eq_false_or_eq_true (!r17.2)with c18|c18
         ·rw[if_pos (c18)]at g_v20
          obtain rfl:=si g_v20
          exact qp.rq fol [2] [(0,vl qa l),(3,.i i_2),(4,.ptr 0 0),(45,.bool true)] [.cells [.str x8.Desk,.i x8.Number,.i x8.Clock,.str x8.Line],.cells (cE r17.1)] (ac (gw c18) az)
         ·rw[if_neg (nb c18)]at g_v20
          obtain rfl:=si g_v20
          exact qp.rq fol [2] [(0,vl qa l),(3,.i i_2),(4,.ptr 0 0),(45,.bool (r17.1.Kind==[117,110,100,111]))] [.cells [.str x8.Desk,.i x8.Number,.i x8.Clock,.str x8.Line],.cells (cE r17.1)] (ac (gw c18) az)
        refine Goes.ifB (b:=b19) (by kernel_rfl) (fun c21=>?_) (fun c21=>?_)
        ·rw[if_pos (c21)]at g6
         refine sq (Goes.rg fol [(2,.i 25)] [.cells [.str x8.Desk,.i x8.Number,.i x8.Clock,.str x8.Line],.cells (cE r17.1)] ?_)
         refine Goes.ret ?_
         obtain rfl:=si g6
         exact Or.inr (⟨rfl,_,rfl,(Goes.retW (xs:=[.i 25]) (by kernel_rfl) (FzW.still tI))⟩)
        ·rw[if_neg (nb c21)]at g6
         refine Goes.skip ?_
         refine sq (Goes.rg fol [(0,vl qa l),(3,.i i_2),(4,.ptr 0 0),(47,.bool (decide (i_2>0)))] [.cells [.str x8.Desk,.i x8.Number,.i x8.Clock,.str x8.Line],.cells (cE r17.1)] ?_)
         refine Goes.ifB (b:=decide (i_2>0)) (by kernel_rfl) (fun c22=>?_) (fun c22=>?_)
         ·rw[if_pos (ot c22)]at g6
          refine sq ?_
          obtain⟨x23,e_x23,g6⟩:=bnd g6
          refine Goes.rq fol [3,4] [(0,vl qa l),(3,.i i_2),(4,.ptr 0 0),(7,.ptr 2 0)] [.cells [.str x8.Desk,.i x8.Number,.i x8.Clock,.str x8.Line],.cells (cE r17.1),.cells [.str x23.Desk,.i x23.Number,.i x23.Clock,.str x23.Line]] (ac (iv qbv qa e_x23) (ac (la qhg qa e_x23) az)) ?_
          refine sq ?_
          obtain⟨b27,g_v28,g6⟩:=bnd g6
          refine Goes.cut (s':=(ofG 79 [(0,vl qa l),(3,.i i_2),(78,.bool b27)],[.cells [.str x8.Desk,.i x8.Number,.i x8.Clock,.str x8.Line],.cells (cE r17.1),.cells [.str x23.Desk,.i x23.Number,.i x23.Clock,.str x23.Line]])) ?_ ?_
          ·rcases Bool.eq_false_or_eq_true (ltL x8.Desk x23.Desk)with c24|c24
           ·rw[if_pos (c24)]at g_v28
            obtain rfl:=si g_v28
            exact qp.rq fol [5] [(0,vl qa l),(3,.i i_2),(78,.bool true)] [.cells [.str x8.Desk,.i x8.Number,.i x8.Clock,.str x8.Line],.cells (cE r17.1),.cells [.str x23.Desk,.i x23.Number,.i x23.Clock,.str x23.Line]] (ac (gw c24) az)
           ·rw[if_neg (nb c24)]at g_v28
            rcases Bool.eq_false_or_eq_true (x8.Desk==x23.Desk)with c25|c25
            ·rw[if_pos (c25)]at g_v28
             rcases Bool.eq_false_or_eq_true (decide (x8.Number≤x23.Number))with c26|c26
             ·rw[if_pos (ot c26)]at g_v28
              obtain rfl:=si g_v28
              exact qp.rq fol [5,11,17] [(0,vl qa l),(3,.i i_2),(78,.bool true)] [.cells [.str x8.Desk,.i x8.Number,.i x8.Clock,.str x8.Line],.cells (cE r17.1),.cells [.str x23.Desk,.i x23.Number,.i x23.Clock,.str x23.Line]] (ac (gw c24) (ac (gw c25) (ac (gw c26) az)))
             ·rw[if_neg (of_ c26)]at g_v28
              obtain rfl:=si g_v28
              exact qp.rq fol [5,11,17] [(0,vl qa l),(3,.i i_2),(78,.bool (decide (x8.Clock≤x23.Clock)))] [.cells [.str x8.Desk,.i x8.Number,.i x8.Clock,.str x8.Line],.cells (cE r17.1),.cells [.str x23.Desk,.i x23.Number,.i x23.Clock,.str x23.Line]] (ac (gw c24) (ac (gw c25) (ac (gw c26) az)))
            ·rw[if_neg (nb c25)]at g_v28
             obtain rfl:=si g_v28
             exact qp.rq fol [5,11] [(0,vl qa l),(3,.i i_2),(78,.bool false)] [.cells [.str x8.Desk,.i x8.Number,.i x8.Clock,.str x8.Line],.cells (cE r17.1),.cells [.str x23.Desk,.i x23.Number,.i x23.Clock,.str x23.Line]] (ac (gw c24) (ac (gw c25) az))
          refine Goes.ifB (b:=b27) (by kernel_rfl) (fun c29=>?_) (fun c29=>?_)
          ·rw[if_pos (c29)]at g6
           refine sq (Goes.rg fol [(2,.i 11)] [.cells [.str x8.Desk,.i x8.Number,.i x8.Clock,.str x8.Line],.cells (cE r17.1),.cells [.str x23.Desk,.i x23.Number,.i x23.Clock,.str x23.Line]] ?_)
           refine Goes.ret ?_
           obtain rfl:=si g6
           exact Or.inr (⟨rfl,_,rfl,(Goes.retW (xs:=[.i 11]) (by kernel_rfl) (FzW.still tI))⟩)
          ·rw[if_neg (nb c29)]at g6
           refine Goes.skip ?_
           obtain rfl:=si g6
           exact Or.inl (⟨rfl,rfl,(Sub.norm [] [] rfl rfl (.keep (.same (qh qa _)) (.keep (.same nI) .nil)) .nil)⟩)
         ·rw[if_neg (of_ c22)]at g6
          refine Goes.skip ?_
          obtain rfl:=si g6
          exact Or.inl (⟨rfl,rfl,(Sub.norm [] [] rfl rfl (.keep (.same (qh qa _)) (.keep (.same nI) .nil)) .nil)⟩)
     rintro x s' (⟨rfl,rfl,hsub⟩|⟨rfl,q30,rfl,hret⟩)
     ·try dsimp only at g3
      refine Goes.sub hsub ?_
      refine Goes.rg fol [(0,vl qa l),(3,.i (w64 (i_2+1)))] [] ?_
      exact⟨M,(ofG 79 [(0,vl qa l),(3,.i (w64 (i_2+1)))],[]),Nat.lt_succ_self _,(Sub.refl _),_,rfl,g3⟩
     ·try dsimp only at g3
      obtain rfl:=si g3
      exact Or.inr (⟨rfl,_,rfl,hret⟩)
    ·rw[if_neg (of_ c5)]at g3
     refine Goes.exit ?_
     obtain rfl:=si g3
     exact Or.inl (⟨rfl,rfl,(Sub.keep [] rfl rfl)⟩)
  rintro x s' (⟨rfl,rfl,hsub⟩|⟨rfl,q31,rfl,hret⟩)
  ·try dsimp only at h
   refine Goes.sub hsub ?_
   refine sq (Goes.rg fol [(2,.i 0)] [] ?_)
   refine Goes.ret ?_
   obtain rfl:=si h
   exact(Goes.retW (xs:=[.i 0]) (by kernel_rfl) (FzW.still tI))
  ·try dsimp only at h
   obtain rfl:=si h
   exact hret
def kK (N:Nat) (v:List qB):Nat→Int→Option (Unit⊕Int)
 |0,_=>none
 |K+1,i_2=>
  if i_2<(v.length:Int)then
  (idx v i_2).bind fun x6=>
  (yI N x6.Desk).bind fun r7=>
  if(!r7)=true then
  some (.inr 8)
  else
  (zk x6.Number 0 1000).bind fun r9=>
  if r9=true then
  some (.inr 3)
  else
  (if i_2>0 then
  (idx v (w64 (i_2-1))).bind fun x12=>
  some (ltL x6.Desk x12.Desk||x6.Desk==x12.Desk)
  else
  some false:Option Bool).bind fun b13=>
  if b13=true then
  some (.inr 11)
  else
  kK N v K (w64 (i_2+1))
  else
  some (.inl ())
def vQ (N:Nat) (v:List qB):Option Int:=
 if(v.length:Int)>1000 then
 some 5
 else
 (kK N v N 0).bind (fun
 |(.inl ())=>
 some 0
 |(.inr q16)=>
 some q16)
theorem qdk (N:Nat) (v:List qB) {res:Int} (h:vQ N v=some res):qw Tryz.prog (.fn 61) [vl qd v] [] (.i res) []:=by
 unfold vQ at h
 refine Goes.fnW Tryz.func61 rfl rfl (m:=42) rfl (rs:=[.tmp 2]) rfl (l:=[(0,vl qd v)]) rfl ?_
 refine sq (Goes.rg fol [(0,vl qd v)] [] ?_)
 refine sq ?_
 refine sq (Goes.rg fol [(0,vl qd v),(6,.bool (decide ((v.length:Int)>1000)))] [] ?_)
 refine Goes.ifB (b:=decide ((v.length:Int)>1000)) (by kernel_rfl) (fun c1=>?_) (fun c1=>?_)
 ·rw[if_pos (ot c1)]at h
  refine sq (Goes.rg fol [(2,.i 5)] [] ?_)
  refine Goes.ret ?_
  obtain rfl:=si h
  exact(Goes.retW (xs:=[.i 5]) (by kernel_rfl) (FzW.still tI))
 ·rw[if_neg (of_ c1)]at h
  refine Goes.skip ?_
  refine sq ?_
  refine sq (Goes.rg fol [(0,vl qd v),(3,.i 0)] [] ?_)
  refine Goes.block ?_
  obtain⟨r3,g3,h⟩:=bnd h
  refine Goes.imp (Q:=fun x s'=>(x= .exit 0∧(.inl ())=r3∧Sub s' (ofG 42 [],[]))∨(x= .ret∧ ∃q4,(.inr q4)=r3∧qW Tryz.prog [.tmp 2] (.i q4) .ret s')) ?_ ?_
  ·refine Goes.loopS (fun M s=> ∃(i_2:Int),s=(ofG 42 [(0,vl qd v),(3,.i i_2)],[])∧kK N v M i_2=some r3) ?_ (m:=N) ⟨_,rfl,g3⟩
   rintro M s ⟨i_2,rfl,g3⟩
   cases M with
   |zero=>simp only[kK]at g3;cases g3
   |succ M=>
    rw[kK]at g3
    refine sq ?_
    refine sq (Goes.rg fol [(0,vl qd v),(3,.i i_2),(10,.bool (decide (i_2<(v.length:Int))))] [] ?_)
    refine Goes.ifB (b:=decide (i_2<(v.length:Int))) (by kernel_rfl) (fun c5=>?_) (fun c5=>?_)
    ·rw[if_pos (ot c5)]at g3
     refine Goes.skip ?_
     refine sq (Goes.block ?_)
     refine sq ?_
     refine sq ?_
     obtain⟨x6,e_x6,g3⟩:=bnd g3
     obtain⟨r7,e_r7,g3⟩:=bnd g3
     refine Goes.rq fol [2,4,5] [(0,vl qd v),(3,.i i_2),(19,.bool (!r7))] [] (ac (iv qdp qd e_x6) (ac (lv 0 ce9 qd e_x6 rfl) (ac (cv (qa6 N x6.Desk e_r7)) az))) ?_
     refine Goes.ifB (b:=!r7) (by kernel_rfl) (fun c8=>?_) (fun c8=>?_)
     ·rw[if_pos (c8)]at g3
      refine sq (Goes.rg fol [(2,.i 8)] [] ?_)
      refine Goes.ret ?_
      obtain rfl:=si g3
      exact Or.inr (⟨rfl,_,rfl,(Goes.retW (xs:=[.i 8]) (by kernel_rfl) (FzW.still tI))⟩)
     ·rw[if_neg (nb c8)]at g3
      refine Goes.skip ?_
      refine sq ?_
      refine sq ?_
      obtain⟨r9,e_r9,g3⟩:=bnd g3
      refine Goes.rq fol [2,4,5] [(0,vl qd v),(3,.i i_2),(25,.bool r9)] [] (ac (iv qdp qd e_x6) (ac (lv 1 ce3 qd e_x6 rfl) (ac (cv (kE x6.Number 0 1000 e_r9)) az))) ?_
      refine Goes.ifB (b:=r9) (by kernel_rfl) (fun c10=>?_) (fun c10=>?_)
      ·rw[if_pos (c10)]at g3
       refine sq (Goes.rg fol [(2,.i 3)] [] ?_)
       refine Goes.ret ?_
       obtain rfl:=si g3
       exact Or.inr (⟨rfl,_,rfl,(Goes.retW (xs:=[.i 3]) (by kernel_rfl) (FzW.still tI))⟩)
      ·rw[if_neg (nb c10)]at g3
       refine Goes.skip ?_
       refine sq ?_
       obtain⟨b13,g_v14,g3⟩:=bnd g3
       refine Goes.cut (s':=(ofG 42 [(0,vl qd v),(3,.i i_2),(41,.bool b13)],[])) ?_ ?_
       ·rcases Bool.eq_false_or_eq_true (decide (i_2>0))with c11|c11
        ·rw[if_pos (ot c11)]at g_v14
         obtain⟨x12,e_x12,g_v14⟩:=bnd g_v14
         obtain rfl:=si g_v14
         exact qp.rq fol [2,5,7,11,13] [(0,vl qd v),(3,.i i_2),(41,.bool (ltL x6.Desk x12.Desk||x6.Desk==x12.Desk))] [] (ac (gw c11) (ac (iv qdp qd e_x6) (ac (lv 0 ce9 qd e_x6 rfl) (ac (iv qdp qd e_x12) (ac (lv 0 ce9 qd e_x12 rfl) az)))))
        ·rw[if_neg (of_ c11)]at g_v14
         obtain rfl:=si g_v14
         exact qp.rq fol [2] [(0,vl qd v),(3,.i i_2),(41,.bool false)] [] (ac (gw c11) az)
       refine Goes.ifB (b:=b13) (by kernel_rfl) (fun c15=>?_) (fun c15=>?_)
       ·rw[if_pos (c15)]at g3
        refine sq (Goes.rg fol [(2,.i 11)] [] ?_)
        refine Goes.ret ?_
        obtain rfl:=si g3
        exact Or.inr (⟨rfl,_,rfl,(Goes.retW (xs:=[.i 11]) (by kernel_rfl) (FzW.still tI))⟩)
       ·rw[if_neg (nb c15)]at g3
        refine Goes.skip ?_
        refine Goes.rg fol [(0,vl qd v),(3,.i (w64 (i_2+1)))] [] ?_
        exact⟨M,(ofG 42 [(0,vl qd v),(3,.i (w64 (i_2+1)))],[]),Nat.lt_succ_self _,(Sub.refl _),_,rfl,g3⟩
    ·rw[if_neg (of_ c5)]at g3
     refine Goes.exit ?_
     obtain rfl:=si g3
     exact Or.inl (⟨rfl,rfl,(Sub.keep [] rfl rfl)⟩)
  rintro x s' (⟨rfl,rfl,hsub⟩|⟨rfl,q16,rfl,hret⟩)
  ·try dsimp only at h
   refine Goes.sub hsub ?_
   refine sq (Goes.rg fol [(2,.i 0)] [] ?_)
   refine Goes.ret ?_
   obtain rfl:=si h
   exact(Goes.retW (xs:=[.i 0]) (by kernel_rfl) (FzW.still tI))
  ·try dsimp only at h
   obtain rfl:=si h
   exact hret
def jh (l:List qm) (v:List qB) (i_2:Int):Nat→Int→Int→Option Int
 |0,_,_=>none
 |K+1,has_8,k_9=>
  if k_9<(v.length:Int)then
  (((idx v k_9).bind fun x15=>
  (idx l i_2).bind fun x16=>
  if(x15.Desk==x16.Desk)=true then
  some x15.Number
  else
  some has_8:Option Int)).bind fun has_13=>
  jh l v i_2 K has_13 (w64 (k_9+1))
  else
  some has_8
def je (N:Nat) (l:List qm) (v:List qB):Nat→(List qm)→Int→Option (List qm)
 |0,_,_=>none
 |K+1,l1,i_2=>
  if i_2<(l.length:Int)then
  (((jh l v i_2 N 0 0).bind fun has_10=>
  (idx l i_2).bind fun x18=>
  if x18.Number>has_10 then
  (app 48 l1 [x18]).bind fun l20=>
  some l20
  else
  some l1:Option (List qm))).bind fun l6=>
  je N l v K l6 (w64 (i_2+1))
  else
  some l1
def yQ (N:Nat) (l:List qm) (v:List qB):Option (List qm):=
 (je N l v N ([]:List qm) 0).bind fun l3=>
 some l3
theorem qe7 (N:Nat) (l:List qm) (v:List qB) {res:List qm} (h:yQ N l v=some res):qw Tryz.prog (.fn 62) [vl qa l,vl qd v] [] (vl qa res) []:=by
 unfold yQ at h
 refine Goes.fnW Tryz.func62 rfl rfl (m:=52) rfl (rs:=[.tmp 4]) rfl (l:=[(0,vl qa l),(1,vl qd v)]) rfl ?_
 refine sq (Goes.rg fol [(0,vl qa l),(1,vl qd v)] [] ?_)
 refine sq (Goes.rg fol [(0,vl qa l),(1,vl qd v),(5,.nilslice)] [] ?_)
 refine sq ?_
 refine sq (Goes.rg fol [(0,vl qa l),(1,vl qd v),(5,.nilslice),(6,.i 0)] [] ?_)
 refine Goes.block ?_
 obtain⟨r4,g4,h⟩:=bnd h
 refine Goes.imp (Q:=fun x s'=>(x= .exit 0∧ ∃l3,l3=r4∧Sub s' (ofG 52 [(5,.gslice 0 l3.length 4)],[.cells (l3.flatMap qa.c)]))) ?_ ?_
 ·refine Goes.sub (s':=(ofG 52 [(0,vl qa l),(1,vl qd v),(5,.gslice 0 ([]:List qm).length 4),(6,.i 0)],[.cells (([]:List qm).flatMap qa.c)])) (Sub.norm [] [none] rfl rfl (.keep (.same (qh qa _)) (.keep (.same (qh qd _)) (.keep .nil (.keep (.same nI) .nil)))) (.fresh .nil)) ?_
  refine Goes.loopS (fun M s=> ∃(l1:List qm) (i_2:Int),s=(ofG 52 [(0,vl qa l),(1,vl qd v),(5,.gslice 0 l1.length 4),(6,.i i_2)],[.cells (l1.flatMap qa.c)])∧je N l v M l1 i_2=some r4) ?_ (m:=N) ⟨_,_,rfl,g4⟩
  rintro M s ⟨l1,i_2,rfl,g4⟩
  cases M with
  |zero=>simp only[je]at g4;cases g4
  |succ M=>
   rw[je]at g4
   refine sq ?_
   refine sq (Goes.rg fol [(0,vl qa l),(1,vl qd v),(5,.gslice 0 l1.length 4),(6,.i i_2),(12,.bool (decide (i_2<(l.length:Int))))] [.cells (l1.flatMap qa.c)] ?_)
   refine Goes.ifB (b:=decide (i_2<(l.length:Int))) (by kernel_rfl) (fun c5=>?_) (fun c5=>?_)
   ·rw[if_pos (ot c5)]at g4
    refine Goes.skip ?_
    refine sq ?_
    obtain⟨r7,g7,g4⟩:=bnd g4
    refine Goes.imp (Q:=fun x s'=>(x= .normal∧ ∃l6,l6=r7∧Sub s' (ofG 52 [(0,vl qa l),(1,vl qd v),(5,.gslice 0 l6.length 4),(6,.i i_2)],[.cells (l6.flatMap qa.c)]))) ?_ ?_
    ·refine Goes.block ?_
     refine sq (Goes.rg fol [(0,vl qa l),(1,vl qd v),(5,.gslice 0 l1.length 4),(6,.i i_2),(7,.i 0)] [.cells (l1.flatMap qa.c)] ?_)
     refine sq ?_
     refine sq (Goes.rg fol [(0,vl qa l),(1,vl qd v),(5,.gslice 0 l1.length 4),(6,.i i_2),(7,.i 0),(8,.i 0)] [.cells (l1.flatMap qa.c)] ?_)
     refine Goes.block ?_
     obtain⟨r11,g11,g7⟩:=bnd g7
     refine Goes.imp (Q:=fun x s'=>(x= .exit 2∧ ∃has_10,has_10=r11∧Sub s' (ofG 52 [(0,vl qa l),(1,vl qd v),(5,.gslice 0 l1.length 4),(6,.i i_2),(7,.i has_10)],[.cells (l1.flatMap qa.c)]))) ?_ ?_
     ·refine Goes.loopS (fun M s=> ∃(has_8:Int) (k_9:Int),s=(ofG 52 [(0,vl qa l),(1,vl qd v),(5,.gslice 0 l1.length 4),(6,.i i_2),(7,.i has_8),(8,.i k_9)],[.cells (l1.flatMap qa.c)])∧jh l v i_2 M has_8 k_9=some r11) ?_ (m:=N) ⟨_,_,rfl,g11⟩
      rintro M s ⟨has_8,k_9,rfl,g11⟩
      cases M with
      |zero=>simp only[jh]at g11;cases g11
      |succ M=>
       rw[jh]at g11
       refine sq ?_
       refine sq (Goes.rg fol [(0,vl qa l),(1,vl qd v),(5,.gslice 0 l1.length 4),(6,.i i_2),(7,.i has_8),(8,.i k_9),(18,.bool (decide (k_9<(v.length:Int))))] [.cells (l1.flatMap qa.c)] ?_)
       refine Goes.ifB (b:=decide (k_9<(v.length:Int))) (by kernel_rfl) (fun c12=>?_) (fun c12=>?_)
       ·rw[if_pos (ot c12)]at g11
        refine Goes.skip ?_
        refine sq ?_
        obtain⟨r14,g14,g11⟩:=bnd g11
        refine Goes.imp (Q:=fun x s'=>(x= .normal∧ ∃has_13,has_13=r14∧Sub s' (ofG 52 [(0,vl qa l),(1,vl qd v),(5,.gslice 0 l1.length 4),(6,.i i_2),(7,.i has_13),(8,.i k_9)],[.cells (l1.flatMap qa.c)]))) ?_ ?_
        ·refine Goes.block ?_
         refine sq ?_
         obtain⟨x15,e_x15,g14⟩:=bnd g14
         obtain⟨x16,e_x16,g14⟩:=bnd g14
         refine Goes.rq fol [2,4,7,9] [(0,vl qa l),(1,vl qd v),(5,.gslice 0 l1.length 4),(6,.i i_2),(7,.i has_8),(8,.i k_9),(31,.bool (x15.Desk==x16.Desk))] [.cells (l1.flatMap qa.c)] (ac (iv qdp qd e_x15) (ac (lv 0 ce9 qd e_x15 rfl) (ac (iv qbv qa e_x16) (ac (lv 0 ce9 qa e_x16 rfl) az)))) ?_
         refine Goes.ifB (b:=x15.Desk==x16.Desk) (by kernel_rfl) (fun c17=>?_) (fun c17=>?_)
         ·rw[if_pos (c17)]at g14
          refine Goes.rq fol [2,4] [(0,vl qa l),(1,vl qd v),(5,.gslice 0 l1.length 4),(6,.i i_2),(7,.i x15.Number),(8,.i k_9)] [.cells (l1.flatMap qa.c)] (ac (iv qdp qd e_x15) (ac (lv 1 ce3 qd e_x15 rfl) az)) ?_
          obtain rfl:=si g14
          exact⟨rfl,_,rfl,(Sub.refl _)⟩
         ·rw[if_neg (nb c17)]at g14
          refine Goes.skip ?_
          obtain rfl:=si g14
          exact⟨rfl,_,rfl,(Sub.keep [0,1,5,6,7,8] rfl rfl)⟩
        rintro x s' ⟨rfl,has_13,rfl,hsub⟩
        refine Goes.sub hsub ?_
        refine Goes.rg fol [(0,vl qa l),(1,vl qd v),(5,.gslice 0 l1.length 4),(6,.i i_2),(7,.i has_13),(8,.i (w64 (k_9+1)))] [.cells (l1.flatMap qa.c)] ?_
        exact⟨M,(ofG 52 [(0,vl qa l),(1,vl qd v),(5,.gslice 0 l1.length 4),(6,.i i_2),(7,.i has_13),(8,.i (w64 (k_9+1)))],[.cells (l1.flatMap qa.c)]),Nat.lt_succ_self _,(Sub.refl _),_,_,rfl,g11⟩
       ·rw[if_neg (of_ c12)]at g11
        refine Goes.exit ?_
        obtain rfl:=si g11
        exact⟨rfl,_,rfl,(Sub.keep [0,1,5,6,7] rfl rfl)⟩
     rintro x s' ⟨rfl,has_10,rfl,hsub⟩
     refine Goes.sub hsub ?_
     refine sq ?_
     obtain⟨x18,e_x18,g7⟩:=bnd g7
     refine Goes.rq fol [2,4] [(0,vl qa l),(1,vl qd v),(5,.gslice 0 l1.length 4),(6,.i i_2),(43,.bool (decide (x18.Number>has_10)))] [.cells (l1.flatMap qa.c)] (ac (iv qbv qa e_x18) (ac (lv 1 ce3 qa e_x18 rfl) az)) ?_
     refine Goes.ifB (b:=decide (x18.Number>has_10)) (by kernel_rfl) (fun c19=>?_) (fun c19=>?_)
     ·rw[if_pos (ot c19)]at g7
      obtain⟨l20,e_l20,g7⟩:=bnd g7
      refine Goes.rq fol [3,4,6] [(0,vl qa l),(1,vl qd v),(5,.gslice 2 l20.length 4),(6,.i i_2)] [.dead,.cells [.str x18.Desk,.i x18.Number,.i x18.Clock,.str x18.Line],.cells (l20.flatMap qa.c)] (ac (iv qbv qa e_x18) (ac (la qhg qa e_x18) (ac (hs (.run [0,1] (qQ Tryz.prog [98,98] (.gslice 0 l1.length 4) (.slice 1 0 1 1 4)) [.cells (l1.flatMap qa.c),.cells [.str x18.Desk,.i x18.Number,.i x18.Clock,.str x18.Line]] (.gslice 2 l20.length 4) [.dead,.cells [.str x18.Desk,.i x18.Number,.i x18.Clock,.str x18.Line],.cells (l20.flatMap qa.c)] true) (kN qbv (E:=qa) rfl (xR (E:=qa) (ys:=[x18]) rfl rfl rfl rfl) (qb4 (E:=qa) (l:=l1) rfl rfl rfl e_l20 rfl))) az))) ?_
      obtain rfl:=si g7
      exact⟨rfl,_,rfl,(Sub.norm [] [some 2] rfl rfl (.keep (.same (qh qa _)) (.keep (.same (qh qd _)) (.keep (.gslice rfl) (.keep (.same nI) .nil)))) (.keep rfl (.same fa) rfl rfl .nil))⟩
     ·rw[if_neg (of_ c19)]at g7
      refine Goes.skip ?_
      obtain rfl:=si g7
      exact⟨rfl,_,rfl,(Sub.keep [0,1,5,6] rfl rfl)⟩
    rintro x s' ⟨rfl,l6,rfl,hsub⟩
    refine Goes.sub hsub ?_
    refine Goes.rg fol [(0,vl qa l),(1,vl qd v),(5,.gslice 0 l6.length 4),(6,.i (w64 (i_2+1)))] [.cells (l6.flatMap qa.c)] ?_
    exact⟨M,(ofG 52 [(0,vl qa l),(1,vl qd v),(5,.gslice 0 l6.length 4),(6,.i (w64 (i_2+1)))],[.cells (l6.flatMap qa.c)]),Nat.lt_succ_self _,(Sub.refl _),_,_,rfl,g4⟩
   ·rw[if_neg (of_ c5)]at g4
    refine Goes.exit ?_
    obtain rfl:=si g4
    exact⟨rfl,_,rfl,(Sub.keep [5] rfl rfl)⟩
 rintro x s' ⟨rfl,l3,rfl,hsub⟩
 refine Goes.sub hsub ?_
 refine sq (Goes.rg fol [(4,.gslice 0 l3.length 4)] [.cells (l3.flatMap qa.c)] ?_)
 refine Goes.ret ?_
 obtain rfl:=si h
 exact(Goes.retW (xs:=[.gslice 0 l3.length 4]) (by kernel_rfl) (FzW.fz (Fz.gs (E:=qa) rfl rfl (nl rfl))))
def zO (N:Nat) (e:ql) (r3:Int×Int×Bool):Nat→Int→Option (Unit⊕Int)
 |0,_=>none
 |K+1,i_9=>
  if i_9<r3.1 then
  (idx e.Names i_9).bind fun x13=>
  (yI N x13).bind fun r14=>
  if(!r14)=true then
  some (.inr 8)
  else
  zO N e r3 K (w64 (i_9+1))
  else
  some (.inl ())
def zN (e:ql) (r3:Int×Int×Bool):Nat→Int→Option (Unit⊕Int)
 |0,_=>none
 |K+1,i_16=>
  if i_16<r3.2.1 then
  (idx e.Values i_16).bind fun x20=>
  (zk x20 0 999999999).bind fun r21=>
  if r21=true then
  some (.inr 3)
  else
  zN e r3 K (w64 (i_16+1))
  else
  some (.inl ())
def vz (N:Nat) (e:ql):Option Int:=
 (zk e.Number 1 1000).bind fun r1=>
 if r1=true then
 some 3
 else
 (qaH e.Kind).bind fun r3=>
 if(!r3.2.2)=true then
 some 13
 else
 (if(!decide ((e.Names.length:Int)=r3.1))=true then
 some true
 else
 some (!decide ((e.Values.length:Int)=r3.2.1)):Option Bool).bind fun b6=>
 if b6=true then
 some 2
 else
 (zO N e r3 N 0).bind (fun
 |(.inl ())=>
 (zN e r3 N 0).bind (fun
 |(.inl ())=>
 if(!(e.Text==[]))=true then
 some 1
 else
 some 0
 |(.inr q24)=>
 some q24)
 |(.inr q25)=>
 some q25)
theorem qa9 (N:Nat) (e:ql) {res:Int} (h:vz N e=some res):qw Tryz.prog (.fn 19) [.agg (cE e)] [] (.i res) []:=by
 unfold vz at h
 refine Goes.fnW Tryz.func19 rfl rfl (m:=58) rfl (rs:=[.tmp 2]) rfl (l:=[(0,.agg (cE e))]) rfl ?_
 refine sq (Goes.rg fol [(1,.ptr 0 0)] [.cells (cE e)] ?_)
 refine sq ?_
 refine sq ?_
 obtain⟨r1,e_r1,h⟩:=bnd h
 refine Goes.rq fol [2] [(1,.ptr 0 0),(10,.bool r1)] [.cells (cE e)] (ac (cv (kE e.Number 1 1000 e_r1)) az) ?_
 refine Goes.ifB (b:=r1) (by kernel_rfl) (fun c2=>?_) (fun c2=>?_)
 ·rw[if_pos (c2)]at h
  refine sq (Goes.rg fol [(2,.i 3)] [.cells (cE e)] ?_)
  refine Goes.ret ?_
  obtain rfl:=si h
  exact(Goes.retW (xs:=[.i 3]) (by kernel_rfl) (FzW.still tI))
 ·rw[if_neg (nb c2)]at h
  refine Goes.skip ?_
  refine sq ?_
  obtain⟨r3,e_r3,h⟩:=bnd h
  refine Goes.rq fol [2] [(1,.ptr 0 0),(3,.i r3.1),(4,.i r3.2.1),(5,.bool r3.2.2)] [.cells (cE e)] (ac (cv (qdZ e.Kind e_r3)) az) ?_
  refine sq ?_
  refine sq (Goes.rg fol [(1,.ptr 0 0),(3,.i r3.1),(4,.i r3.2.1),(19,.bool (!r3.2.2))] [.cells (cE e)] ?_)
  refine Goes.ifB (b:=!r3.2.2) (by kernel_rfl) (fun c4=>?_) (fun c4=>?_)
  ·rw[if_pos (c4)]at h
   refine sq (Goes.rg fol [(2,.i 13)] [.cells (cE e)] ?_)
   refine Goes.ret ?_
   obtain rfl:=si h
   exact(Goes.retW (xs:=[.i 13]) (by kernel_rfl) (FzW.still tI))
  ·rw[if_neg (nb c4)]at h
   refine Goes.skip ?_
   refine sq ?_
   refine sq ?_
   obtain⟨b6,g_v7,h⟩:=bnd h
   refine Goes.cut (s':=(ofG 58 [(1,.ptr 0 0),(3,.i r3.1),(4,.i r3.2.1),(31,.bool b6)],[.cells (cE e)])) ?_ ?_
   ·rcases Bool.eq_false_or_eq_true (!decide ((e.Names.length:Int)=r3.1))with c5|c5
    ·rw[if_pos (c5)]at g_v7
     obtain rfl:=si g_v7
     exact qp.rq fol [5] [(1,.ptr 0 0),(3,.i r3.1),(4,.i r3.2.1),(31,.bool true)] [.cells (cE e)] (ac (gw c5) az)
    ·rw[if_neg (nb c5)]at g_v7
     obtain rfl:=si g_v7
     exact qp.rq fol [5] [(1,.ptr 0 0),(3,.i r3.1),(4,.i r3.2.1),(31,.bool (!decide ((e.Values.length:Int)=r3.2.1)))] [.cells (cE e)] (ac (gw c5) az)
   refine Goes.ifB (b:=b6) (by kernel_rfl) (fun c8=>?_) (fun c8=>?_)
   ·rw[if_pos (c8)]at h
    refine sq (Goes.rg fol [(2,.i 2)] [.cells (cE e)] ?_)
    refine Goes.ret ?_
    obtain rfl:=si h
    exact(Goes.retW (xs:=[.i 2]) (by kernel_rfl) (FzW.still tI))
   ·rw[if_neg (nb c8)]at h
    refine Goes.skip ?_
    refine sq ?_
    refine sq (Goes.rg fol [(1,.ptr 0 0),(3,.i r3.1),(4,.i r3.2.1),(6,.i 0)] [.cells (cE e)] ?_)
    refine Goes.block ?_
    obtain⟨r10,g10,h⟩:=bnd h
    refine Goes.imp (Q:=fun x s'=>(x= .exit 0∧(.inl ())=r10∧Sub s' (ofG 58 [(1,.ptr 0 0),(4,.i r3.2.1)],[.cells (cE e)]))∨(x= .ret∧ ∃q11,(.inr q11)=r10∧qW Tryz.prog [.tmp 2] (.i q11) .ret s')) ?_ ?_
    ·refine Goes.loopS (fun M s=> ∃(i_9:Int),s=(ofG 58 [(1,.ptr 0 0),(3,.i r3.1),(4,.i r3.2.1),(6,.i i_9)],[.cells (cE e)])∧zO N e r3 M i_9=some r10) ?_ (m:=N) ⟨_,rfl,g10⟩
     rintro M s ⟨i_9,rfl,g10⟩
     cases M with
     |zero=>simp only[zO]at g10;cases g10
     |succ M=>
      rw[zO]at g10
      refine sq ?_
      refine sq (Goes.rg fol [(1,.ptr 0 0),(3,.i r3.1),(4,.i r3.2.1),(6,.i i_9),(34,.bool (decide (i_9<r3.1)))] [.cells (cE e)] ?_)
      refine Goes.ifB (b:=decide (i_9<r3.1)) (by kernel_rfl) (fun c12=>?_) (fun c12=>?_)
      ·rw[if_pos (ot c12)]at g10
       refine Goes.skip ?_
       refine sq (Goes.block ?_)
       refine sq ?_
       obtain⟨x13,e_x13,g10⟩:=bnd g10
       obtain⟨r14,e_r14,g10⟩:=bnd g10
       refine Goes.rq fol [3,4,5] [(1,.ptr 0 0),(3,.i r3.1),(4,.i r3.2.1),(6,.i i_9),(43,.bool (!r14))] [.cells (cE e)] (ac (iv vT encS e_x13) (ac (lv 0 ce9 encS e_x13 rfl) (ac (cv (qa6 N x13 e_r14)) az))) ?_
       refine Goes.ifB (b:=!r14) (by kernel_rfl) (fun c15=>?_) (fun c15=>?_)
       ·rw[if_pos (c15)]at g10
        refine sq (Goes.rg fol [(2,.i 8)] [.cells (cE e)] ?_)
        refine Goes.ret ?_
        obtain rfl:=si g10
        exact Or.inr (⟨rfl,_,rfl,(Goes.retW (xs:=[.i 8]) (by kernel_rfl) (FzW.still tI))⟩)
       ·rw[if_neg (nb c15)]at g10
        refine Goes.skip ?_
        refine Goes.rg fol [(1,.ptr 0 0),(3,.i r3.1),(4,.i r3.2.1),(6,.i (w64 (i_9+1)))] [.cells (cE e)] ?_
        exact⟨M,(ofG 58 [(1,.ptr 0 0),(3,.i r3.1),(4,.i r3.2.1),(6,.i (w64 (i_9+1)))],[.cells (cE e)]),Nat.lt_succ_self _,(Sub.refl _),_,rfl,g10⟩
      ·rw[if_neg (of_ c12)]at g10
       refine Goes.exit ?_
       obtain rfl:=si g10
       exact Or.inl (⟨rfl,rfl,(Sub.keep [1,4] rfl rfl)⟩)
    rintro x s' (⟨rfl,rfl,hsub⟩|⟨rfl,q25,rfl,hret⟩)
    ·try dsimp only at h
     refine Goes.sub hsub ?_
     refine sq ?_
     refine sq (Goes.rg fol [(1,.ptr 0 0),(4,.i r3.2.1),(7,.i 0)] [.cells (cE e)] ?_)
     refine Goes.block ?_
     obtain⟨r17,g17,h⟩:=bnd h
     refine Goes.imp (Q:=fun x s'=>(x= .exit 2∧(.inl ())=r17∧Sub s' (ofG 58 [(1,.ptr 0 0)],[.cells (cE e)]))∨(x= .ret∧ ∃q18,(.inr q18)=r17∧qW Tryz.prog [.tmp 2] (.i q18) .ret s')) ?_ ?_
     ·refine Goes.loopS (fun M s=> ∃(i_16:Int),s=(ofG 58 [(1,.ptr 0 0),(4,.i r3.2.1),(7,.i i_16)],[.cells (cE e)])∧zN e r3 M i_16=some r17) ?_ (m:=N) ⟨_,rfl,g17⟩
      rintro M s ⟨i_16,rfl,g17⟩
      cases M with
      |zero=>simp only[zN]at g17;cases g17
      |succ M=>
       rw[zN]at g17
       refine sq ?_
       refine sq (Goes.rg fol [(1,.ptr 0 0),(4,.i r3.2.1),(7,.i i_16),(46,.bool (decide (i_16<r3.2.1)))] [.cells (cE e)] ?_)
       refine Goes.ifB (b:=decide (i_16<r3.2.1)) (by kernel_rfl) (fun c19=>?_) (fun c19=>?_)
       ·rw[if_pos (ot c19)]at g17
        refine Goes.skip ?_
        refine sq (Goes.block ?_)
        refine sq ?_
        obtain⟨x20,e_x20,g17⟩:=bnd g17
        obtain⟨r21,e_r21,g17⟩:=bnd g17
        refine Goes.rq fol [3,4,5] [(1,.ptr 0 0),(4,.i r3.2.1),(7,.i i_16),(54,.bool r21)] [.cells (cE e)] (ac (iv xL encI e_x20) (ac (lv 0 ce3 encI e_x20 rfl) (ac (cv (kE x20 0 999999999 e_r21)) az))) ?_
        refine Goes.ifB (b:=r21) (by kernel_rfl) (fun c22=>?_) (fun c22=>?_)
        ·rw[if_pos (c22)]at g17
         refine sq (Goes.rg fol [(2,.i 3)] [.cells (cE e)] ?_)
         refine Goes.ret ?_
         obtain rfl:=si g17
         exact Or.inr (⟨rfl,_,rfl,(Goes.retW (xs:=[.i 3]) (by kernel_rfl) (FzW.still tI))⟩)
        ·rw[if_neg (nb c22)]at g17
         refine Goes.skip ?_
         refine Goes.rg fol [(1,.ptr 0 0),(4,.i r3.2.1),(7,.i (w64 (i_16+1)))] [.cells (cE e)] ?_
         exact⟨M,(ofG 58 [(1,.ptr 0 0),(4,.i r3.2.1),(7,.i (w64 (i_16+1)))],[.cells (cE e)]),Nat.lt_succ_self _,(Sub.refl _),_,rfl,g17⟩
       ·rw[if_neg (of_ c19)]at g17
        refine Goes.exit ?_
        obtain rfl:=si g17
        exact Or.inl (⟨rfl,rfl,(Sub.keep [1] rfl rfl)⟩)
     rintro x s' (⟨rfl,rfl,hsub⟩|⟨rfl,q24,rfl,hret⟩)
     ·try dsimp only at h
      refine Goes.sub hsub ?_
      refine sq ?_
      refine sq (Goes.rg fol [(57,.bool (!(e.Text==[])))] [.cells (cE e)] ?_)
      refine Goes.ifB (b:=!(e.Text==[])) (by kernel_rfl) (fun c23=>?_) (fun c23=>?_)
      ·rw[if_pos (c23)]at h
       refine sq (Goes.rg fol [(2,.i 1)] [.cells (cE e)] ?_)
       refine Goes.ret ?_
       obtain rfl:=si h
       exact(Goes.retW (xs:=[.i 1]) (by kernel_rfl) (FzW.still tI))
      ·rw[if_neg (nb c23)]at h
       refine Goes.skip ?_
       refine sq (Goes.rg fol [(2,.i 0)] [.cells (cE e)] ?_)
       refine Goes.ret ?_
       obtain rfl:=si h
       exact(Goes.retW (xs:=[.i 0]) (by kernel_rfl) (FzW.still tI))
     ·try dsimp only at h
      obtain rfl:=si h
      exact hret
    ·try dsimp only at h
     obtain rfl:=si h
     exact hret
def jr (l2:List qj) (x4:Str):Nat→Int→Int→Option (Int×Int)
 |0,_,_=>none
 |K+1,n8,at__9=>
  (if at__9<(l2.length:Int)then
  (idx l2 at__9).bind fun x14=>
  some (ltL x14.Name x4)
  else
  some false:Option Bool).bind fun b15=>
  if b15=true then
  jr l2 x4 K n8 (w64 (at__9+1))
  else
  some (n8,at__9)
def zW (e:ql) (x1:Int):Nat→(List qj)→Int→Option (List qj)
 |0,_,_=>none
 |K+1,l23,i_24=>
  if i_24<(l23.length:Int)then
  (((idx l23 i_24).bind fun x30=>
  (idx e.Names 0).bind fun x31=>
  (if(e.Kind==[116,101,115,116])=true then
  some (x30.Name==x31)
  else
  some false:Option Bool).bind fun b33=>
  if b33=true then
  (idx e.Values 1).bind fun x36=>
  (put l23 i_24 (⟨x30.Name,x30.Batch,x30.Born,x30.Last,x30.Uses,x30.Used,w64 (x36.tdiv 2),x30.Until,x30.Gone⟩:qj)).bind fun l37=>
  (idx l37 i_24).bind fun x38=>
  (put l37 i_24 (⟨x38.Name,x38.Batch,x38.Born,x38.Last,x38.Uses,x38.Used,x38.Limit,(if x38.Last<(w64 (x1+365))then x38.Last else(w64 (x1+365))),x38.Gone⟩:qj)).bind fun l39=>
  some l39
  else
  (if(e.Kind==[117,115,101])=true then
  some (x30.Name==x31)
  else
  some false:Option Bool).bind fun b41=>
  if b41=true then
  (put l23 i_24 (⟨x30.Name,x30.Batch,x30.Born,x30.Last,x30.Uses,w64 (x30.Used+1),x30.Limit,x30.Until,x30.Gone⟩:qj)).bind fun l44=>
  some l44
  else
  (if(e.Kind==[102,97,105,108])=true then
  some (x30.Name==x31)
  else
  some false:Option Bool).bind fun b46=>
  ((if b46=true then
  some b46
  else
  (if(e.Kind==[114,101,99,97,108,108])=true then
  some (x30.Batch==x31)
  else
  some false:Option Bool).bind fun b52=>
  some b52:Option Bool)).bind fun b48=>
  if b48=true then
  (put l23 i_24 (⟨x30.Name,x30.Batch,x30.Born,x30.Last,x30.Uses,x30.Used,x30.Limit,x30.Until,true⟩:qj)).bind fun l55=>
  some l55
  else
  some l23:Option (List qj))).bind fun l28=>
  zW e x1 K l28 (w64 (i_24+1))
  else
  some l23
def jc (N:Nat) (r:qK) (e:ql):Option qK:=
 (idx e.Values 0).bind fun x1=>
 (app 88 ([]:List qj) r.Slings).bind fun l2=>
 if(e.Kind==[109,97,107,101])=true then
 (idx e.Names 0).bind fun x4=>
 (idx e.Names 1).bind fun x5=>
 (idx e.Values 1).bind fun x6=>
 (idx e.Values 2).bind fun x7=>
 (jr l2 x4 N (w64 (x1+x6)) 0).bind fun(n10,at__11)=>
 (cut l2 0 at__11).bind fun s18=>
 (app 88 ([]:List qj) s18).bind fun l19=>
 (app 88 l19 [(⟨x4,x5,x1,n10,x7,0,0,0,false⟩:qj)]).bind fun l20=>
 (cut l2 at__11 (l2.length:Int)).bind fun s21=>
 (app 88 l20 s21).bind fun l22=>
 some (⟨x1,l22⟩:qK)
 else
 (zW e x1 N l2 0).bind fun l25=>
 some (⟨x1,l25⟩:qK)
theorem qgu (N:Nat) (r:qK) (e:ql) {res:qK} (h:jc N r e=some res):qw Tryz.prog (.fn 140) [.agg [.i r.Day,vl qb r.Slings],.agg (cE e)] [] (.agg [.i res.Day,vl qb res.Slings]) []:=by
 unfold jc at h
 refine Goes.fnW Tryz.func140 rfl rfl (m:=162) rfl (rs:=[.cell 4 37]) rfl (l:=[(0,.agg [.i r.Day,vl qb r.Slings]),(1,.agg (cE e))]) rfl ?_
 refine sq (Goes.rg fol [(2,.ptr 0 0),(3,.ptr 1 0),(4,.ptr 2 0)] [.cells [.i r.Day,vl qb r.Slings],.cells (cE e),bZ] ?_)
 refine sq ?_
 obtain⟨x1,e_x1,h⟩:=bnd h
 refine Goes.rq fol [2,3] [(2,.ptr 0 0),(3,.ptr 1 0),(4,.ptr 2 0),(5,.i x1)] [.cells [.i r.Day,vl qb r.Slings],.cells (cE e),bZ] (ac (iv xL encI e_x1) (ac (lv 0 ce3 encI e_x1 rfl) az)) ?_
 refine sq (Goes.rg fol [(2,.ptr 0 0),(3,.ptr 1 0),(4,.ptr 2 0),(5,.i x1)] [.cells [.i x1,vl qb r.Slings],.cells (cE e),bZ] ?_)
 refine sq ?_
 obtain⟨l2,e_l2,h⟩:=bnd h
 refine Goes.rq fol [3] [(2,.ptr 0 0),(3,.ptr 1 0),(4,.ptr 2 0),(5,.i x1),(6,.oslice 4 l2.length 9)] [.cells [.i x1,vl qb r.Slings],.cells (cE e),bZ,.dead,bS l2] (ac (hs (.run [3] (qQ Tryz.prog [35,35] (.slice 3 0 0 0 9) (vl qb r.Slings)) [.cells [.i x1,vl qb r.Slings],.cells (cE e),bZ,.cells []] (.oslice 4 l2.length 9) [.cells [.i x1,vl qb r.Slings],.cells (cE e),bZ,.dead,bS l2] true) (kN qcz (E:=qb) rfl (qa7 (E:=qb) rfl _) (qb2 (E:=qb) rfl rfl rfl e_l2 rfl))) az) ?_
 refine sq ?_
 refine sq (Goes.rg fol [(2,.ptr 0 0),(3,.ptr 1 0),(4,.ptr 2 0),(5,.i x1),(6,.oslice 4 l2.length 9),(23,.bool (e.Kind==[109,97,107,101]))] [.cells [.i x1,vl qb r.Slings],.cells (cE e),bZ,.dead,bS l2] ?_)
 refine Goes.ifB (b:=e.Kind==[109,97,107,101]) (by kernel_rfl) (fun c3=>?_) (fun c3=>?_)
 ·rw[if_pos (c3)]at h
  refine sq ?_
  obtain⟨x4,e_x4,h⟩:=bnd h
  obtain⟨x5,e_x5,h⟩:=bnd h
  obtain⟨x6,e_x6,h⟩:=bnd h
  obtain⟨x7,e_x7,h⟩:=bnd h
  refine Goes.rq fol [2,3,6,7,12,13,17,18] [(2,.ptr 0 0),(4,.ptr 2 0),(6,.oslice 4 l2.length 9),(7,.ptr 5 0)] [.cells [.i x1,vl qb r.Slings],.cells (cE e),bZ,.dead,bS l2,.cells [.str x4,.str x5,.i x1,.i (w64 (x1+x6)),.i x7,.i 0,.i 0,.i 0,.bool false]] (ac (iv vT encS e_x4) (ac (lv 0 ce9 encS e_x4 rfl) (ac (iv vT encS e_x5) (ac (lv 0 ce9 encS e_x5 rfl) (ac (iv xL encI e_x6) (ac (lv 0 ce3 encI e_x6 rfl) (ac (iv xL encI e_x7) (ac (lv 0 ce3 encI e_x7 rfl) az)))))))) ?_
  refine sq (Goes.rg fol [(2,.ptr 0 0),(4,.ptr 2 0),(6,.oslice 4 l2.length 9),(7,.ptr 5 0),(8,.i 0)] [.cells [.i x1,vl qb r.Slings],.cells (cE e),bZ,.dead,bS l2,.cells [.str x4,.str x5,.i x1,.i (w64 (x1+x6)),.i x7,.i 0,.i 0,.i 0,.bool false]] ?_)
  refine sq (Goes.block ?_)
  obtain⟨r12,g12,h⟩:=bnd h
  refine Goes.imp (Q:=fun x s'=>(x= .exit 0∧ ∃n10 at__11,(n10,at__11)=r12∧Sub s' (ofG 162 [(2,.ptr 0 0),(4,.ptr 1 0),(6,.oslice 2 l2.length 9),(7,.ptr 3 0),(8,.i at__11)],[.cells [.i x1,vl qb r.Slings],bZ,bS l2,.cells (cT x4 x5 x1 n10 x7 0 0 0 false)]))) ?_ ?_
  ·refine Goes.sub (s':=(ofG 162 [(2,.ptr 0 0),(4,.ptr 1 0),(6,.oslice 2 l2.length 9),(7,.ptr 3 0),(8,.i 0)],[.cells [.i x1,vl qb r.Slings],bZ,bS l2,.cells [.str x4,.str x5,.i x1,.i (w64 (x1+x6)),.i x7,.i 0,.i 0,.i 0,.bool false]])) (Sub.norm [] [some 0,some 2,some 4,some 5] rfl rfl (.keep (.ptr rfl) (.keep (.ptr rfl) (.keep (.oslice rfl) (.keep (.ptr rfl) (.keep (.same nI) .nil))))) (.keep rfl (.same (qf.cons nI (qf.cons (qh qb _) qf.nil))) rfl rfl (.keep rfl (.same (qf.cons nI (qf.cons (qx.nilslice) qf.nil))) rfl rfl (.keep rfl (.same fa) rfl rfl (.keep rfl (.same (qf.cons nS (qf.cons nS (qf.cons nI (qf.cons nI (qf.cons nI (qf.cons nI (qf.cons nI (qf.cons nI (qf.cons nB qf.nil)))))))))) rfl rfl .nil))))) ?_
   refine Goes.loopS (fun M s=> ∃(n8:Int) (at__9:Int),s=(ofG 162 [(2,.ptr 0 0),(4,.ptr 1 0),(6,.oslice 2 l2.length 9),(7,.ptr 3 0),(8,.i at__9)],[.cells [.i x1,vl qb r.Slings],bZ,bS l2,.cells (cT x4 x5 x1 n8 x7 0 0 0 false)])∧jr l2 x4 M n8 at__9=some r12) ?_ (m:=N) ⟨_,_,rfl,g12⟩
   rintro M s ⟨n8,at__9,rfl,g12⟩
   cases M with
   |zero=>simp only[jr]at g12;cases g12
   |succ M=>
    rw[jr]at g12
    refine sq ?_
    refine sq ?_
    obtain⟨b15,g_v16,g12⟩:=bnd g12
    refine Goes.cut (s':=(ofG 162 [(2,.ptr 0 0),(4,.ptr 1 0),(6,.oslice 2 l2.length 9),(7,.ptr 3 0),(8,.i at__9),(57,.bool b15)],[.cells [.i x1,vl qb r.Slings],bZ,bS l2,.cells (cT x4 x5 x1 n8 x7 0 0 0 false)])) ?_ ?_
    ·rcases Bool.eq_false_or_eq_true (decide (at__9<(l2.length:Int)))with c13|c13
     ·rw[if_pos (ot c13)]at g_v16
      obtain⟨x14,e_x14,g_v16⟩:=bnd g_v16
      obtain rfl:=si g_v16
      exact qp.rq fol [4,7,9] [(2,.ptr 0 0),(4,.ptr 1 0),(6,.oslice 2 l2.length 9),(7,.ptr 3 0),(8,.i at__9),(57,.bool (ltL x14.Name x4))] [.cells [.i x1,vl qb r.Slings],bZ,bS l2,.cells (cT x4 x5 x1 n8 x7 0 0 0 false)] (ac (gw c13) (ac (hs (.done (.opt (qF Tryz.prog 35 (.oslice 2 l2.length 9) (.i at__9))) (.ptr 2 ((at__9:Int).toNat*9+0))) (qaU qcz e_x14)) (ac (hs (.run [2] (jd Tryz.prog 9 (.ptr 2 ((at__9:Int).toNat*9+0))) [.cells [.i x1,vl qb r.Slings],bZ,bS l2,.cells (cT x4 x5 x1 n8 x7 0 0 0 false)] (.str x14.Name) [.cells [.i x1,vl qb r.Slings],bZ,bS l2,.cells (cT x4 x5 x1 n8 x7 0 0 0 false)] false) (qhG ce9 (E:=qb) (l:=l2) rfl rfl e_x14 (nl rfl) rfl)) az)))
     ·rw[if_neg (of_ c13)]at g_v16
      obtain rfl:=si g_v16
      exact qp.rq fol [4] [(2,.ptr 0 0),(4,.ptr 1 0),(6,.oslice 2 l2.length 9),(7,.ptr 3 0),(8,.i at__9),(57,.bool false)] [.cells [.i x1,vl qb r.Slings],bZ,bS l2,.cells (cT x4 x5 x1 n8 x7 0 0 0 false)] (ac (gw c13) az)
    refine Goes.ifB (b:=b15) (by kernel_rfl) (fun c17=>?_) (fun c17=>?_)
    ·rw[if_pos (c17)]at g12
     refine Goes.skip ?_
     refine Goes.block ?_
     refine Goes.rg fol [(2,.ptr 0 0),(4,.ptr 1 0),(6,.oslice 2 l2.length 9),(7,.ptr 3 0),(8,.i (w64 (at__9+1)))] [.cells [.i x1,vl qb r.Slings],bZ,bS l2,.cells (cT x4 x5 x1 n8 x7 0 0 0 false)] ?_
     exact⟨M,(ofG 162 [(2,.ptr 0 0),(4,.ptr 1 0),(6,.oslice 2 l2.length 9),(7,.ptr 3 0),(8,.i (w64 (at__9+1)))],[.cells [.i x1,vl qb r.Slings],bZ,bS l2,.cells (cT x4 x5 x1 n8 x7 0 0 0 false)]),Nat.lt_succ_self _,(Sub.refl _),_,_,rfl,g12⟩
    ·rw[if_neg (nb c17)]at g12
     refine Goes.exit ?_
     obtain rfl:=si g12
     exact⟨rfl,_,_,rfl,(Sub.keep [2,4,6,7,8] rfl rfl)⟩
  rintro x s' ⟨rfl,n10,at__11,rfl,hsub⟩
  try dsimp only at h
  refine Goes.sub hsub ?_
  refine sq (Goes.sub (s':=(ofG 162 [(2,.ptr 0 0),(4,.ptr 1 0),(6,vl qb l2),(7,.ptr 2 0),(8,.i at__11)],[.cells [.i x1,vl qb r.Slings],bZ,.cells (cT x4 x5 x1 n10 x7 0 0 0 false)])) (Sub.norm [2] [some 0,some 1,some 3] rfl rfl (.keep (.ptr rfl) (.keep (.ptr rfl) (.keep (.frz (Fz.os (E:=qb) rfl rfl (nl rfl)) (qh qb _)) (.keep (.ptr rfl) (.keep (.same nI) .nil))))) (.keep rfl (.same (qf.cons nI (qf.cons (qh qb _) qf.nil))) rfl rfl (.keep rfl (.same (qf.cons nI (qf.cons (qx.nilslice) qf.nil))) rfl rfl (.keep rfl (.same (qf.cons nS (qf.cons nS (qf.cons nI (qf.cons nI (qf.cons nI (qf.cons nI (qf.cons nI (qf.cons nI (qf.cons nB qf.nil)))))))))) rfl rfl .nil)))) ?_)
  obtain⟨s18,e_s18,h⟩:=bnd h
  obtain⟨l19,e_l19,h⟩:=bnd h
  obtain⟨l20,e_l20,h⟩:=bnd h
  obtain⟨s21,e_s21,h⟩:=bnd h
  obtain⟨l22,e_l22,h⟩:=bnd h
  refine Goes.rq fol [3,4,7,10,11] [(2,.ptr 0 0),(4,.ptr 1 0)] [.cells [.i x1,.oslice 7 l22.length 9],bZ,.cells (cT x4 x5 x1 n10 x7 0 0 0 false),.dead,.dead,.cells (cT x4 x5 x1 n10 x7 0 0 0 false),.dead,bS l22] (ac (hs (.done (.opt (kU Tryz.prog 35 (vl qb l2) none (some (.i at__11)) none)) (vl qb s18)) (qft qcz (E:=qb) rfl none (some at__11) e_s18)) (ac (hs (.run [3] (qQ Tryz.prog [35,35] (.slice 3 0 0 0 9) (vl qb s18)) [.cells [.i x1,vl qb r.Slings],bZ,.cells (cT x4 x5 x1 n10 x7 0 0 0 false),.cells []] (.oslice 4 l19.length 9) [.cells [.i x1,vl qb r.Slings],bZ,.cells (cT x4 x5 x1 n10 x7 0 0 0 false),.dead,bS l19] true) (kN qcz (E:=qb) rfl (qa7 (E:=qb) rfl _) (qb2 (E:=qb) rfl rfl rfl e_l19 rfl))) (ac (hs (.run [4,5] (qQ Tryz.prog [35,35] (.oslice 4 l19.length 9) (.slice 5 0 1 1 9)) [.cells [.i x1,vl qb r.Slings],bZ,.cells (cT x4 x5 x1 n10 x7 0 0 0 false),.dead,bS l19,.cells (cT x4 x5 x1 n10 x7 0 0 0 false)] (.oslice 6 l20.length 9) [.cells [.i x1,vl qb r.Slings],bZ,.cells (cT x4 x5 x1 n10 x7 0 0 0 false),.dead,.dead,.cells (cT x4 x5 x1 n10 x7 0 0 0 false),bS l20] true) (kN qcz (E:=qb) rfl (xR (E:=qb) (ys:=[(⟨x4,x5,x1,n10,x7,0,0,0,false⟩:qj)]) rfl rfl rfl rfl) (qfA (E:=qb) (l:=l19) rfl rfl rfl e_l20 rfl))) (ac (hs (.done (.opt (kU Tryz.prog 35 (vl qb l2) (some (.i at__11)) none none)) (vl qb s21)) (qft qcz (E:=qb) rfl (some at__11) none e_s21)) (ac (hs (.run [6] (qQ Tryz.prog [35,35] (.oslice 6 l20.length 9) (vl qb s21)) [.cells [.i x1,vl qb r.Slings],bZ,.cells (cT x4 x5 x1 n10 x7 0 0 0 false),.dead,.dead,.cells (cT x4 x5 x1 n10 x7 0 0 0 false),bS l20] (.oslice 7 l22.length 9) [.cells [.i x1,vl qb r.Slings],bZ,.cells (cT x4 x5 x1 n10 x7 0 0 0 false),.dead,.dead,.cells (cT x4 x5 x1 n10 x7 0 0 0 false),.dead,bS l22] true) (kN qcz (E:=qb) rfl (qa7 (E:=qb) rfl _) (qfA (E:=qb) (l:=l20) rfl rfl rfl e_l22 rfl))) az))))) ?_
  refine sq (Goes.rg fol [(4,.ptr 1 0)] [.cells [.i x1,.oslice 7 l22.length 9],.cells [.i x1,.oslice 7 l22.length 9],.cells (cT x4 x5 x1 n10 x7 0 0 0 false),.dead,.dead,.cells (cT x4 x5 x1 n10 x7 0 0 0 false),.dead,bS l22] ?_)
  refine Goes.ret ?_
  obtain rfl:=si h
  exact(Goes.retW (xs:=[.agg [.i x1,.oslice 7 l22.length 9]]) (by kernel_rfl) (FzW.agg (qz.cons (FzW.still tI) (qz.cons (FzW.fz (Fz.os (E:=qb) rfl rfl (nl rfl))) qz.nil))))
 ·rw[if_neg (nb c3)]at h
  refine Goes.skip ?_
  refine sq ?_
  refine sq (Goes.rg fol [(2,.ptr 0 0),(3,.ptr 1 0),(4,.ptr 2 0),(5,.i x1),(6,.oslice 4 l2.length 9),(9,.i 0)] [.cells [.i x1,vl qb r.Slings],.cells (cE e),bZ,.dead,bS l2] ?_)
  refine Goes.block ?_
  obtain⟨r26,g26,h⟩:=bnd h
  refine Goes.imp (Q:=fun x s'=>(x= .exit 2∧ ∃l25,l25=r26∧Sub s' (ofG 162 [(2,.ptr 0 0),(4,.ptr 1 0),(6,.oslice 2 l25.length 9)],[.cells [.i x1,vl qb r.Slings],bZ,bS l25]))) ?_ ?_
  ·refine Goes.sub (s':=(ofG 162 [(2,.ptr 0 0),(3,.ptr 1 0),(4,.ptr 2 0),(5,.i x1),(6,.oslice 3 l2.length 9),(9,.i 0)],[.cells [.i x1,vl qb r.Slings],.cells (cE e),bZ,bS l2])) (Sub.norm [] [some 0,some 1,some 2,some 4] rfl rfl (.keep (.ptr rfl) (.keep (.ptr rfl) (.keep (.ptr rfl) (.keep (.same nI) (.keep (.oslice rfl) (.keep (.same nI) .nil)))))) (.keep rfl (.same (qf.cons nI (qf.cons (qh qb _) qf.nil))) rfl rfl (.keep rfl (.same (qf.cons nI (qf.cons nS (qf.cons (qh encS _) (qf.cons (qh encI _) (qf.cons nS qf.nil)))))) rfl rfl (.keep rfl (.same (qf.cons nI (qf.cons (qx.nilslice) qf.nil))) rfl rfl (.keep rfl (.same fa) rfl rfl .nil))))) ?_
   refine Goes.loopS (fun M s=> ∃(l23:List qj) (i_24:Int),s=(ofG 162 [(2,.ptr 0 0),(3,.ptr 1 0),(4,.ptr 2 0),(5,.i x1),(6,.oslice 3 l23.length 9),(9,.i i_24)],[.cells [.i x1,vl qb r.Slings],.cells (cE e),bZ,bS l23])∧zW e x1 M l23 i_24=some r26) ?_ (m:=N) ⟨_,_,rfl,g26⟩
   rintro M s ⟨l23,i_24,rfl,g26⟩
   cases M with
   |zero=>simp only[zW]at g26;cases g26
   |succ M=>
    rw[zW]at g26
    refine sq ?_
    refine sq (Goes.rg fol [(2,.ptr 0 0),(3,.ptr 1 0),(4,.ptr 2 0),(5,.i x1),(6,.oslice 3 l23.length 9),(9,.i i_24),(77,.bool (decide (i_24<(l23.length:Int))))] [.cells [.i x1,vl qb r.Slings],.cells (cE e),bZ,bS l23] ?_)
    refine Goes.ifB (b:=decide (i_24<(l23.length:Int))) (by kernel_rfl) (fun c27=>?_) (fun c27=>?_)
    ·rw[if_pos (ot c27)]at g26
     refine Goes.skip ?_
     refine sq ?_
     obtain⟨r29,g29,g26⟩:=bnd g26
     refine Goes.imp (Q:=fun x s'=>(x= .normal∧ ∃l28,l28=r29∧Sub s' (ofG 162 [(2,.ptr 0 0),(3,.ptr 1 0),(4,.ptr 2 0),(5,.i x1),(6,.oslice 3 l28.length 9),(9,.i i_24)],[.cells [.i x1,vl qb r.Slings],.cells (cE e),bZ,bS l28]))) ?_ ?_
     ·refine Goes.block ?_
      refine sq ?_
      obtain⟨x30,e_x30,g29⟩:=bnd g29
      obtain⟨x31,e_x31,g29⟩:=bnd g29
      refine Goes.rq fol [2,4,7,8] [(2,.ptr 0 0),(3,.ptr 1 0),(4,.ptr 2 0),(5,.i x1),(6,.oslice 3 l23.length 9),(9,.i i_24),(10,.bool (x30.Name==x31))] [.cells [.i x1,vl qb r.Slings],.cells (cE e),bZ,bS l23] (ac (hs (.done (.opt (qF Tryz.prog 35 (.oslice 3 l23.length 9) (.i i_24))) (.ptr 3 ((i_24:Int).toNat*9+0))) (qaU qcz e_x30)) (ac (hs (.run [3] (jd Tryz.prog 9 (.ptr 3 ((i_24:Int).toNat*9+0))) [.cells [.i x1,vl qb r.Slings],.cells (cE e),bZ,bS l23] (.str x30.Name) [.cells [.i x1,vl qb r.Slings],.cells (cE e),bZ,bS l23] false) (qhG ce9 (E:=qb) (l:=l23) rfl rfl e_x30 (nl rfl) rfl)) (ac (iv vT encS e_x31) (ac (lv 0 ce9 encS e_x31 rfl) az)))) ?_
      refine Goes.block ?_
      refine sq ?_
      obtain⟨b33,g_v34,g29⟩:=bnd g29
      refine Goes.cut (s':=(ofG 162 [(2,.ptr 0 0),(3,.ptr 1 0),(4,.ptr 2 0),(5,.i x1),(6,.oslice 3 l23.length 9),(9,.i i_24),(10,.bool (x30.Name==x31)),(90,.bool b33)],[.cells [.i x1,vl qb r.Slings],.cells (cE e),bZ,bS l23])) ?_ ?_
      ·rcases Bool.eq_false_or_eq_true (e.Kind==[116,101,115,116])with c32|c32
       ·rw[if_pos (c32)]at g_v34
        obtain rfl:=si g_v34
        exact qp.rq fol [3] [(2,.ptr 0 0),(3,.ptr 1 0),(4,.ptr 2 0),(5,.i x1),(6,.oslice 3 l23.length 9),(9,.i i_24),(10,.bool (x30.Name==x31)),(90,.bool (x30.Name==x31))] [.cells [.i x1,vl qb r.Slings],.cells (cE e),bZ,bS l23] (ac (gw c32) az)
       ·rw[if_neg (nb c32)]at g_v34
        obtain rfl:=si g_v34
        exact qp.rq fol [3] [(2,.ptr 0 0),(3,.ptr 1 0),(4,.ptr 2 0),(5,.i x1),(6,.oslice 3 l23.length 9),(9,.i i_24),(10,.bool (x30.Name==x31)),(90,.bool false)] [.cells [.i x1,vl qb r.Slings],.cells (cE e),bZ,bS l23] (ac (gw c32) az)
      refine Goes.ifB (b:=b33) (by kernel_rfl) (fun c35=>?_) (fun c35=>?_)
      ·rw[if_pos (c35)]at g29
       refine sq ?_
       obtain⟨x36,e_x36,g29⟩:=bnd g29
       obtain⟨l37,e_l37,g29⟩:=bnd g29
       refine Goes.rq fol [4,5,7,9] [(2,.ptr 0 0),(3,.ptr 1 0),(4,.ptr 2 0),(5,.i x1),(6,.oslice 3 l23.length 9),(9,.i i_24)] [.cells [.i x1,vl qb r.Slings],.cells (cE e),bZ,bS l37] (ac (iv xL encI e_x36) (ac (lv 0 ce3 encI e_x36 rfl) (ac (hs (.done (.opt (qF Tryz.prog 35 (.oslice 3 l23.length 9) (.i i_24))) (.ptr 3 ((i_24:Int).toNat*9+0))) (qaU qcz e_x30)) (ac (hs (.run [3] (yA Tryz.prog 3 (.ptr 3 ((i_24:Int).toNat*9+6)) (.i (w64 (x36.tdiv 2)))) [.cells [.i x1,vl qb r.Slings],.cells (cE e),bZ,bS l23] .undef [.cells [.i x1,vl qb r.Slings],.cells (cE e),bZ,bS l37] true) (qbK (E:=qb) (l:=l23) (y:=(⟨x30.Name,x30.Batch,x30.Born,x30.Last,x30.Uses,x30.Used,w64 (x36.tdiv 2),x30.Until,x30.Gone⟩:qj)) rfl (show _=some 1 by kernel_rfl) rfl e_x30 rfl rfl rfl rfl rfl e_l37 rfl)) az)))) ?_
       refine Goes.sub (show Sub (ofG 162 [(2,.ptr 0 0),(3,.ptr 1 0),(4,.ptr 2 0),(5,.i x1),(6,.oslice 3 l23.length 9),(9,.i i_24)],[.cells [.i x1,vl qb r.Slings],.cells (cE e),bZ,bS l37]) (ofG 162 [(2,.ptr 0 0),(3,.ptr 1 0),(4,.ptr 2 0),(5,.i x1),(6,.oslice 3 l37.length 9),(9,.i i_24)],[.cells [.i x1,vl qb r.Slings],.cells (cE e),bZ,bS l37])from(Sub.norm [] [some 0,some 1,some 2,some 3] rfl rfl (.keep (.ptr rfl) (.keep (.ptr rfl) (.keep (.ptr rfl) (.keep (.same nI) (.keep (.osliceE rfl (y7 e_l37)) (.keep (.same nI) .nil)))))) (.keep rfl (.same (qf.cons nI (qf.cons (qh qb _) qf.nil))) rfl rfl (.keep rfl (.same (qf.cons nI (qf.cons nS (qf.cons (qh encS _) (qf.cons (qh encI _) (qf.cons nS qf.nil)))))) rfl rfl (.keep rfl (.same (qf.cons nI (qf.cons (qx.nilslice) qf.nil))) rfl rfl (.keep rfl (.same fa) rfl rfl .nil)))))) ?_
       obtain⟨x38,e_x38,g29⟩:=bnd g29
       obtain⟨l39,e_l39,g29⟩:=bnd g29
       refine Goes.rq fol [6,8,10,12] [(2,.ptr 0 0),(3,.ptr 1 0),(4,.ptr 2 0),(5,.i x1),(6,.oslice 3 l37.length 9),(9,.i i_24)] [.cells [.i x1,vl qb r.Slings],.cells (cE e),bZ,bS l39] (ac (hs (.done (.opt (qF Tryz.prog 35 (.oslice 3 l37.length 9) (.i i_24))) (.ptr 3 ((i_24:Int).toNat*9+0))) (qaU qcz e_x38)) (ac (hs (.run [3] (jd Tryz.prog 3 (.ptr 3 ((i_24:Int).toNat*9+3))) [.cells [.i x1,vl qb r.Slings],.cells (cE e),bZ,bS l37] (.i x38.Last) [.cells [.i x1,vl qb r.Slings],.cells (cE e),bZ,bS l37] false) (qhG ce3 (E:=qb) (l:=l37) rfl rfl e_x38 (nl rfl) rfl)) (ac (hs (.done (.opt (qF Tryz.prog 35 (.oslice 3 l37.length 9) (.i i_24))) (.ptr 3 ((i_24:Int).toNat*9+0))) (qaU qcz e_x38)) (ac (hs (.run [3] (yA Tryz.prog 3 (.ptr 3 ((i_24:Int).toNat*9+7)) (.i (if x38.Last<(w64 (x1+365))then x38.Last else(w64 (x1+365))))) [.cells [.i x1,vl qb r.Slings],.cells (cE e),bZ,bS l37] .undef [.cells [.i x1,vl qb r.Slings],.cells (cE e),bZ,bS l39] true) (qbK (E:=qb) (l:=l37) (y:=(⟨x38.Name,x38.Batch,x38.Born,x38.Last,x38.Uses,x38.Used,x38.Limit,(if x38.Last<(w64 (x1+365))then x38.Last else(w64 (x1+365))),x38.Gone⟩:qj)) rfl (show _=some 1 by kernel_rfl) rfl e_x38 rfl rfl rfl rfl rfl e_l39 rfl)) az)))) ?_
       obtain rfl:=si g29
       exact⟨rfl,_,rfl,((show Sub (ofG 162 [(2,.ptr 0 0),(3,.ptr 1 0),(4,.ptr 2 0),(5,.i x1),(6,.oslice 3 l37.length 9),(9,.i i_24)],[.cells [.i x1,vl qb r.Slings],.cells (cE e),bZ,bS l39]) (ofG 162 [(2,.ptr 0 0),(3,.ptr 1 0),(4,.ptr 2 0),(5,.i x1),(6,.oslice 3 l39.length 9),(9,.i i_24)],[.cells [.i x1,vl qb r.Slings],.cells (cE e),bZ,bS l39])from(Sub.norm [] [some 0,some 1,some 2,some 3] rfl rfl (.keep (.ptr rfl) (.keep (.ptr rfl) (.keep (.ptr rfl) (.keep (.same nI) (.keep (.osliceE rfl (y7 e_l39)) (.keep (.same nI) .nil)))))) (.keep rfl (.same (qf.cons nI (qf.cons (qh qb _) qf.nil))) rfl rfl (.keep rfl (.same (qf.cons nI (qf.cons nS (qf.cons (qh encS _) (qf.cons (qh encI _) (qf.cons nS qf.nil)))))) rfl rfl (.keep rfl (.same (qf.cons nI (qf.cons (qx.nilslice) qf.nil))) rfl rfl (.keep rfl (.same fa) rfl rfl .nil)))))).trans (Sub.refl _))⟩
      ·rw[if_neg (nb c35)]at g29
       refine sq ?_
       obtain⟨b41,g_v42,g29⟩:=bnd g29
       refine Goes.cut (s':=(ofG 162 [(2,.ptr 0 0),(3,.ptr 1 0),(4,.ptr 2 0),(5,.i x1),(6,.oslice 3 l23.length 9),(9,.i i_24),(10,.bool (x30.Name==x31)),(118,.bool b41)],[.cells [.i x1,vl qb r.Slings],.cells (cE e),bZ,bS l23])) ?_ ?_
       ·rcases Bool.eq_false_or_eq_true (e.Kind==[117,115,101])with c40|c40
        ·rw[if_pos (c40)]at g_v42
         obtain rfl:=si g_v42
         exact qp.rq fol [3] [(2,.ptr 0 0),(3,.ptr 1 0),(4,.ptr 2 0),(5,.i x1),(6,.oslice 3 l23.length 9),(9,.i i_24),(10,.bool (x30.Name==x31)),(118,.bool (x30.Name==x31))] [.cells [.i x1,vl qb r.Slings],.cells (cE e),bZ,bS l23] (ac (gw c40) az)
        ·rw[if_neg (nb c40)]at g_v42
         obtain rfl:=si g_v42
         exact qp.rq fol [3] [(2,.ptr 0 0),(3,.ptr 1 0),(4,.ptr 2 0),(5,.i x1),(6,.oslice 3 l23.length 9),(9,.i i_24),(10,.bool (x30.Name==x31)),(118,.bool false)] [.cells [.i x1,vl qb r.Slings],.cells (cE e),bZ,bS l23] (ac (gw c40) az)
       refine Goes.ifB (b:=b41) (by kernel_rfl) (fun c43=>?_) (fun c43=>?_)
       ·rw[if_pos (c43)]at g29
        obtain⟨l44,e_l44,g29⟩:=bnd g29
        refine Goes.rq fol [2,4,6,8] [(2,.ptr 0 0),(3,.ptr 1 0),(4,.ptr 2 0),(5,.i x1),(6,.oslice 3 l23.length 9),(9,.i i_24)] [.cells [.i x1,vl qb r.Slings],.cells (cE e),bZ,bS l44] (ac (hs (.done (.opt (qF Tryz.prog 35 (.oslice 3 l23.length 9) (.i i_24))) (.ptr 3 ((i_24:Int).toNat*9+0))) (qaU qcz e_x30)) (ac (hs (.run [3] (jd Tryz.prog 3 (.ptr 3 ((i_24:Int).toNat*9+5))) [.cells [.i x1,vl qb r.Slings],.cells (cE e),bZ,bS l23] (.i x30.Used) [.cells [.i x1,vl qb r.Slings],.cells (cE e),bZ,bS l23] false) (qhG ce3 (E:=qb) (l:=l23) rfl rfl e_x30 (nl rfl) rfl)) (ac (hs (.done (.opt (qF Tryz.prog 35 (.oslice 3 l23.length 9) (.i i_24))) (.ptr 3 ((i_24:Int).toNat*9+0))) (qaU qcz e_x30)) (ac (hs (.run [3] (yA Tryz.prog 3 (.ptr 3 ((i_24:Int).toNat*9+5)) (.i (w64 (x30.Used+1)))) [.cells [.i x1,vl qb r.Slings],.cells (cE e),bZ,bS l23] .undef [.cells [.i x1,vl qb r.Slings],.cells (cE e),bZ,bS l44] true) (qbK (E:=qb) (l:=l23) (y:=(⟨x30.Name,x30.Batch,x30.Born,x30.Last,x30.Uses,w64 (x30.Used+1),x30.Limit,x30.Until,x30.Gone⟩:qj)) rfl (show _=some 1 by kernel_rfl) rfl e_x30 rfl rfl rfl rfl rfl e_l44 rfl)) az)))) ?_
        obtain rfl:=si g29
        exact⟨rfl,_,rfl,((show Sub (ofG 162 [(2,.ptr 0 0),(3,.ptr 1 0),(4,.ptr 2 0),(5,.i x1),(6,.oslice 3 l23.length 9),(9,.i i_24)],[.cells [.i x1,vl qb r.Slings],.cells (cE e),bZ,bS l44]) (ofG 162 [(2,.ptr 0 0),(3,.ptr 1 0),(4,.ptr 2 0),(5,.i x1),(6,.oslice 3 l44.length 9),(9,.i i_24)],[.cells [.i x1,vl qb r.Slings],.cells (cE e),bZ,bS l44])from(Sub.norm [] [some 0,some 1,some 2,some 3] rfl rfl (.keep (.ptr rfl) (.keep (.ptr rfl) (.keep (.ptr rfl) (.keep (.same nI) (.keep (.osliceE rfl (y7 e_l44)) (.keep (.same nI) .nil)))))) (.keep rfl (.same (qf.cons nI (qf.cons (qh qb _) qf.nil))) rfl rfl (.keep rfl (.same (qf.cons nI (qf.cons nS (qf.cons (qh encS _) (qf.cons (qh encI _) (qf.cons nS qf.nil)))))) rfl rfl (.keep rfl (.same (qf.cons nI (qf.cons (qx.nilslice) qf.nil))) rfl rfl (.keep rfl (.same fa) rfl rfl .nil)))))).trans (Sub.refl _))⟩
       ·rw[if_neg (nb c43)]at g29
        refine sq ?_
        refine sq ?_
        obtain⟨b46,g_v47,g29⟩:=bnd g29
        refine Goes.cut (s':=(ofG 162 [(2,.ptr 0 0),(3,.ptr 1 0),(4,.ptr 2 0),(5,.i x1),(6,.oslice 3 l23.length 9),(9,.i i_24),(133,.bool b46)],[.cells [.i x1,vl qb r.Slings],.cells (cE e),bZ,bS l23])) ?_ ?_
        ·rcases Bool.eq_false_or_eq_true (e.Kind==[102,97,105,108])with c45|c45
         ·rw[if_pos (c45)]at g_v47
          obtain rfl:=si g_v47
          exact qp.rq fol [3] [(2,.ptr 0 0),(3,.ptr 1 0),(4,.ptr 2 0),(5,.i x1),(6,.oslice 3 l23.length 9),(9,.i i_24),(133,.bool (x30.Name==x31))] [.cells [.i x1,vl qb r.Slings],.cells (cE e),bZ,bS l23] (ac (gw c45) az)
         ·rw[if_neg (nb c45)]at g_v47
          obtain rfl:=si g_v47
          exact qp.rq fol [3] [(2,.ptr 0 0),(3,.ptr 1 0),(4,.ptr 2 0),(5,.i x1),(6,.oslice 3 l23.length 9),(9,.i i_24),(133,.bool false)] [.cells [.i x1,vl qb r.Slings],.cells (cE e),bZ,bS l23] (ac (gw c45) az)
        obtain⟨r49,g49,g29⟩:=bnd g29
        refine Goes.imp (Q:=fun x s'=>(x= .normal∧ ∃b48,b48=r49∧Sub s' (ofG 162 [(2,.ptr 0 0),(3,.ptr 1 0),(4,.ptr 2 0),(5,.i x1),(6,.oslice 3 l23.length 9),(9,.i i_24),(133,.bool b48)],[.cells [.i x1,vl qb r.Slings],.cells (cE e),bZ,bS l23]))) ?_ ?_
        ·refine Goes.ifB (b:=b46) (by kernel_rfl) (fun c50=>?_) (fun c50=>?_)
         ·rw[if_pos (c50)]at g49
          refine Goes.skip ?_
          obtain rfl:=si g49
          exact⟨rfl,_,rfl,(Sub.refl _)⟩
         ·rw[if_neg (nb c50)]at g49
          obtain⟨b52,g_v53,g49⟩:=bnd g49
          refine Goes.cut (s':=(ofG 162 [(2,.ptr 0 0),(3,.ptr 1 0),(4,.ptr 2 0),(5,.i x1),(6,.oslice 3 l23.length 9),(9,.i i_24),(133,.bool b52)],[.cells [.i x1,vl qb r.Slings],.cells (cE e),bZ,bS l23])) ?_ ?_
          ·rcases Bool.eq_false_or_eq_true (e.Kind==[114,101,99,97,108,108])with c51|c51
           ·rw[if_pos (c51)]at g_v53
            obtain rfl:=si g_v53
            exact qp.rq fol [3,6,8,11,12] [(2,.ptr 0 0),(3,.ptr 1 0),(4,.ptr 2 0),(5,.i x1),(6,.oslice 3 l23.length 9),(9,.i i_24),(133,.bool (x30.Batch==x31))] [.cells [.i x1,vl qb r.Slings],.cells (cE e),bZ,bS l23] (ac (gw c51) (ac (hs (.done (.opt (qF Tryz.prog 35 (.oslice 3 l23.length 9) (.i i_24))) (.ptr 3 ((i_24:Int).toNat*9+0))) (qaU qcz e_x30)) (ac (hs (.run [3] (jd Tryz.prog 9 (.ptr 3 ((i_24:Int).toNat*9+1))) [.cells [.i x1,vl qb r.Slings],.cells (cE e),bZ,bS l23] (.str x30.Batch) [.cells [.i x1,vl qb r.Slings],.cells (cE e),bZ,bS l23] false) (qhG ce9 (E:=qb) (l:=l23) rfl rfl e_x30 (nl rfl) rfl)) (ac (iv vT encS e_x31) (ac (lv 0 ce9 encS e_x31 rfl) az)))))
           ·rw[if_neg (nb c51)]at g_v53
            obtain rfl:=si g_v53
            exact qp.rq fol [3] [(2,.ptr 0 0),(3,.ptr 1 0),(4,.ptr 2 0),(5,.i x1),(6,.oslice 3 l23.length 9),(9,.i i_24),(133,.bool false)] [.cells [.i x1,vl qb r.Slings],.cells (cE e),bZ,bS l23] (ac (gw c51) az)
          obtain rfl:=si g49
          exact⟨rfl,_,rfl,(Sub.refl _)⟩
        rintro x s' ⟨rfl,b48,rfl,hsub⟩
        refine Goes.sub hsub ?_
        refine Goes.ifB (b:=b48) (by kernel_rfl) (fun c54=>?_) (fun c54=>?_)
        ·rw[if_pos (c54)]at g29
         obtain⟨l55,e_l55,g29⟩:=bnd g29
         refine Goes.rq fol [2,4] [(2,.ptr 0 0),(3,.ptr 1 0),(4,.ptr 2 0),(5,.i x1),(6,.oslice 3 l23.length 9),(9,.i i_24)] [.cells [.i x1,vl qb r.Slings],.cells (cE e),bZ,bS l55] (ac (hs (.done (.opt (qF Tryz.prog 35 (.oslice 3 l23.length 9) (.i i_24))) (.ptr 3 ((i_24:Int).toNat*9+0))) (qaU qcz e_x30)) (ac (hs (.run [3] (yA Tryz.prog 4 (.ptr 3 ((i_24:Int).toNat*9+8)) (.bool true)) [.cells [.i x1,vl qb r.Slings],.cells (cE e),bZ,bS l23] .undef [.cells [.i x1,vl qb r.Slings],.cells (cE e),bZ,bS l55] true) (qbK (E:=qb) (l:=l23) (y:=(⟨x30.Name,x30.Batch,x30.Born,x30.Last,x30.Uses,x30.Used,x30.Limit,x30.Until,true⟩:qj)) rfl (show _=some 1 by kernel_rfl) rfl e_x30 rfl rfl rfl rfl rfl e_l55 rfl)) az)) ?_
         obtain rfl:=si g29
         exact⟨rfl,_,rfl,((show Sub (ofG 162 [(2,.ptr 0 0),(3,.ptr 1 0),(4,.ptr 2 0),(5,.i x1),(6,.oslice 3 l23.length 9),(9,.i i_24)],[.cells [.i x1,vl qb r.Slings],.cells (cE e),bZ,bS l55]) (ofG 162 [(2,.ptr 0 0),(3,.ptr 1 0),(4,.ptr 2 0),(5,.i x1),(6,.oslice 3 l55.length 9),(9,.i i_24)],[.cells [.i x1,vl qb r.Slings],.cells (cE e),bZ,bS l55])from(Sub.norm [] [some 0,some 1,some 2,some 3] rfl rfl (.keep (.ptr rfl) (.keep (.ptr rfl) (.keep (.ptr rfl) (.keep (.same nI) (.keep (.osliceE rfl (y7 e_l55)) (.keep (.same nI) .nil)))))) (.keep rfl (.same (qf.cons nI (qf.cons (qh qb _) qf.nil))) rfl rfl (.keep rfl (.same (qf.cons nI (qf.cons nS (qf.cons (qh encS _) (qf.cons (qh encI _) (qf.cons nS qf.nil)))))) rfl rfl (.keep rfl (.same (qf.cons nI (qf.cons (qx.nilslice) qf.nil))) rfl rfl (.keep rfl (.same fa) rfl rfl .nil)))))).trans (Sub.refl _))⟩
        ·rw[if_neg (nb c54)]at g29
         refine Goes.skip ?_
         obtain rfl:=si g29
         exact⟨rfl,_,rfl,(Sub.keep [2,3,4,5,6,9] rfl rfl)⟩
     rintro x s' ⟨rfl,l28,rfl,hsub⟩
     refine Goes.sub hsub ?_
     refine Goes.rg fol [(2,.ptr 0 0),(3,.ptr 1 0),(4,.ptr 2 0),(5,.i x1),(6,.oslice 3 l28.length 9),(9,.i (w64 (i_24+1)))] [.cells [.i x1,vl qb r.Slings],.cells (cE e),bZ,bS l28] ?_
     exact⟨M,(ofG 162 [(2,.ptr 0 0),(3,.ptr 1 0),(4,.ptr 2 0),(5,.i x1),(6,.oslice 3 l28.length 9),(9,.i (w64 (i_24+1)))],[.cells [.i x1,vl qb r.Slings],.cells (cE e),bZ,bS l28]),Nat.lt_succ_self _,(Sub.refl _),_,_,rfl,g26⟩
    ·rw[if_neg (of_ c27)]at g26
     refine Goes.exit ?_
     obtain rfl:=si g26
     exact⟨rfl,_,rfl,(Sub.norm [] [some 0,some 2,some 3] rfl rfl (.keep (.ptr rfl) (.drop (.keep (.ptr rfl) (.drop (.keep (.oslice rfl) .nil))))) (.keep rfl (.same (qf.cons nI (qf.cons (qh qb _) qf.nil))) rfl rfl (.keep rfl (.same (qf.cons nI (qf.cons (qx.nilslice) qf.nil))) rfl rfl (.keep rfl (.same fa) rfl rfl .nil))))⟩
  rintro x s' ⟨rfl,l25,rfl,hsub⟩
  refine Goes.sub hsub ?_
  refine sq (Goes.rg fol [(2,.ptr 0 0),(4,.ptr 1 0)] [.cells [.i x1,.oslice 2 l25.length 9],bZ,bS l25] ?_)
  refine sq (Goes.rg fol [(4,.ptr 1 0)] [.cells [.i x1,.oslice 2 l25.length 9],.cells [.i x1,.oslice 2 l25.length 9],bS l25] ?_)
  refine Goes.ret ?_
  obtain rfl:=si h
  exact(Goes.retW (xs:=[.agg [.i x1,.oslice 2 l25.length 9]]) (by kernel_rfl) (FzW.agg (qz.cons (FzW.still tI) (qz.cons (FzW.fz (Fz.os (E:=qb) rfl rfl (nl rfl))) qz.nil))))
def zy (N:Nat) (l:List ql):Nat→Int→(List qj)→Int→Option (Int×(List qj))
 |0,_,_,_=>none
 |K+1,n1,l2,i_3=>
  if i_3<(l.length:Int)then
  (idx l i_3).bind fun x8=>
  (jc N (⟨n1,l2⟩:qK) x8).bind fun r9=>
  zy N l K r9.Day r9.Slings (w64 (i_3+1))
  else
  some (n1,l2)
def zU (N:Nat) (l:List ql):Option qK:=
 (zy N l N 0 ([]:List qj) 0).bind fun(n4,l5)=>
 some (⟨n4,l5⟩:qK)
theorem qbI (N:Nat) (l:List ql) {res:qK} (h:zU N l=some res):qw Tryz.prog (.fn 84) [vl qc l] [] (.agg [.i res.Day,vl qb res.Slings]) []:=by
 unfold zU at h
 refine Goes.fnW Tryz.func84 rfl rfl (m:=18) rfl (rs:=[.cell 2 37]) rfl (l:=[(0,vl qc l)]) rfl ?_
 refine sq (Goes.rg fol [(0,vl qc l),(2,.ptr 0 0)] [bZ] ?_)
 refine sq (Goes.rg fol [(0,vl qc l),(2,.ptr 0 0),(3,.ptr 1 0)] [bZ,bZ] ?_)
 refine sq ?_
 refine sq (Goes.rg fol [(0,vl qc l),(2,.ptr 0 0),(3,.ptr 1 0),(4,.i 0)] [bZ,bZ] ?_)
 refine Goes.block ?_
 obtain⟨r6,g6,h⟩:=bnd h
 refine Goes.imp (Q:=fun x s'=>(x= .exit 0∧ ∃n4 l5,(n4,l5)=r6∧Sub s' (ofG 18 [(2,.ptr 0 0),(3,.ptr 1 0)],[bZ,.cells [.i n4,vl qb l5]]))) ?_ ?_
 ·refine Goes.sub (s':=(ofG 18 [(0,vl qc l),(2,.ptr 0 0),(3,.ptr 1 0),(4,.i 0)],[bZ,.cells [.i 0,vl qb ([]:List qj)]])) (Sub.norm [] [some 0,some 1] rfl rfl (.keep (.same (qh qc _)) (.keep (.ptr rfl) (.keep (.ptr rfl) (.keep (.same nI) .nil)))) (.keep rfl (.same (qf.cons nI (qf.cons (qx.nilslice) qf.nil))) rfl rfl (.keep rfl (.cells (qg.cons (.same nI) (qg.cons (.nilv) qg.nil))) rfl rfl .nil))) ?_
  refine Goes.loopS (fun M s=> ∃(n1:Int) (l2:List qj) (i_3:Int),s=(ofG 18 [(0,vl qc l),(2,.ptr 0 0),(3,.ptr 1 0),(4,.i i_3)],[bZ,.cells [.i n1,vl qb l2]])∧zy N l M n1 l2 i_3=some r6) ?_ (m:=N) ⟨_,_,_,rfl,g6⟩
  rintro M s ⟨n1,l2,i_3,rfl,g6⟩
  cases M with
  |zero=>simp only[zy]at g6;cases g6
  |succ M=>
   rw[zy]at g6
   refine sq ?_
   refine sq (Goes.rg fol [(0,vl qc l),(2,.ptr 0 0),(3,.ptr 1 0),(4,.i i_3),(8,.bool (decide (i_3<(l.length:Int))))] [bZ,.cells [.i n1,vl qb l2]] ?_)
   refine Goes.ifB (b:=decide (i_3<(l.length:Int))) (by kernel_rfl) (fun c7=>?_) (fun c7=>?_)
   ·rw[if_pos (ot c7)]at g6
    refine Goes.skip ?_
    refine sq (Goes.block ?_)
    obtain⟨x8,e_x8,g6⟩:=bnd g6
    obtain⟨r9,e_r9,g6⟩:=bnd g6
    refine Goes.rq fol [3,4,5] [(0,vl qc l),(2,.ptr 0 0),(3,.ptr 1 0),(4,.i i_3)] [bZ,.cells [.i r9.Day,vl qb r9.Slings]] (ac (iv vM qc e_x8) (ac (la ag26 qc e_x8) (ac (cv (qgu N (⟨n1,l2⟩:qK) x8 e_r9)) az))) ?_
    refine Goes.rg fol [(0,vl qc l),(2,.ptr 0 0),(3,.ptr 1 0),(4,.i (w64 (i_3+1)))] [bZ,.cells [.i r9.Day,vl qb r9.Slings]] ?_
    exact⟨M,(ofG 18 [(0,vl qc l),(2,.ptr 0 0),(3,.ptr 1 0),(4,.i (w64 (i_3+1)))],[bZ,.cells [.i r9.Day,vl qb r9.Slings]]),Nat.lt_succ_self _,(Sub.refl _),_,_,_,rfl,g6⟩
   ·rw[if_neg (of_ c7)]at g6
    refine Goes.exit ?_
    obtain rfl:=si g6
    exact⟨rfl,_,_,rfl,(Sub.keep [2,3] rfl rfl)⟩
 rintro x s' ⟨rfl,n4,l5,rfl,hsub⟩
 try dsimp only at h
 refine Goes.sub hsub ?_
 refine sq (Goes.rg fol [(2,.ptr 0 0)] [.cells [.i n4,vl qb l5],.cells [.i n4,vl qb l5]] ?_)
 refine Goes.ret ?_
 obtain rfl:=si h
 exact(Goes.retW (xs:=[.agg [.i n4,vl qb l5]]) (by kernel_rfl) (FzW.agg (qz.cons (FzW.still tI) (qz.cons (FzW.still (vU qb _ (nl rfl))) qz.nil))))
def xu (r:qK) (name:Str):Nat→Int→Option (Unit⊕Int)
 |0,_=>none
 |K+1,i_1=>
  if i_1<(r.Slings.length:Int)then
  (idx r.Slings i_1).bind fun x5=>
  if(x5.Name==name)=true then
  some (.inr i_1)
  else
  xu r name K (w64 (i_1+1))
  else
  some (.inl ())
def qds (N:Nat) (r:qK) (name:Str):Option Int:=
 (xu r name N 0).bind (fun
 |(.inl ())=>
 some (-1)
 |(.inr q7)=>
 some q7)
theorem qiG (N:Nat) (r:qK) (name:Str) {res:Int} (h:qds N r name=some res):qw Tryz.prog (.fn 27) [.agg [.i r.Day,vl qb r.Slings],.str name] [] (.i res) []:=by
 unfold qds at h
 refine Goes.fnW Tryz.func27 rfl rfl (m:=22) rfl (rs:=[.tmp 4]) rfl (l:=[(0,.agg [.i r.Day,vl qb r.Slings]),(1,.str name)]) rfl ?_
 refine sq (Goes.rg fol [(1,.str name),(2,.ptr 0 0)] [.cells [.i r.Day,vl qb r.Slings]] ?_)
 refine sq ?_
 refine sq (Goes.rg fol [(1,.str name),(2,.ptr 0 0),(5,.i 0)] [.cells [.i r.Day,vl qb r.Slings]] ?_)
 refine Goes.block ?_
 obtain⟨r2,g2,h⟩:=bnd h
 refine Goes.imp (Q:=fun x s'=>(x= .exit 0∧(.inl ())=r2∧Sub s' (ofG 22 [],[]))∨(x= .ret∧ ∃q3,(.inr q3)=r2∧qW Tryz.prog [.tmp 4] (.i q3) .ret s')) ?_ ?_
 ·refine Goes.loopS (fun M s=> ∃(i_1:Int),s=(ofG 22 [(1,.str name),(2,.ptr 0 0),(5,.i i_1)],[.cells [.i r.Day,vl qb r.Slings]])∧xu r name M i_1=some r2) ?_ (m:=N) ⟨_,rfl,g2⟩
  rintro M s ⟨i_1,rfl,g2⟩
  cases M with
  |zero=>simp only[xu]at g2;cases g2
  |succ M=>
   rw[xu]at g2
   refine sq ?_
   refine sq (Goes.rg fol [(1,.str name),(2,.ptr 0 0),(5,.i i_1),(10,.bool (decide (i_1<(r.Slings.length:Int))))] [.cells [.i r.Day,vl qb r.Slings]] ?_)
   refine Goes.ifB (b:=decide (i_1<(r.Slings.length:Int))) (by kernel_rfl) (fun c4=>?_) (fun c4=>?_)
   ·rw[if_pos (ot c4)]at g2
    refine Goes.skip ?_
    refine sq (Goes.block ?_)
    refine sq ?_
    obtain⟨x5,e_x5,g2⟩:=bnd g2
    refine Goes.rq fol [3,5] [(1,.str name),(2,.ptr 0 0),(5,.i i_1),(20,.bool (x5.Name==name))] [.cells [.i r.Day,vl qb r.Slings]] (ac (iv qcz qb e_x5) (ac (lv 0 ce9 qb e_x5 rfl) az)) ?_
    refine Goes.ifB (b:=x5.Name==name) (by kernel_rfl) (fun c6=>?_) (fun c6=>?_)
    ·rw[if_pos (c6)]at g2
     refine sq (Goes.rg fol [(4,.i i_1)] [.cells [.i r.Day,vl qb r.Slings]] ?_)
     refine Goes.ret ?_
     obtain rfl:=si g2
     exact Or.inr (⟨rfl,_,rfl,(Goes.retW (xs:=[.i i_1]) (by kernel_rfl) (FzW.still tI))⟩)
    ·rw[if_neg (nb c6)]at g2
     refine Goes.skip ?_
     refine Goes.rg fol [(1,.str name),(2,.ptr 0 0),(5,.i (w64 (i_1+1)))] [.cells [.i r.Day,vl qb r.Slings]] ?_
     exact⟨M,(ofG 22 [(1,.str name),(2,.ptr 0 0),(5,.i (w64 (i_1+1)))],[.cells [.i r.Day,vl qb r.Slings]]),Nat.lt_succ_self _,(Sub.refl _),_,rfl,g2⟩
   ·rw[if_neg (of_ c4)]at g2
    refine Goes.exit ?_
    obtain rfl:=si g2
    exact Or.inl (⟨rfl,rfl,(Sub.norm [] [] rfl rfl .nil .nil)⟩)
 rintro x s' (⟨rfl,rfl,hsub⟩|⟨rfl,q7,rfl,hret⟩)
 ·try dsimp only at h
  refine Goes.sub hsub ?_
  refine sq (Goes.rg fol [(4,.i (-1))] [] ?_)
  refine Goes.ret ?_
  obtain rfl:=si h
  exact(Goes.retW (xs:=[.i (-1)]) (by kernel_rfl) (FzW.still tI))
 ·try dsimp only at h
  obtain rfl:=si h
  exact hret
def yU (s_:qj) (day:Int):Option Bool:=
 (if s_.Gone=true then
 some true
 else
 if day>s_.Last then
 some true
 else
 some (decide (s_.Used=s_.Uses)):Option Bool).bind fun b3=>
 some b3
theorem qbY (s_:qj) (day:Int) {res:Bool} (h:yU s_ day=some res):qw Tryz.prog (.fn 33) [.agg (cS s_),.i day] [] (.bool res) []:=by
 unfold yU at h
 refine Goes.fnW Tryz.func33 rfl rfl (m:=20) rfl (rs:=[.tmp 4]) rfl (l:=[(0,.agg (cS s_)),(1,.i day)]) rfl ?_
 refine sq (Goes.rg fol [(1,.i day),(2,.ptr 0 0)] [.cells (cS s_)] ?_)
 refine sq ?_
 obtain⟨b3,g_v4,h⟩:=bnd h
 refine Goes.cut (s':=(ofG 20 [(4,.bool b3)],[.cells (cS s_)])) ?_ ?_
 ·rcases Bool.eq_false_or_eq_true (s_.Gone)with c1|c1
  ·rw[if_pos (c1)]at g_v4
   obtain rfl:=si g_v4
   exact qp.rq fol [2] [(4,.bool true)] [.cells (cS s_)] (ac (gw c1) az)
  ·rw[if_neg (nb c1)]at g_v4
   rcases Bool.eq_false_or_eq_true (decide (day>s_.Last))with c2|c2
   ·rw[if_pos (ot c2)]at g_v4
    obtain rfl:=si g_v4
    exact qp.rq fol [2,8] [(4,.bool true)] [.cells (cS s_)] (ac (gw c1) (ac (gw c2) az))
   ·rw[if_neg (of_ c2)]at g_v4
    obtain rfl:=si g_v4
    exact qp.rq fol [2,8] [(4,.bool (decide (s_.Used=s_.Uses)))] [.cells (cS s_)] (ac (gw c1) (ac (gw c2) az))
 refine Goes.ret ?_
 obtain rfl:=si h
 exact(Goes.retW (xs:=[.bool b3]) (by kernel_rfl) (FzW.still tB))
def qal (s_:qj) (day:Int):Option Bool:=
 (if s_.Limit>0 then
 some (decide (day≤s_.Until))
 else
 some false:Option Bool).bind fun b2=>
 some b2
theorem qgb (s_:qj) (day:Int) {res:Bool} (h:qal s_ day=some res):qw Tryz.prog (.fn 34) [.agg (cS s_),.i day] [] (.bool res) []:=by
 unfold qal at h
 refine Goes.fnW Tryz.func34 rfl rfl (m:=14) rfl (rs:=[.tmp 4]) rfl (l:=[(0,.agg (cS s_)),(1,.i day)]) rfl ?_
 refine sq (Goes.rg fol [(1,.i day),(2,.ptr 0 0)] [.cells (cS s_)] ?_)
 refine sq ?_
 obtain⟨b2,g_v3,h⟩:=bnd h
 refine Goes.cut (s':=(ofG 14 [(4,.bool b2)],[.cells (cS s_)])) ?_ ?_
 ·rcases Bool.eq_false_or_eq_true (decide (s_.Limit>0))with c1|c1
  ·rw[if_pos (ot c1)]at g_v3
   obtain rfl:=si g_v3
   exact qp.rq fol [3] [(4,.bool (decide (day≤s_.Until)))] [.cells (cS s_)] (ac (gw c1) az)
  ·rw[if_neg (of_ c1)]at g_v3
   obtain rfl:=si g_v3
   exact qp.rq fol [3] [(4,.bool false)] [.cells (cS s_)] (ac (gw c1) az)
 refine Goes.ret ?_
 obtain rfl:=si h
 exact(Goes.retW (xs:=[.bool b2]) (by kernel_rfl) (FzW.still tB))
def zK (r:qK) (e:ql) (x1:Int):Nat→Bool→Bool→Int→Option (Bool×Bool)
 |0,_,_,_=>none
 |K+1,some_19,open__20,i_21=>
  if i_21<(r.Slings.length:Int)then
  (((idx r.Slings i_21).bind fun x29=>
  (idx e.Names 0).bind fun x30=>
  if(x29.Batch==x30)=true then
  (if open__20=true then
  some true
  else
  (yU x29 x1).bind fun r33=>
  some (!r33):Option Bool).bind fun open__34=>
  some (true,open__34)
  else
  some (some_19,open__20):Option (Bool×Bool))).bind fun(some_26,open__27)=>
  zK r e x1 K some_26 open__27 (w64 (i_21+1))
  else
  some (some_19,open__20)
def zV (N:Nat) (r:qK) (e:ql):Option Int:=
 (idx e.Values 0).bind fun x1=>
 if x1>99999 then
 some 3
 else
 if x1<r.Day then
 some 19
 else
 (idx e.Names 0).bind fun x4=>
 (qds N r x4).bind fun r5=>
 if(e.Kind==[109,97,107,101])=true then
 if r5≥0 then
 some 9
 else
 ((idx e.Values 1).bind fun x8=>
 (zk x8 1 9999).bind fun r9=>
 if r9=true then
 some true
 else
 (idx e.Values 2).bind fun x11=>
 (zk x11 1 9999).bind fun r12=>
 if r12=true then
 some true
 else
 some (decide ((w64 (x1+x8))>99999)):Option Bool).bind fun b14=>
 if b14=true then
 some 3
 else
 if(r.Slings.length:Int)≥256 then
 some 5
 else
 some 0
 else
 if(e.Kind==[114,101,99,97,108,108])=true then
 (zK r e x1 N false false 0).bind fun(some_22,open__23)=>
 if(!some_22)=true then
 some 10
 else
 if(!open__23)=true then
 some 20
 else
 some 0
 else
 if r5<0 then
 some 10
 else
 (idx r.Slings r5).bind fun x39=>
 (yU x39 x1).bind fun r40=>
 if r40=true then
 some 20
 else
 (if(e.Kind==[116,101,115,116])=true then
 (idx e.Values 1).bind fun x43=>
 (zk x43 2 999999999).bind fun r44=>
 some r44
 else
 some false:Option Bool).bind fun b45=>
 if b45=true then
 some 3
 else
 ((if(e.Kind==[117,115,101])=true then
 (qal x39 x1).bind fun r51=>
 if(!r51)=true then
 some (.inr 24)
 else
 (idx e.Values 1).bind fun x53=>
 if x53>x39.Limit then
 some (.inr 31)
 else
 some (.inl ())
 else
 some (.inl ()):Option (Unit⊕Int))).bind (fun
 |(.inl ())=>
 some 0
 |(.inr q55)=>
 some q55)
theorem qfj (N:Nat) (r:qK) (e:ql) {res:Int} (h:zV N r e=some res):qw Tryz.prog (.fn 139) [.agg [.i r.Day,vl qb r.Slings],.agg (cE e)] [] (.i res) []:=by
 unfold zV at h
 refine Goes.fnW Tryz.func139 rfl rfl (m:=127) rfl (rs:=[.tmp 4]) rfl (l:=[(0,.agg [.i r.Day,vl qb r.Slings]),(1,.agg (cE e))]) rfl ?_
 refine sq (Goes.rg fol [(2,.ptr 0 0),(3,.ptr 1 0)] [.cells [.i r.Day,vl qb r.Slings],.cells (cE e)] ?_)
 refine sq ?_
 obtain⟨x1,e_x1,h⟩:=bnd h
 refine Goes.rq fol [2,3] [(2,.ptr 0 0),(3,.ptr 1 0),(5,.i x1)] [.cells [.i r.Day,vl qb r.Slings],.cells (cE e)] (ac (iv xL encI e_x1) (ac (lv 0 ce3 encI e_x1 rfl) az)) ?_
 refine sq ?_
 refine sq (Goes.rg fol [(2,.ptr 0 0),(3,.ptr 1 0),(5,.i x1),(16,.bool (decide (x1>99999)))] [.cells [.i r.Day,vl qb r.Slings],.cells (cE e)] ?_)
 refine Goes.ifB (b:=decide (x1>99999)) (by kernel_rfl) (fun c2=>?_) (fun c2=>?_)
 ·rw[if_pos (ot c2)]at h
  refine sq (Goes.rg fol [(4,.i 3)] [.cells [.i r.Day,vl qb r.Slings],.cells (cE e)] ?_)
  refine Goes.ret ?_
  obtain rfl:=si h
  exact(Goes.retW (xs:=[.i 3]) (by kernel_rfl) (FzW.still tI))
 ·rw[if_neg (of_ c2)]at h
  refine Goes.skip ?_
  refine sq ?_
  refine sq (Goes.rg fol [(2,.ptr 0 0),(3,.ptr 1 0),(5,.i x1),(20,.bool (decide (x1<r.Day)))] [.cells [.i r.Day,vl qb r.Slings],.cells (cE e)] ?_)
  refine Goes.ifB (b:=decide (x1<r.Day)) (by kernel_rfl) (fun c3=>?_) (fun c3=>?_)
  ·rw[if_pos (ot c3)]at h
   refine sq (Goes.rg fol [(4,.i 19)] [.cells [.i r.Day,vl qb r.Slings],.cells (cE e)] ?_)
   refine Goes.ret ?_
   obtain rfl:=si h
   exact(Goes.retW (xs:=[.i 19]) (by kernel_rfl) (FzW.still tI))
  ·rw[if_neg (of_ c3)]at h
   refine Goes.skip ?_
   refine sq ?_
   obtain⟨x4,e_x4,h⟩:=bnd h
   obtain⟨r5,e_r5,h⟩:=bnd h
   refine Goes.rq fol [3,4,5] [(2,.ptr 0 0),(3,.ptr 1 0),(5,.i x1),(6,.i r5)] [.cells [.i r.Day,vl qb r.Slings],.cells (cE e)] (ac (iv vT encS e_x4) (ac (lv 0 ce9 encS e_x4 rfl) (ac (cv (qiG N r x4 e_r5)) az))) ?_
   refine sq ?_
   refine sq (Goes.rg fol [(2,.ptr 0 0),(3,.ptr 1 0),(5,.i x1),(6,.i r5),(28,.str e.Kind)] [.cells [.i r.Day,vl qb r.Slings],.cells (cE e)] ?_)
   refine Goes.block ?_
   refine sq (Goes.rg fol [(2,.ptr 0 0),(3,.ptr 1 0),(5,.i x1),(6,.i r5),(28,.str e.Kind),(29,.bool (e.Kind==[109,97,107,101]))] [.cells [.i r.Day,vl qb r.Slings],.cells (cE e)] ?_)
   refine Goes.ifB (b:=e.Kind==[109,97,107,101]) (by kernel_rfl) (fun c6=>?_) (fun c6=>?_)
   ·rw[if_pos (c6)]at h
    refine sq ?_
    refine sq (Goes.rg fol [(2,.ptr 0 0),(3,.ptr 1 0),(5,.i x1),(32,.bool (decide (r5≥0)))] [.cells [.i r.Day,vl qb r.Slings],.cells (cE e)] ?_)
    refine Goes.ifB (b:=decide (r5≥0)) (by kernel_rfl) (fun c7=>?_) (fun c7=>?_)
    ·rw[if_pos (ot c7)]at h
     refine sq (Goes.rg fol [(4,.i 9)] [.cells [.i r.Day,vl qb r.Slings],.cells (cE e)] ?_)
     refine Goes.ret ?_
     obtain rfl:=si h
     exact(Goes.retW (xs:=[.i 9]) (by kernel_rfl) (FzW.still tI))
    ·rw[if_neg (of_ c7)]at h
     refine Goes.skip ?_
     refine sq ?_
     refine sq ?_
     obtain⟨b14,g_v15,h⟩:=bnd h
     refine Goes.cut (s':=(ofG 127 [(2,.ptr 0 0),(53,.bool b14)],[.cells [.i r.Day,vl qb r.Slings],.cells (cE e)])) ?_ ?_
     ·obtain⟨x8,e_x8,g_v15⟩:=bnd g_v15
      obtain⟨r9,e_r9,g_v15⟩:=bnd g_v15
      rcases Bool.eq_false_or_eq_true (r9)with c10|c10
      ·rw[if_pos (c10)]at g_v15
       obtain rfl:=si g_v15
       exact qp.rq fol [2,3,4,5] [(2,.ptr 0 0),(53,.bool true)] [.cells [.i r.Day,vl qb r.Slings],.cells (cE e)] (ac (iv xL encI e_x8) (ac (lv 0 ce3 encI e_x8 rfl) (ac (cv (kE x8 1 9999 e_r9)) (ac (gw c10) az))))
      ·rw[if_neg (nb c10)]at g_v15
       obtain⟨x11,e_x11,g_v15⟩:=bnd g_v15
       obtain⟨r12,e_r12,g_v15⟩:=bnd g_v15
       rcases Bool.eq_false_or_eq_true (r12)with c13|c13
       ·rw[if_pos (c13)]at g_v15
        obtain rfl:=si g_v15
        exact qp.rq fol [2,3,4,5,8,9,10,12] [(2,.ptr 0 0),(53,.bool true)] [.cells [.i r.Day,vl qb r.Slings],.cells (cE e)] (ac (iv xL encI e_x8) (ac (lv 0 ce3 encI e_x8 rfl) (ac (cv (kE x8 1 9999 e_r9)) (ac (gw c10) (ac (iv xL encI e_x11) (ac (lv 0 ce3 encI e_x11 rfl) (ac (cv (kE x11 1 9999 e_r12)) (ac (gw c13) az))))))))
       ·rw[if_neg (nb c13)]at g_v15
        obtain rfl:=si g_v15
        exact qp.rq fol [2,3,4,5,8,9,10,12,16,17] [(2,.ptr 0 0),(53,.bool (decide ((w64 (x1+x8))>99999)))] [.cells [.i r.Day,vl qb r.Slings],.cells (cE e)] (ac (iv xL encI e_x8) (ac (lv 0 ce3 encI e_x8 rfl) (ac (cv (kE x8 1 9999 e_r9)) (ac (gw c10) (ac (iv xL encI e_x11) (ac (lv 0 ce3 encI e_x11 rfl) (ac (cv (kE x11 1 9999 e_r12)) (ac (gw c13) (ac (iv xL encI e_x8) (ac (lv 0 ce3 encI e_x8 rfl) az))))))))))
     refine Goes.ifB (b:=b14) (by kernel_rfl) (fun c16=>?_) (fun c16=>?_)
     ·rw[if_pos (c16)]at h
      refine sq (Goes.rg fol [(4,.i 3)] [.cells [.i r.Day,vl qb r.Slings],.cells (cE e)] ?_)
      refine Goes.ret ?_
      obtain rfl:=si h
      exact(Goes.retW (xs:=[.i 3]) (by kernel_rfl) (FzW.still tI))
     ·rw[if_neg (nb c16)]at h
      refine Goes.skip ?_
      refine sq ?_
      refine sq (Goes.rg fol [(57,.bool (decide ((r.Slings.length:Int)≥256)))] [.cells [.i r.Day,vl qb r.Slings],.cells (cE e)] ?_)
      refine Goes.ifB (b:=decide ((r.Slings.length:Int)≥256)) (by kernel_rfl) (fun c17=>?_) (fun c17=>?_)
      ·rw[if_pos (ot c17)]at h
       refine sq (Goes.rg fol [(4,.i 5)] [.cells [.i r.Day,vl qb r.Slings],.cells (cE e)] ?_)
       refine Goes.ret ?_
       obtain rfl:=si h
       exact(Goes.retW (xs:=[.i 5]) (by kernel_rfl) (FzW.still tI))
      ·rw[if_neg (of_ c17)]at h
       refine Goes.skip ?_
       refine sq (Goes.rg fol [(4,.i 0)] [.cells [.i r.Day,vl qb r.Slings],.cells (cE e)] ?_)
       refine Goes.ret ?_
       obtain rfl:=si h
       exact(Goes.retW (xs:=[.i 0]) (by kernel_rfl) (FzW.still tI))
   ·rw[if_neg (nb c6)]at h
    refine sq (Goes.rg fol [(2,.ptr 0 0),(3,.ptr 1 0),(5,.i x1),(6,.i r5),(58,.bool (e.Kind==[114,101,99,97,108,108]))] [.cells [.i r.Day,vl qb r.Slings],.cells (cE e)] ?_)
    refine Goes.ifB (b:=e.Kind==[114,101,99,97,108,108]) (by kernel_rfl) (fun c18=>?_) (fun c18=>?_)
    ·rw[if_pos (c18)]at h
     refine sq (Goes.rg fol [(2,.ptr 0 0),(3,.ptr 1 0),(5,.i x1),(7,.bool false),(8,.bool false)] [.cells [.i r.Day,vl qb r.Slings],.cells (cE e)] ?_)
     refine sq ?_
     refine sq (Goes.rg fol [(2,.ptr 0 0),(3,.ptr 1 0),(5,.i x1),(7,.bool false),(8,.bool false),(9,.i 0)] [.cells [.i r.Day,vl qb r.Slings],.cells (cE e)] ?_)
     refine Goes.block ?_
     obtain⟨r24,g24,h⟩:=bnd h
     refine Goes.imp (Q:=fun x s'=>(x= .exit 1∧ ∃some_22 open__23,(some_22,open__23)=r24∧Sub s' (ofG 127 [(7,.bool some_22),(8,.bool open__23)],[]))) ?_ ?_
     ·refine Goes.loopS (fun M s=> ∃(some_19:Bool) (open__20:Bool) (i_21:Int),s=(ofG 127 [(2,.ptr 0 0),(3,.ptr 1 0),(5,.i x1),(7,.bool some_19),(8,.bool open__20),(9,.i i_21)],[.cells [.i r.Day,vl qb r.Slings],.cells (cE e)])∧zK r e x1 M some_19 open__20 i_21=some r24) ?_ (m:=N) ⟨_,_,_,rfl,g24⟩
      rintro M s ⟨some_19,open__20,i_21,rfl,g24⟩
      cases M with
      |zero=>simp only[zK]at g24;cases g24
      |succ M=>
       rw[zK]at g24
       refine sq ?_
       refine sq (Goes.rg fol [(2,.ptr 0 0),(3,.ptr 1 0),(5,.i x1),(7,.bool some_19),(8,.bool open__20),(9,.i i_21),(64,.bool (decide (i_21<(r.Slings.length:Int))))] [.cells [.i r.Day,vl qb r.Slings],.cells (cE e)] ?_)
       refine Goes.ifB (b:=decide (i_21<(r.Slings.length:Int))) (by kernel_rfl) (fun c25=>?_) (fun c25=>?_)
       ·rw[if_pos (ot c25)]at g24
        refine Goes.skip ?_
        refine sq ?_
        obtain⟨r28,g28,g24⟩:=bnd g24
        refine Goes.imp (Q:=fun x s'=>(x= .normal∧ ∃some_26 open__27,(some_26,open__27)=r28∧Sub s' (ofG 127 [(2,.ptr 0 0),(3,.ptr 1 0),(5,.i x1),(7,.bool some_26),(8,.bool open__27),(9,.i i_21)],[.cells [.i r.Day,vl qb r.Slings],.cells (cE e)]))) ?_ ?_
        ·refine Goes.block ?_
         refine sq ?_
         obtain⟨x29,e_x29,g28⟩:=bnd g28
         obtain⟨x30,e_x30,g28⟩:=bnd g28
         refine Goes.rq fol [3,5,8,9] [(2,.ptr 0 0),(3,.ptr 1 0),(5,.i x1),(7,.bool some_19),(8,.bool open__20),(9,.i i_21),(77,.bool (x29.Batch==x30))] [.cells [.i r.Day,vl qb r.Slings],.cells (cE e)] (ac (iv qcz qb e_x29) (ac (lv 1 ce9 qb e_x29 rfl) (ac (iv vT encS e_x30) (ac (lv 0 ce9 encS e_x30 rfl) az)))) ?_
         refine Goes.ifB (b:=x29.Batch==x30) (by kernel_rfl) (fun c31=>?_) (fun c31=>?_)
         ·rw[if_pos (c31)]at g28
          refine sq (Goes.rg fol [(2,.ptr 0 0),(3,.ptr 1 0),(5,.i x1),(7,.bool true),(8,.bool open__20),(9,.i i_21)] [.cells [.i r.Day,vl qb r.Slings],.cells (cE e)] ?_)
          obtain⟨open__34,g_v35,g28⟩:=bnd g28
          refine Goes.cut (s':=(ofG 127 [(2,.ptr 0 0),(3,.ptr 1 0),(5,.i x1),(7,.bool true),(8,.bool open__34),(9,.i i_21)],[.cells [.i r.Day,vl qb r.Slings],.cells (cE e)])) ?_ ?_
          ·rcases Bool.eq_false_or_eq_true (open__20)with c32|c32
           ·rw[if_pos (c32)]at g_v35
            obtain rfl:=si g_v35
            exact qp.rq fol [1] [(2,.ptr 0 0),(3,.ptr 1 0),(5,.i x1),(7,.bool true),(8,.bool true),(9,.i i_21)] [.cells [.i r.Day,vl qb r.Slings],.cells (cE e)] (ac (gw c32) az)
           ·rw[if_neg (nb c32)]at g_v35
            obtain⟨r33,e_r33,g_v35⟩:=bnd g_v35
            obtain rfl:=si g_v35
            exact qp.rq fol [1,5,6,8] [(2,.ptr 0 0),(3,.ptr 1 0),(5,.i x1),(7,.bool true),(8,.bool (!r33)),(9,.i i_21)] [.cells [.i r.Day,vl qb r.Slings],.cells (cE e)] (ac (gw c32) (ac (iv qcz qb e_x29) (ac (la ag60 qb e_x29) (ac (cv (qbY x29 x1 e_r33)) az))))
          obtain rfl:=si g28
          exact⟨rfl,_,_,rfl,(Sub.refl _)⟩
         ·rw[if_neg (nb c31)]at g28
          refine Goes.skip ?_
          obtain rfl:=si g28
          exact⟨rfl,_,_,rfl,(Sub.keep [2,3,5,7,8,9] rfl rfl)⟩
        rintro x s' ⟨rfl,some_26,open__27,rfl,hsub⟩
        try dsimp only at g24
        refine Goes.sub hsub ?_
        refine Goes.rg fol [(2,.ptr 0 0),(3,.ptr 1 0),(5,.i x1),(7,.bool some_26),(8,.bool open__27),(9,.i (w64 (i_21+1)))] [.cells [.i r.Day,vl qb r.Slings],.cells (cE e)] ?_
        exact⟨M,(ofG 127 [(2,.ptr 0 0),(3,.ptr 1 0),(5,.i x1),(7,.bool some_26),(8,.bool open__27),(9,.i (w64 (i_21+1)))],[.cells [.i r.Day,vl qb r.Slings],.cells (cE e)]),Nat.lt_succ_self _,(Sub.refl _),_,_,_,rfl,g24⟩
       ·rw[if_neg (of_ c25)]at g24
        refine Goes.exit ?_
        obtain rfl:=si g24
        exact⟨rfl,_,_,rfl,(Sub.norm [] [] rfl rfl (.drop (.drop (.drop (.keep (.same nB) (.keep (.same nB) .nil))))) .nil)⟩
     rintro x s' ⟨rfl,some_22,open__23,rfl,hsub⟩
     try dsimp only at h
     refine Goes.sub hsub ?_
     refine sq ?_
     refine sq (Goes.rg fol [(8,.bool open__23),(90,.bool (!some_22))] [] ?_)
     refine Goes.ifB (b:=!some_22) (by kernel_rfl) (fun c36=>?_) (fun c36=>?_)
     ·rw[if_pos (c36)]at h
      refine sq (Goes.rg fol [(4,.i 10)] [] ?_)
      refine Goes.ret ?_
      obtain rfl:=si h
      exact(Goes.retW (xs:=[.i 10]) (by kernel_rfl) (FzW.still tI))
     ·rw[if_neg (nb c36)]at h
      refine Goes.skip ?_
      refine sq ?_
      refine sq (Goes.rg fol [(92,.bool (!open__23))] [] ?_)
      refine Goes.ifB (b:=!open__23) (by kernel_rfl) (fun c37=>?_) (fun c37=>?_)
      ·rw[if_pos (c37)]at h
       refine sq (Goes.rg fol [(4,.i 20)] [] ?_)
       refine Goes.ret ?_
       obtain rfl:=si h
       exact(Goes.retW (xs:=[.i 20]) (by kernel_rfl) (FzW.still tI))
      ·rw[if_neg (nb c37)]at h
       refine Goes.skip ?_
       refine sq (Goes.rg fol [(4,.i 0)] [] ?_)
       refine Goes.ret ?_
       obtain rfl:=si h
       exact(Goes.retW (xs:=[.i 0]) (by kernel_rfl) (FzW.still tI))
    ·rw[if_neg (nb c18)]at h
     refine Goes.skip ?_
     refine sq ?_
     refine sq (Goes.rg fol [(2,.ptr 0 0),(3,.ptr 1 0),(5,.i x1),(6,.i r5),(94,.bool (decide (r5<0)))] [.cells [.i r.Day,vl qb r.Slings],.cells (cE e)] ?_)
     refine Goes.ifB (b:=decide (r5<0)) (by kernel_rfl) (fun c38=>?_) (fun c38=>?_)
     ·rw[if_pos (ot c38)]at h
      refine sq (Goes.rg fol [(4,.i 10)] [.cells [.i r.Day,vl qb r.Slings],.cells (cE e)] ?_)
      refine Goes.ret ?_
      obtain rfl:=si h
      exact(Goes.retW (xs:=[.i 10]) (by kernel_rfl) (FzW.still tI))
     ·rw[if_neg (of_ c38)]at h
      refine Goes.skip ?_
      refine sq ?_
      obtain⟨x39,e_x39,h⟩:=bnd h
      refine Goes.rq fol [3,4] [(3,.ptr 1 0),(5,.i x1),(10,.ptr 2 0)] [.cells [.i r.Day,vl qb r.Slings],.cells (cE e),.cells (cS x39)] (ac (iv qcz qb e_x39) (ac (la ag60 qb e_x39) az)) ?_
      refine sq ?_
      refine sq ?_
      obtain⟨r40,e_r40,h⟩:=bnd h
      refine Goes.rq fol [2] [(3,.ptr 1 0),(5,.i x1),(10,.ptr 2 0),(102,.bool r40)] [.cells [.i r.Day,vl qb r.Slings],.cells (cE e),.cells (cS x39)] (ac (cv (qbY x39 x1 e_r40)) az) ?_
      refine Goes.ifB (b:=r40) (by kernel_rfl) (fun c41=>?_) (fun c41=>?_)
      ·rw[if_pos (c41)]at h
       refine sq (Goes.rg fol [(4,.i 20)] [.cells [.i r.Day,vl qb r.Slings],.cells (cE e),.cells (cS x39)] ?_)
       refine Goes.ret ?_
       obtain rfl:=si h
       exact(Goes.retW (xs:=[.i 20]) (by kernel_rfl) (FzW.still tI))
      ·rw[if_neg (nb c41)]at h
       refine Goes.skip ?_
       refine sq ?_
       refine sq ?_
       obtain⟨b45,g_v46,h⟩:=bnd h
       refine Goes.cut (s':=(ofG 127 [(3,.ptr 1 0),(5,.i x1),(10,.ptr 2 0),(112,.bool b45)],[.cells [.i r.Day,vl qb r.Slings],.cells (cE e),.cells (cS x39)])) ?_ ?_
       ·rcases Bool.eq_false_or_eq_true (e.Kind==[116,101,115,116])with c42|c42
        ·rw[if_pos (c42)]at g_v46
         obtain⟨x43,e_x43,g_v46⟩:=bnd g_v46
         obtain⟨r44,e_r44,g_v46⟩:=bnd g_v46
         obtain rfl:=si g_v46
         exact qp.rq fol [3,6,7,8] [(3,.ptr 1 0),(5,.i x1),(10,.ptr 2 0),(112,.bool r44)] [.cells [.i r.Day,vl qb r.Slings],.cells (cE e),.cells (cS x39)] (ac (gw c42) (ac (iv xL encI e_x43) (ac (lv 0 ce3 encI e_x43 rfl) (ac (cv (kE x43 2 999999999 e_r44)) az))))
        ·rw[if_neg (nb c42)]at g_v46
         obtain rfl:=si g_v46
         exact qp.rq fol [3] [(3,.ptr 1 0),(5,.i x1),(10,.ptr 2 0),(112,.bool false)] [.cells [.i r.Day,vl qb r.Slings],.cells (cE e),.cells (cS x39)] (ac (gw c42) az)
       refine Goes.ifB (b:=b45) (by kernel_rfl) (fun c47=>?_) (fun c47=>?_)
       ·rw[if_pos (c47)]at h
        refine sq (Goes.rg fol [(4,.i 3)] [.cells [.i r.Day,vl qb r.Slings],.cells (cE e),.cells (cS x39)] ?_)
        refine Goes.ret ?_
        obtain rfl:=si h
        exact(Goes.retW (xs:=[.i 3]) (by kernel_rfl) (FzW.still tI))
       ·rw[if_neg (nb c47)]at h
        refine Goes.skip ?_
        refine sq ?_
        refine sq (Goes.rg fol [(3,.ptr 1 0),(5,.i x1),(10,.ptr 2 0),(115,.bool (e.Kind==[117,115,101]))] [.cells [.i r.Day,vl qb r.Slings],.cells (cE e),.cells (cS x39)] ?_)
        obtain⟨r48,g48,h⟩:=bnd h
        refine Goes.imp (Q:=fun x s'=>(x= .normal∧(.inl ())=r48∧Sub s' (ofG 127 [],[]))∨(x= .ret∧ ∃q49,(.inr q49)=r48∧qW Tryz.prog [.tmp 4] (.i q49) .ret s')) ?_ ?_
        ·refine Goes.ifB (b:=e.Kind==[117,115,101]) (by kernel_rfl) (fun c50=>?_) (fun c50=>?_)
         ·rw[if_pos (c50)]at g48
          refine sq ?_
          refine sq ?_
          obtain⟨r51,e_r51,g48⟩:=bnd g48
          refine Goes.rq fol [2] [(3,.ptr 1 0),(10,.ptr 2 0),(119,.bool (!r51))] [.cells [.i r.Day,vl qb r.Slings],.cells (cE e),.cells (cS x39)] (ac (cv (qgb x39 x1 e_r51)) az) ?_
          refine Goes.ifB (b:=!r51) (by kernel_rfl) (fun c52=>?_) (fun c52=>?_)
          ·rw[if_pos (c52)]at g48
           refine sq (Goes.rg fol [(4,.i 24)] [.cells [.i r.Day,vl qb r.Slings],.cells (cE e),.cells (cS x39)] ?_)
           refine Goes.ret ?_
           obtain rfl:=si g48
           exact Or.inr (⟨rfl,_,rfl,(Goes.retW (xs:=[.i 24]) (by kernel_rfl) (FzW.still tI))⟩)
          ·rw[if_neg (nb c52)]at g48
           refine Goes.skip ?_
           refine sq ?_
           obtain⟨x53,e_x53,g48⟩:=bnd g48
           refine Goes.rq fol [2,3] [(126,.bool (decide (x53>x39.Limit)))] [.cells [.i r.Day,vl qb r.Slings],.cells (cE e),.cells (cS x39)] (ac (iv xL encI e_x53) (ac (lv 0 ce3 encI e_x53 rfl) az)) ?_
           refine Goes.ifB (b:=decide (x53>x39.Limit)) (by kernel_rfl) (fun c54=>?_) (fun c54=>?_)
           ·rw[if_pos (ot c54)]at g48
            refine sq (Goes.rg fol [(4,.i 31)] [.cells [.i r.Day,vl qb r.Slings],.cells (cE e),.cells (cS x39)] ?_)
            refine Goes.ret ?_
            obtain rfl:=si g48
            exact Or.inr (⟨rfl,_,rfl,(Goes.retW (xs:=[.i 31]) (by kernel_rfl) (FzW.still tI))⟩)
           ·rw[if_neg (of_ c54)]at g48
            refine Goes.skip ?_
            obtain rfl:=si g48
            exact Or.inl (⟨rfl,rfl,(Sub.norm [] [] rfl rfl .nil .nil)⟩)
         ·rw[if_neg (nb c50)]at g48
          refine Goes.skip ?_
          obtain rfl:=si g48
          exact Or.inl (⟨rfl,rfl,(Sub.norm [] [] rfl rfl .nil .nil)⟩)
        rintro x s' (⟨rfl,rfl,hsub⟩|⟨rfl,q55,rfl,hret⟩)
        ·try dsimp only at h
         refine Goes.sub hsub ?_
         refine sq (Goes.rg fol [(4,.i 0)] [] ?_)
         refine Goes.ret ?_
         obtain rfl:=si h
         exact(Goes.retW (xs:=[.i 0]) (by kernel_rfl) (FzW.still tI))
        ·try dsimp only at h
         obtain rfl:=si h
         exact hret
def zJ (N:Nat) (l:List ql):Nat→(List ql)→Int→Option ((List ql)⊕((List ql)×Int×Int))
 |0,_,_=>none
 |K+1,counted_1,i_2=>
  if i_2<(l.length:Int)then
  (((idx l i_2).bind fun x10=>
  (vz N x10).bind fun r11=>
  (if r11=0 then
  some (!decide (x10.Number=(w64 (i_2+1))))
  else
  some false:Option Bool).bind fun b13=>
  ((if b13=true then
  some 11
  else
  some r11:Option Int)).bind fun e_15=>
  (if e_15=0 then
  if(x10.Kind==[117,110,100,111])=true then
  some (decide ((counted_1.length:Int)=0))
  else
  some false
  else
  some false:Option Bool).bind fun b20=>
  ((if b20=true then
  some 12
  else
  some e_15:Option Int)).bind fun e_22=>
  (if e_22=0 then
  some (!(x10.Kind==[117,110,100,111]))
  else
  some false:Option Bool).bind fun b26=>
  ((if b26=true then
  (zU N counted_1).bind fun r31=>
  (zV N r31 x10).bind fun r32=>
  some r32
  else
  some e_22:Option Int)).bind fun e_28=>
  if(!decide (e_28=0))=true then
  some (.inr ([],w64 (i_2+1),e_28))
  else
  if(x10.Kind==[117,110,100,111])=true then
  (cut counted_1 0 (w64 ((counted_1.length:Int)-1))).bind fun s35=>
  some (.inl s35)
  else
  (app 88 ([]:List ql) counted_1).bind fun l36=>
  (app 88 l36 [x10]).bind fun l37=>
  some (.inl l37):Option ((List ql)⊕((List ql)×Int×Int)))).bind (fun
  |(.inl counted_7)=>
  zJ N l K counted_7 (w64 (i_2+1))
  |(.inr q38)=>
  some (.inr q38))
  else
  some (.inl counted_1)
def yT (N:Nat) (l:List ql):Option ((List ql)×Int×Int):=
 (zJ N l N ([]:List ql) 0).bind (fun
 |(.inl counted_3)=>
 some (counted_3,0,0)
 |(.inr q39)=>
 some q39)
theorem qfb (N:Nat) (l:List ql) {res:(List ql)×Int×Int} (h:yT N l=some res):qw Tryz.prog (.fn 83) [vl qc l] [] (.tuple [vl qc res.1,.i res.2.1,.i res.2.2]) []:=by
 unfold yT at h
 refine Goes.fnW Tryz.func83 rfl rfl (m:=82) rfl (rs:=[.tmp 2,.tmp 3,.tmp 4]) rfl (l:=[(0,vl qc l)]) rfl ?_
 refine sq (Goes.rg fol [(0,vl qc l)] [] ?_)
 refine sq (Goes.rg fol [(0,vl qc l),(5,.nilslice)] [] ?_)
 refine sq ?_
 refine sq (Goes.rg fol [(0,vl qc l),(5,.nilslice),(6,.i 0)] [] ?_)
 refine Goes.block ?_
 obtain⟨r4,g4,h⟩:=bnd h
 refine Goes.imp (Q:=fun x s'=>(x= .exit 0∧ ∃counted_3,(.inl counted_3)=r4∧Sub s' (ofG 82 [(5,vl qc counted_3)],[]))∨(x= .ret∧ ∃q5,(.inr q5)=r4∧qW Tryz.prog [.tmp 2,.tmp 3,.tmp 4] (.tuple [vl qc q5.1,.i q5.2.1,.i q5.2.2]) .ret s')) ?_ ?_
 ·refine Goes.sub (s':=(ofG 82 [(0,vl qc l),(5,vl qc ([]:List ql)),(6,.i 0)],[])) (Sub.norm [] [] rfl rfl (.keep (.same (qh qc _)) (.keep .nilv (.keep (.same nI) .nil))) .nil) ?_
  refine Goes.loopS (fun M s=> ∃(counted_1:List ql) (i_2:Int),s=(ofG 82 [(0,vl qc l),(5,vl qc counted_1),(6,.i i_2)],[])∧zJ N l M counted_1 i_2=some r4) ?_ (m:=N) ⟨_,_,rfl,g4⟩
  rintro M s ⟨counted_1,i_2,rfl,g4⟩
  cases M with
  |zero=>simp only[zJ]at g4;cases g4
  |succ M=>
   rw[zJ]at g4
   refine sq ?_
   refine sq (Goes.rg fol [(0,vl qc l),(5,vl qc counted_1),(6,.i i_2),(12,.bool (decide (i_2<(l.length:Int))))] [] ?_)
   refine Goes.ifB (b:=decide (i_2<(l.length:Int))) (by kernel_rfl) (fun c6=>?_) (fun c6=>?_)
   ·rw[if_pos (ot c6)]at g4
    refine Goes.skip ?_
    refine sq ?_
    obtain⟨r8,g8,g4⟩:=bnd g4
    refine Goes.imp (Q:=fun x s'=>(x= .normal∧ ∃counted_7,(.inl counted_7)=r8∧Sub s' (ofG 82 [(0,vl qc l),(5,vl qc counted_7),(6,.i i_2)],[]))∨(x= .ret∧ ∃q9,(.inr q9)=r8∧qW Tryz.prog [.tmp 2,.tmp 3,.tmp 4] (.tuple [vl qc q9.1,.i q9.2.1,.i q9.2.2]) .ret s')) ?_ ?_
    ·refine Goes.block ?_
     refine sq ?_
     obtain⟨x10,e_x10,g8⟩:=bnd g8
     obtain⟨r11,e_r11,g8⟩:=bnd g8
     refine Goes.rq fol [2,3,4] [(0,vl qc l),(5,vl qc counted_1),(6,.i i_2),(7,.i r11)] [] (ac (iv vM qc e_x10) (ac (la ag26 qc e_x10) (ac (cv (qa9 N x10 e_r11)) az))) ?_
     refine sq ?_
     refine sq ?_
     obtain⟨b13,g_v14,g8⟩:=bnd g8
     refine Goes.cut (s':=(ofG 82 [(0,vl qc l),(5,vl qc counted_1),(6,.i i_2),(7,.i r11),(31,.bool b13)],[])) ?_ ?_
     ·rcases Bool.eq_false_or_eq_true (decide (r11=0))with c12|c12
      ·rw[if_pos (ot c12)]at g_v14
       obtain rfl:=si g_v14
       exact qp.rq fol [2,5,7] [(0,vl qc l),(5,vl qc counted_1),(6,.i i_2),(7,.i r11),(31,.bool (!decide (x10.Number=(w64 (i_2+1)))))] [] (ac (gw c12) (ac (iv vM qc e_x10) (ac (lv 0 ce3 qc e_x10 rfl) az)))
      ·rw[if_neg (of_ c12)]at g_v14
       obtain rfl:=si g_v14
       exact qp.rq fol [2] [(0,vl qc l),(5,vl qc counted_1),(6,.i i_2),(7,.i r11),(31,.bool false)] [] (ac (gw c12) az)
     obtain⟨r16,g16,g8⟩:=bnd g8
     refine Goes.imp (Q:=fun x s'=>(x= .normal∧ ∃e_15,e_15=r16∧Sub s' (ofG 82 [(0,vl qc l),(5,vl qc counted_1),(6,.i i_2),(7,.i e_15)],[]))) ?_ ?_
     ·refine Goes.ifB (b:=b13) (by kernel_rfl) (fun c17=>?_) (fun c17=>?_)
      ·rw[if_pos (c17)]at g16
       refine Goes.rg fol [(0,vl qc l),(5,vl qc counted_1),(6,.i i_2),(7,.i 11)] [] ?_
       obtain rfl:=si g16
       exact⟨rfl,_,rfl,(Sub.refl _)⟩
      ·rw[if_neg (nb c17)]at g16
       refine Goes.skip ?_
       obtain rfl:=si g16
       exact⟨rfl,_,rfl,(Sub.keep [0,5,6,7] rfl rfl)⟩
     rintro x s' ⟨rfl,e_15,rfl,hsub⟩
     refine Goes.sub hsub ?_
     refine sq (Goes.rq fol [2,4] [(0,vl qc l),(5,vl qc counted_1),(6,.i i_2),(7,.i e_15),(8,.bool (x10.Kind==[117,110,100,111]))] [] (ac (iv vM qc e_x10) (ac (lv 1 ce9 qc e_x10 rfl) az)) ?_)
     refine sq ?_
     refine sq ?_
     obtain⟨b20,g_v21,g8⟩:=bnd g8
     refine Goes.cut (s':=(ofG 82 [(0,vl qc l),(5,vl qc counted_1),(6,.i i_2),(7,.i e_15),(8,.bool (x10.Kind==[117,110,100,111])),(47,.bool b20)],[])) ?_ ?_
     ·rcases Bool.eq_false_or_eq_true (decide (e_15=0))with c18|c18
      ·rw[if_pos (ot c18)]at g_v21
       rcases Bool.eq_false_or_eq_true (x10.Kind==[117,110,100,111])with c19|c19
       ·rw[if_pos (c19)]at g_v21
        obtain rfl:=si g_v21
        exact qp.rq fol [2,5] [(0,vl qc l),(5,vl qc counted_1),(6,.i i_2),(7,.i e_15),(8,.bool (x10.Kind==[117,110,100,111])),(47,.bool (decide ((counted_1.length:Int)=0)))] [] (ac (gw c18) (ac (gw c19) az))
       ·rw[if_neg (nb c19)]at g_v21
        obtain rfl:=si g_v21
        exact qp.rq fol [2,5] [(0,vl qc l),(5,vl qc counted_1),(6,.i i_2),(7,.i e_15),(8,.bool (x10.Kind==[117,110,100,111])),(47,.bool false)] [] (ac (gw c18) (ac (gw c19) az))
      ·rw[if_neg (of_ c18)]at g_v21
       obtain rfl:=si g_v21
       exact qp.rq fol [2] [(0,vl qc l),(5,vl qc counted_1),(6,.i i_2),(7,.i e_15),(8,.bool (x10.Kind==[117,110,100,111])),(47,.bool false)] [] (ac (gw c18) az)
     obtain⟨r23,g23,g8⟩:=bnd g8
     refine Goes.imp (Q:=fun x s'=>(x= .normal∧ ∃e_22,e_22=r23∧Sub s' (ofG 82 [(0,vl qc l),(5,vl qc counted_1),(6,.i i_2),(7,.i e_22),(8,.bool (x10.Kind==[117,110,100,111]))],[]))) ?_ ?_
     ·refine Goes.ifB (b:=b20) (by kernel_rfl) (fun c24=>?_) (fun c24=>?_)
      ·rw[if_pos (c24)]at g23
       refine Goes.rg fol [(0,vl qc l),(5,vl qc counted_1),(6,.i i_2),(7,.i 12),(8,.bool (x10.Kind==[117,110,100,111]))] [] ?_
       obtain rfl:=si g23
       exact⟨rfl,_,rfl,(Sub.refl _)⟩
      ·rw[if_neg (nb c24)]at g23
       refine Goes.skip ?_
       obtain rfl:=si g23
       exact⟨rfl,_,rfl,(Sub.keep [0,5,6,7,8] rfl rfl)⟩
     rintro x s' ⟨rfl,e_22,rfl,hsub⟩
     refine Goes.sub hsub ?_
     refine sq ?_
     refine sq ?_
     obtain⟨b26,g_v27,g8⟩:=bnd g8
     refine Goes.cut (s':=(ofG 82 [(0,vl qc l),(5,vl qc counted_1),(6,.i i_2),(7,.i e_22),(8,.bool (x10.Kind==[117,110,100,111])),(53,.bool b26)],[])) ?_ ?_
     ·rcases Bool.eq_false_or_eq_true (decide (e_22=0))with c25|c25
      ·rw[if_pos (ot c25)]at g_v27
       obtain rfl:=si g_v27
       exact qp.rq fol [2] [(0,vl qc l),(5,vl qc counted_1),(6,.i i_2),(7,.i e_22),(8,.bool (x10.Kind==[117,110,100,111])),(53,.bool (!(x10.Kind==[117,110,100,111])))] [] (ac (gw c25) az)
      ·rw[if_neg (of_ c25)]at g_v27
       obtain rfl:=si g_v27
       exact qp.rq fol [2] [(0,vl qc l),(5,vl qc counted_1),(6,.i i_2),(7,.i e_22),(8,.bool (x10.Kind==[117,110,100,111])),(53,.bool false)] [] (ac (gw c25) az)
     obtain⟨r29,g29,g8⟩:=bnd g8
     refine Goes.imp (Q:=fun x s'=>(x= .normal∧ ∃e_28,e_28=r29∧Sub s' (ofG 82 [(0,vl qc l),(5,vl qc counted_1),(6,.i i_2),(7,.i e_28),(8,.bool (x10.Kind==[117,110,100,111]))],[]))) ?_ ?_
     ·refine Goes.ifB (b:=b26) (by kernel_rfl) (fun c30=>?_) (fun c30=>?_)
      ·rw[if_pos (c30)]at g29
       obtain⟨r31,e_r31,g29⟩:=bnd g29
       obtain⟨r32,e_r32,g29⟩:=bnd g29
       refine Goes.rq fol [1,4,5,6] [(0,vl qc l),(5,vl qc counted_1),(6,.i i_2),(7,.i r32),(8,.bool (x10.Kind==[117,110,100,111]))] [] (ac (cv (qbI N counted_1 e_r31)) (ac (iv vM qc e_x10) (ac (la ag26 qc e_x10) (ac (cv (qfj N r31 x10 e_r32)) az)))) ?_
       obtain rfl:=si g29
       exact⟨rfl,_,rfl,(Sub.refl _)⟩
      ·rw[if_neg (nb c30)]at g29
       refine Goes.skip ?_
       obtain rfl:=si g29
       exact⟨rfl,_,rfl,(Sub.keep [0,5,6,7,8] rfl rfl)⟩
     rintro x s' ⟨rfl,e_28,rfl,hsub⟩
     refine Goes.sub hsub ?_
     refine sq ?_
     refine sq (Goes.rg fol [(0,vl qc l),(5,vl qc counted_1),(6,.i i_2),(7,.i e_28),(8,.bool (x10.Kind==[117,110,100,111])),(62,.bool (!decide (e_28=0)))] [] ?_)
     refine Goes.ifB (b:=!decide (e_28=0)) (by kernel_rfl) (fun c33=>?_) (fun c33=>?_)
     ·rw[if_pos (c33)]at g8
      refine sq (Goes.rg fol [(2,.nilslice),(3,.i (w64 (i_2+1))),(4,.i e_28)] [] ?_)
      refine Goes.ret ?_
      obtain rfl:=si g8
      exact Or.inr (⟨rfl,_,rfl,(Goes.retW (xs:=[.nilslice,.i (w64 (i_2+1)),.i e_28]) (by kernel_rfl) (FzW.tuple (qz.cons (FzW.nilv (E:=qc)) (qz.cons (FzW.still tI) (qz.cons (FzW.still tI) qz.nil)))))⟩)
     ·rw[if_neg (nb c33)]at g8
      refine Goes.skip ?_
      refine sq (Goes.rg fol [(0,vl qc l),(5,vl qc counted_1),(6,.i i_2),(66,.bool (x10.Kind==[117,110,100,111]))] [] ?_)
      refine Goes.ifB (b:=x10.Kind==[117,110,100,111]) (by kernel_rfl) (fun c34=>?_) (fun c34=>?_)
      ·rw[if_pos (c34)]at g8
       obtain⟨s35,e_s35,g8⟩:=bnd g8
       refine Goes.rq fol [4] [(0,vl qc l),(5,vl qc s35),(6,.i i_2)] [] (ac (hs (.done (.opt (kU Tryz.prog 22 (vl qc counted_1) none (some (.i (w64 ((counted_1.length:Int)-1)))) none)) (vl qc s35)) (qft vM (E:=qc) rfl none (some (w64 ((counted_1.length:Int)-1))) e_s35)) az) ?_
       obtain rfl:=si g8
       exact Or.inl (⟨rfl,_,rfl,(Sub.refl _)⟩)
      ·rw[if_neg (nb c34)]at g8
       obtain⟨l36,e_l36,g8⟩:=bnd g8
       obtain⟨l37,e_l37,g8⟩:=bnd g8
       refine Goes.rq fol [2,5,6,8] [(0,vl qc l),(5,.oslice 3 l37.length 5),(6,.i i_2)] [.dead,.dead,.cells (cE x10),.cells (l37.flatMap qc.c)] (ac (hs (.run [0] (qQ Tryz.prog [22,22] (.slice 0 0 0 0 5) (vl qc counted_1)) [.cells []] (.oslice 1 l36.length 5) [.dead,.cells (l36.flatMap qc.c)] true) (kN vM (E:=qc) rfl (qa7 (E:=qc) rfl _) (qb2 (E:=qc) rfl rfl rfl e_l36 rfl))) (ac (iv vM qc e_x10) (ac (la ag26 qc e_x10) (ac (hs (.run [1,2] (qQ Tryz.prog [22,22] (.oslice 1 l36.length 5) (.slice 2 0 1 1 5)) [.dead,.cells (l36.flatMap qc.c),.cells (cE x10)] (.oslice 3 l37.length 5) [.dead,.dead,.cells (cE x10),.cells (l37.flatMap qc.c)] true) (kN vM (E:=qc) rfl (xR (E:=qc) (ys:=[x10]) rfl rfl rfl rfl) (qfA (E:=qc) (l:=l36) rfl rfl rfl e_l37 rfl))) az)))) ?_
       obtain rfl:=si g8
       exact Or.inl (⟨rfl,_,rfl,(Sub.norm [3] [] rfl rfl (.keep (.same (qh qc _)) (.keep (.frz (Fz.os (E:=qc) rfl rfl (nl rfl)) (qh qc _)) (.keep (.same nI) .nil))) .nil)⟩)
    rintro x s' (⟨rfl,counted_7,rfl,hsub⟩|⟨rfl,q38,rfl,hret⟩)
    ·try dsimp only at g4
     refine Goes.sub hsub ?_
     refine Goes.rg fol [(0,vl qc l),(5,vl qc counted_7),(6,.i (w64 (i_2+1)))] [] ?_
     exact⟨M,(ofG 82 [(0,vl qc l),(5,vl qc counted_7),(6,.i (w64 (i_2+1)))],[]),Nat.lt_succ_self _,(Sub.refl _),_,_,rfl,g4⟩
    ·try dsimp only at g4
     obtain rfl:=si g4
     exact Or.inr (⟨rfl,_,rfl,hret⟩)
   ·rw[if_neg (of_ c6)]at g4
    refine Goes.exit ?_
    obtain rfl:=si g4
    exact Or.inl (⟨rfl,_,rfl,(Sub.keep [5] rfl rfl)⟩)
 rintro x s' (⟨rfl,counted_3,rfl,hsub⟩|⟨rfl,q39,rfl,hret⟩)
 ·try dsimp only at h
  refine Goes.sub hsub ?_
  refine sq (Goes.rg fol [(2,vl qc counted_3),(3,.i 0),(4,.i 0)] [] ?_)
  refine Goes.ret ?_
  obtain rfl:=si h
  exact(Goes.retW (xs:=[vl qc counted_3,.i 0,.i 0]) (by kernel_rfl) (FzW.tuple (qz.cons (FzW.still (vU qc _ (nl rfl))) (qz.cons (FzW.still tI) (qz.cons (FzW.still tI) qz.nil)))))
 ·try dsimp only at h
  obtain rfl:=si h
  exact hret
def vS (N:Nat) (l:List ql):Option (qK×Int×Int):=
 if(l.length:Int)>1000 then
 some ((⟨0,[]⟩:qK),0,5)
 else
 (yT N l).bind fun r2=>
 if(!decide (r2.2.2=0))=true then
 some ((⟨0,[]⟩:qK),r2.2.1,r2.2.2)
 else
 (zU N r2.1).bind fun r4=>
 some (r4,0,0)
theorem qcJ (N:Nat) (l:List ql) {res:qK×Int×Int} (h:vS N l=some res):qw Tryz.prog (.fn 17) [vl qc l] [] (.tuple [.agg [.i res.1.Day,vl qb res.1.Slings],.i res.2.1,.i res.2.2]) []:=by
 unfold vS at h
 refine Goes.fnW Tryz.func17 rfl rfl (m:=25) rfl (rs:=[.cell 2 37,.tmp 3,.tmp 4]) rfl (l:=[(0,vl qc l)]) rfl ?_
 refine sq (Goes.rg fol [(0,vl qc l),(2,.ptr 0 0)] [bZ] ?_)
 refine sq ?_
 refine sq (Goes.rg fol [(0,vl qc l),(2,.ptr 0 0),(10,.bool (decide ((l.length:Int)>1000)))] [bZ] ?_)
 refine Goes.ifB (b:=decide ((l.length:Int)>1000)) (by kernel_rfl) (fun c1=>?_) (fun c1=>?_)
 ·rw[if_pos (ot c1)]at h
  refine sq (Goes.rg fol [(2,.ptr 0 0),(3,.i 0),(4,.i 5)] [bZ] ?_)
  refine Goes.ret ?_
  obtain rfl:=si h
  exact(Goes.retW (xs:=[.agg [.i 0,.nilslice],.i 0,.i 5]) (by kernel_rfl) (FzW.tuple (qz.cons (FzW.agg (qz.cons (FzW.still tI) (qz.cons (FzW.nilv (E:=qb)) qz.nil))) (qz.cons (FzW.still tI) (qz.cons (FzW.still tI) qz.nil)))))
 ·rw[if_neg (of_ c1)]at h
  refine Goes.skip ?_
  refine sq ?_
  obtain⟨r2,e_r2,h⟩:=bnd h
  refine Goes.rq fol [1] [(2,.ptr 0 0),(5,vl qc r2.1),(6,.i r2.2.1),(7,.i r2.2.2)] [bZ] (ac (cv (qfb N l e_r2)) az) ?_
  refine sq ?_
  refine sq (Goes.rg fol [(2,.ptr 0 0),(5,vl qc r2.1),(6,.i r2.2.1),(7,.i r2.2.2),(19,.bool (!decide (r2.2.2=0)))] [bZ] ?_)
  refine Goes.ifB (b:=!decide (r2.2.2=0)) (by kernel_rfl) (fun c3=>?_) (fun c3=>?_)
  ·rw[if_pos (c3)]at h
   refine sq (Goes.rg fol [(2,.ptr 0 0),(3,.i r2.2.1),(4,.i r2.2.2)] [bZ] ?_)
   refine Goes.ret ?_
   obtain rfl:=si h
   exact(Goes.retW (xs:=[.agg [.i 0,.nilslice],.i r2.2.1,.i r2.2.2]) (by kernel_rfl) (FzW.tuple (qz.cons (FzW.agg (qz.cons (FzW.still tI) (qz.cons (FzW.nilv (E:=qb)) qz.nil))) (qz.cons (FzW.still tI) (qz.cons (FzW.still tI) qz.nil)))))
  ·rw[if_neg (nb c3)]at h
   refine Goes.skip ?_
   refine sq ?_
   obtain⟨r4,e_r4,h⟩:=bnd h
   refine Goes.rq fol [1] [(2,.ptr 0 0),(3,.i 0),(4,.i 0)] [.cells [.i r4.Day,vl qb r4.Slings]] (ac (cv (qbI N r2.1 e_r4)) az) ?_
   refine Goes.ret ?_
   obtain rfl:=si h
   exact(Goes.retW (xs:=[.agg [.i r4.Day,vl qb r4.Slings],.i 0,.i 0]) (by kernel_rfl) (FzW.tuple (qz.cons (FzW.agg (qz.cons (FzW.still tI) (qz.cons (FzW.still (vU qb _ (nl rfl))) qz.nil))) (qz.cons (FzW.still tI) (qz.cons (FzW.still tI) qz.nil)))))
def xX (N:Nat) (l:List ql) (e:ql):Option Int:=
 (vS N l).bind fun r1=>
 ((if r1.2.2=0 then
 (vz N e).bind fun r5=>
 some r5
 else
 some r1.2.2:Option Int)).bind fun bad_2=>
 if(!decide (bad_2=0))=true then
 some bad_2
 else
 if(l.length:Int)≥1000 then
 some 5
 else
 (app 88 ([]:List ql) l).bind fun l8=>
 (app 88 l8 [e]).bind fun l9=>
 (vS N l9).bind fun r10=>
 some r10.2.2
theorem qeX (N:Nat) (l:List ql) (e:ql) {res:Int} (h:xX N l e=some res):qw Tryz.prog (.fn 23) [vl qc l,.agg (cE e)] [] (.i res) []:=by
 unfold xX at h
 refine Goes.fnW Tryz.func23 rfl rfl (m:=36) rfl (rs:=[.tmp 4]) rfl (l:=[(0,vl qc l),(1,.agg (cE e))]) rfl ?_
 refine sq (Goes.rg fol [(0,vl qc l),(3,.ptr 0 0)] [.cells (cE e)] ?_)
 refine sq ?_
 obtain⟨r1,e_r1,h⟩:=bnd h
 refine Goes.rq fol [1] [(0,vl qc l),(3,.ptr 0 0),(7,.i r1.2.2)] [.cells (cE e),.cells [.i r1.1.Day,vl qb r1.1.Slings]] (ac (cv (qcJ N l e_r1)) az) ?_
 refine sq ?_
 refine sq (Goes.rg fol [(0,vl qc l),(3,.ptr 0 0),(7,.i r1.2.2),(15,.bool (decide (r1.2.2=0)))] [.cells (cE e),.cells [.i r1.1.Day,vl qb r1.1.Slings]] ?_)
 obtain⟨r3,g3,h⟩:=bnd h
 refine Goes.imp (Q:=fun x s'=>(x= .normal∧ ∃bad_2,bad_2=r3∧Sub s' (ofG 36 [(0,vl qc l),(3,.ptr 0 0),(7,.i bad_2)],[.cells (cE e)]))) ?_ ?_
 ·refine Goes.ifB (b:=decide (r1.2.2=0)) (by kernel_rfl) (fun c4=>?_) (fun c4=>?_)
  ·rw[if_pos (ot c4)]at g3
   obtain⟨r5,e_r5,g3⟩:=bnd g3
   refine Goes.rq fol [1] [(0,vl qc l),(3,.ptr 0 0),(7,.i r5)] [.cells (cE e),.cells [.i r1.1.Day,vl qb r1.1.Slings]] (ac (cv (qa9 N e e_r5)) az) ?_
   obtain rfl:=si g3
   exact⟨rfl,_,rfl,(Sub.norm [] [some 0] rfl rfl (.keep (.same (qh qc _)) (.keep (.ptr rfl) (.keep (.same nI) .nil))) (.keep rfl (.same (qf.cons nI (qf.cons nS (qf.cons (qh encS _) (qf.cons (qh encI _) (qf.cons nS qf.nil)))))) rfl rfl .nil))⟩
  ·rw[if_neg (of_ c4)]at g3
   refine Goes.skip ?_
   obtain rfl:=si g3
   exact⟨rfl,_,rfl,(Sub.norm [] [some 0] rfl rfl (.keep (.same (qh qc _)) (.keep (.ptr rfl) (.keep (.same nI) .nil))) (.keep rfl (.same (qf.cons nI (qf.cons nS (qf.cons (qh encS _) (qf.cons (qh encI _) (qf.cons nS qf.nil)))))) rfl rfl .nil))⟩
 rintro x s' ⟨rfl,bad_2,rfl,hsub⟩
 refine Goes.sub hsub ?_
 refine sq ?_
 refine sq (Goes.rg fol [(0,vl qc l),(3,.ptr 0 0),(7,.i bad_2),(19,.bool (!decide (bad_2=0)))] [.cells (cE e)] ?_)
 refine Goes.ifB (b:=!decide (bad_2=0)) (by kernel_rfl) (fun c6=>?_) (fun c6=>?_)
 ·rw[if_pos (c6)]at h
  refine sq (Goes.rg fol [(4,.i bad_2)] [.cells (cE e)] ?_)
  refine Goes.ret ?_
  obtain rfl:=si h
  exact(Goes.retW (xs:=[.i bad_2]) (by kernel_rfl) (FzW.still tI))
 ·rw[if_neg (nb c6)]at h
  refine Goes.skip ?_
  refine sq ?_
  refine sq (Goes.rg fol [(0,vl qc l),(3,.ptr 0 0),(23,.bool (decide ((l.length:Int)≥1000)))] [.cells (cE e)] ?_)
  refine Goes.ifB (b:=decide ((l.length:Int)≥1000)) (by kernel_rfl) (fun c7=>?_) (fun c7=>?_)
  ·rw[if_pos (ot c7)]at h
   refine sq (Goes.rg fol [(4,.i 5)] [.cells (cE e)] ?_)
   refine Goes.ret ?_
   obtain rfl:=si h
   exact(Goes.retW (xs:=[.i 5]) (by kernel_rfl) (FzW.still tI))
  ·rw[if_neg (of_ c7)]at h
   refine Goes.skip ?_
   refine sq ?_
   obtain⟨l8,e_l8,h⟩:=bnd h
   obtain⟨l9,e_l9,h⟩:=bnd h
   obtain⟨r10,e_r10,h⟩:=bnd h
   refine Goes.rq fol [2,5,6] [(7,.i r10.2.2)] [.cells (cE e),.dead,.dead,.cells (cE e),.frozen (l9.flatMap qc.c)] (ac (hs (.run [1] (qQ Tryz.prog [22,22] (.slice 1 0 0 0 5) (vl qc l)) [.cells (cE e),.cells []] (.oslice 2 l8.length 5) [.cells (cE e),.dead,.cells (l8.flatMap qc.c)] true) (kN vM (E:=qc) rfl (qa7 (E:=qc) rfl _) (qb2 (E:=qc) rfl rfl rfl e_l8 rfl))) (ac (hs (.run [2,3] (qQ Tryz.prog [22,22] (.oslice 2 l8.length 5) (.slice 3 0 1 1 5)) [.cells (cE e),.dead,.cells (l8.flatMap qc.c),.cells (cE e)] (.oslice 4 l9.length 5) [.cells (cE e),.dead,.dead,.cells (cE e),.cells (l9.flatMap qc.c)] true) (kN vM (E:=qc) rfl (xR (E:=qc) (ys:=[e]) rfl rfl rfl rfl) (qfA (E:=qc) (l:=l8) rfl rfl rfl e_l9 rfl))) (ac (hs (.callF 17 [.oslice 4 l9.length 5] [.cells (cE e),.dead,.dead,.cells (cE e),.cells (l9.flatMap qc.c)] [4] [vl qc l9] (.tuple [.agg [.i r10.1.Day,vl qb r10.1.Slings],.i r10.2.1,.i r10.2.2])) (qnq (FzL.cons (Fz.os (E:=qc) rfl rfl (nl rfl)) FzL.nil) (qcJ N l9 e_r10) (Still.tuple (AllST.cons (Still.agg (AllST.cons tI (AllST.cons (vU qb _ (nl rfl)) AllST.nil))) (AllST.cons tI (AllST.cons tI AllST.nil)))))) az))) ?_
   refine Goes.sub (show Sub (ofG 36 [(7,.i r10.2.2)],[.cells (cE e),.dead,.dead,.cells (cE e),.frozen (l9.flatMap qc.c)]) (ofG 36 [(7,.i r10.2.2)],[])from(Sub.norm [] [] rfl rfl (.keep (.same nI) .nil) .nil)) ?_
   refine sq (Goes.rg fol [(4,.i r10.2.2)] [] ?_)
   refine Goes.ret ?_
   obtain rfl:=si h
   exact(Goes.retW (xs:=[.i r10.2.2]) (by kernel_rfl) (FzW.still tI))
end Go.Av
