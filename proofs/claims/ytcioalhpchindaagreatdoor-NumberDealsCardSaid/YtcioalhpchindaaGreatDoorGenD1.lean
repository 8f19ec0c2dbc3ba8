/-
  Walks of functions: what each computes, as a plain function.
-/
import Derived.Test.YtcioalhpchindaaGreatDoorAvInsH
import Derived.Test.YtcioalhpchindaaGreatDoorAvPrim01
noncomputable section
namespace Go.Av
open Go.Proofs Go.RowKit
set_option linter.unusedSectionVars false
set_option linter.unusedVariables false
set_option linter.unusedSimpArgs false
set_option maxRecDepth 100000
theorem insH {args:List AV} {A A2:Heap} {v:AV} (h:qbD args A=some (v,A2)):qg Tryz.prog (.fn 63) args A v A2:=qcZ Tryz.lays2_21 (enters_of (by kernel_rfl)) h
theorem qfh (i x:Int) {l:List Int} (h:qd4 i x=some l):qg Tryz.prog (.fn 63) [.nilslice,.i i,.slice 0 0 1 1 1] [.cells [.i x]] (.oslice 1 l.length 1) [.cells [.i x],.cells (l.flatMap encI.c)]:=qeh (fun h=>insH h) i x h
theorem qe4 (ns:List Int) (i x:Int) {l:List Int} (h:qdV ns i x=some l):qg Tryz.prog (.fn 63) [.oslice 0 ns.length 1,.i i,.slice 1 0 1 1 1] [.cells (ns.flatMap encI.c),.cells [.i x]] (.oslice 2 l.length 1) [.dead,.cells [.i x],.cells (l.flatMap encI.c)]:=qeN (fun h=>insH h) ns i x h
theorem fol:Tryz.prog.follows .mixedOrders=true:=by kernel_rfl
theorem kR:SlT Tryz.prog 22 3 1 8:=⟨by kernel_rfl,by kernel_rfl,by kernel_rfl,by kernel_rfl⟩
theorem ce3:CeT Tryz.prog 3:=⟨by kernel_rfl,by kernel_rfl⟩
theorem sl148:SlT Tryz.prog 148 25 1 8:=⟨by kernel_rfl,by kernel_rfl,by kernel_rfl,by kernel_rfl⟩
theorem ce25:CeT Tryz.prog 25:=⟨by kernel_rfl,by kernel_rfl⟩
def kD (p:List Int) (i_2:Int):Nat→Int→Option (Unit⊕Int)
 |0,_=>none
 |K+1,k_11=>
  if k_11<i_2 then
  (idx p k_11).bind fun x15=>
  (idx p i_2).bind fun x16=>
  if x15=x16 then
  some (.inr 15)
  else
  kD p i_2 K (w64 (k_11+1))
  else
  some (.inl ())
def qZ (N:Nat) (p:List Int):Nat→Int→Option (Unit⊕Int)
 |0,_=>none
 |K+1,i_2=>
  if i_2<(p.length:Int)then
  ((idx p i_2).bind fun x6=>
  if x6<0 then
  some true
  else
  some (decide (x6≥(p.length:Int))):Option Bool).bind fun b8=>
  if b8=true then
  some (.inr 15)
  else
  (kD p i_2 N 0).bind (fun
  |(.inl ())=>
  qZ N p K (w64 (i_2+1))
  |(.inr q18)=>
  some (.inr q18))
  else
  some (.inl ())
def zF (N:Nat) (p:List Int):Option Int:=
 if(p.length:Int)>256 then
 some 5
 else
 (qZ N p N 0).bind (fun
 |(.inl ())=>
 some 0
 |(.inr q19)=>
 some q19)
theorem yS (N:Nat) (p:List Int) {res:Int} (h:zF N p=some res):qg Tryz.prog (.fn 11) [vl encI p] [] (.i res) []:=by
 unfold zF at h
 refine Goes.fnW Tryz.func11 rfl rfl (m:=42) rfl (rs:=[.tmp 2]) rfl (l:=[(0,vl encI p)]) rfl ?_
 refine sq ?_
 refine Goes.rg fol [(0,vl encI p)] [] ?_
 refine sq ?_
 refine sq ?_
 refine Goes.rg fol [(0,vl encI p),(7,.bool (decide ((p.length:Int)>256)))] [] ?_
 refine Goes.ifB (b:=decide ((p.length:Int)>256)) (by kernel_rfl) (fun c1=>?_) (fun c1=>?_)
 ·rw[if_pos (ot c1)]at h
  refine sq ?_
  refine Goes.rg fol [(2,.i 5)] [] ?_
  refine Goes.ret ?_
  obtain rfl:=Option.some.inj h
  exact(Goes.retW (xs:=[.i 5]) (by kernel_rfl) (FzW.still (Still.int 11 _ _)))
 ·rw[if_neg (of_ c1)]at h
  refine Goes.skip ?_
  refine sq ?_
  refine sq ?_
  refine Goes.rg fol [(0,vl encI p),(3,.i 0)] [] ?_
  refine Goes.block ?_
  obtain⟨r3,g3,h⟩:=bnd h
  refine Goes.imp (Q:=fun x s'=>(x= .exit 0∧(.inl ())=r3∧Sub s' (ofG 42 [],[]))∨(x= .ret∧ ∃q4,(.inr q4)=r3∧zL Tryz.prog [.tmp 2] (.i q4) .ret s')) ?_ ?_
  ·refine Goes.loopS (fun M s=> ∃(i_2:Int),s=(ofG 42 [(0,vl encI p),(3,.i i_2)],[])∧qZ N p M i_2=some r3) ?_ (m:=N) ⟨_,rfl,g3⟩
   rintro M s ⟨i_2,rfl,g3⟩
   cases M with
   |zero=>simp only[qZ]at g3;cases g3
   |succ M=>
    rw[qZ]at g3
    refine sq ?_
    refine sq ?_
    refine Goes.rg fol [(0,vl encI p),(3,.i i_2),(11,.bool (decide (i_2<(p.length:Int))))] [] ?_
    refine Goes.ifB (b:=decide (i_2<(p.length:Int))) (by kernel_rfl) (fun c5=>?_) (fun c5=>?_)
    ·rw[if_pos (ot c5)]at g3
     refine Goes.skip ?_
     refine sq ?_
     refine Goes.block ?_
     refine sq ?_
     refine sq ?_
     obtain⟨b8,g_v9,g3⟩:=bnd g3
     refine Goes.cut (s':=(ofG 42 [(0,vl encI p),(3,.i i_2),(27,.bool b8)],[])) ?_ ?_
     ·obtain⟨x6,e_x6,g_v9⟩:=bnd g_v9
      rcases Bool.eq_false_or_eq_true (decide (x6<0))with c7|c7
      ·rw[if_pos (ot c7)]at g_v9
       obtain rfl:=Option.some.inj g_v9
       exact qE.ro fol [(2,(.done (.fptr (p.flatMap encI.c) ((i_2:Int).toNat*1+0)))),(3,(.done (.i x6))),(5,(.done (.bool true)))] [(0,vl encI p),(3,.i i_2),(27,.bool true)] [] [.done (.opt (qb Tryz.prog 22 (vl encI p) (.i i_2))) (.fptr (p.flatMap encI.c) ((i_2:Int).toNat*1+0)),.done (qB Tryz.prog 3 (.fptr (p.flatMap encI.c) ((i_2:Int).toNat*1+0))) (.i x6),.done (.done (.bool (decide (x6<0)))) (.bool true)] (And.intro (ky kR (E:=encI) rfl e_x6) (And.intro (kw ce3 (E:=encI) rfl e_x6 (Nat.le_of_ble_eq_true rfl) rfl) (And.intro (congrArg (fun x=>Pg.done (.bool x)) c7) trivial)))
      ·rw[if_neg (of_ c7)]at g_v9
       obtain rfl:=Option.some.inj g_v9
       exact qE.ro fol [(2,(.done (.fptr (p.flatMap encI.c) ((i_2:Int).toNat*1+0)))),(3,(.done (.i x6))),(5,(.done (.bool false))),(8,(.done (.fptr (p.flatMap encI.c) ((i_2:Int).toNat*1+0)))),(9,(.done (.i x6)))] [(0,vl encI p),(3,.i i_2),(27,.bool (decide (x6≥(p.length:Int))))] [] [.done (.opt (qb Tryz.prog 22 (vl encI p) (.i i_2))) (.fptr (p.flatMap encI.c) ((i_2:Int).toNat*1+0)),.done (qB Tryz.prog 3 (.fptr (p.flatMap encI.c) ((i_2:Int).toNat*1+0))) (.i x6),.done (.done (.bool (decide (x6<0)))) (.bool false),.done (.opt (qb Tryz.prog 22 (vl encI p) (.i i_2))) (.fptr (p.flatMap encI.c) ((i_2:Int).toNat*1+0)),.done (qB Tryz.prog 3 (.fptr (p.flatMap encI.c) ((i_2:Int).toNat*1+0))) (.i x6)] (And.intro (ky kR (E:=encI) rfl e_x6) (And.intro (kw ce3 (E:=encI) rfl e_x6 (Nat.le_of_ble_eq_true rfl) rfl) (And.intro (congrArg (fun x=>Pg.done (.bool x)) c7) (And.intro (ky kR (E:=encI) rfl e_x6) (And.intro (kw ce3 (E:=encI) rfl e_x6 (Nat.le_of_ble_eq_true rfl) rfl) trivial)))))
     refine Goes.ifB (b:=b8) (by kernel_rfl) (fun c10=>?_) (fun c10=>?_)
     ·rw[if_pos (c10)]at g3
      refine sq ?_
      refine Goes.rg fol [(2,.i 15)] [] ?_
      refine Goes.ret ?_
      obtain rfl:=Option.some.inj g3
      exact Or.inr (⟨rfl,_,rfl,(Goes.retW (xs:=[.i 15]) (by kernel_rfl) (FzW.still (Still.int 11 _ _)))⟩)
     ·rw[if_neg (by rw[c10];exact Bool.false_ne_true)]at g3
      refine Goes.skip ?_
      refine sq ?_
      refine Goes.rg fol [(0,vl encI p),(3,.i i_2),(4,.i 0)] [] ?_
      refine Goes.block ?_
      obtain⟨r12,g12,g3⟩:=bnd g3
      refine Goes.imp (Q:=fun x s'=>(x= .exit 2∧(.inl ())=r12∧Sub s' (ofG 42 [(0,vl encI p),(3,.i i_2)],[]))∨(x= .ret∧ ∃q13,(.inr q13)=r12∧zL Tryz.prog [.tmp 2] (.i q13) .ret s')) ?_ ?_
      ·refine Goes.loopS (fun M s=> ∃(k_11:Int),s=(ofG 42 [(0,vl encI p),(3,.i i_2),(4,.i k_11)],[])∧kD p i_2 M k_11=some r12) ?_ (m:=N) ⟨_,rfl,g12⟩
       rintro M s ⟨k_11,rfl,g12⟩
       cases M with
       |zero=>simp only[kD]at g12;cases g12
       |succ M=>
        rw[kD]at g12
        refine sq ?_
        refine sq ?_
        refine Goes.rg fol [(0,vl encI p),(3,.i i_2),(4,.i k_11),(30,.bool (decide (k_11<i_2)))] [] ?_
        refine Goes.ifB (b:=decide (k_11<i_2)) (by kernel_rfl) (fun c14=>?_) (fun c14=>?_)
        ·rw[if_pos (ot c14)]at g12
         refine Goes.skip ?_
         refine sq ?_
         refine Goes.block ?_
         refine sq ?_
         obtain⟨x15,e_x15,g12⟩:=bnd g12
         obtain⟨x16,e_x16,g12⟩:=bnd g12
         refine Goes.ro fol [(2,(.done (.fptr (p.flatMap encI.c) ((k_11:Int).toNat*1+0)))),(3,(.done (.i x15))),(6,(.done (.fptr (p.flatMap encI.c) ((i_2:Int).toNat*1+0)))),(7,(.done (.i x16)))] [(0,vl encI p),(3,.i i_2),(4,.i k_11),(41,.bool (decide (x15=x16)))] [] [.done (.opt (qb Tryz.prog 22 (vl encI p) (.i k_11))) (.fptr (p.flatMap encI.c) ((k_11:Int).toNat*1+0)),.done (qB Tryz.prog 3 (.fptr (p.flatMap encI.c) ((k_11:Int).toNat*1+0))) (.i x15),.done (.opt (qb Tryz.prog 22 (vl encI p) (.i i_2))) (.fptr (p.flatMap encI.c) ((i_2:Int).toNat*1+0)),.done (qB Tryz.prog 3 (.fptr (p.flatMap encI.c) ((i_2:Int).toNat*1+0))) (.i x16)] (And.intro (ky kR (E:=encI) rfl e_x15) (And.intro (kw ce3 (E:=encI) rfl e_x15 (Nat.le_of_ble_eq_true rfl) rfl) (And.intro (ky kR (E:=encI) rfl e_x16) (And.intro (kw ce3 (E:=encI) rfl e_x16 (Nat.le_of_ble_eq_true rfl) rfl) trivial)))) ?_
         refine Goes.ifB (b:=decide (x15=x16)) (by kernel_rfl) (fun c17=>?_) (fun c17=>?_)
         ·rw[if_pos (ot c17)]at g12
          refine sq ?_
          refine Goes.rg fol [(2,.i 15)] [] ?_
          refine Goes.ret ?_
          obtain rfl:=Option.some.inj g12
          exact Or.inr (⟨rfl,_,rfl,(Goes.retW (xs:=[.i 15]) (by kernel_rfl) (FzW.still (Still.int 11 _ _)))⟩)
         ·rw[if_neg (of_ c17)]at g12
          refine Goes.skip ?_
          refine Goes.rg fol [(0,vl encI p),(3,.i i_2),(4,.i (w64 (k_11+1)))] [] ?_
          exact⟨M,(ofG 42 [(0,vl encI p),(3,.i i_2),(4,.i (w64 (k_11+1)))],[]),Nat.lt_succ_self _,(Sub.refl _),_,rfl,g12⟩
        ·rw[if_neg (of_ c14)]at g12
         refine Goes.exit ?_
         obtain rfl:=Option.some.inj g12
         exact Or.inl (⟨rfl,rfl,(Sub.keep [0,3] rfl rfl)⟩)
      rintro x s' (⟨rfl,rfl,hsub⟩|⟨rfl,q18,rfl,hret⟩)
      ·try dsimp only at g3
       refine Goes.sub hsub ?_
       refine Goes.rg fol [(0,vl encI p),(3,.i (w64 (i_2+1)))] [] ?_
       exact⟨M,(ofG 42 [(0,vl encI p),(3,.i (w64 (i_2+1)))],[]),Nat.lt_succ_self _,(Sub.refl _),_,rfl,g3⟩
      ·try dsimp only at g3
       obtain rfl:=Option.some.inj g3
       exact Or.inr (⟨rfl,_,rfl,hret⟩)
    ·rw[if_neg (of_ c5)]at g3
     refine Goes.exit ?_
     obtain rfl:=Option.some.inj g3
     exact Or.inl (⟨rfl,rfl,(Sub.keep [] rfl rfl)⟩)
  rintro x s' (⟨rfl,rfl,hsub⟩|⟨rfl,q19,rfl,hret⟩)
  ·try dsimp only at h
   refine Goes.sub hsub ?_
   refine sq ?_
   refine Goes.rg fol [(2,.i 0)] [] ?_
   refine Goes.ret ?_
   obtain rfl:=Option.some.inj h
   exact(Goes.retW (xs:=[.i 0]) (by kernel_rfl) (FzW.still (Still.int 11 _ _)))
  ·try dsimp only at h
   obtain rfl:=Option.some.inj h
   exact hret
def zm (l:List Int):Nat→Int→Option (Unit⊕Int)
 |0,_=>none
 |K+1,n1=>
  if n1<(l.length:Int)then
  (idx l n1).bind fun x5=>
  if(!decide (x5=0))=true then
  some (.inr x5)
  else
  zm l K (w64 (n1+1))
  else
  some (.inl ())
def zn (N:Nat) (l:List Int):Option Int:=
 (zm l N 0).bind (fun
 |(.inl ())=>
 some 0
 |(.inr q7)=>
 some q7)
theorem zX (N:Nat) (l:List Int) {res:Int} (h:zn N l=some res):qg Tryz.prog (.fn 58) [vl encI l] [] (.i res) []:=by
 unfold zn at h
 refine Goes.fnW Tryz.func58 rfl rfl (m:=15) rfl (rs:=[.tmp 2]) rfl (l:=[(0,vl encI l)]) rfl ?_
 refine sq ?_
 refine Goes.rg fol [(0,vl encI l)] [] ?_
 refine sq ?_
 refine sq ?_
 refine Goes.rg fol [(5,vl encI l),(6,.i (l.length:Int)),(7,.i 0)] [] ?_
 refine Goes.block ?_
 obtain⟨r2,g2,h⟩:=bnd h
 refine Goes.imp (Q:=fun x s'=>(x= .exit 0∧(.inl ())=r2∧Sub s' (ofG 15 [],[]))∨(x= .ret∧ ∃q3,(.inr q3)=r2∧zL Tryz.prog [.tmp 2] (.i q3) .ret s')) ?_ ?_
 ·refine Goes.loopS (fun M s=> ∃(n1:Int),s=(ofG 15 [(5,vl encI l),(6,.i (l.length:Int)),(7,.i n1)],[])∧zm l M n1=some r2) ?_ (m:=N) ⟨_,rfl,g2⟩
  rintro M s ⟨n1,rfl,g2⟩
  cases M with
  |zero=>simp only[zm]at g2;cases g2
  |succ M=>
   rw[zm]at g2
   refine sq ?_
   refine Goes.rg fol [(5,vl encI l),(6,.i (l.length:Int)),(7,.i n1),(8,.bool (decide (n1<(l.length:Int))))] [] ?_
   refine sq ?_
   refine Goes.ifB (b:=decide (n1<(l.length:Int))) (by kernel_rfl) (fun c4=>?_) (fun c4=>?_)
   ·rw[if_pos (ot c4)]at g2
    refine Goes.skip ?_
    refine sq ?_
    refine Goes.block ?_
    refine sq ?_
    obtain⟨x5,e_x5,g2⟩:=bnd g2
    refine Goes.ro fol [(0,(.done (.fptr (l.flatMap encI.c) ((n1:Int).toNat*1+0)))),(1,(.done (.i x5)))] [(4,.i x5),(5,vl encI l),(6,.i (l.length:Int)),(7,.i n1)] [] [.done (.opt (qb Tryz.prog 148 (vl encI l) (.i n1))) (.fptr (l.flatMap encI.c) ((n1:Int).toNat*1+0)),.done (qB Tryz.prog 25 (.fptr (l.flatMap encI.c) ((n1:Int).toNat*1+0))) (.i x5)] (And.intro (ky sl148 (E:=encI) rfl e_x5) (And.intro (kw ce25 (E:=encI) rfl e_x5 (Nat.le_of_ble_eq_true rfl) rfl) trivial)) ?_
    refine sq ?_
    refine Goes.rg fol [(4,.i x5),(5,vl encI l),(6,.i (l.length:Int)),(7,.i n1),(12,.bool (!decide (x5=0)))] [] ?_
    refine Goes.ifB (b:=!decide (x5=0)) (by kernel_rfl) (fun c6=>?_) (fun c6=>?_)
    ·rw[if_pos (c6)]at g2
     refine sq ?_
     refine Goes.rg fol [(2,.i x5)] [] ?_
     refine Goes.ret ?_
     obtain rfl:=Option.some.inj g2
     exact Or.inr (⟨rfl,_,rfl,(Goes.retW (xs:=[.i x5]) (by kernel_rfl) (FzW.still (Still.int 11 _ _)))⟩)
    ·rw[if_neg (by rw[c6];exact Bool.false_ne_true)]at g2
     refine Goes.skip ?_
     refine Goes.rg fol [(5,vl encI l),(6,.i (l.length:Int)),(7,.i (w64 (n1+1)))] [] ?_
     exact⟨M,(ofG 15 [(5,vl encI l),(6,.i (l.length:Int)),(7,.i (w64 (n1+1)))],[]),Nat.lt_succ_self _,(Sub.refl _),_,rfl,g2⟩
   ·rw[if_neg (of_ c4)]at g2
    refine Goes.exit ?_
    obtain rfl:=Option.some.inj g2
    exact Or.inl (⟨rfl,rfl,(Sub.keep [] rfl rfl)⟩)
 rintro x s' (⟨rfl,rfl,hsub⟩|⟨rfl,q7,rfl,hret⟩)
 ·try dsimp only at h
  refine Goes.sub hsub ?_
  refine sq ?_
  refine Goes.rg fol [(2,.i 0)] [] ?_
  refine Goes.ret ?_
  obtain rfl:=Option.some.inj h
  exact(Goes.retW (xs:=[.i 0]) (by kernel_rfl) (FzW.still (Still.int 11 _ _)))
 ·try dsimp only at h
  obtain rfl:=Option.some.inj h
  exact hret
def zg (holds:Bool) (e:Int):Option Int:=
 if holds=true then
 some e
 else
 some 0
theorem zt (holds:Bool) (e:Int) {res:Int} (h:zg holds e=some res):qg Tryz.prog (.fn 59) [.bool holds,.i e] [] (.i res) []:=by
 unfold zg at h
 refine Goes.fnW Tryz.func59 rfl rfl (m:=7) rfl (rs:=[.tmp 4]) rfl (l:=[(0,.bool holds),(1,.i e)]) rfl ?_
 refine sq ?_
 refine Goes.rg fol [(0,.bool holds),(1,.i e)] [] ?_
 refine sq ?_
 refine sq ?_
 refine Goes.rg fol [(1,.i e),(5,.bool holds)] [] ?_
 refine Goes.ifB (b:=holds) (by kernel_rfl) (fun c1=>?_) (fun c1=>?_)
 ·rw[if_pos (c1)]at h
  refine sq ?_
  refine Goes.rg fol [(4,.i e)] [] ?_
  refine Goes.ret ?_
  obtain rfl:=Option.some.inj h
  exact(Goes.retW (xs:=[.i e]) (by kernel_rfl) (FzW.still (Still.int 11 _ _)))
 ·rw[if_neg (by rw[c1];exact Bool.false_ne_true)]at h
  refine Goes.skip ?_
  refine sq ?_
  refine Goes.rg fol [(4,.i 0)] [] ?_
  refine Goes.ret ?_
  obtain rfl:=Option.some.inj h
  exact(Goes.retW (xs:=[.i 0]) (by kernel_rfl) (FzW.still (Still.int 11 _ _)))
def zf (w:Int):Option Bool:=
 (if w<0 then
 some true
 else
 some (decide (w>999999999)):Option Bool).bind fun b2=>
 some b2
theorem jP (w:Int) {res:Bool} (h:zf w=some res):qg Tryz.prog (.fn 113) [.i w] [] (.bool res) []:=by
 unfold zf at h
 refine Goes.fnW Tryz.func113 rfl rfl (m:=9) rfl (rs:=[.tmp 2]) rfl (l:=[(0,.i w)]) rfl ?_
 refine sq ?_
 refine Goes.rg fol [(0,.i w)] [] ?_
 refine sq ?_
 obtain⟨b2,g_v3,h⟩:=bnd h
 refine Goes.cut (s':=(ofG 9 [(2,.bool b2)],[])) ?_ ?_
 ·rcases Bool.eq_false_or_eq_true (decide (w<0))with c1|c1
  ·rw[if_pos (ot c1)]at g_v3
   obtain rfl:=Option.some.inj g_v3
   exact qE.ro fol [(2,(.done (.bool true)))] [(2,.bool true)] [] [.done (.done (.bool (decide (w<0)))) (.bool true)] (And.intro (congrArg (fun x=>Pg.done (.bool x)) c1) trivial)
  ·rw[if_neg (of_ c1)]at g_v3
   obtain rfl:=Option.some.inj g_v3
   exact qE.ro fol [(2,(.done (.bool false)))] [(2,.bool (decide (w>999999999)))] [] [.done (.done (.bool (decide (w<0)))) (.bool false)] (And.intro (congrArg (fun x=>Pg.done (.bool x)) c1) trivial)
 refine Goes.ret ?_
 obtain rfl:=Option.some.inj h
 exact(Goes.retW (xs:=[.bool b2]) (by kernel_rfl) (FzW.still (Still.bool 11 _)))
def kr (x_:List Int):Nat→Int→Int→Option Int
 |0,_,_=>none
 |K+1,m_4,i_5=>
  if i_5<(x_.length:Int)then
  (idx x_ i_5).bind fun x9=>
  kr x_ K (if x9>m_4 then x9 else m_4) (w64 (i_5+1))
  else
  some m_4
def slices_Max_int (N:Nat) (x_:List Int):Option Int:=
 ((if(x_.length:Int)<1 then
 none
 else
 some ():Option Unit)).bind fun _=>
 (idx x_ 0).bind fun x3=>
 (kr x_ N x3 1).bind fun m_6=>
 some m_6
theorem xc (N:Nat) (x_:List Int) {res:Int} (h:slices_Max_int N x_=some res):qg Tryz.prog (.fn 114) [vl encI x_] [] (.i res) []:=by
 unfold slices_Max_int at h
 refine Goes.fnW Tryz.func114 rfl rfl (m:=25) rfl (rs:=[.tmp 2]) rfl (l:=[(0,vl encI x_)]) rfl ?_
 refine sq ?_
 refine Goes.rg fol [(0,vl encI x_)] [] ?_
 refine sq ?_
 refine sq ?_
 refine Goes.rg fol [(0,vl encI x_),(7,.bool (decide ((x_.length:Int)<1)))] [] ?_
 obtain⟨r1,g1,h⟩:=bnd h
 refine Goes.imp (Q:=fun x s'=>(x= .normal∧()=r1∧Sub s' (ofG 25 [(0,vl encI x_)],[]))) ?_ ?_
 ·refine Goes.ifB (b:=decide ((x_.length:Int)<1)) (by kernel_rfl) (fun c2=>?_) (fun c2=>?_)
  ·rw[if_pos (ot c2)]at g1
   cases g1
  ·rw[if_neg (of_ c2)]at g1
   refine Goes.skip ?_
   obtain rfl:=Option.some.inj g1
   exact⟨rfl,rfl,(Sub.keep [0] rfl rfl)⟩
 rintro x s' ⟨rfl,rfl,hsub⟩
 refine Goes.sub hsub ?_
 refine sq ?_
 obtain⟨x3,e_x3,h⟩:=bnd h
 refine Goes.ro fol [(1,(.done (.fptr (x_.flatMap encI.c) ((0:Int).toNat*1+0)))),(2,(.done (.i x3)))] [(0,vl encI x_),(3,.i x3)] [] [.done (.opt (qb Tryz.prog 22 (vl encI x_) (.i 0))) (.fptr (x_.flatMap encI.c) ((0:Int).toNat*1+0)),.done (qB Tryz.prog 3 (.fptr (x_.flatMap encI.c) ((0:Int).toNat*1+0))) (.i x3)] (And.intro (ky kR (E:=encI) rfl e_x3) (And.intro (kw ce3 (E:=encI) rfl e_x3 (Nat.le_of_ble_eq_true rfl) rfl) trivial)) ?_
 refine sq ?_
 refine sq ?_
 refine Goes.rg fol [(0,vl encI x_),(3,.i x3),(4,.i 1)] [] ?_
 refine Goes.block ?_
 obtain⟨r7,g7,h⟩:=bnd h
 refine Goes.imp (Q:=fun x s'=>(x= .exit 0∧ ∃m_6,m_6=r7∧Sub s' (ofG 25 [(3,.i m_6)],[]))) ?_ ?_
 ·refine Goes.loopS (fun M s=> ∃(m_4:Int) (i_5:Int),s=(ofG 25 [(0,vl encI x_),(3,.i m_4),(4,.i i_5)],[])∧kr x_ M m_4 i_5=some r7) ?_ (m:=N) ⟨_,_,rfl,g7⟩
  rintro M s ⟨m_4,i_5,rfl,g7⟩
  cases M with
  |zero=>simp only[kr]at g7;cases g7
  |succ M=>
   rw[kr]at g7
   refine sq ?_
   refine sq ?_
   refine Goes.rg fol [(0,vl encI x_),(3,.i m_4),(4,.i i_5),(15,.bool (decide (i_5<(x_.length:Int))))] [] ?_
   refine Goes.ifB (b:=decide (i_5<(x_.length:Int))) (by kernel_rfl) (fun c8=>?_) (fun c8=>?_)
   ·rw[if_pos (ot c8)]at g7
    refine Goes.skip ?_
    refine sq ?_
    refine Goes.block ?_
    obtain⟨x9,e_x9,g7⟩:=bnd g7
    refine Goes.ro fol [(3,(.done (.fptr (x_.flatMap encI.c) ((i_5:Int).toNat*1+0)))),(4,(.done (.i x9)))] [(0,vl encI x_),(3,.i (if x9>m_4 then x9 else m_4)),(4,.i i_5)] [] [.done (.opt (qb Tryz.prog 22 (vl encI x_) (.i i_5))) (.fptr (x_.flatMap encI.c) ((i_5:Int).toNat*1+0)),.done (qB Tryz.prog 3 (.fptr (x_.flatMap encI.c) ((i_5:Int).toNat*1+0))) (.i x9)] (And.intro (ky kR (E:=encI) rfl e_x9) (And.intro (kw ce3 (E:=encI) rfl e_x9 (Nat.le_of_ble_eq_true rfl) rfl) trivial)) ?_
    refine Goes.rg fol [(0,vl encI x_),(3,.i (if x9>m_4 then x9 else m_4)),(4,.i (w64 (i_5+1)))] [] ?_
    exact⟨M,(ofG 25 [(0,vl encI x_),(3,.i (if x9>m_4 then x9 else m_4)),(4,.i (w64 (i_5+1)))],[]),Nat.lt_succ_self _,(Sub.refl _),_,_,rfl,g7⟩
   ·rw[if_neg (of_ c8)]at g7
    refine Goes.exit ?_
    obtain rfl:=Option.some.inj g7
    exact⟨rfl,_,rfl,(Sub.keep [3] rfl rfl)⟩
 rintro x s' ⟨rfl,m_6,rfl,hsub⟩
 refine Goes.sub hsub ?_
 refine sq ?_
 refine Goes.rg fol [(2,.i m_6)] [] ?_
 refine Goes.ret ?_
 obtain rfl:=Option.some.inj h
 exact(Goes.retW (xs:=[.i m_6]) (by kernel_rfl) (FzW.still (Still.int 11 _ _)))
def qo (a0_:List Int):Nat→Int→Option (Unit⊕Int)
 |0,_=>none
 |K+1,n1=>
  if n1<(a0_.length:Int)then
  (idx a0_ n1).bind fun x5=>
  (zf x5).bind fun r6=>
  if r6=true then
  some (.inr n1)
  else
  qo a0_ K (w64 (n1+1))
  else
  some (.inl ())
def kY (N:Nat) (a0_:List Int):Option Int:=
 (qo a0_ N 0).bind (fun
 |(.inl ())=>
 some (-1)
 |(.inr q8)=>
 some q8)
theorem jN (N:Nat) (a0_:List Int) {res:Int} (h:kY N a0_=some res):qg Tryz.prog (.fn 166) [vl encI a0_,.func (.func 113) [] []] [] (.i res) []:=by
 unfold kY at h
 refine Goes.fnW Tryz.func166 rfl rfl (m:=19) rfl (rs:=[.tmp 4]) rfl (l:=[(0,vl encI a0_),(1,.func (.func 113) [] [])]) rfl ?_
 refine sq ?_
 refine Goes.rg fol [(0,vl encI a0_),(1,.func (.func 113) [] [])] [] ?_
 refine sq ?_
 refine sq ?_
 refine Goes.rg fol [(0,vl encI a0_),(1,.func (.func 113) [] []),(7,.i (a0_.length:Int)),(8,.i 0)] [] ?_
 refine Goes.block ?_
 obtain⟨r2,g2,h⟩:=bnd h
 refine Goes.imp (Q:=fun x s'=>(x= .exit 0∧(.inl ())=r2∧Sub s' (ofG 19 [],[]))∨(x= .ret∧ ∃q3,(.inr q3)=r2∧zL Tryz.prog [.tmp 4] (.i q3) .ret s')) ?_ ?_
 ·refine Goes.loopS (fun M s=> ∃(n1:Int),s=(ofG 19 [(0,vl encI a0_),(1,.func (.func 113) [] []),(7,.i (a0_.length:Int)),(8,.i n1)],[])∧qo a0_ M n1=some r2) ?_ (m:=N) ⟨_,rfl,g2⟩
  rintro M s ⟨n1,rfl,g2⟩
  cases M with
  |zero=>simp only[qo]at g2;cases g2
  |succ M=>
   rw[qo]at g2
   refine sq ?_
   refine Goes.rg fol [(0,vl encI a0_),(1,.func (.func 113) [] []),(7,.i (a0_.length:Int)),(8,.i n1),(9,.bool (decide (n1<(a0_.length:Int))))] [] ?_
   refine sq ?_
   refine Goes.ifB (b:=decide (n1<(a0_.length:Int))) (by kernel_rfl) (fun c4=>?_) (fun c4=>?_)
   ·rw[if_pos (ot c4)]at g2
    refine Goes.skip ?_
    refine sq ?_
    refine Goes.block ?_
    refine sq ?_
    refine Goes.rg fol [(0,vl encI a0_),(1,.func (.func 113) [] []),(5,.i n1),(7,.i (a0_.length:Int)),(8,.i n1)] [] ?_
    refine sq ?_
    obtain⟨x5,e_x5,g2⟩:=bnd g2
    obtain⟨r6,e_r6,g2⟩:=bnd g2
    refine Goes.ro fol [(3,(.done (.fptr (a0_.flatMap encI.c) ((n1:Int).toNat*1+0)))),(4,(.done (.i x5))),(5,(.call [] [.i x5] (.bool r6)))] [(0,vl encI a0_),(1,.func (.func 113) [] []),(5,.i n1),(7,.i (a0_.length:Int)),(8,.i n1),(16,.bool r6)] [] [.done (.opt (qb Tryz.prog 22 (vl encI a0_) (.i n1))) (.fptr (a0_.flatMap encI.c) ((n1:Int).toNat*1+0)),.done (qB Tryz.prog 3 (.fptr (a0_.flatMap encI.c) ((n1:Int).toNat*1+0))) (.i x5),.call 113 [.i x5] [] [] [.i x5] (.bool r6)] (And.intro (ky kR (E:=encI) rfl e_x5) (And.intro (kw ce3 (E:=encI) rfl e_x5 (Nat.le_of_ble_eq_true rfl) rfl) (And.intro (qU (AllST.cons (Still.int 11 _ _) AllST.nil) (jP x5 e_r6) (Still.bool 11 _)) trivial))) ?_
    refine Goes.ifB (b:=r6) (by kernel_rfl) (fun c7=>?_) (fun c7=>?_)
    ·rw[if_pos (c7)]at g2
     refine sq ?_
     refine Goes.rg fol [(4,.i n1)] [] ?_
     refine Goes.ret ?_
     obtain rfl:=Option.some.inj g2
     exact Or.inr (⟨rfl,_,rfl,(Goes.retW (xs:=[.i n1]) (by kernel_rfl) (FzW.still (Still.int 11 _ _)))⟩)
    ·rw[if_neg (by rw[c7];exact Bool.false_ne_true)]at g2
     refine Goes.skip ?_
     refine Goes.rg fol [(0,vl encI a0_),(1,.func (.func 113) [] []),(7,.i (a0_.length:Int)),(8,.i (w64 (n1+1)))] [] ?_
     exact⟨M,(ofG 19 [(0,vl encI a0_),(1,.func (.func 113) [] []),(7,.i (a0_.length:Int)),(8,.i (w64 (n1+1)))],[]),Nat.lt_succ_self _,(Sub.refl _),_,rfl,g2⟩
   ·rw[if_neg (of_ c4)]at g2
    refine Goes.exit ?_
    obtain rfl:=Option.some.inj g2
    exact Or.inl (⟨rfl,rfl,(Sub.keep [] rfl rfl)⟩)
 rintro x s' (⟨rfl,rfl,hsub⟩|⟨rfl,q8,rfl,hret⟩)
 ·try dsimp only at h
  refine Goes.sub hsub ?_
  refine sq ?_
  refine Goes.rg fol [(4,.i (-1))] [] ?_
  refine Goes.ret ?_
  obtain rfl:=Option.some.inj h
  exact(Goes.retW (xs:=[.i (-1)]) (by kernel_rfl) (FzW.still (Still.int 11 _ _)))
 ·try dsimp only at h
  obtain rfl:=Option.some.inj h
  exact hret
def kM (N:Nat) (a0_:List Int):Option Bool:=
 (kY N a0_).bind fun r1=>
 some (decide (r1≥0))
theorem jA (N:Nat) (a0_:List Int) {res:Bool} (h:kM N a0_=some res):qg Tryz.prog (.fn 112) [vl encI a0_,.func (.func 113) [] []] [] (.bool res) []:=by
 unfold kM at h
 refine Goes.fnW Tryz.func112 rfl rfl (m:=9) rfl (rs:=[.tmp 4]) rfl (l:=[(0,vl encI a0_),(1,.func (.func 113) [] [])]) rfl ?_
 refine sq ?_
 refine Goes.rg fol [(0,vl encI a0_),(1,.func (.func 113) [] [])] [] ?_
 refine sq ?_
 obtain⟨r1,e_r1,h⟩:=bnd h
 refine Goes.ro fol [(2,(.call [] [vl encI a0_,.func (.func 113) [] []] (.i r1)))] [(4,.bool (decide (r1≥0)))] [] [.call 166 [vl encI a0_,.func (.func 113) [] []] [] [] [vl encI a0_,.func (.func 113) [] []] (.i r1)] (And.intro (qe0 (FzL.cons (Fz.still (zi encI _ (Nat.le_of_ble_eq_true rfl))) (FzL.cons (Fz.func FzL.nil FzL.nil) FzL.nil)) (jN N a0_ e_r1) (Still.int 11 _ _)) trivial) ?_
 refine Goes.ret ?_
 obtain rfl:=Option.some.inj h
 exact(Goes.retW (xs:=[.bool (decide (r1≥0))]) (by kernel_rfl) (FzW.still (Still.bool 11 _)))
def kN (N:Nat) (weights:List Int):Option Int:=
 (zg (decide ((weights.length:Int)=0)) 12).bind fun r1=>
 (zg (decide ((weights.length:Int)>256)) 5).bind fun r2=>
 (zn N ([r1,r2]:List Int)).bind fun r3=>
 if(!decide (r3=0))=true then
 some r3
 else
 (kM N weights).bind fun r5=>
 (zg r5 3).bind fun r6=>
 (slices_Max_int N weights).bind fun r7=>
 (zg (decide (r7=0)) 6).bind fun r8=>
 (zn N ([r6,r8]:List Int)).bind fun r9=>
 some r9
theorem jc (N:Nat) (weights:List Int) {res:Int} (h:kN N weights=some res):qg Tryz.prog (.fn 60) [vl encI weights] [] (.i res) []:=by
 unfold kN at h
 refine Goes.fnW Tryz.func60 rfl rfl (m:=28) rfl (rs:=[.tmp 2]) rfl (l:=[(0,vl encI weights)]) rfl ?_
 refine sq ?_
 refine Goes.rg fol [(0,vl encI weights)] [] ?_
 refine sq ?_
 refine sq ?_
 obtain⟨r1,e_r1,h⟩:=bnd h
 obtain⟨r2,e_r2,h⟩:=bnd h
 obtain⟨r3,e_r3,h⟩:=bnd h
 refine Goes.ro fol [(3,(.call [] [.bool (decide ((weights.length:Int)=0)),.i 12] (.i r1))),(7,(.call [] [.bool (decide ((weights.length:Int)>256)),.i 5] (.i r2))),(9,(.call [0] [vl encI ([r1,r2]:List Int)] (.i r3)))] [(0,vl encI weights),(3,.i r3)] [.cells [.i r1,.i r2]] [.call 59 [.bool (decide ((weights.length:Int)=0)),.i 12] [] [] [.bool (decide ((weights.length:Int)=0)),.i 12] (.i r1),.call 59 [.bool (decide ((weights.length:Int)>256)),.i 5] [] [] [.bool (decide ((weights.length:Int)>256)),.i 5] (.i r2),.call 58 [.slice 0 0 2 2 1] [.cells [.i r1,.i r2]] [0] [vl encI ([r1,r2]:List Int)] (.i r3)] (And.intro (qU (AllST.cons (Still.bool 11 _) (AllST.cons (Still.int 11 _ _) AllST.nil)) (zt (decide ((weights.length:Int)=0)) 12 e_r1) (Still.int 11 _ _)) (And.intro (qU (AllST.cons (Still.bool 11 _) (AllST.cons (Still.int 11 _ _) AllST.nil)) (zt (decide ((weights.length:Int)>256)) 5 e_r2) (Still.int 11 _ _)) (And.intro (xC (FzL.cons (Fz.lit rfl rfl (FzL.still (AllST.cons (Still.int 10 _ _) (AllST.cons (Still.int 10 _ _) AllST.nil)))) FzL.nil) (zX N ([r1,r2]:List Int) e_r3) (Still.int 11 _ _) rfl) trivial))) ?_
 refine sq ?_
 refine Goes.rg fol [(0,vl encI weights),(3,.i r3),(16,.bool (!decide (r3=0)))] [.cells [.i r1,.i r2]] ?_
 refine Goes.ifB (b:=!decide (r3=0)) (by kernel_rfl) (fun c4=>?_) (fun c4=>?_)
 ·rw[if_pos (c4)]at h
  refine sq ?_
  refine Goes.rg fol [(2,.i r3)] [.cells [.i r1,.i r2]] ?_
  refine Goes.ret ?_
  obtain rfl:=Option.some.inj h
  exact(Goes.retW (xs:=[.i r3]) (by kernel_rfl) (FzW.still (Still.int 11 _ _)))
 ·rw[if_neg (by rw[c4];exact Bool.false_ne_true)]at h
  refine Goes.skip ?_
  refine sq ?_
  obtain⟨r5,e_r5,h⟩:=bnd h
  refine Goes.ro fol [(1,(.call [] [vl encI weights,.func (.func 113) [] []] (.bool r5)))] [(0,vl encI weights),(4,.bool r5)] [.cells [.i r1,.i r2]] [.call 112 [vl encI weights,.func (.func 113) [] []] [.cells [.i r1,.i r2]] [] [vl encI weights,.func (.func 113) [] []] (.bool r5)] (And.intro (qe0 (FzL.cons (Fz.still (zi encI _ (Nat.le_of_ble_eq_true rfl))) (FzL.cons (Fz.func FzL.nil FzL.nil) FzL.nil)) (jA N weights e_r5) (Still.bool 11 _)) trivial) ?_
  refine sq ?_
  obtain⟨r6,e_r6,h⟩:=bnd h
  obtain⟨r7,e_r7,h⟩:=bnd h
  obtain⟨r8,e_r8,h⟩:=bnd h
  obtain⟨r9,e_r9,h⟩:=bnd h
  refine Goes.ro fol [(1,(.call [] [.bool r5,.i 3] (.i r6))),(3,(.call [] [vl encI weights] (.i r7))),(5,(.call [] [.bool (decide (r7=0)),.i 6] (.i r8))),(7,(.call [1] [vl encI ([r6,r8]:List Int)] (.i r9)))] [(2,.i r9)] [.cells [.i r1,.i r2],.cells [.i r6,.i r8]] [.call 59 [.bool r5,.i 3] [.cells [.i r1,.i r2]] [] [.bool r5,.i 3] (.i r6),.call 114 [vl encI weights] [.cells [.i r1,.i r2]] [] [vl encI weights] (.i r7),.call 59 [.bool (decide (r7=0)),.i 6] [.cells [.i r1,.i r2]] [] [.bool (decide (r7=0)),.i 6] (.i r8),.call 58 [.slice 1 0 2 2 1] [.cells [.i r1,.i r2],.cells [.i r6,.i r8]] [1] [vl encI ([r6,r8]:List Int)] (.i r9)] (And.intro (qU (AllST.cons (Still.bool 11 _) (AllST.cons (Still.int 11 _ _) AllST.nil)) (zt r5 3 e_r6) (Still.int 11 _ _)) (And.intro (qU (AllST.cons (zi encI _ (Nat.le_of_ble_eq_true rfl)) AllST.nil) (xc N weights e_r7) (Still.int 11 _ _)) (And.intro (qU (AllST.cons (Still.bool 11 _) (AllST.cons (Still.int 11 _ _) AllST.nil)) (zt (decide (r7=0)) 6 e_r8) (Still.int 11 _ _)) (And.intro (xC (FzL.cons (Fz.lit rfl rfl (FzL.still (AllST.cons (Still.int 10 _ _) (AllST.cons (Still.int 10 _ _) AllST.nil)))) FzL.nil) (zX N ([r6,r8]:List Int) e_r9) (Still.int 11 _ _) rfl) trivial)))) ?_
  refine Goes.ret ?_
  obtain rfl:=Option.some.inj h
  exact(Goes.retW (xs:=[.i r9]) (by kernel_rfl) (FzW.still (Still.int 11 _ _)))
def zb (a0_:Int) (a1_:Int) (a2_:Int) (a3_:List Int) (a4_:Int):Option Int:=
 (idx a3_ a1_).bind fun x1=>
 (qbt .i64 (w64 (a2_*x1)) a4_).bind fun q2=>
 (idx a3_ a0_).bind fun x3=>
 (qbt .i64 (w64 (a2_*x3)) a4_).bind fun q4=>
 some (w64 (q2-q4))
theorem ve (a0_:Int) (a1_:Int) (a2_:Int) (a3_:List Int) (a4_:Int) {res:Int} (h:zb a0_ a1_ a2_ a3_ a4_=some res):qg Tryz.prog (.fn 62) [.i a0_,.i a1_,.fptr [.i a2_] 0,.fptr [vl encI a3_] 0,.fptr [.i a4_] 0] [] (.i res) []:=by
 unfold zb at h
 refine Goes.fnW Tryz.func62 rfl rfl (m:=25) rfl (rs:=[.tmp 7]) rfl (l:=[(0,.i a0_),(1,.i a1_),(2,.fptr [.i a2_] 0),(3,.fptr [vl encI a3_] 0),(4,.fptr [.i a4_] 0)]) rfl ?_
 refine sq ?_
 refine Goes.rg fol [(0,.i a0_),(1,.i a1_),(2,.fptr [.i a2_] 0),(3,.fptr [vl encI a3_] 0),(4,.fptr [.i a4_] 0)] [] ?_
 refine sq ?_
 obtain⟨x1,e_x1,h⟩:=bnd h
 obtain⟨q2,e_q2,h⟩:=bnd h
 obtain⟨x3,e_x3,h⟩:=bnd h
 obtain⟨q4,e_q4,h⟩:=bnd h
 refine Goes.ro fol [(3,(.done (.fptr (a3_.flatMap encI.c) ((a1_:Int).toNat*1+0)))),(4,(.done (.i x1))),(7,(.done (.i q2))),(11,(.done (.fptr (a3_.flatMap encI.c) ((a0_:Int).toNat*1+0)))),(12,(.done (.i x3))),(15,(.done (.i q4)))] [(7,.i (w64 (q2-q4)))] [] [.done (.opt (qb Tryz.prog 22 (vl encI a3_) (.i a1_))) (.fptr (a3_.flatMap encI.c) ((a1_:Int).toNat*1+0)),.done (qB Tryz.prog 3 (.fptr (a3_.flatMap encI.c) ((a1_:Int).toNat*1+0))) (.i x1),.done (.opt (vS Tryz.prog .rem 3 (.tmp 13) (.tmp 14) (.i (w64 (a2_*x1))) (.i a4_))) (.i q2),.done (.opt (qb Tryz.prog 22 (vl encI a3_) (.i a0_))) (.fptr (a3_.flatMap encI.c) ((a0_:Int).toNat*1+0)),.done (qB Tryz.prog 3 (.fptr (a3_.flatMap encI.c) ((a0_:Int).toNat*1+0))) (.i x3),.done (.opt (vS Tryz.prog .rem 3 (.tmp 21) (.tmp 22) (.i (w64 (a2_*x3))) (.i a4_))) (.i q4)] (And.intro (ky kR (E:=encI) rfl e_x1) (And.intro (kw ce3 (E:=encI) rfl e_x1 (Nat.le_of_ble_eq_true rfl) rfl) (And.intro (qad e_q2) (And.intro (ky kR (E:=encI) rfl e_x3) (And.intro (kw ce3 (E:=encI) rfl e_x3 (Nat.le_of_ble_eq_true rfl) rfl) (And.intro (qad e_q4) trivial)))))) ?_
 refine Goes.ret ?_
 obtain rfl:=Option.some.inj h
 exact(Goes.retW (xs:=[.i (w64 (q2-q4))]) (by kernel_rfl) (FzW.still (Still.int 11 _ _)))
def qf (a1_:Int) (a3_:Int) (a4_:List Int) (a5_:Int):Nat→(List Int)→Int→Option (List Int)
 |0,_,_=>none
 |K+1,l7,j_8=>
  (if j_8>a1_ then
  (idx l7 j_8).bind fun x12=>
  (idx l7 (w64 (j_8-1))).bind fun x13=>
  (zb x12 x13 a3_ a4_ a5_).bind fun r14=>
  some (decide (r14<0))
  else
  some false:Option Bool).bind fun b15=>
  if b15=true then
  (idx l7 (w64 (j_8-1))).bind fun x18=>
  (idx l7 j_8).bind fun x19=>
  (put l7 j_8 x18).bind fun l20=>
  (idx l20 (w64 (j_8-1))).bind fun x21=>
  (put l20 (w64 (j_8-1)) x19).bind fun l22=>
  qf a1_ a3_ a4_ a5_ K l22 (w64 (j_8-1))
  else
  some l7
def qd (N:Nat) (a1_:Int) (a2_:Int) (a3_:Int) (a4_:List Int) (a5_:Int):Nat→(List Int)→Int→Option (List Int)
 |0,_,_=>none
 |K+1,l2,i_3=>
  if i_3<a2_ then
  (qf a1_ a3_ a4_ a5_ N l2 i_3).bind fun l9=>
  qd N a1_ a2_ a3_ a4_ a5_ K l9 (w64 (i_3+1))
  else
  some l2
def qj (N:Nat) (a0_:List Int) (a1_:Int) (a2_:Int) (a3_:Int) (a4_:List Int) (a5_:Int):Option (List Int):=
 (qd N a1_ a2_ a3_ a4_ a5_ N a0_ (w64 (a1_+1))).bind fun l4=>
 some l4
theorem kZ (N:Nat) (a0_:List Int) (a1_:Int) (a2_:Int) (a3_:Int) (a4_:List Int) (a5_:Int) {l1:List Int} (h:qj N a0_ a1_ a2_ a3_ a4_ a5_=some l1):qg Tryz.prog (.fn 167) [.gslice 0 a0_.length 1,.i a1_,.i a2_,.func (.func 62) [] [.ptr 1 0,.ptr 2 0,.ptr 3 0]] [.cells (a0_.flatMap encI.c),.cells [.i a3_],.cells [vl encI a4_],.cells [.i a5_]] (.tuple []) [.cells (l1.flatMap encI.c),.cells [.i a3_],.cells [vl encI a4_],.cells [.i a5_]]:=by
 unfold qj at h
 refine Goes.fnH Tryz.func167 rfl rfl (m:=53) rfl (rs:=[]) rfl (l:=[(0,.gslice 0 a0_.length 1),(1,.i a1_),(2,.i a2_),(3,.func (.func 62) [] [.ptr 1 0,.ptr 2 0,.ptr 3 0])]) rfl ?_
 intro B hB
 refine Goes.subQ ?_
 refine sq ?_
 refine Goes.rg fol [(0,.gslice 0 a0_.length 1),(1,.i a1_),(2,.i a2_),(3,.func (.func 62) [] [.ptr 1 0,.ptr 2 0,.ptr 3 0]),(8,.i (w64 (a1_+1)))] [.cells (a0_.flatMap encI.c),.cells [.i a3_],.cells [vl encI a4_],.cells [.i a5_]] ?_
 refine Goes.block ?_
 obtain⟨r5,g5,h⟩:=bnd h
 refine Goes.imp (Q:=fun x s'=>(x= .exit 0∧ ∃l4,l4=r5∧Sub s' (ofG 53 [],[.cells (l4.flatMap encI.c),.cells [.i a3_],.cells [vl encI a4_],.cells [.i a5_]]))) ?_ ?_
 ·refine Goes.loopS (fun M s=> ∃(l2:List Int) (i_3:Int),s=(ofG 53 [(0,.gslice 0 l2.length 1),(1,.i a1_),(2,.i a2_),(3,.func (.func 62) [] [.ptr 1 0,.ptr 2 0,.ptr 3 0]),(8,.i i_3)],[.cells (l2.flatMap encI.c),.cells [.i a3_],.cells [vl encI a4_],.cells [.i a5_]])∧qd N a1_ a2_ a3_ a4_ a5_ M l2 i_3=some r5) ?_ (m:=N) ⟨_,_,rfl,g5⟩
  rintro M s ⟨l2,i_3,rfl,g5⟩
  cases M with
  |zero=>simp only[qd]at g5;cases g5
  |succ M=>
   rw[qd]at g5
   refine sq ?_
   refine sq ?_
   refine Goes.rg fol [(0,.gslice 0 l2.length 1),(1,.i a1_),(2,.i a2_),(3,.func (.func 62) [] [.ptr 1 0,.ptr 2 0,.ptr 3 0]),(8,.i i_3),(14,.bool (decide (i_3<a2_)))] [.cells (l2.flatMap encI.c),.cells [.i a3_],.cells [vl encI a4_],.cells [.i a5_]] ?_
   refine Goes.ifB (b:=decide (i_3<a2_)) (by kernel_rfl) (fun c6=>?_) (fun c6=>?_)
   ·rw[if_pos (ot c6)]at g5
    refine Goes.skip ?_
    refine sq ?_
    refine Goes.block ?_
    refine sq ?_
    refine Goes.rg fol [(0,.gslice 0 l2.length 1),(1,.i a1_),(2,.i a2_),(3,.func (.func 62) [] [.ptr 1 0,.ptr 2 0,.ptr 3 0]),(8,.i i_3),(9,.i i_3)] [.cells (l2.flatMap encI.c),.cells [.i a3_],.cells [vl encI a4_],.cells [.i a5_]] ?_
    refine Goes.block ?_
    obtain⟨r10,g10,g5⟩:=bnd g5
    refine Goes.imp (Q:=fun x s'=>(x= .exit 2∧ ∃l9,l9=r10∧Sub s' (ofG 53 [(0,.gslice 0 l9.length 1),(1,.i a1_),(2,.i a2_),(3,.func (.func 62) [] [.ptr 1 0,.ptr 2 0,.ptr 3 0]),(8,.i i_3)],[.cells (l9.flatMap encI.c),.cells [.i a3_],.cells [vl encI a4_],.cells [.i a5_]]))) ?_ ?_
    ·refine Goes.loopS (fun M s=> ∃(l7:List Int) (j_8:Int),s=(ofG 53 [(0,.gslice 0 l7.length 1),(1,.i a1_),(2,.i a2_),(3,.func (.func 62) [] [.ptr 1 0,.ptr 2 0,.ptr 3 0]),(8,.i i_3),(9,.i j_8)],[.cells (l7.flatMap encI.c),.cells [.i a3_],.cells [vl encI a4_],.cells [.i a5_]])∧qf a1_ a3_ a4_ a5_ M l7 j_8=some r10) ?_ (m:=N) ⟨_,_,rfl,g10⟩
     rintro M s ⟨l7,j_8,rfl,g10⟩
     cases M with
     |zero=>simp only[qf]at g10;cases g10
     |succ M=>
      rw[qf]at g10
      refine sq ?_
      refine sq ?_
      obtain⟨b15,g_v16,g10⟩:=bnd g10
      refine Goes.cut (s':=(ofG 53 [(0,.gslice 0 l7.length 1),(1,.i a1_),(2,.i a2_),(3,.func (.func 62) [] [.ptr 1 0,.ptr 2 0,.ptr 3 0]),(8,.i i_3),(9,.i j_8),(34,.bool b15)],[.cells (l7.flatMap encI.c),.cells [.i a3_],.cells [vl encI a4_],.cells [.i a5_]])) ?_ ?_
      ·rcases Bool.eq_false_or_eq_true (decide (j_8>a1_))with c11|c11
       ·rw[if_pos (ot c11)]at g_v16
        obtain⟨x12,e_x12,g_v16⟩:=bnd g_v16
        obtain⟨x13,e_x13,g_v16⟩:=bnd g_v16
        obtain⟨r14,e_r14,g_v16⟩:=bnd g_v16
        obtain rfl:=Option.some.inj g_v16
        exact qE.ro fol [(3,(.done (.bool true))),(7,(.done (.ptr 0 ((j_8:Int).toNat*1+0)))),(8,(.run (.i x12) [.cells (l7.flatMap encI.c),.cells [.i a3_],.cells [vl encI a4_],.cells [.i a5_]] false)),(12,(.done (.ptr 0 ((w64 (j_8-1):Int).toNat*1+0)))),(13,(.run (.i x13) [.cells (l7.flatMap encI.c),.cells [.i a3_],.cells [vl encI a4_],.cells [.i a5_]] false)),(14,(.call [1,2,3] [.i x12,.i x13,.fptr [.i a3_] 0,.fptr [vl encI a4_] 0,.fptr [.i a5_] 0] (.i r14)))] [(0,.gslice 0 l7.length 1),(1,.i a1_),(2,.i a2_),(3,.func (.func 62) [] [.ptr 1 0,.ptr 2 0,.ptr 3 0]),(8,.i i_3),(9,.i j_8),(34,.bool (decide (r14<0)))] [.cells (l7.flatMap encI.c),.cells [.i a3_],.cells [vl encI a4_],.cells [.i a5_]] [.done (.done (.bool (decide (j_8>a1_)))) (.bool true),.done (.opt (qb Tryz.prog 22 (.gslice 0 l7.length 1) (.i j_8))) (.ptr 0 ((j_8:Int).toNat*1+0)),.run [0] (qB Tryz.prog 3 (.ptr 0 ((j_8:Int).toNat*1+0))) [.cells (l7.flatMap encI.c),.cells [.i a3_],.cells [vl encI a4_],.cells [.i a5_]] (.i x12) [.cells (l7.flatMap encI.c),.cells [.i a3_],.cells [vl encI a4_],.cells [.i a5_]] false,.done (.opt (qb Tryz.prog 22 (.gslice 0 l7.length 1) (.i (w64 (j_8-1))))) (.ptr 0 ((w64 (j_8-1):Int).toNat*1+0)),.run [0] (qB Tryz.prog 3 (.ptr 0 ((w64 (j_8-1):Int).toNat*1+0))) [.cells (l7.flatMap encI.c),.cells [.i a3_],.cells [vl encI a4_],.cells [.i a5_]] (.i x13) [.cells (l7.flatMap encI.c),.cells [.i a3_],.cells [vl encI a4_],.cells [.i a5_]] false,.call 62 [.i x12,.i x13,.ptr 1 0,.ptr 2 0,.ptr 3 0] [.cells (l7.flatMap encI.c),.cells [.i a3_],.cells [vl encI a4_],.cells [.i a5_]] [1,2,3] [.i x12,.i x13,.fptr [.i a3_] 0,.fptr [vl encI a4_] 0,.fptr [.i a5_] 0] (.i r14)] (And.intro (congrArg (fun x=>Pg.done (.bool x)) c11) (And.intro (yV kR e_x12) (And.intro (qdv ce3 (E:=encI) (l:=l7) rfl rfl e_x12 (Nat.le_of_ble_eq_true rfl) rfl) (And.intro (yV kR e_x13) (And.intro (qdv ce3 (E:=encI) (l:=l7) rfl rfl e_x13 (Nat.le_of_ble_eq_true rfl) rfl) (And.intro (xC (FzL.cons (Fz.still (Still.int 11 _ _)) (FzL.cons (Fz.still (Still.int 11 _ _)) (FzL.cons (Fz.ptr rfl rfl (FzL.cons (Fz.still (Still.int 10 _ _)) FzL.nil)) (FzL.cons (Fz.ptr rfl rfl (FzL.cons (Fz.still (zi encI _ (Nat.le_of_ble_eq_true rfl))) FzL.nil)) (FzL.cons (Fz.ptr rfl rfl (FzL.cons (Fz.still (Still.int 10 _ _)) FzL.nil)) FzL.nil))))) (ve x12 x13 a3_ a4_ a5_ e_r14) (Still.int 11 _ _) rfl) trivial))))))
       ·rw[if_neg (of_ c11)]at g_v16
        obtain rfl:=Option.some.inj g_v16
        exact qE.ro fol [(3,(.done (.bool false)))] [(0,.gslice 0 l7.length 1),(1,.i a1_),(2,.i a2_),(3,.func (.func 62) [] [.ptr 1 0,.ptr 2 0,.ptr 3 0]),(8,.i i_3),(9,.i j_8),(34,.bool false)] [.cells (l7.flatMap encI.c),.cells [.i a3_],.cells [vl encI a4_],.cells [.i a5_]] [.done (.done (.bool (decide (j_8>a1_)))) (.bool false)] (And.intro (congrArg (fun x=>Pg.done (.bool x)) c11) trivial)
      refine Goes.ifB (b:=b15) (by kernel_rfl) (fun c17=>?_) (fun c17=>?_)
      ·rw[if_pos (c17)]at g10
       refine Goes.skip ?_
       refine sq ?_
       refine Goes.block ?_
       obtain⟨x18,e_x18,g10⟩:=bnd g10
       obtain⟨x19,e_x19,g10⟩:=bnd g10
       obtain⟨l20,e_l20,g10⟩:=bnd g10
       obtain⟨x21,e_x21,g10⟩:=bnd g10
       obtain⟨l22,e_l22,g10⟩:=bnd g10
       refine Goes.ro fol [(8,(.done (.ptr 0 ((w64 (j_8-1):Int).toNat*1+0)))),(9,(.run (.i x18) [.cells (l7.flatMap encI.c),.cells [.i a3_],.cells [vl encI a4_],.cells [.i a5_]] false)),(12,(.done (.ptr 0 ((j_8:Int).toNat*1+0)))),(13,(.run (.i x19) [.cells (l7.flatMap encI.c),.cells [.i a3_],.cells [vl encI a4_],.cells [.i a5_]] false)),(14,(.done (.ptr 0 ((j_8:Int).toNat*1+0)))),(15,(.run .undef [.cells (l20.flatMap encI.c),.cells [.i a3_],.cells [vl encI a4_],.cells [.i a5_]] true)),(16,(.done (.ptr 0 ((w64 (j_8-1):Int).toNat*1+0)))),(17,(.run .undef [.cells (l22.flatMap encI.c),.cells [.i a3_],.cells [vl encI a4_],.cells [.i a5_]] true))] [(0,.gslice 0 l7.length 1),(1,.i a1_),(2,.i a2_),(3,.func (.func 62) [] [.ptr 1 0,.ptr 2 0,.ptr 3 0]),(8,.i i_3),(9,.i j_8)] [.cells (l22.flatMap encI.c),.cells [.i a3_],.cells [vl encI a4_],.cells [.i a5_]] [.done (.opt (qb Tryz.prog 22 (.gslice 0 l7.length 1) (.i (w64 (j_8-1))))) (.ptr 0 ((w64 (j_8-1):Int).toNat*1+0)),.run [0] (qB Tryz.prog 3 (.ptr 0 ((w64 (j_8-1):Int).toNat*1+0))) [.cells (l7.flatMap encI.c),.cells [.i a3_],.cells [vl encI a4_],.cells [.i a5_]] (.i x18) [.cells (l7.flatMap encI.c),.cells [.i a3_],.cells [vl encI a4_],.cells [.i a5_]] false,.done (.opt (qb Tryz.prog 22 (.gslice 0 l7.length 1) (.i j_8))) (.ptr 0 ((j_8:Int).toNat*1+0)),.run [0] (qB Tryz.prog 3 (.ptr 0 ((j_8:Int).toNat*1+0))) [.cells (l7.flatMap encI.c),.cells [.i a3_],.cells [vl encI a4_],.cells [.i a5_]] (.i x19) [.cells (l7.flatMap encI.c),.cells [.i a3_],.cells [vl encI a4_],.cells [.i a5_]] false,.done (.opt (qb Tryz.prog 22 (.gslice 0 l7.length 1) (.i j_8))) (.ptr 0 ((j_8:Int).toNat*1+0)),.run [0] (vQ Tryz.prog 3 (.ptr 0 ((j_8:Int).toNat*1+0)) (.i x18)) [.cells (l7.flatMap encI.c),.cells [.i a3_],.cells [vl encI a4_],.cells [.i a5_]] .undef [.cells (l20.flatMap encI.c),.cells [.i a3_],.cells [vl encI a4_],.cells [.i a5_]] true,.done (.opt (qb Tryz.prog 22 (.gslice 0 l7.length 1) (.i (w64 (j_8-1))))) (.ptr 0 ((w64 (j_8-1):Int).toNat*1+0)),.run [0] (vQ Tryz.prog 3 (.ptr 0 ((w64 (j_8-1):Int).toNat*1+0)) (.i x19)) [.cells (l20.flatMap encI.c),.cells [.i a3_],.cells [vl encI a4_],.cells [.i a5_]] .undef [.cells (l22.flatMap encI.c),.cells [.i a3_],.cells [vl encI a4_],.cells [.i a5_]] true] (And.intro (yV kR e_x18) (And.intro (qdv ce3 (E:=encI) (l:=l7) rfl rfl e_x18 (Nat.le_of_ble_eq_true rfl) rfl) (And.intro (yV kR e_x19) (And.intro (qdv ce3 (E:=encI) (l:=l7) rfl rfl e_x19 (Nat.le_of_ble_eq_true rfl) rfl) (And.intro (yV kR e_x19) (And.intro (qei (E:=encI) (l:=l7) (y:=x18) rfl (show _=some 1 by kernel_rfl) rfl e_x19 rfl rfl rfl rfl rfl e_l20 rfl) (And.intro (yV kR e_x18) (And.intro (qei (E:=encI) (l:=l20) (y:=x19) rfl (show _=some 1 by kernel_rfl) rfl e_x21 rfl rfl rfl rfl rfl e_l22 rfl) trivial)))))))) ?_
       refine Goes.sub (show Sub (ofG 53 [(0,.gslice 0 l7.length 1),(1,.i a1_),(2,.i a2_),(3,.func (.func 62) [] [.ptr 1 0,.ptr 2 0,.ptr 3 0]),(8,.i i_3),(9,.i j_8)],[.cells (l22.flatMap encI.c),.cells [.i a3_],.cells [vl encI a4_],.cells [.i a5_]]) (ofG 53 [(0,.gslice 0 l22.length 1),(1,.i a1_),(2,.i a2_),(3,.func (.func 62) [] [.ptr 1 0,.ptr 2 0,.ptr 3 0]),(8,.i i_3),(9,.i j_8)],[.cells (l22.flatMap encI.c),.cells [.i a3_],.cells [vl encI a4_],.cells [.i a5_]])from(Sub.norm [] [some 0,some 1,some 2,some 3] (by rw[hB];rfl) rfl (.keep (.gsliceE rfl ((qbv e_l20).trans (qbv e_l22))) (.keep (.same (qc.int _ _)) (.keep (.same (qc.int _ _)) (.keep (.funcL (qY.nil) (qh.cons (.ptr rfl) (qh.cons (.ptr rfl) (qh.cons (.ptr rfl) qh.nil)))) (.keep (.same (qc.int _ _)) (.keep (.same (qc.int _ _)) .nil)))))) (.keep rfl (.same fa) rfl rfl (.keep rfl (.same (qY.cons (qc.int _ _) qY.nil)) rfl rfl (.keep rfl (.same (qY.cons (qM encI _) qY.nil)) rfl rfl (.keep rfl (.same (qY.cons (qc.int _ _) qY.nil)) rfl rfl .nil)))))) ?_
       refine Goes.rg fol [(0,.gslice 0 l22.length 1),(1,.i a1_),(2,.i a2_),(3,.func (.func 62) [] [.ptr 1 0,.ptr 2 0,.ptr 3 0]),(8,.i i_3),(9,.i (w64 (j_8-1)))] [.cells (l22.flatMap encI.c),.cells [.i a3_],.cells [vl encI a4_],.cells [.i a5_]] ?_
       exact⟨M,(ofG 53 [(0,.gslice 0 l22.length 1),(1,.i a1_),(2,.i a2_),(3,.func (.func 62) [] [.ptr 1 0,.ptr 2 0,.ptr 3 0]),(8,.i i_3),(9,.i (w64 (j_8-1)))],[.cells (l22.flatMap encI.c),.cells [.i a3_],.cells [vl encI a4_],.cells [.i a5_]]),Nat.lt_succ_self _,(Sub.refl _),_,_,rfl,g10⟩
      ·rw[if_neg (by rw[c17];exact Bool.false_ne_true)]at g10
       refine Goes.exit ?_
       obtain rfl:=Option.some.inj g10
       exact⟨rfl,_,rfl,(Sub.keep [0,1,2,3,8] rfl rfl)⟩
    rintro x s' ⟨rfl,l9,rfl,hsub⟩
    refine Goes.sub hsub ?_
    refine Goes.rg fol [(0,.gslice 0 l9.length 1),(1,.i a1_),(2,.i a2_),(3,.func (.func 62) [] [.ptr 1 0,.ptr 2 0,.ptr 3 0]),(8,.i (w64 (i_3+1)))] [.cells (l9.flatMap encI.c),.cells [.i a3_],.cells [vl encI a4_],.cells [.i a5_]] ?_
    exact⟨M,(ofG 53 [(0,.gslice 0 l9.length 1),(1,.i a1_),(2,.i a2_),(3,.func (.func 62) [] [.ptr 1 0,.ptr 2 0,.ptr 3 0]),(8,.i (w64 (i_3+1)))],[.cells (l9.flatMap encI.c),.cells [.i a3_],.cells [vl encI a4_],.cells [.i a5_]]),Nat.lt_succ_self _,(Sub.refl _),_,_,rfl,g5⟩
   ·rw[if_neg (of_ c6)]at g5
    refine Goes.exit ?_
    obtain rfl:=Option.some.inj g5
    exact⟨rfl,_,rfl,(Sub.keep [] rfl rfl)⟩
 rintro x s' ⟨rfl,l4,rfl,hsub⟩
 obtain rfl:=Option.some.inj h
 exact⟨_,hsub,(Goes.retH (xs:=[]) (by kernel_rfl) (xS.refl _ _))⟩
def qm (N:Nat) (a1_:Int) (a2_:Int) (a3_:List Int) (a4_:Int):Nat→(List Int)→Int→Int→Option ((List Int)×Int)
 |0,_,_,_=>none
 |K+1,l2,a_3,b_4=>
  if b_4≤a1_ then
  (qj N l2 a_3 b_4 a2_ a3_ a4_).bind fun l10=>
  ((if l2.length=l10.length then some ()else none:Option Unit)).bind fun u11=>
  qm N a1_ a2_ a3_ a4_ K l10 b_4 (w64 (b_4+20))
  else
  some (l2,a_3)
def kg (a1_:Int) (blockSize_15:Int):Nat→Option Unit
 |0=>none
 |K+1=>
  if(w64 (2*blockSize_15))≤a1_ then
  none
  else
  some ()
def ql (N:Nat) (a1_:Int):Nat→Int→Option Unit
 |0,_=>none
 |K+1,blockSize_15=>
  if blockSize_15<a1_ then
  (kg a1_ blockSize_15 N).bind fun _=>
  ((if(w64 (0+blockSize_15))<a1_ then
  none
  else
  some ():Option Unit)).bind fun _=>
  ql N a1_ K (w64 (blockSize_15*2))
  else
  some ()
def kH (N:Nat) (a0_:List Int) (a1_:Int) (a2_:Int) (a3_:List Int) (a4_:Int):Option (List Int):=
 (qm N a1_ a2_ a3_ a4_ N a0_ 0 20).bind fun(l5,a_6)=>
 (qj N l5 a_6 a1_ a2_ a3_ a4_).bind fun l13=>
 ((if l5.length=l13.length then some ()else none:Option Unit)).bind fun u14=>
 (ql N a1_ N 20).bind fun _=>
 some l13
theorem jo (N:Nat) (a0_:List Int) (a1_:Int) (a2_:Int) (a3_:List Int) (a4_:Int) {l1:List Int} (h:kH N a0_ a1_ a2_ a3_ a4_=some l1):qg Tryz.prog (.fn 115) [.gslice 0 a0_.length 1,.i a1_,.func (.func 62) [] [.ptr 1 0,.ptr 2 0,.ptr 3 0]] [.cells (a0_.flatMap encI.c),.cells [.i a2_],.cells [vl encI a3_],.cells [.i a4_]] (.tuple []) [.cells (l1.flatMap encI.c),.cells [.i a2_],.cells [vl encI a3_],.cells [.i a4_]]:=by
 unfold kH at h
 refine Goes.fnH Tryz.func115 rfl rfl (m:=63) rfl (rs:=[]) rfl (l:=[(0,.gslice 0 a0_.length 1),(1,.i a1_),(2,.func (.func 62) [] [.ptr 1 0,.ptr 2 0,.ptr 3 0])]) rfl ?_
 intro B hB
 refine Goes.subQ ?_
 refine sq ?_
 refine Goes.rg fol [(0,.gslice 0 a0_.length 1),(1,.i a1_),(2,.func (.func 62) [] [.ptr 1 0,.ptr 2 0,.ptr 3 0]),(6,.i 20)] [.cells (a0_.flatMap encI.c),.cells [.i a2_],.cells [vl encI a3_],.cells [.i a4_]] ?_
 refine sq ?_
 refine Goes.rg fol [(0,.gslice 0 a0_.length 1),(1,.i a1_),(2,.func (.func 62) [] [.ptr 1 0,.ptr 2 0,.ptr 3 0]),(6,.i 20),(7,.i 0),(8,.i 20)] [.cells (a0_.flatMap encI.c),.cells [.i a2_],.cells [vl encI a3_],.cells [.i a4_]] ?_
 refine sq ?_
 refine Goes.block ?_
 obtain⟨r7,g7,h⟩:=bnd h
 refine Goes.imp (Q:=fun x s'=>(x= .exit 0∧ ∃l5 a_6,(l5,a_6)=r7∧Sub s' (ofG 63 [(0,.gslice 0 l5.length 1),(1,.i a1_),(2,.func (.func 62) [] [.ptr 1 0,.ptr 2 0,.ptr 3 0]),(6,.i 20),(7,.i a_6)],[.cells (l5.flatMap encI.c),.cells [.i a2_],.cells [vl encI a3_],.cells [.i a4_]]))) ?_ ?_
 ·refine Goes.loopS (fun M s=> ∃(l2:List Int) (a_3:Int) (b_4:Int),s=(ofG 63 [(0,.gslice 0 l2.length 1),(1,.i a1_),(2,.func (.func 62) [] [.ptr 1 0,.ptr 2 0,.ptr 3 0]),(6,.i 20),(7,.i a_3),(8,.i b_4)],[.cells (l2.flatMap encI.c),.cells [.i a2_],.cells [vl encI a3_],.cells [.i a4_]])∧qm N a1_ a2_ a3_ a4_ M l2 a_3 b_4=some r7) ?_ (m:=N) ⟨_,_,_,rfl,g7⟩
  rintro M s ⟨l2,a_3,b_4,rfl,g7⟩
  cases M with
  |zero=>simp only[qm]at g7;cases g7
  |succ M=>
   rw[qm]at g7
   refine sq ?_
   refine sq ?_
   refine Goes.rg fol [(0,.gslice 0 l2.length 1),(1,.i a1_),(2,.func (.func 62) [] [.ptr 1 0,.ptr 2 0,.ptr 3 0]),(6,.i 20),(7,.i a_3),(8,.i b_4),(13,.bool (decide (b_4≤a1_)))] [.cells (l2.flatMap encI.c),.cells [.i a2_],.cells [vl encI a3_],.cells [.i a4_]] ?_
   refine Goes.ifB (b:=decide (b_4≤a1_)) (by kernel_rfl) (fun c8=>?_) (fun c8=>?_)
   ·rw[if_pos (ot c8)]at g7
    refine Goes.skip ?_
    refine Goes.block ?_
    refine sq ?_
    obtain⟨l10,e_r9,g7⟩:=bnd g7
    obtain⟨u11,e_u11,g7⟩:=bnd g7
    refine Goes.ro fol [(4,(.callH [0,1,2,3] (.tuple []) [.cells (l10.flatMap encI.c),.cells [.i a2_],.cells [vl encI a3_],.cells [.i a4_]]))] [(0,.gslice 0 l2.length 1),(1,.i a1_),(2,.func (.func 62) [] [.ptr 1 0,.ptr 2 0,.ptr 3 0]),(6,.i 20),(8,.i b_4)] [.cells (l10.flatMap encI.c),.cells [.i a2_],.cells [vl encI a3_],.cells [.i a4_]] [.callH 167 [.gslice 0 l2.length 1,.i a_3,.i b_4,.func (.func 62) [] [.ptr 1 0,.ptr 2 0,.ptr 3 0]] [.cells (l2.flatMap encI.c),.cells [.i a2_],.cells [vl encI a3_],.cells [.i a4_]] [0,1,2,3] (.tuple []) [.cells (l10.flatMap encI.c),.cells [.i a2_],.cells [vl encI a3_],.cells [.i a4_]]] (And.intro (xD [some 0,some 1,some 2,some 3] [some 0,some 1,some 2,some 3] (kZ N l2 a_3 b_4 a2_ a3_ a4_ e_r9) (.keep rfl (.same fa) rfl rfl (.keep rfl (.cells (qh.cons (.same (qc.int _ _)) qh.nil)) rfl rfl (.keep rfl (.cells (qh.cons (.same (qM encI _)) qh.nil)) rfl rfl (.keep rfl (.cells (qh.cons (.same (qc.int _ _)) qh.nil)) rfl rfl .nil)))) rfl rfl (.back rfl rfl (.same fa) rfl (.back rfl rfl (.cells (qh.cons (.same (qc.int _ _)) qh.nil)) rfl (.back rfl rfl (.cells (qh.cons (.same (qM encI _)) qh.nil)) rfl (.back rfl rfl (.cells (qh.cons (.same (qc.int _ _)) qh.nil)) rfl .nil)))) (qh.cons (.gslice rfl) (qh.cons (.same (qc.int _ _)) (qh.cons (.same (qc.int _ _)) (qh.cons (.funcL (qY.nil) (qh.cons (.ptr rfl) (qh.cons (.ptr rfl) (qh.cons (.ptr rfl) qh.nil)))) qh.nil)))) (.same (qc.tuple qY.nil)) rfl) trivial) ?_
    refine Goes.sub (show Sub (ofG 63 [(0,.gslice 0 l2.length 1),(1,.i a1_),(2,.func (.func 62) [] [.ptr 1 0,.ptr 2 0,.ptr 3 0]),(6,.i 20),(8,.i b_4)],[.cells (l10.flatMap encI.c),.cells [.i a2_],.cells [vl encI a3_],.cells [.i a4_]]) (ofG 63 [(0,.gslice 0 l10.length 1),(1,.i a1_),(2,.func (.func 62) [] [.ptr 1 0,.ptr 2 0,.ptr 3 0]),(6,.i 20),(8,.i b_4)],[.cells (l10.flatMap encI.c),.cells [.i a2_],.cells [vl encI a3_],.cells [.i a4_]])from(Sub.norm [] [some 0,some 1,some 2,some 3] (by rw[hB];rfl) rfl (.keep (.gsliceE rfl (qbj e_u11)) (.keep (.same (qc.int _ _)) (.keep (.funcL (qY.nil) (qh.cons (.ptr rfl) (qh.cons (.ptr rfl) (qh.cons (.ptr rfl) qh.nil)))) (.keep (.same (qc.int _ _)) (.keep (.same (qc.int _ _)) .nil))))) (.keep rfl (.same fa) rfl rfl (.keep rfl (.same (qY.cons (qc.int _ _) qY.nil)) rfl rfl (.keep rfl (.same (qY.cons (qM encI _) qY.nil)) rfl rfl (.keep rfl (.same (qY.cons (qc.int _ _) qY.nil)) rfl rfl .nil)))))) ?_
    refine sq ?_
    refine Goes.rg fol [(0,.gslice 0 l10.length 1),(1,.i a1_),(2,.func (.func 62) [] [.ptr 1 0,.ptr 2 0,.ptr 3 0]),(6,.i 20),(7,.i b_4),(8,.i b_4)] [.cells (l10.flatMap encI.c),.cells [.i a2_],.cells [vl encI a3_],.cells [.i a4_]] ?_
    refine Goes.rg fol [(0,.gslice 0 l10.length 1),(1,.i a1_),(2,.func (.func 62) [] [.ptr 1 0,.ptr 2 0,.ptr 3 0]),(6,.i 20),(7,.i b_4),(8,.i (w64 (b_4+20)))] [.cells (l10.flatMap encI.c),.cells [.i a2_],.cells [vl encI a3_],.cells [.i a4_]] ?_
    exact⟨M,(ofG 63 [(0,.gslice 0 l10.length 1),(1,.i a1_),(2,.func (.func 62) [] [.ptr 1 0,.ptr 2 0,.ptr 3 0]),(6,.i 20),(7,.i b_4),(8,.i (w64 (b_4+20)))],[.cells (l10.flatMap encI.c),.cells [.i a2_],.cells [vl encI a3_],.cells [.i a4_]]),Nat.lt_succ_self _,(Sub.refl _),_,_,_,rfl,g7⟩
   ·rw[if_neg (of_ c8)]at g7
    refine Goes.exit ?_
    obtain rfl:=Option.some.inj g7
    exact⟨rfl,_,_,rfl,(Sub.keep [0,1,2,6,7] rfl rfl)⟩
 rintro x s' ⟨rfl,l5,a_6,rfl,hsub⟩
 try dsimp only at h
 refine Goes.sub hsub ?_
 refine sq ?_
 obtain⟨l13,e_r12,h⟩:=bnd h
 obtain⟨u14,e_u14,h⟩:=bnd h
 refine Goes.ro fol [(4,(.callH [0,1,2,3] (.tuple []) [.cells (l13.flatMap encI.c),.cells [.i a2_],.cells [vl encI a3_],.cells [.i a4_]]))] [(0,.gslice 0 l5.length 1),(1,.i a1_),(2,.func (.func 62) [] [.ptr 1 0,.ptr 2 0,.ptr 3 0]),(6,.i 20)] [.cells (l13.flatMap encI.c),.cells [.i a2_],.cells [vl encI a3_],.cells [.i a4_]] [.callH 167 [.gslice 0 l5.length 1,.i a_6,.i a1_,.func (.func 62) [] [.ptr 1 0,.ptr 2 0,.ptr 3 0]] [.cells (l5.flatMap encI.c),.cells [.i a2_],.cells [vl encI a3_],.cells [.i a4_]] [0,1,2,3] (.tuple []) [.cells (l13.flatMap encI.c),.cells [.i a2_],.cells [vl encI a3_],.cells [.i a4_]]] (And.intro (xD [some 0,some 1,some 2,some 3] [some 0,some 1,some 2,some 3] (kZ N l5 a_6 a1_ a2_ a3_ a4_ e_r12) (.keep rfl (.same fa) rfl rfl (.keep rfl (.cells (qh.cons (.same (qc.int _ _)) qh.nil)) rfl rfl (.keep rfl (.cells (qh.cons (.same (qM encI _)) qh.nil)) rfl rfl (.keep rfl (.cells (qh.cons (.same (qc.int _ _)) qh.nil)) rfl rfl .nil)))) rfl rfl (.back rfl rfl (.same fa) rfl (.back rfl rfl (.cells (qh.cons (.same (qc.int _ _)) qh.nil)) rfl (.back rfl rfl (.cells (qh.cons (.same (qM encI _)) qh.nil)) rfl (.back rfl rfl (.cells (qh.cons (.same (qc.int _ _)) qh.nil)) rfl .nil)))) (qh.cons (.gslice rfl) (qh.cons (.same (qc.int _ _)) (qh.cons (.same (qc.int _ _)) (qh.cons (.funcL (qY.nil) (qh.cons (.ptr rfl) (qh.cons (.ptr rfl) (qh.cons (.ptr rfl) qh.nil)))) qh.nil)))) (.same (qc.tuple qY.nil)) rfl) trivial) ?_
 refine Goes.sub (show Sub (ofG 63 [(0,.gslice 0 l5.length 1),(1,.i a1_),(2,.func (.func 62) [] [.ptr 1 0,.ptr 2 0,.ptr 3 0]),(6,.i 20)],[.cells (l13.flatMap encI.c),.cells [.i a2_],.cells [vl encI a3_],.cells [.i a4_]]) (ofG 63 [(0,.gslice 0 l13.length 1),(1,.i a1_),(2,.func (.func 62) [] [.ptr 1 0,.ptr 2 0,.ptr 3 0]),(6,.i 20)],[.cells (l13.flatMap encI.c),.cells [.i a2_],.cells [vl encI a3_],.cells [.i a4_]])from(Sub.norm [] [some 0,some 1,some 2,some 3] (by rw[hB];rfl) rfl (.keep (.gsliceE rfl (qbj e_u14)) (.keep (.same (qc.int _ _)) (.keep (.funcL (qY.nil) (qh.cons (.ptr rfl) (qh.cons (.ptr rfl) (qh.cons (.ptr rfl) qh.nil)))) (.keep (.same (qc.int _ _)) .nil)))) (.keep rfl (.same fa) rfl rfl (.keep rfl (.same (qY.cons (qc.int _ _) qY.nil)) rfl rfl (.keep rfl (.same (qY.cons (qM encI _) qY.nil)) rfl rfl (.keep rfl (.same (qY.cons (qc.int _ _) qY.nil)) rfl rfl .nil)))))) ?_
 refine Goes.block ?_
 obtain⟨r16,g16,h⟩:=bnd h
 refine Goes.imp (Q:=fun x s'=>(x= .exit 2∧()=r16∧Sub s' (ofG 63 [],[.cells (l13.flatMap encI.c),.cells [.i a2_],.cells [vl encI a3_],.cells [.i a4_]]))) ?_ ?_
 ·refine Goes.loopS (fun M s=> ∃(blockSize_15:Int),s=(ofG 63 [(0,.gslice 0 l13.length 1),(1,.i a1_),(2,.func (.func 62) [] [.ptr 1 0,.ptr 2 0,.ptr 3 0]),(6,.i blockSize_15)],[.cells (l13.flatMap encI.c),.cells [.i a2_],.cells [vl encI a3_],.cells [.i a4_]])∧ql N a1_ M blockSize_15=some r16) ?_ (m:=N) ⟨_,rfl,g16⟩
  rintro M s ⟨blockSize_15,rfl,g16⟩
  cases M with
  |zero=>simp only[ql]at g16;cases g16
  |succ M=>
   rw[ql]at g16
   refine sq ?_
   refine sq ?_
   refine Goes.rg fol [(0,.gslice 0 l13.length 1),(1,.i a1_),(2,.func (.func 62) [] [.ptr 1 0,.ptr 2 0,.ptr 3 0]),(6,.i blockSize_15),(30,.bool (decide (blockSize_15<a1_)))] [.cells (l13.flatMap encI.c),.cells [.i a2_],.cells [vl encI a3_],.cells [.i a4_]] ?_
   refine Goes.ifB (b:=decide (blockSize_15<a1_)) (by kernel_rfl) (fun c17=>?_) (fun c17=>?_)
   ·rw[if_pos (ot c17)]at g16
    refine Goes.skip ?_
    refine Goes.block ?_
    refine sq ?_
    refine Goes.rg fol [(0,.gslice 0 l13.length 1),(1,.i a1_),(2,.func (.func 62) [] [.ptr 1 0,.ptr 2 0,.ptr 3 0]),(6,.i blockSize_15),(7,.i 0),(8,.i (w64 (2*blockSize_15)))] [.cells (l13.flatMap encI.c),.cells [.i a2_],.cells [vl encI a3_],.cells [.i a4_]] ?_
    refine sq ?_
    refine Goes.block ?_
    obtain⟨r18,g18,g16⟩:=bnd g16
    refine Goes.imp (Q:=fun x s'=>(x= .exit 4∧()=r18∧Sub s' (ofG 63 [(0,.gslice 0 l13.length 1),(1,.i a1_),(2,.func (.func 62) [] [.ptr 1 0,.ptr 2 0,.ptr 3 0]),(6,.i blockSize_15),(7,.i 0)],[.cells (l13.flatMap encI.c),.cells [.i a2_],.cells [vl encI a3_],.cells [.i a4_]]))) ?_ ?_
    ·refine Goes.loopS (fun M s=>s=(ofG 63 [(0,.gslice 0 l13.length 1),(1,.i a1_),(2,.func (.func 62) [] [.ptr 1 0,.ptr 2 0,.ptr 3 0]),(6,.i blockSize_15),(7,.i 0),(8,.i (w64 (2*blockSize_15)))],[.cells (l13.flatMap encI.c),.cells [.i a2_],.cells [vl encI a3_],.cells [.i a4_]])∧kg a1_ blockSize_15 M=some r18) ?_ (m:=N) ⟨rfl,g18⟩
     rintro M s ⟨rfl,g18⟩
     cases M with
     |zero=>simp only[kg]at g18;cases g18
     |succ M=>
      rw[kg]at g18
      refine sq ?_
      refine sq ?_
      refine Goes.rg fol [(0,.gslice 0 l13.length 1),(1,.i a1_),(2,.func (.func 62) [] [.ptr 1 0,.ptr 2 0,.ptr 3 0]),(6,.i blockSize_15),(7,.i 0),(8,.i (w64 (2*blockSize_15))),(35,.bool (decide ((w64 (2*blockSize_15))≤a1_)))] [.cells (l13.flatMap encI.c),.cells [.i a2_],.cells [vl encI a3_],.cells [.i a4_]] ?_
      refine Goes.ifB (b:=decide ((w64 (2*blockSize_15))≤a1_)) (by kernel_rfl) (fun c19=>?_) (fun c19=>?_)
      ·rw[if_pos (ot c19)]at g18
       cases g18
      ·rw[if_neg (of_ c19)]at g18
       refine Goes.exit ?_
       obtain rfl:=Option.some.inj g18
       exact⟨rfl,rfl,(Sub.keep [0,1,2,6,7] rfl rfl)⟩
    rintro x s' ⟨rfl,rfl,hsub⟩
    refine Goes.sub hsub ?_
    refine sq ?_
    refine sq ?_
    refine Goes.rg fol [(0,.gslice 0 l13.length 1),(1,.i a1_),(2,.func (.func 62) [] [.ptr 1 0,.ptr 2 0,.ptr 3 0]),(6,.i blockSize_15),(7,.i 0),(9,.i (w64 (0+blockSize_15)))] [.cells (l13.flatMap encI.c),.cells [.i a2_],.cells [vl encI a3_],.cells [.i a4_]] ?_
    refine sq ?_
    refine Goes.rg fol [(0,.gslice 0 l13.length 1),(1,.i a1_),(2,.func (.func 62) [] [.ptr 1 0,.ptr 2 0,.ptr 3 0]),(6,.i blockSize_15),(7,.i 0),(9,.i (w64 (0+blockSize_15))),(54,.bool (decide ((w64 (0+blockSize_15))<a1_)))] [.cells (l13.flatMap encI.c),.cells [.i a2_],.cells [vl encI a3_],.cells [.i a4_]] ?_
    obtain⟨r20,g20,g16⟩:=bnd g16
    refine Goes.imp (Q:=fun x s'=>(x= .normal∧()=r20∧Sub s' (ofG 63 [(0,.gslice 0 l13.length 1),(1,.i a1_),(2,.func (.func 62) [] [.ptr 1 0,.ptr 2 0,.ptr 3 0]),(6,.i blockSize_15)],[.cells (l13.flatMap encI.c),.cells [.i a2_],.cells [vl encI a3_],.cells [.i a4_]]))) ?_ ?_
    ·refine Goes.ifB (b:=decide ((w64 (0+blockSize_15))<a1_)) (by kernel_rfl) (fun c21=>?_) (fun c21=>?_)
     ·rw[if_pos (ot c21)]at g20
      cases g20
     ·rw[if_neg (of_ c21)]at g20
      refine Goes.skip ?_
      obtain rfl:=Option.some.inj g20
      exact⟨rfl,rfl,(Sub.keep [0,1,2,6] rfl rfl)⟩
    rintro x s' ⟨rfl,rfl,hsub⟩
    refine Goes.sub hsub ?_
    refine Goes.rg fol [(0,.gslice 0 l13.length 1),(1,.i a1_),(2,.func (.func 62) [] [.ptr 1 0,.ptr 2 0,.ptr 3 0]),(6,.i (w64 (blockSize_15*2)))] [.cells (l13.flatMap encI.c),.cells [.i a2_],.cells [vl encI a3_],.cells [.i a4_]] ?_
    exact⟨M,(ofG 63 [(0,.gslice 0 l13.length 1),(1,.i a1_),(2,.func (.func 62) [] [.ptr 1 0,.ptr 2 0,.ptr 3 0]),(6,.i (w64 (blockSize_15*2)))],[.cells (l13.flatMap encI.c),.cells [.i a2_],.cells [vl encI a3_],.cells [.i a4_]]),Nat.lt_succ_self _,(Sub.refl _),_,rfl,g16⟩
   ·rw[if_neg (of_ c17)]at g16
    refine Goes.exit ?_
    obtain rfl:=Option.some.inj g16
    exact⟨rfl,rfl,(Sub.keep [] rfl rfl)⟩
 rintro x s' ⟨rfl,rfl,hsub⟩
 obtain rfl:=Option.some.inj h
 exact⟨_,hsub,(Goes.retH (xs:=[]) (by kernel_rfl) (xS.refl _ _))⟩
def qN (N:Nat) (a0_:List Int) (a1_:Int) (a2_:List Int) (a3_:Int):Option (List Int):=
 (kH N a0_ (a0_.length:Int) a1_ a2_ a3_).bind fun l3=>
 ((if a0_.length=l3.length then some ()else none:Option Unit)).bind fun u4=>
 some l3
theorem jg (N:Nat) (a0_:List Int) (a1_:Int) (a2_:List Int) (a3_:Int) {l1:List Int} (h:qN N a0_ a1_ a2_ a3_=some l1):qg Tryz.prog (.fn 61) [.gslice 0 a0_.length 1,.func (.func 62) [] [.ptr 1 0,.ptr 2 0,.ptr 3 0]] [.cells (a0_.flatMap encI.c),.cells [.i a1_],.cells [vl encI a2_],.cells [.i a3_]] (.tuple []) [.cells (l1.flatMap encI.c),.cells [.i a1_],.cells [vl encI a2_],.cells [.i a3_]]:=by
 unfold qN at h
 refine Goes.fnH Tryz.func61 rfl rfl (m:=9) rfl (rs:=[]) rfl (l:=[(0,.gslice 0 a0_.length 1),(1,.func (.func 62) [] [.ptr 1 0,.ptr 2 0,.ptr 3 0])]) rfl ?_
 intro B hB
 refine Goes.subQ ?_
 obtain⟨l3,e_r2,h⟩:=bnd h
 obtain⟨u4,e_u4,h⟩:=bnd h
 refine Goes.ro fol [(4,(.callH [0,1,2,3] (.tuple []) [.cells (l3.flatMap encI.c),.cells [.i a1_],.cells [vl encI a2_],.cells [.i a3_]]))] [] [.cells (l3.flatMap encI.c),.cells [.i a1_],.cells [vl encI a2_],.cells [.i a3_]] [.callH 115 [.gslice 0 a0_.length 1,.i (a0_.length:Int),.func (.func 62) [] [.ptr 1 0,.ptr 2 0,.ptr 3 0]] [.cells (a0_.flatMap encI.c),.cells [.i a1_],.cells [vl encI a2_],.cells [.i a3_]] [0,1,2,3] (.tuple []) [.cells (l3.flatMap encI.c),.cells [.i a1_],.cells [vl encI a2_],.cells [.i a3_]]] (And.intro (xD [some 0,some 1,some 2,some 3] [some 0,some 1,some 2,some 3] (jo N a0_ (a0_.length:Int) a1_ a2_ a3_ e_r2) (.keep rfl (.same fa) rfl rfl (.keep rfl (.cells (qh.cons (.same (qc.int _ _)) qh.nil)) rfl rfl (.keep rfl (.cells (qh.cons (.same (qM encI _)) qh.nil)) rfl rfl (.keep rfl (.cells (qh.cons (.same (qc.int _ _)) qh.nil)) rfl rfl .nil)))) rfl rfl (.back rfl rfl (.same fa) rfl (.back rfl rfl (.cells (qh.cons (.same (qc.int _ _)) qh.nil)) rfl (.back rfl rfl (.cells (qh.cons (.same (qM encI _)) qh.nil)) rfl (.back rfl rfl (.cells (qh.cons (.same (qc.int _ _)) qh.nil)) rfl .nil)))) (qh.cons (.gslice rfl) (qh.cons (.same (qc.int _ _)) (qh.cons (.funcL (qY.nil) (qh.cons (.ptr rfl) (qh.cons (.ptr rfl) (qh.cons (.ptr rfl) qh.nil)))) qh.nil))) (.same (qc.tuple qY.nil)) rfl) trivial) ?_
 obtain rfl:=Option.some.inj h
 exact⟨_,(show Sub (ofG 9 [],[.cells (l3.flatMap encI.c),.cells [.i a1_],.cells [vl encI a2_],.cells [.i a3_]]) (ofG 9 [],[.cells (l3.flatMap encI.c),.cells [.i a1_],.cells [vl encI a2_],.cells [.i a3_]])from(Sub.norm [] [some 0,some 1,some 2,some 3] (by rw[hB];rfl) rfl .nil (.keep rfl (.same fa) rfl rfl (.keep rfl (.same (qY.cons (qc.int _ _) qY.nil)) rfl rfl (.keep rfl (.same (qY.cons (qM encI _) qY.nil)) rfl rfl (.keep rfl (.same (qY.cons (qc.int _ _) qY.nil)) rfl rfl .nil)))))),(Goes.retH (xs:=[]) (by kernel_rfl) (xS.refl _ _))⟩
def kF (weights:List Int):Nat→Int→Int→Option Int
 |0,_,_=>none
 |K+1,n13,n14=>
  if n14<(weights.length:Int)then
  (idx weights n14).bind fun x18=>
  kF weights K (w64 (n13+x18)) (w64 (n14+1))
  else
  some n13
def kE (total:Int) (weights:List Int) (n15:Int):Nat→(List Int)→(List Int)→Int→Int→Option ((List Int)×(List Int)×Int)
 |0,_,_,_,_=>none
 |K+1,l19,l20,left_21,n22=>
  if n22<(weights.length:Int)then
  (idx weights n22).bind fun x28=>
  (qdX .i64 (w64 (total*x28)) n15).bind fun q29=>
  (app 8 l19 [q29]).bind fun l30=>
  (app 8 l20 [n22]).bind fun l31=>
  (idx l30 n22).bind fun x32=>
  kE total weights n15 K l30 l31 (w64 (left_21-x32)) (w64 (n22+1))
  else
  some (l19,l20,left_21)
def kG (s36:List Int):Nat→(List Int)→Int→Option (List Int)
 |0,_,_=>none
 |K+1,l37,n38=>
  if n38<(s36.length:Int)then
  (idx s36 n38).bind fun x42=>
  (idx l37 x42).bind fun x43=>
  (put l37 x42 (w64 (x43+1))).bind fun l44=>
  kG s36 K l44 (w64 (n38+1))
  else
  some l37
def zR (N:Nat) (total:Int) (weights:List Int):Option ((List Int)×Int):=
 (if total<0 then
 (zg true 3).bind fun r2=>
 (kN N weights).bind fun r3=>
 (zn N ([r2,r3]:List Int)).bind fun r4=>
 some (r2,r3,r4)
 else
 (zg (decide (total>999999999)) 3).bind fun r5=>
 (kN N weights).bind fun r6=>
 (zn N ([r5,r6]:List Int)).bind fun r7=>
 some (r5,r6,r7):Option (Int×Int×Int)).bind fun(n8,n9,e_10)=>
 if(!decide (e_10=0))=true then
 some ([],e_10)
 else
 (kF weights N 0 0).bind fun n15=>
 (kE total weights n15 N ([]:List Int) ([]:List Int) total 0).bind fun(l23,l24,left_25)=>
 (qN N l24 total weights n15).bind fun l34=>
 ((if l24.length=l34.length then some ()else none:Option Unit)).bind fun u35=>
 (cut l34 0 left_25).bind fun s36=>
 (kG s36 N l23 0).bind fun l39=>
 some (l39,0)
theorem xA (N:Nat) (total:Int) (weights:List Int) {res:(List Int)×Int} (h:zR N total weights=some res):qg Tryz.prog (.fn 18) [.i total,vl encI weights] [] (.tuple [vl encI res.1,.i res.2]) []:=by
 unfold zR at h
 refine Goes.fnW Tryz.func18 rfl rfl (m:=87) rfl (rs:=[.tmp 4,.tmp 5]) rfl (l:=[(0,.i total),(1,vl encI weights)]) rfl ?_
 refine sq ?_
 refine Goes.rg fol [(2,.ptr 0 0),(3,.ptr 1 0)] [.cells [.i total],.cells [vl encI weights]] ?_
 refine sq ?_
 refine sq ?_
 obtain⟨⟨n8,n9,e_10⟩,g_v11,h⟩:=bnd h
 refine Goes.cut (s':=(ofG 87 [(2,.ptr 0 0),(3,.ptr 1 0),(6,.i e_10)],[.cells [.i total],.cells [vl encI weights],.cells [.i n8,.i n9]])) ?_ ?_
 ·rcases Bool.eq_false_or_eq_true (decide (total<0))with c1|c1
  ·rw[if_pos (ot c1)]at g_v11
   obtain⟨r2,e_r2,g_v11⟩:=bnd g_v11
   obtain⟨r3,e_r3,g_v11⟩:=bnd g_v11
   obtain⟨r4,e_r4,g_v11⟩:=bnd g_v11
   simp only[Option.some.injEq,Prod.mk.injEq]at g_v11
   obtain⟨rfl,rfl,rfl⟩:=g_v11
   exact qE.ro fol [(2,(.done (.bool true))),(6,(.call [] [.bool true,.i 3] (.i r2))),(8,(.call [] [vl encI weights] (.i r3))),(10,(.call [2] [vl encI ([r2,r3]:List Int)] (.i r4)))] [(2,.ptr 0 0),(3,.ptr 1 0),(6,.i r4)] [.cells [.i total],.cells [vl encI weights],.cells [.i r2,.i r3]] [.done (.done (.bool (decide (total<0)))) (.bool true),.call 59 [.bool true,.i 3] [.cells [.i total],.cells [vl encI weights]] [] [.bool true,.i 3] (.i r2),.call 60 [vl encI weights] [.cells [.i total],.cells [vl encI weights]] [] [vl encI weights] (.i r3),.call 58 [.slice 2 0 2 2 1] [.cells [.i total],.cells [vl encI weights],.cells [.i r2,.i r3]] [2] [vl encI ([r2,r3]:List Int)] (.i r4)] (And.intro (congrArg (fun x=>Pg.done (.bool x)) c1) (And.intro (qU (AllST.cons (Still.bool 11 _) (AllST.cons (Still.int 11 _ _) AllST.nil)) (zt true 3 e_r2) (Still.int 11 _ _)) (And.intro (qU (AllST.cons (zi encI _ (Nat.le_of_ble_eq_true rfl)) AllST.nil) (jc N weights e_r3) (Still.int 11 _ _)) (And.intro (xC (FzL.cons (Fz.lit rfl rfl (FzL.still (AllST.cons (Still.int 10 _ _) (AllST.cons (Still.int 10 _ _) AllST.nil)))) FzL.nil) (zX N ([r2,r3]:List Int) e_r4) (Still.int 11 _ _) rfl) trivial))))
  ·rw[if_neg (of_ c1)]at g_v11
   obtain⟨r5,e_r5,g_v11⟩:=bnd g_v11
   obtain⟨r6,e_r6,g_v11⟩:=bnd g_v11
   obtain⟨r7,e_r7,g_v11⟩:=bnd g_v11
   simp only[Option.some.injEq,Prod.mk.injEq]at g_v11
   obtain⟨rfl,rfl,rfl⟩:=g_v11
   exact qE.ro fol [(2,(.done (.bool false))),(6,(.call [] [.bool (decide (total>999999999)),.i 3] (.i r5))),(8,(.call [] [vl encI weights] (.i r6))),(10,(.call [2] [vl encI ([r5,r6]:List Int)] (.i r7)))] [(2,.ptr 0 0),(3,.ptr 1 0),(6,.i r7)] [.cells [.i total],.cells [vl encI weights],.cells [.i r5,.i r6]] [.done (.done (.bool (decide (total<0)))) (.bool false),.call 59 [.bool (decide (total>999999999)),.i 3] [.cells [.i total],.cells [vl encI weights]] [] [.bool (decide (total>999999999)),.i 3] (.i r5),.call 60 [vl encI weights] [.cells [.i total],.cells [vl encI weights]] [] [vl encI weights] (.i r6),.call 58 [.slice 2 0 2 2 1] [.cells [.i total],.cells [vl encI weights],.cells [.i r5,.i r6]] [2] [vl encI ([r5,r6]:List Int)] (.i r7)] (And.intro (congrArg (fun x=>Pg.done (.bool x)) c1) (And.intro (qU (AllST.cons (Still.bool 11 _) (AllST.cons (Still.int 11 _ _) AllST.nil)) (zt (decide (total>999999999)) 3 e_r5) (Still.int 11 _ _)) (And.intro (qU (AllST.cons (zi encI _ (Nat.le_of_ble_eq_true rfl)) AllST.nil) (jc N weights e_r6) (Still.int 11 _ _)) (And.intro (xC (FzL.cons (Fz.lit rfl rfl (FzL.still (AllST.cons (Still.int 10 _ _) (AllST.cons (Still.int 10 _ _) AllST.nil)))) FzL.nil) (zX N ([r5,r6]:List Int) e_r7) (Still.int 11 _ _) rfl) trivial))))
 try dsimp only at h
 refine sq ?_
 refine Goes.rg fol [(2,.ptr 0 0),(3,.ptr 1 0),(6,.i e_10),(29,.bool (!decide (e_10=0)))] [.cells [.i total],.cells [vl encI weights],.cells [.i n8,.i n9]] ?_
 refine Goes.ifB (b:=!decide (e_10=0)) (by kernel_rfl) (fun c12=>?_) (fun c12=>?_)
 ·rw[if_pos (c12)]at h
  refine sq ?_
  refine Goes.rg fol [(4,.nilslice),(5,.i e_10)] [.cells [.i total],.cells [vl encI weights],.cells [.i n8,.i n9]] ?_
  refine Goes.ret ?_
  obtain rfl:=Option.some.inj h
  exact(Goes.retW (xs:=[.nilslice,.i e_10]) (by kernel_rfl) (FzW.tuple (j5.cons (FzW.nilv (E:=encI)) (j5.cons (FzW.still (Still.int 10 _ _)) j5.nil))))
 ·rw[if_neg (by rw[c12];exact Bool.false_ne_true)]at h
  refine Goes.skip ?_
  refine sq ?_
  refine Goes.rg fol [(2,.ptr 0 0),(3,.ptr 1 0),(7,.ptr 3 0)] [.cells [.i total],.cells [vl encI weights],.cells [.i n8,.i n9],.cells [.i 0]] ?_
  refine sq ?_
  refine sq ?_
  refine Goes.rg fol [(2,.ptr 0 0),(3,.ptr 1 0),(7,.ptr 3 0),(31,vl encI weights),(32,.i (weights.length:Int)),(33,.i 0)] [.cells [.i total],.cells [vl encI weights],.cells [.i n8,.i n9],.cells [.i 0]] ?_
  refine Goes.block ?_
  obtain⟨r16,g16,h⟩:=bnd h
  refine Goes.imp (Q:=fun x s'=>(x= .exit 0∧ ∃n15,n15=r16∧Sub s' (ofG 87 [(2,.ptr 0 0),(3,.ptr 1 0),(7,.ptr 2 0)],[.cells [.i total],.cells [vl encI weights],.cells [.i n15]]))) ?_ ?_
  ·refine Goes.sub (s':=(ofG 87 [(2,.ptr 0 0),(3,.ptr 1 0),(7,.ptr 2 0),(31,vl encI weights),(32,.i (weights.length:Int)),(33,.i 0)],[.cells [.i total],.cells [vl encI weights],.cells [.i 0]])) (Sub.norm [] [some 0,some 1,some 3] rfl rfl (.keep (.ptr rfl) (.keep (.ptr rfl) (.keep (.ptr rfl) (.keep (.same (qM encI _)) (.keep (.same (qc.int _ _)) (.keep (.same (qc.int _ _)) .nil)))))) (.keep rfl (.same (qY.cons (qc.int _ _) qY.nil)) rfl rfl (.keep rfl (.same (qY.cons (qM encI _) qY.nil)) rfl rfl (.keep rfl (.same (qY.cons (qc.int _ _) qY.nil)) rfl rfl .nil)))) ?_
   refine Goes.loopS (fun M s=> ∃(n13:Int) (n14:Int),s=(ofG 87 [(2,.ptr 0 0),(3,.ptr 1 0),(7,.ptr 2 0),(31,vl encI weights),(32,.i (weights.length:Int)),(33,.i n14)],[.cells [.i total],.cells [vl encI weights],.cells [.i n13]])∧kF weights M n13 n14=some r16) ?_ (m:=N) ⟨_,_,rfl,g16⟩
   rintro M s ⟨n13,n14,rfl,g16⟩
   cases M with
   |zero=>simp only[kF]at g16;cases g16
   |succ M=>
    rw[kF]at g16
    refine sq ?_
    refine Goes.rg fol [(2,.ptr 0 0),(3,.ptr 1 0),(7,.ptr 2 0),(31,vl encI weights),(32,.i (weights.length:Int)),(33,.i n14),(34,.bool (decide (n14<(weights.length:Int))))] [.cells [.i total],.cells [vl encI weights],.cells [.i n13]] ?_
    refine sq ?_
    refine Goes.ifB (b:=decide (n14<(weights.length:Int))) (by kernel_rfl) (fun c17=>?_) (fun c17=>?_)
    ·rw[if_pos (ot c17)]at g16
     refine Goes.skip ?_
     refine sq ?_
     refine Goes.block ?_
     refine sq ?_
     obtain⟨x18,e_x18,g16⟩:=bnd g16
     refine Goes.ro fol [(0,(.done (.fptr (weights.flatMap encI.c) ((n14:Int).toNat*1+0)))),(1,(.done (.i x18)))] [(2,.ptr 0 0),(3,.ptr 1 0),(7,.ptr 2 0),(9,.i x18),(31,vl encI weights),(32,.i (weights.length:Int)),(33,.i n14)] [.cells [.i total],.cells [vl encI weights],.cells [.i n13]] [.done (.opt (qb Tryz.prog 22 (vl encI weights) (.i n14))) (.fptr (weights.flatMap encI.c) ((n14:Int).toNat*1+0)),.done (qB Tryz.prog 3 (.fptr (weights.flatMap encI.c) ((n14:Int).toNat*1+0))) (.i x18)] (And.intro (ky kR (E:=encI) rfl e_x18) (And.intro (kw ce3 (E:=encI) rfl e_x18 (Nat.le_of_ble_eq_true rfl) rfl) trivial)) ?_
     refine Goes.rg fol [(2,.ptr 0 0),(3,.ptr 1 0),(7,.ptr 2 0),(31,vl encI weights),(32,.i (weights.length:Int)),(33,.i n14)] [.cells [.i total],.cells [vl encI weights],.cells [.i (w64 (n13+x18))]] ?_
     refine Goes.rg fol [(2,.ptr 0 0),(3,.ptr 1 0),(7,.ptr 2 0),(31,vl encI weights),(32,.i (weights.length:Int)),(33,.i (w64 (n14+1)))] [.cells [.i total],.cells [vl encI weights],.cells [.i (w64 (n13+x18))]] ?_
     exact⟨M,(ofG 87 [(2,.ptr 0 0),(3,.ptr 1 0),(7,.ptr 2 0),(31,vl encI weights),(32,.i (weights.length:Int)),(33,.i (w64 (n14+1)))],[.cells [.i total],.cells [vl encI weights],.cells [.i (w64 (n13+x18))]]),Nat.lt_succ_self _,(Sub.refl _),_,_,rfl,g16⟩
    ·rw[if_neg (of_ c17)]at g16
     refine Goes.exit ?_
     obtain rfl:=Option.some.inj g16
     exact⟨rfl,_,rfl,(Sub.keep [2,3,7] rfl rfl)⟩
  rintro x s' ⟨rfl,n15,rfl,hsub⟩
  refine Goes.sub hsub ?_
  refine sq ?_
  refine Goes.rg fol [(2,.ptr 0 0),(3,.ptr 1 0),(7,.ptr 2 0),(10,.i total)] [.cells [.i total],.cells [vl encI weights],.cells [.i n15]] ?_
  refine sq ?_
  refine Goes.rg fol [(2,.ptr 0 0),(3,.ptr 1 0),(7,.ptr 2 0),(10,.i total),(11,.nilslice),(12,.nilslice)] [.cells [.i total],.cells [vl encI weights],.cells [.i n15]] ?_
  refine sq ?_
  refine sq ?_
  refine Goes.rg fol [(2,.ptr 0 0),(3,.ptr 1 0),(7,.ptr 2 0),(10,.i total),(11,.nilslice),(12,.nilslice),(42,vl encI weights),(43,.i (weights.length:Int)),(44,.i 0)] [.cells [.i total],.cells [vl encI weights],.cells [.i n15]] ?_
  refine Goes.block ?_
  obtain⟨r26,g26,h⟩:=bnd h
  refine Goes.imp (Q:=fun x s'=>(x= .exit 2∧ ∃l23 l24 left_25,(l23,l24,left_25)=r26∧Sub s' (ofG 87 [(2,.ptr 0 0),(3,.ptr 1 0),(7,.ptr 2 0),(10,.i left_25),(11,.gslice 3 l23.length 1),(12,.gslice 4 l24.length 1)],[.cells [.i total],.cells [vl encI weights],.cells [.i n15],.cells (l23.flatMap encI.c),.cells (l24.flatMap encI.c)]))) ?_ ?_
  ·refine Goes.sub (s':=(ofG 87 [(2,.ptr 0 0),(3,.ptr 1 0),(7,.ptr 2 0),(10,.i total),(11,.gslice 3 ([]:List Int).length 1),(12,.gslice 4 ([]:List Int).length 1),(42,vl encI weights),(43,.i (weights.length:Int)),(44,.i 0)],[.cells [.i total],.cells [vl encI weights],.cells [.i n15],.cells (([]:List Int).flatMap encI.c),.cells (([]:List Int).flatMap encI.c)])) (Sub.norm [] [some 0,some 1,some 2,none,none] rfl rfl (.keep (.ptr rfl) (.keep (.ptr rfl) (.keep (.ptr rfl) (.keep (.same (qc.int _ _)) (.keep .nil (.keep .nil (.keep (.same (qM encI _)) (.keep (.same (qc.int _ _)) (.keep (.same (qc.int _ _)) .nil))))))))) (.keep rfl (.same (qY.cons (qc.int _ _) qY.nil)) rfl rfl (.keep rfl (.same (qY.cons (qM encI _) qY.nil)) rfl rfl (.keep rfl (.same (qY.cons (qc.int _ _) qY.nil)) rfl rfl (.fresh (.fresh .nil)))))) ?_
   refine Goes.loopS (fun M s=> ∃(l19:List Int) (l20:List Int) (left_21:Int) (n22:Int),s=(ofG 87 [(2,.ptr 0 0),(3,.ptr 1 0),(7,.ptr 2 0),(10,.i left_21),(11,.gslice 3 l19.length 1),(12,.gslice 4 l20.length 1),(42,vl encI weights),(43,.i (weights.length:Int)),(44,.i n22)],[.cells [.i total],.cells [vl encI weights],.cells [.i n15],.cells (l19.flatMap encI.c),.cells (l20.flatMap encI.c)])∧kE total weights n15 M l19 l20 left_21 n22=some r26) ?_ (m:=N) ⟨_,_,_,_,rfl,g26⟩
   rintro M s ⟨l19,l20,left_21,n22,rfl,g26⟩
   cases M with
   |zero=>simp only[kE]at g26;cases g26
   |succ M=>
    rw[kE]at g26
    refine sq ?_
    refine Goes.rg fol [(2,.ptr 0 0),(3,.ptr 1 0),(7,.ptr 2 0),(10,.i left_21),(11,.gslice 3 l19.length 1),(12,.gslice 4 l20.length 1),(42,vl encI weights),(43,.i (weights.length:Int)),(44,.i n22),(45,.bool (decide (n22<(weights.length:Int))))] [.cells [.i total],.cells [vl encI weights],.cells [.i n15],.cells (l19.flatMap encI.c),.cells (l20.flatMap encI.c)] ?_
    refine sq ?_
    refine Goes.ifB (b:=decide (n22<(weights.length:Int))) (by kernel_rfl) (fun c27=>?_) (fun c27=>?_)
    ·rw[if_pos (ot c27)]at g26
     refine Goes.skip ?_
     refine sq ?_
     refine Goes.block ?_
     refine sq ?_
     obtain⟨x28,e_x28,g26⟩:=bnd g26
     refine Goes.ro fol [(1,(.done (.fptr (weights.flatMap encI.c) ((n22:Int).toNat*1+0)))),(2,(.done (.i x28)))] [(2,.ptr 0 0),(3,.ptr 1 0),(7,.ptr 2 0),(10,.i left_21),(11,.gslice 3 l19.length 1),(12,.gslice 4 l20.length 1),(13,.i n22),(14,.i x28),(42,vl encI weights),(43,.i (weights.length:Int)),(44,.i n22)] [.cells [.i total],.cells [vl encI weights],.cells [.i n15],.cells (l19.flatMap encI.c),.cells (l20.flatMap encI.c)] [.done (.opt (qb Tryz.prog 22 (vl encI weights) (.i n22))) (.fptr (weights.flatMap encI.c) ((n22:Int).toNat*1+0)),.done (qB Tryz.prog 3 (.fptr (weights.flatMap encI.c) ((n22:Int).toNat*1+0))) (.i x28)] (And.intro (ky kR (E:=encI) rfl e_x28) (And.intro (kw ce3 (E:=encI) rfl e_x28 (Nat.le_of_ble_eq_true rfl) rfl) trivial)) ?_
     refine sq ?_
     obtain⟨q29,e_q29,g26⟩:=bnd g26
     obtain⟨l30,e_l30,g26⟩:=bnd g26
     refine Goes.ro fol [(5,(.done (.i q29))),(7,(.run (.gslice 6 l30.length 1) [.cells [.i total],.cells [vl encI weights],.cells [.i n15],.dead,.cells (l20.flatMap encI.c),.cells [.i q29],.cells (l30.flatMap encI.c)] true))] [(2,.ptr 0 0),(3,.ptr 1 0),(7,.ptr 2 0),(10,.i left_21),(11,.gslice 6 l30.length 1),(12,.gslice 4 l20.length 1),(13,.i n22),(42,vl encI weights),(43,.i (weights.length:Int)),(44,.i n22)] [.cells [.i total],.cells [vl encI weights],.cells [.i n15],.dead,.cells (l20.flatMap encI.c),.cells [.i q29],.cells (l30.flatMap encI.c)] [.done (.opt (vS Tryz.prog .quo 3 (.tmp 52) (.tmp 53) (.i (w64 (total*x28))) (.i n15))) (.i q29),.run [3,5] (jD Tryz.prog [22,22] (.gslice 3 l19.length 1) (.slice 5 0 1 1 1)) [.cells [.i total],.cells [vl encI weights],.cells [.i n15],.cells (l19.flatMap encI.c),.cells (l20.flatMap encI.c),.cells [.i q29]] (.gslice 6 l30.length 1) [.cells [.i total],.cells [vl encI weights],.cells [.i n15],.dead,.cells (l20.flatMap encI.c),.cells [.i q29],.cells (l30.flatMap encI.c)] true] (And.intro (qfp e_q29) (And.intro (qbk kR (E:=encI) rfl (qdM (E:=encI) (ys:=[q29]) rfl rfl rfl rfl) (qeT (E:=encI) (l:=l19) rfl rfl rfl e_l30 rfl)) trivial)) ?_
     refine sq ?_
     obtain⟨l31,e_l31,g26⟩:=bnd g26
     refine Goes.ro fol [(3,(.run (.gslice 8 l31.length 1) [.cells [.i total],.cells [vl encI weights],.cells [.i n15],.dead,.dead,.cells [.i q29],.cells (l30.flatMap encI.c),.cells [.i n22],.cells (l31.flatMap encI.c)] true))] [(2,.ptr 0 0),(3,.ptr 1 0),(7,.ptr 2 0),(10,.i left_21),(11,.gslice 6 l30.length 1),(12,.gslice 8 l31.length 1),(13,.i n22),(42,vl encI weights),(43,.i (weights.length:Int)),(44,.i n22)] [.cells [.i total],.cells [vl encI weights],.cells [.i n15],.dead,.dead,.cells [.i q29],.cells (l30.flatMap encI.c),.cells [.i n22],.cells (l31.flatMap encI.c)] [.run [4,7] (jD Tryz.prog [22,22] (.gslice 4 l20.length 1) (.slice 7 0 1 1 1)) [.cells [.i total],.cells [vl encI weights],.cells [.i n15],.dead,.cells (l20.flatMap encI.c),.cells [.i q29],.cells (l30.flatMap encI.c),.cells [.i n22]] (.gslice 8 l31.length 1) [.cells [.i total],.cells [vl encI weights],.cells [.i n15],.dead,.dead,.cells [.i q29],.cells (l30.flatMap encI.c),.cells [.i n22],.cells (l31.flatMap encI.c)] true] (And.intro (qbk kR (E:=encI) rfl (qdM (E:=encI) (ys:=[n22]) rfl rfl rfl rfl) (qeT (E:=encI) (l:=l20) rfl rfl rfl e_l31 rfl)) trivial) ?_
     obtain⟨x32,e_x32,g26⟩:=bnd g26
     refine Goes.ro fol [(3,(.done (.ptr 6 ((n22:Int).toNat*1+0)))),(4,(.run (.i x32) [.cells [.i total],.cells [vl encI weights],.cells [.i n15],.dead,.dead,.cells [.i q29],.cells (l30.flatMap encI.c),.cells [.i n22],.cells (l31.flatMap encI.c)] false))] [(2,.ptr 0 0),(3,.ptr 1 0),(7,.ptr 2 0),(10,.i (w64 (left_21-x32))),(11,.gslice 6 l30.length 1),(12,.gslice 8 l31.length 1),(42,vl encI weights),(43,.i (weights.length:Int)),(44,.i n22)] [.cells [.i total],.cells [vl encI weights],.cells [.i n15],.dead,.dead,.cells [.i q29],.cells (l30.flatMap encI.c),.cells [.i n22],.cells (l31.flatMap encI.c)] [.done (.opt (qb Tryz.prog 22 (.gslice 6 l30.length 1) (.i n22))) (.ptr 6 ((n22:Int).toNat*1+0)),.run [6] (qB Tryz.prog 3 (.ptr 6 ((n22:Int).toNat*1+0))) [.cells [.i total],.cells [vl encI weights],.cells [.i n15],.dead,.dead,.cells [.i q29],.cells (l30.flatMap encI.c),.cells [.i n22],.cells (l31.flatMap encI.c)] (.i x32) [.cells [.i total],.cells [vl encI weights],.cells [.i n15],.dead,.dead,.cells [.i q29],.cells (l30.flatMap encI.c),.cells [.i n22],.cells (l31.flatMap encI.c)] false] (And.intro (yV kR e_x32) (And.intro (qdv ce3 (E:=encI) (l:=l30) rfl rfl e_x32 (Nat.le_of_ble_eq_true rfl) rfl) trivial)) ?_
     refine Goes.rg fol [(2,.ptr 0 0),(3,.ptr 1 0),(7,.ptr 2 0),(10,.i (w64 (left_21-x32))),(11,.gslice 6 l30.length 1),(12,.gslice 8 l31.length 1),(42,vl encI weights),(43,.i (weights.length:Int)),(44,.i (w64 (n22+1)))] [.cells [.i total],.cells [vl encI weights],.cells [.i n15],.dead,.dead,.cells [.i q29],.cells (l30.flatMap encI.c),.cells [.i n22],.cells (l31.flatMap encI.c)] ?_
     exact⟨M,(ofG 87 [(2,.ptr 0 0),(3,.ptr 1 0),(7,.ptr 2 0),(10,.i (w64 (left_21-x32))),(11,.gslice 3 l30.length 1),(12,.gslice 4 l31.length 1),(42,vl encI weights),(43,.i (weights.length:Int)),(44,.i (w64 (n22+1)))],[.cells [.i total],.cells [vl encI weights],.cells [.i n15],.cells (l30.flatMap encI.c),.cells (l31.flatMap encI.c)]),Nat.lt_succ_self _,(Sub.norm [] [some 0,some 1,some 2,some 6,some 8] rfl rfl (.keep (.ptr rfl) (.keep (.ptr rfl) (.keep (.ptr rfl) (.keep (.same (qc.int _ _)) (.keep (.gslice rfl) (.keep (.gslice rfl) (.keep (.same (qM encI _)) (.keep (.same (qc.int _ _)) (.keep (.same (qc.int _ _)) .nil))))))))) (.keep rfl (.same (qY.cons (qc.int _ _) qY.nil)) rfl rfl (.keep rfl (.same (qY.cons (qM encI _) qY.nil)) rfl rfl (.keep rfl (.same (qY.cons (qc.int _ _) qY.nil)) rfl rfl (.keep rfl (.same fa) rfl rfl (.keep rfl (.same fa) rfl rfl .nil)))))),_,_,_,_,rfl,g26⟩
    ·rw[if_neg (of_ c27)]at g26
     refine Goes.exit ?_
     obtain rfl:=Option.some.inj g26
     exact⟨rfl,_,_,_,rfl,(Sub.keep [2,3,7,10,11,12] rfl rfl)⟩
  rintro x s' ⟨rfl,l23,l24,left_25,rfl,hsub⟩
  try dsimp only at h
  refine Goes.sub hsub ?_
  refine sq ?_
  obtain⟨l34,e_r33,h⟩:=bnd h
  obtain⟨u35,e_u35,h⟩:=bnd h
  refine Goes.ro fol [(2,(.callH [4,0,1,2] (.tuple []) [.cells [.i total],.cells [vl encI weights],.cells [.i n15],.cells (l23.flatMap encI.c),.cells (l34.flatMap encI.c)]))] [(10,.i left_25),(11,.gslice 3 l23.length 1),(12,.gslice 4 l24.length 1)] [.cells [.i total],.cells [vl encI weights],.cells [.i n15],.cells (l23.flatMap encI.c),.cells (l34.flatMap encI.c)] [.callH 61 [.gslice 4 l24.length 1,.func (.func 62) [] [.ptr 0 0,.ptr 1 0,.ptr 2 0]] [.cells [.i total],.cells [vl encI weights],.cells [.i n15],.cells (l23.flatMap encI.c),.cells (l24.flatMap encI.c)] [4,0,1,2] (.tuple []) [.cells [.i total],.cells [vl encI weights],.cells [.i n15],.cells (l23.flatMap encI.c),.cells (l34.flatMap encI.c)]] (And.intro (xD [some 4,some 0,some 1,some 2] [some 1,some 2,some 3,none,some 0] (jg N l24 total weights n15 e_r33) (.keep rfl (.same fa) rfl rfl (.keep rfl (.cells (qh.cons (.same (qc.int _ _)) qh.nil)) rfl rfl (.keep rfl (.cells (qh.cons (.same (qM encI _)) qh.nil)) rfl rfl (.keep rfl (.cells (qh.cons (.same (qc.int _ _)) qh.nil)) rfl rfl .nil)))) rfl rfl (.back rfl rfl (.cells (qh.cons (.same (qc.int _ _)) qh.nil)) rfl (.back rfl rfl (.cells (qh.cons (.same (qM encI _)) qh.nil)) rfl (.back rfl rfl (.cells (qh.cons (.same (qc.int _ _)) qh.nil)) rfl (.old rfl rfl (.back rfl rfl (.same fa) rfl .nil))))) (qh.cons (.gslice rfl) (qh.cons (.funcL (qY.nil) (qh.cons (.ptr rfl) (qh.cons (.ptr rfl) (qh.cons (.ptr rfl) qh.nil)))) qh.nil)) (.same (qc.tuple qY.nil)) rfl) trivial) ?_
  refine Goes.sub (show Sub (ofG 87 [(10,.i left_25),(11,.gslice 3 l23.length 1),(12,.gslice 4 l24.length 1)],[.cells [.i total],.cells [vl encI weights],.cells [.i n15],.cells (l23.flatMap encI.c),.cells (l34.flatMap encI.c)]) (ofG 87 [(10,.i left_25),(11,.gslice 0 l23.length 1),(12,.gslice 1 l34.length 1)],[.cells (l23.flatMap encI.c),.cells (l34.flatMap encI.c)])from(Sub.norm [] [some 3,some 4] rfl rfl (.keep (.same (qc.int _ _)) (.keep (.gslice rfl) (.keep (.gsliceE rfl (qbj e_u35)) .nil))) (.keep rfl (.same fa) rfl rfl (.keep rfl (.same fa) rfl rfl .nil)))) ?_
  refine sq ?_
  refine sq ?_
  refine Goes.sub (s':=(ofG 87 [(10,.i left_25),(11,.gslice 0 l23.length 1),(12,vl encI l34)],[.cells (l23.flatMap encI.c)])) (Sub.norm [1] [some 0] rfl rfl (.keep (.same (qc.int _ _)) (.keep (.gslice rfl) (.keep (.frz (Fz.gs (E:=encI) rfl rfl (Nat.le_of_ble_eq_true rfl)) (qM encI _)) .nil))) (.keep rfl (.same fa) rfl rfl .nil)) ?_
  obtain⟨s36,e_s36,h⟩:=bnd h
  refine Goes.ro fol [(2,(.done (vl encI s36)))] [(11,.gslice 0 l23.length 1),(73,vl encI s36),(74,.i (s36.length:Int)),(75,.i 0)] [.cells (l23.flatMap encI.c)] [.done (.opt (xG Tryz.prog 22 (vl encI l34) none (some (.i left_25)) none)) (vl encI s36)] (And.intro (vl_sl kR (E:=encI) rfl none (some left_25) e_s36) trivial) ?_
  refine Goes.block ?_
  obtain⟨r40,g40,h⟩:=bnd h
  refine Goes.imp (Q:=fun x s'=>(x= .exit 4∧ ∃l39,l39=r40∧Sub s' (ofG 87 [(11,.gslice 0 l39.length 1)],[.cells (l39.flatMap encI.c)]))) ?_ ?_
  ·refine Goes.loopS (fun M s=> ∃(l37:List Int) (n38:Int),s=(ofG 87 [(11,.gslice 0 l37.length 1),(73,vl encI s36),(74,.i (s36.length:Int)),(75,.i n38)],[.cells (l37.flatMap encI.c)])∧kG s36 M l37 n38=some r40) ?_ (m:=N) ⟨_,_,rfl,g40⟩
   rintro M s ⟨l37,n38,rfl,g40⟩
   cases M with
   |zero=>simp only[kG]at g40;cases g40
   |succ M=>
    rw[kG]at g40
    refine sq ?_
    refine Goes.rg fol [(11,.gslice 0 l37.length 1),(73,vl encI s36),(74,.i (s36.length:Int)),(75,.i n38),(76,.bool (decide (n38<(s36.length:Int))))] [.cells (l37.flatMap encI.c)] ?_
    refine sq ?_
    refine Goes.ifB (b:=decide (n38<(s36.length:Int))) (by kernel_rfl) (fun c41=>?_) (fun c41=>?_)
    ·rw[if_pos (ot c41)]at g40
     refine Goes.skip ?_
     refine sq ?_
     refine Goes.block ?_
     refine sq ?_
     obtain⟨x42,e_x42,g40⟩:=bnd g40
     refine Goes.ro fol [(0,(.done (.fptr (s36.flatMap encI.c) ((n38:Int).toNat*1+0)))),(1,(.done (.i x42)))] [(11,.gslice 0 l37.length 1),(16,.i x42),(73,vl encI s36),(74,.i (s36.length:Int)),(75,.i n38)] [.cells (l37.flatMap encI.c)] [.done (.opt (qb Tryz.prog 22 (vl encI s36) (.i n38))) (.fptr (s36.flatMap encI.c) ((n38:Int).toNat*1+0)),.done (qB Tryz.prog 3 (.fptr (s36.flatMap encI.c) ((n38:Int).toNat*1+0))) (.i x42)] (And.intro (ky kR (E:=encI) rfl e_x42) (And.intro (kw ce3 (E:=encI) rfl e_x42 (Nat.le_of_ble_eq_true rfl) rfl) trivial)) ?_
     obtain⟨x43,e_x43,g40⟩:=bnd g40
     obtain⟨l44,e_l44,g40⟩:=bnd g40
     refine Goes.ro fol [(2,(.done (.ptr 0 ((x42:Int).toNat*1+0)))),(3,(.run (.i x43) [.cells (l37.flatMap encI.c)] false)),(5,(.done (.ptr 0 ((x42:Int).toNat*1+0)))),(6,(.run .undef [.cells (l44.flatMap encI.c)] true))] [(11,.gslice 0 l37.length 1),(73,vl encI s36),(74,.i (s36.length:Int)),(75,.i n38)] [.cells (l44.flatMap encI.c)] [.done (.opt (qb Tryz.prog 22 (.gslice 0 l37.length 1) (.i x42))) (.ptr 0 ((x42:Int).toNat*1+0)),.run [0] (qB Tryz.prog 3 (.ptr 0 ((x42:Int).toNat*1+0))) [.cells (l37.flatMap encI.c)] (.i x43) [.cells (l37.flatMap encI.c)] false,.done (.opt (qb Tryz.prog 22 (.gslice 0 l37.length 1) (.i x42))) (.ptr 0 ((x42:Int).toNat*1+0)),.run [0] (vQ Tryz.prog 3 (.ptr 0 ((x42:Int).toNat*1+0)) (.i (w64 (x43+1)))) [.cells (l37.flatMap encI.c)] .undef [.cells (l44.flatMap encI.c)] true] (And.intro (yV kR e_x43) (And.intro (qdv ce3 (E:=encI) (l:=l37) rfl rfl e_x43 (Nat.le_of_ble_eq_true rfl) rfl) (And.intro (yV kR e_x43) (And.intro (qei (E:=encI) (l:=l37) (y:=w64 (x43+1)) rfl (show _=some 1 by kernel_rfl) rfl e_x43 rfl rfl rfl rfl rfl e_l44 rfl) trivial)))) ?_
     refine Goes.sub (show Sub (ofG 87 [(11,.gslice 0 l37.length 1),(73,vl encI s36),(74,.i (s36.length:Int)),(75,.i n38)],[.cells (l44.flatMap encI.c)]) (ofG 87 [(11,.gslice 0 l44.length 1),(73,vl encI s36),(74,.i (s36.length:Int)),(75,.i n38)],[.cells (l44.flatMap encI.c)])from(Sub.norm [] [some 0] rfl rfl (.keep (.gsliceE rfl (qbv e_l44)) (.keep (.same (qM encI _)) (.keep (.same (qc.int _ _)) (.keep (.same (qc.int _ _)) .nil)))) (.keep rfl (.same fa) rfl rfl .nil))) ?_
     refine Goes.rg fol [(11,.gslice 0 l44.length 1),(73,vl encI s36),(74,.i (s36.length:Int)),(75,.i (w64 (n38+1)))] [.cells (l44.flatMap encI.c)] ?_
     exact⟨M,(ofG 87 [(11,.gslice 0 l44.length 1),(73,vl encI s36),(74,.i (s36.length:Int)),(75,.i (w64 (n38+1)))],[.cells (l44.flatMap encI.c)]),Nat.lt_succ_self _,(Sub.refl _),_,_,rfl,g40⟩
    ·rw[if_neg (of_ c41)]at g40
     refine Goes.exit ?_
     obtain rfl:=Option.some.inj g40
     exact⟨rfl,_,rfl,(Sub.keep [11] rfl rfl)⟩
  rintro x s' ⟨rfl,l39,rfl,hsub⟩
  refine Goes.sub hsub ?_
  refine sq ?_
  refine Goes.rg fol [(4,.gslice 0 l39.length 1),(5,.i 0)] [.cells (l39.flatMap encI.c)] ?_
  refine Goes.ret ?_
  obtain rfl:=Option.some.inj h
  exact(Goes.retW (xs:=[.gslice 0 l39.length 1,.i 0]) (by kernel_rfl) (FzW.tuple (j5.cons (FzW.fz (Fz.gs (E:=encI) rfl rfl (Nat.le_of_ble_eq_true rfl))) (j5.cons (FzW.still (Still.int 10 _ _)) j5.nil))))
def qw (w:List Int):Nat→Int→Int→Option (Int⊕Int)
 |0,_,_=>none
 |K+1,sum_3,i_4=>
  if i_4<(w.length:Int)then
  ((idx w i_4).bind fun x9=>
  if x9<0 then
  some true
  else
  some (decide (x9>999999999)):Option Bool).bind fun b11=>
  if b11=true then
  some (.inr 3)
  else
  (idx w i_4).bind fun x14=>
  qw w K (w64 (sum_3+x14)) (w64 (i_4+1))
  else
  some (.inl sum_3)
def zh (N:Nat) (w:List Int):Option Int:=
 if(w.length:Int)=0 then
 some 12
 else
 if(w.length:Int)>256 then
 some 5
 else
 (qw w N 0 0).bind (fun
 |(.inl sum_5)=>
 if sum_5=0 then
 some 6
 else
 some 0
 |(.inr q16)=>
 some q16)
theorem jh (N:Nat) (w:List Int) {res:Int} (h:zh N w=some res):qg Tryz.prog (.fn 21) [vl encI w] [] (.i res) []:=by
 unfold zh at h
 refine Goes.fnW Tryz.func21 rfl rfl (m:=37) rfl (rs:=[.tmp 2]) rfl (l:=[(0,vl encI w)]) rfl ?_
 refine sq ?_
 refine Goes.rg fol [(0,vl encI w)] [] ?_
 refine sq ?_
 refine sq ?_
 refine Goes.rg fol [(0,vl encI w),(7,.bool (decide ((w.length:Int)=0)))] [] ?_
 refine Goes.ifB (b:=decide ((w.length:Int)=0)) (by kernel_rfl) (fun c1=>?_) (fun c1=>?_)
 ·rw[if_pos (ot c1)]at h
  refine sq ?_
  refine Goes.rg fol [(2,.i 12)] [] ?_
  refine Goes.ret ?_
  obtain rfl:=Option.some.inj h
  exact(Goes.retW (xs:=[.i 12]) (by kernel_rfl) (FzW.still (Still.int 11 _ _)))
 ·rw[if_neg (of_ c1)]at h
  refine Goes.skip ?_
  refine sq ?_
  refine sq ?_
  refine Goes.rg fol [(0,vl encI w),(10,.bool (decide ((w.length:Int)>256)))] [] ?_
  refine Goes.ifB (b:=decide ((w.length:Int)>256)) (by kernel_rfl) (fun c2=>?_) (fun c2=>?_)
  ·rw[if_pos (ot c2)]at h
   refine sq ?_
   refine Goes.rg fol [(2,.i 5)] [] ?_
   refine Goes.ret ?_
   obtain rfl:=Option.some.inj h
   exact(Goes.retW (xs:=[.i 5]) (by kernel_rfl) (FzW.still (Still.int 11 _ _)))
  ·rw[if_neg (of_ c2)]at h
   refine Goes.skip ?_
   refine sq ?_
   refine Goes.rg fol [(0,vl encI w),(3,.i 0)] [] ?_
   refine sq ?_
   refine sq ?_
   refine Goes.rg fol [(0,vl encI w),(3,.i 0),(4,.i 0)] [] ?_
   refine Goes.block ?_
   obtain⟨r6,g6,h⟩:=bnd h
   refine Goes.imp (Q:=fun x s'=>(x= .exit 0∧ ∃sum_5,(.inl sum_5)=r6∧Sub s' (ofG 37 [(3,.i sum_5)],[]))∨(x= .ret∧ ∃q7,(.inr q7)=r6∧zL Tryz.prog [.tmp 2] (.i q7) .ret s')) ?_ ?_
   ·refine Goes.loopS (fun M s=> ∃(sum_3:Int) (i_4:Int),s=(ofG 37 [(0,vl encI w),(3,.i sum_3),(4,.i i_4)],[])∧qw w M sum_3 i_4=some r6) ?_ (m:=N) ⟨_,_,rfl,g6⟩
    rintro M s ⟨sum_3,i_4,rfl,g6⟩
    cases M with
    |zero=>simp only[qw]at g6;cases g6
    |succ M=>
     rw[qw]at g6
     refine sq ?_
     refine sq ?_
     refine Goes.rg fol [(0,vl encI w),(3,.i sum_3),(4,.i i_4),(14,.bool (decide (i_4<(w.length:Int))))] [] ?_
     refine Goes.ifB (b:=decide (i_4<(w.length:Int))) (by kernel_rfl) (fun c8=>?_) (fun c8=>?_)
     ·rw[if_pos (ot c8)]at g6
      refine Goes.skip ?_
      refine sq ?_
      refine Goes.block ?_
      refine sq ?_
      refine sq ?_
      obtain⟨b11,g_v12,g6⟩:=bnd g6
      refine Goes.cut (s':=(ofG 37 [(0,vl encI w),(3,.i sum_3),(4,.i i_4),(28,.bool b11)],[])) ?_ ?_
      ·obtain⟨x9,e_x9,g_v12⟩:=bnd g_v12
       rcases Bool.eq_false_or_eq_true (decide (x9<0))with c10|c10
       ·rw[if_pos (ot c10)]at g_v12
        obtain rfl:=Option.some.inj g_v12
        exact qE.ro fol [(2,(.done (.fptr (w.flatMap encI.c) ((i_4:Int).toNat*1+0)))),(3,(.done (.i x9))),(5,(.done (.bool true)))] [(0,vl encI w),(3,.i sum_3),(4,.i i_4),(28,.bool true)] [] [.done (.opt (qb Tryz.prog 22 (vl encI w) (.i i_4))) (.fptr (w.flatMap encI.c) ((i_4:Int).toNat*1+0)),.done (qB Tryz.prog 3 (.fptr (w.flatMap encI.c) ((i_4:Int).toNat*1+0))) (.i x9),.done (.done (.bool (decide (x9<0)))) (.bool true)] (And.intro (ky kR (E:=encI) rfl e_x9) (And.intro (kw ce3 (E:=encI) rfl e_x9 (Nat.le_of_ble_eq_true rfl) rfl) (And.intro (congrArg (fun x=>Pg.done (.bool x)) c10) trivial)))
       ·rw[if_neg (of_ c10)]at g_v12
        obtain rfl:=Option.some.inj g_v12
        exact qE.ro fol [(2,(.done (.fptr (w.flatMap encI.c) ((i_4:Int).toNat*1+0)))),(3,(.done (.i x9))),(5,(.done (.bool false))),(8,(.done (.fptr (w.flatMap encI.c) ((i_4:Int).toNat*1+0)))),(9,(.done (.i x9)))] [(0,vl encI w),(3,.i sum_3),(4,.i i_4),(28,.bool (decide (x9>999999999)))] [] [.done (.opt (qb Tryz.prog 22 (vl encI w) (.i i_4))) (.fptr (w.flatMap encI.c) ((i_4:Int).toNat*1+0)),.done (qB Tryz.prog 3 (.fptr (w.flatMap encI.c) ((i_4:Int).toNat*1+0))) (.i x9),.done (.done (.bool (decide (x9<0)))) (.bool false),.done (.opt (qb Tryz.prog 22 (vl encI w) (.i i_4))) (.fptr (w.flatMap encI.c) ((i_4:Int).toNat*1+0)),.done (qB Tryz.prog 3 (.fptr (w.flatMap encI.c) ((i_4:Int).toNat*1+0))) (.i x9)] (And.intro (ky kR (E:=encI) rfl e_x9) (And.intro (kw ce3 (E:=encI) rfl e_x9 (Nat.le_of_ble_eq_true rfl) rfl) (And.intro (congrArg (fun x=>Pg.done (.bool x)) c10) (And.intro (ky kR (E:=encI) rfl e_x9) (And.intro (kw ce3 (E:=encI) rfl e_x9 (Nat.le_of_ble_eq_true rfl) rfl) trivial)))))
      refine Goes.ifB (b:=b11) (by kernel_rfl) (fun c13=>?_) (fun c13=>?_)
      ·rw[if_pos (c13)]at g6
       refine sq ?_
       refine Goes.rg fol [(2,.i 3)] [] ?_
       refine Goes.ret ?_
       obtain rfl:=Option.some.inj g6
       exact Or.inr (⟨rfl,_,rfl,(Goes.retW (xs:=[.i 3]) (by kernel_rfl) (FzW.still (Still.int 11 _ _)))⟩)
      ·rw[if_neg (by rw[c13];exact Bool.false_ne_true)]at g6
       refine Goes.skip ?_
       obtain⟨x14,e_x14,g6⟩:=bnd g6
       refine Goes.ro fol [(3,(.done (.fptr (w.flatMap encI.c) ((i_4:Int).toNat*1+0)))),(4,(.done (.i x14)))] [(0,vl encI w),(3,.i (w64 (sum_3+x14))),(4,.i i_4)] [] [.done (.opt (qb Tryz.prog 22 (vl encI w) (.i i_4))) (.fptr (w.flatMap encI.c) ((i_4:Int).toNat*1+0)),.done (qB Tryz.prog 3 (.fptr (w.flatMap encI.c) ((i_4:Int).toNat*1+0))) (.i x14)] (And.intro (ky kR (E:=encI) rfl e_x14) (And.intro (kw ce3 (E:=encI) rfl e_x14 (Nat.le_of_ble_eq_true rfl) rfl) trivial)) ?_
       refine Goes.rg fol [(0,vl encI w),(3,.i (w64 (sum_3+x14))),(4,.i (w64 (i_4+1)))] [] ?_
       exact⟨M,(ofG 37 [(0,vl encI w),(3,.i (w64 (sum_3+x14))),(4,.i (w64 (i_4+1)))],[]),Nat.lt_succ_self _,(Sub.refl _),_,_,rfl,g6⟩
     ·rw[if_neg (of_ c8)]at g6
      refine Goes.exit ?_
      obtain rfl:=Option.some.inj g6
      exact Or.inl (⟨rfl,_,rfl,(Sub.keep [3] rfl rfl)⟩)
   rintro x s' (⟨rfl,sum_5,rfl,hsub⟩|⟨rfl,q16,rfl,hret⟩)
   ·try dsimp only at h
    refine Goes.sub hsub ?_
    refine sq ?_
    refine sq ?_
    refine Goes.rg fol [(36,.bool (decide (sum_5=0)))] [] ?_
    refine Goes.ifB (b:=decide (sum_5=0)) (by kernel_rfl) (fun c15=>?_) (fun c15=>?_)
    ·rw[if_pos (ot c15)]at h
     refine sq ?_
     refine Goes.rg fol [(2,.i 6)] [] ?_
     refine Goes.ret ?_
     obtain rfl:=Option.some.inj h
     exact(Goes.retW (xs:=[.i 6]) (by kernel_rfl) (FzW.still (Still.int 11 _ _)))
    ·rw[if_neg (of_ c15)]at h
     refine Goes.skip ?_
     refine sq ?_
     refine Goes.rg fol [(2,.i 0)] [] ?_
     refine Goes.ret ?_
     obtain rfl:=Option.some.inj h
     exact(Goes.retW (xs:=[.i 0]) (by kernel_rfl) (FzW.still (Still.int 11 _ _)))
   ·try dsimp only at h
    obtain rfl:=Option.some.inj h
    exact hret
def kW (n:Int):Nat→(Option (List Int))→Int→Int→Option (Option (List Int))
 |0,_,_,_=>none
 |K+1,o7,n8,x_9=>
  if n8<n then
  ((qbt .i64 ((w64 (39373*x_9)).tmod 2147483647) (w64 (n8+1))).bind fun q13=>
  (match o7 with
  |none=>
  (qd4 (if 0<q13 then 0 else q13) n8).bind fun l16=>
  some (l16,(w64 (39373*x_9)).tmod 2147483647)
  |some l14=>
  (qdV l14 (if(l14.length:Int)<q13 then(l14.length:Int)else q13) n8).bind fun l18=>
  some (l18,(w64 (39373*x_9)).tmod 2147483647)):Option ((List Int)×Int)).bind fun(l19,x_20)=>
  kW n K (some l19) (w64 (n8+1)) x_20
  else
  some o7
def z8 (N:Nat) (key:Int) (n:Int):Option ((List Int)×Int):=
 (if key<1 then
 some true
 else
 if key>2147483646 then
 some true
 else
 if n<0 then
 some true
 else
 some (decide (n>256)):Option Bool).bind fun b4=>
 if b4=true then
 some ([],3)
 else
 (kW n N (none:Option (List Int)) 0 key).bind fun o10=>
 some ((hof o10),0)
theorem vN (N:Nat) (key:Int) (n:Int) {res:(List Int)×Int} (h:z8 N key n=some res):qg Tryz.prog (.fn 23) [.i key,.i n] [] (.tuple [vl encI res.1,.i res.2]) []:=by
 unfold z8 at h
 refine Goes.fnW Tryz.func23 rfl rfl (m:=44) rfl (rs:=[.tmp 4,.tmp 5]) rfl (l:=[(0,.i key),(1,.i n)]) rfl ?_
 refine sq ?_
 refine Goes.rg fol [(0,.i key),(1,.i n)] [] ?_
 refine sq ?_
 refine sq ?_
 obtain⟨b4,g_v5,h⟩:=bnd h
 refine Goes.cut (s':=(ofG 44 [(0,.i key),(1,.i n),(22,.bool b4)],[])) ?_ ?_
 ·rcases Bool.eq_false_or_eq_true (decide (key<1))with c1|c1
  ·rw[if_pos (ot c1)]at g_v5
   obtain rfl:=Option.some.inj g_v5
   exact qE.ro fol [(2,(.done (.bool true)))] [(0,.i key),(1,.i n),(22,.bool true)] [] [.done (.done (.bool (decide (key<1)))) (.bool true)] (And.intro (congrArg (fun x=>Pg.done (.bool x)) c1) trivial)
  ·rw[if_neg (of_ c1)]at g_v5
   rcases Bool.eq_false_or_eq_true (decide (key>2147483646))with c2|c2
   ·rw[if_pos (ot c2)]at g_v5
    obtain rfl:=Option.some.inj g_v5
    exact qE.ro fol [(2,(.done (.bool false))),(6,(.done (.bool true)))] [(0,.i key),(1,.i n),(22,.bool true)] [] [.done (.done (.bool (decide (key<1)))) (.bool false),.done (.done (.bool (decide (key>2147483646)))) (.bool true)] (And.intro (congrArg (fun x=>Pg.done (.bool x)) c1) (And.intro (congrArg (fun x=>Pg.done (.bool x)) c2) trivial))
   ·rw[if_neg (of_ c2)]at g_v5
    rcases Bool.eq_false_or_eq_true (decide (n<0))with c3|c3
    ·rw[if_pos (ot c3)]at g_v5
     obtain rfl:=Option.some.inj g_v5
     exact qE.ro fol [(2,(.done (.bool false))),(6,(.done (.bool false))),(10,(.done (.bool true)))] [(0,.i key),(1,.i n),(22,.bool true)] [] [.done (.done (.bool (decide (key<1)))) (.bool false),.done (.done (.bool (decide (key>2147483646)))) (.bool false),.done (.done (.bool (decide (n<0)))) (.bool true)] (And.intro (congrArg (fun x=>Pg.done (.bool x)) c1) (And.intro (congrArg (fun x=>Pg.done (.bool x)) c2) (And.intro (congrArg (fun x=>Pg.done (.bool x)) c3) trivial)))
    ·rw[if_neg (of_ c3)]at g_v5
     obtain rfl:=Option.some.inj g_v5
     exact qE.ro fol [(2,(.done (.bool false))),(6,(.done (.bool false))),(10,(.done (.bool false)))] [(0,.i key),(1,.i n),(22,.bool (decide (n>256)))] [] [.done (.done (.bool (decide (key<1)))) (.bool false),.done (.done (.bool (decide (key>2147483646)))) (.bool false),.done (.done (.bool (decide (n<0)))) (.bool false)] (And.intro (congrArg (fun x=>Pg.done (.bool x)) c1) (And.intro (congrArg (fun x=>Pg.done (.bool x)) c2) (And.intro (congrArg (fun x=>Pg.done (.bool x)) c3) trivial)))
 refine Goes.ifB (b:=b4) (by kernel_rfl) (fun c6=>?_) (fun c6=>?_)
 ·rw[if_pos (c6)]at h
  refine sq ?_
  refine Goes.rg fol [(4,.nilslice),(5,.i 3)] [] ?_
  refine Goes.ret ?_
  obtain rfl:=Option.some.inj h
  exact(Goes.retW (xs:=[.nilslice,.i 3]) (by kernel_rfl) (FzW.tuple (j5.cons (FzW.nilv (E:=encI)) (j5.cons (FzW.still (Still.int 10 _ _)) j5.nil))))
 ·rw[if_neg (by rw[c6];exact Bool.false_ne_true)]at h
  refine Goes.skip ?_
  refine sq ?_
  refine Goes.rg fol [(0,.i key),(1,.i n),(6,.nilslice)] [] ?_
  refine sq ?_
  refine Goes.rg fol [(1,.i n),(6,.nilslice),(7,.i key)] [] ?_
  refine sq ?_
  refine sq ?_
  refine Goes.rg fol [(6,.nilslice),(7,.i key),(24,.i n),(25,.i 0)] [] ?_
  refine Goes.block ?_
  obtain⟨r11,g11,h⟩:=bnd h
  refine Goes.imp (Q:=fun x s'=>(x= .exit 0∧ ∃o10,o10=r11∧Sub s' (ofG 44 [(6,hsl 0 1 o10)],[.cells ((hof o10).flatMap encI.c)]))) ?_ ?_
  ·refine Goes.sub (s':=(ofG 44 [(6,hsl 0 1 (none:Option (List Int))),(7,.i key),(24,.i n),(25,.i 0)],[.cells ((hof (none:Option (List Int))).flatMap encI.c)])) (Sub.norm [] [none] rfl rfl (.keep zl.hs0 (.keep (.same (qc.int _ _)) (.keep (.same (qc.int _ _)) (.keep (.same (qc.int _ _)) .nil)))) (.fresh .nil)) ?_
   refine Goes.loopS (fun M s=> ∃(o7:Option (List Int)) (n8:Int) (x_9:Int),s=(ofG 44 [(6,hsl 0 1 o7),(7,.i x_9),(24,.i n),(25,.i n8)],[.cells ((hof o7).flatMap encI.c)])∧kW n M o7 n8 x_9=some r11) ?_ (m:=N) ⟨_,_,_,rfl,g11⟩
   rintro M s ⟨o7,n8,x_9,rfl,g11⟩
   cases M with
   |zero=>simp only[kW]at g11;cases g11
   |succ M=>
    rw[kW]at g11
    refine sq ?_
    refine Goes.rg fol [(6,hsl 0 1 o7),(7,.i x_9),(24,.i n),(25,.i n8),(26,.bool (decide (n8<n)))] [.cells ((hof o7).flatMap encI.c)] ?_
    refine sq ?_
    refine Goes.ifB (b:=decide (n8<n)) (by kernel_rfl) (fun c12=>?_) (fun c12=>?_)
    ·rw[if_pos (ot c12)]at g11
     refine Goes.skip ?_
     refine sq ?_
     refine Goes.block ?_
     refine sq ?_
     refine Goes.rg fol [(6,hsl 0 1 o7),(7,.i x_9),(8,.i n8),(24,.i n),(25,.i n8)] [.cells ((hof o7).flatMap encI.c)] ?_
     refine sq ?_
     refine Goes.rg fol [(6,hsl 0 1 o7),(7,.i ((w64 (39373*x_9)).tmod 2147483647)),(8,.i n8),(24,.i n),(25,.i n8)] [.cells ((hof o7).flatMap encI.c)] ?_
     obtain⟨⟨l19,x_20⟩,g_v21,g11⟩:=bnd g11
     refine Goes.cutS (s':=(ofG 44 [(6,.oslice 0 l19.length 1),(7,.i x_20),(24,.i n),(25,.i n8)],[.cells (l19.flatMap encI.c)])) ?_ ?_
     ·obtain⟨q13,e_q13,g_v21⟩:=bnd g_v21
      rcases o7 with _|l14
      ·try dsimp only at g_v21
       obtain⟨l16,e_r15,g_v21⟩:=bnd g_v21
       simp only[Option.some.injEq,Prod.mk.injEq]at g_v21
       obtain⟨rfl,rfl⟩:=g_v21
       exact qE.sub (qE.ro fol [(4,(.done (.i q13))),(10,(.callH [1] (.oslice 2 l16.length 1) [.cells ((hof (none:Option (List Int))).flatMap encI.c),.cells [.i n8],.cells (l16.flatMap encI.c)]))] [(6,.oslice 2 l16.length 1),(7,.i ((w64 (39373*x_9)).tmod 2147483647)),(24,.i n),(25,.i n8)] [.cells ((hof (none:Option (List Int))).flatMap encI.c),.cells [.i n8],.cells (l16.flatMap encI.c)] [.done (.opt (vS Tryz.prog .rem 3 (.tmp 32) (.tmp 34) (.i ((w64 (39373*x_9)).tmod 2147483647)) (.i (w64 (n8+1))))) (.i q13),.callH 63 [.nilslice,.i (if 0<q13 then 0 else q13),.slice 1 0 1 1 1] [.cells ((hof (none:Option (List Int))).flatMap encI.c),.cells [.i n8]] [1] (.oslice 2 l16.length 1) [.cells ((hof (none:Option (List Int))).flatMap encI.c),.cells [.i n8],.cells (l16.flatMap encI.c)]] (And.intro (qad e_q13) (And.intro (xD [some 1] [none,some 0,some 1] (qfh (if 0<q13 then 0 else q13) n8 e_r15) (.keep rfl (.cells (qh.cons (.same (qc.int _ _)) qh.nil)) rfl rfl .nil) rfl rfl (.old rfl rfl (.back rfl rfl (.cells (qh.cons (.same (qc.int _ _)) qh.nil)) rfl (.new rfl rfl (.same fa) rfl .nil))) (qh.cons (.same (qc.nilslice)) (qh.cons (.same (qc.int _ _)) (qh.cons (.slice rfl) qh.nil))) (.oslice rfl) rfl) trivial))) (Sub.norm [] [some 2] rfl rfl (.keep (.oslice rfl) (.keep (.same (qc.int _ _)) (.keep (.same (qc.int _ _)) (.keep (.same (qc.int _ _)) .nil)))) (.keep rfl (.same fa) rfl rfl .nil))
      ·try dsimp only at g_v21
       obtain⟨l18,e_r17,g_v21⟩:=bnd g_v21
       simp only[Option.some.injEq,Prod.mk.injEq]at g_v21
       obtain⟨rfl,rfl⟩:=g_v21
       exact qE.sub (qE.ro fol [(4,(.done (.i q13))),(10,(.callH [0,1] (.oslice 2 l18.length 1) [.dead,.cells [.i n8],.cells (l18.flatMap encI.c)]))] [(6,.oslice 2 l18.length 1),(7,.i ((w64 (39373*x_9)).tmod 2147483647)),(24,.i n),(25,.i n8)] [.dead,.cells [.i n8],.cells (l18.flatMap encI.c)] [.done (.opt (vS Tryz.prog .rem 3 (.tmp 32) (.tmp 34) (.i ((w64 (39373*x_9)).tmod 2147483647)) (.i (w64 (n8+1))))) (.i q13),.callH 63 [.oslice 0 l14.length 1,.i (if(l14.length:Int)<q13 then(l14.length:Int)else q13),.slice 1 0 1 1 1] [.cells (l14.flatMap encI.c),.cells [.i n8]] [0,1] (.oslice 2 l18.length 1) [.dead,.cells [.i n8],.cells (l18.flatMap encI.c)]] (And.intro (qad e_q13) (And.intro (xD [some 0,some 1] [none,some 1,some 2] (qe4 l14 (if(l14.length:Int)<q13 then(l14.length:Int)else q13) n8 e_r17) (.keep rfl (.same fa) rfl rfl (.keep rfl (.cells (qh.cons (.same (qc.int _ _)) qh.nil)) rfl rfl .nil)) rfl rfl (.dead (.back rfl rfl (.cells (qh.cons (.same (qc.int _ _)) qh.nil)) rfl (.new rfl rfl (.same fa) rfl .nil))) (qh.cons (.oslice rfl) (qh.cons (.same (qc.int _ _)) (qh.cons (.slice rfl) qh.nil))) (.oslice rfl) rfl) trivial))) (Sub.norm [] [some 2] rfl rfl (.keep (.oslice rfl) (.keep (.same (qc.int _ _)) (.keep (.same (qc.int _ _)) (.keep (.same (qc.int _ _)) .nil)))) (.keep rfl (.same fa) rfl rfl .nil))
     intro _ hsub
     try dsimp only at g11
     refine Goes.sub hsub ?_
     refine Goes.rg fol [(6,.oslice 0 l19.length 1),(7,.i x_20),(24,.i n),(25,.i (w64 (n8+1)))] [.cells (l19.flatMap encI.c)] ?_
     exact⟨M,(ofG 44 [(6,hsl 0 1 (some l19)),(7,.i x_20),(24,.i n),(25,.i (w64 (n8+1)))],[.cells ((hof (some l19)).flatMap encI.c)]),Nat.lt_succ_self _,(Sub.norm [] [some 0] rfl rfl (.keep (zl.hs1 rfl) (.keep (.same (qc.int _ _)) (.keep (.same (qc.int _ _)) (.keep (.same (qc.int _ _)) .nil)))) (.keep rfl (.same fa) rfl rfl .nil)),_,_,_,rfl,g11⟩
    ·rw[if_neg (of_ c12)]at g11
     refine Goes.exit ?_
     obtain rfl:=Option.some.inj g11
     exact⟨rfl,_,rfl,(Sub.keep [6] rfl rfl)⟩
  rintro x s' ⟨rfl,o10,rfl,hsub⟩
  refine Goes.sub hsub ?_
  refine sq ?_
  refine Goes.rg fol [(4,hsl 0 1 o10),(5,.i 0)] [.cells ((hof o10).flatMap encI.c)] ?_
  refine Goes.ret ?_
  obtain rfl:=Option.some.inj h
  exact(Goes.retW (xs:=[hsl 0 1 o10,.i 0]) (by kernel_rfl) (FzW.tuple (j5.cons (FzW.hs (E:=encI) rfl rfl (Nat.le_of_ble_eq_true rfl)) (j5.cons (FzW.still (Still.int 10 _ _)) j5.nil))))
def zW (key:Int) (n:Int):Option Int:=
 (if key<1 then
 some true
 else
 if key>2147483646 then
 some true
 else
 if n<0 then
 some true
 else
 some (decide (n>256)):Option Bool).bind fun b4=>
 if b4=true then
 some 3
 else
 some 0
theorem yN (key:Int) (n:Int) {res:Int} (h:zW key n=some res):qg Tryz.prog (.fn 24) [.i key,.i n] [] (.i res) []:=by
 unfold zW at h
 refine Goes.fnW Tryz.func24 rfl rfl (m:=19) rfl (rs:=[.tmp 4]) rfl (l:=[(0,.i key),(1,.i n)]) rfl ?_
 refine sq ?_
 refine Goes.rg fol [(0,.i key),(1,.i n)] [] ?_
 refine sq ?_
 refine sq ?_
 obtain⟨b4,g_v5,h⟩:=bnd h
 refine Goes.cut (s':=(ofG 19 [(18,.bool b4)],[])) ?_ ?_
 ·rcases Bool.eq_false_or_eq_true (decide (key<1))with c1|c1
  ·rw[if_pos (ot c1)]at g_v5
   obtain rfl:=Option.some.inj g_v5
   exact qE.ro fol [(2,(.done (.bool true)))] [(18,.bool true)] [] [.done (.done (.bool (decide (key<1)))) (.bool true)] (And.intro (congrArg (fun x=>Pg.done (.bool x)) c1) trivial)
  ·rw[if_neg (of_ c1)]at g_v5
   rcases Bool.eq_false_or_eq_true (decide (key>2147483646))with c2|c2
   ·rw[if_pos (ot c2)]at g_v5
    obtain rfl:=Option.some.inj g_v5
    exact qE.ro fol [(2,(.done (.bool false))),(6,(.done (.bool true)))] [(18,.bool true)] [] [.done (.done (.bool (decide (key<1)))) (.bool false),.done (.done (.bool (decide (key>2147483646)))) (.bool true)] (And.intro (congrArg (fun x=>Pg.done (.bool x)) c1) (And.intro (congrArg (fun x=>Pg.done (.bool x)) c2) trivial))
   ·rw[if_neg (of_ c2)]at g_v5
    rcases Bool.eq_false_or_eq_true (decide (n<0))with c3|c3
    ·rw[if_pos (ot c3)]at g_v5
     obtain rfl:=Option.some.inj g_v5
     exact qE.ro fol [(2,(.done (.bool false))),(6,(.done (.bool false))),(10,(.done (.bool true)))] [(18,.bool true)] [] [.done (.done (.bool (decide (key<1)))) (.bool false),.done (.done (.bool (decide (key>2147483646)))) (.bool false),.done (.done (.bool (decide (n<0)))) (.bool true)] (And.intro (congrArg (fun x=>Pg.done (.bool x)) c1) (And.intro (congrArg (fun x=>Pg.done (.bool x)) c2) (And.intro (congrArg (fun x=>Pg.done (.bool x)) c3) trivial)))
    ·rw[if_neg (of_ c3)]at g_v5
     obtain rfl:=Option.some.inj g_v5
     exact qE.ro fol [(2,(.done (.bool false))),(6,(.done (.bool false))),(10,(.done (.bool false)))] [(18,.bool (decide (n>256)))] [] [.done (.done (.bool (decide (key<1)))) (.bool false),.done (.done (.bool (decide (key>2147483646)))) (.bool false),.done (.done (.bool (decide (n<0)))) (.bool false)] (And.intro (congrArg (fun x=>Pg.done (.bool x)) c1) (And.intro (congrArg (fun x=>Pg.done (.bool x)) c2) (And.intro (congrArg (fun x=>Pg.done (.bool x)) c3) trivial)))
 refine Goes.ifB (b:=b4) (by kernel_rfl) (fun c6=>?_) (fun c6=>?_)
 ·rw[if_pos (c6)]at h
  refine sq ?_
  refine Goes.rg fol [(4,.i 3)] [] ?_
  refine Goes.ret ?_
  obtain rfl:=Option.some.inj h
  exact(Goes.retW (xs:=[.i 3]) (by kernel_rfl) (FzW.still (Still.int 11 _ _)))
 ·rw[if_neg (by rw[c6];exact Bool.false_ne_true)]at h
  refine Goes.skip ?_
  refine sq ?_
  refine Goes.rg fol [(4,.i 0)] [] ?_
  refine Goes.ret ?_
  obtain rfl:=Option.some.inj h
  exact(Goes.retW (xs:=[.i 0]) (by kernel_rfl) (FzW.still (Still.int 11 _ _)))
def ko (a:List Int) (b:List Int):Nat→Int→Option (Unit⊕Bool)
 |0,_=>none
 |K+1,i_2=>
  if i_2<(a.length:Int)then
  (idx a i_2).bind fun x6=>
  (idx b i_2).bind fun x7=>
  if(!decide (x6=x7))=true then
  some (.inr false)
  else
  ko a b K (w64 (i_2+1))
  else
  some (.inl ())
def zN (N:Nat) (a:List Int) (b:List Int):Option Bool:=
 if(!decide ((a.length:Int)=(b.length:Int)))=true then
 some false
 else
 (ko a b N 0).bind (fun
 |(.inl ())=>
 some true
 |(.inr q9)=>
 some q9)
theorem xm (N:Nat) (a:List Int) (b:List Int) {res:Bool} (h:zN N a b=some res):qg Tryz.prog (.fn 26) [vl encI a,vl encI b] [] (.bool res) []:=by
 unfold zN at h
 refine Goes.fnW Tryz.func26 rfl rfl (m:=26) rfl (rs:=[.tmp 4]) rfl (l:=[(0,vl encI a),(1,vl encI b)]) rfl ?_
 refine sq ?_
 refine Goes.rg fol [(0,vl encI a),(1,vl encI b)] [] ?_
 refine sq ?_
 refine sq ?_
 refine Goes.rg fol [(0,vl encI a),(1,vl encI b),(10,.bool (!decide ((a.length:Int)=(b.length:Int))))] [] ?_
 refine Goes.ifB (b:=!decide ((a.length:Int)=(b.length:Int))) (by kernel_rfl) (fun c1=>?_) (fun c1=>?_)
 ·rw[if_pos (c1)]at h
  refine sq ?_
  refine Goes.rg fol [(4,.bool false)] [] ?_
  refine Goes.ret ?_
  obtain rfl:=Option.some.inj h
  exact(Goes.retW (xs:=[.bool false]) (by kernel_rfl) (FzW.still (Still.bool 11 _)))
 ·rw[if_neg (by rw[c1];exact Bool.false_ne_true)]at h
  refine Goes.skip ?_
  refine sq ?_
  refine sq ?_
  refine Goes.rg fol [(0,vl encI a),(1,vl encI b),(5,.i 0)] [] ?_
  refine Goes.block ?_
  obtain⟨r3,g3,h⟩:=bnd h
  refine Goes.imp (Q:=fun x s'=>(x= .exit 0∧(.inl ())=r3∧Sub s' (ofG 26 [],[]))∨(x= .ret∧ ∃q4,(.inr q4)=r3∧zL Tryz.prog [.tmp 4] (.bool q4) .ret s')) ?_ ?_
  ·refine Goes.loopS (fun M s=> ∃(i_2:Int),s=(ofG 26 [(0,vl encI a),(1,vl encI b),(5,.i i_2)],[])∧ko a b M i_2=some r3) ?_ (m:=N) ⟨_,rfl,g3⟩
   rintro M s ⟨i_2,rfl,g3⟩
   cases M with
   |zero=>simp only[ko]at g3;cases g3
   |succ M=>
    rw[ko]at g3
    refine sq ?_
    refine sq ?_
    refine Goes.rg fol [(0,vl encI a),(1,vl encI b),(5,.i i_2),(14,.bool (decide (i_2<(a.length:Int))))] [] ?_
    refine Goes.ifB (b:=decide (i_2<(a.length:Int))) (by kernel_rfl) (fun c5=>?_) (fun c5=>?_)
    ·rw[if_pos (ot c5)]at g3
     refine Goes.skip ?_
     refine sq ?_
     refine Goes.block ?_
     refine sq ?_
     obtain⟨x6,e_x6,g3⟩:=bnd g3
     obtain⟨x7,e_x7,g3⟩:=bnd g3
     refine Goes.ro fol [(2,(.done (.fptr (a.flatMap encI.c) ((i_2:Int).toNat*1+0)))),(3,(.done (.i x6))),(6,(.done (.fptr (b.flatMap encI.c) ((i_2:Int).toNat*1+0)))),(7,(.done (.i x7)))] [(0,vl encI a),(1,vl encI b),(5,.i i_2),(25,.bool (!decide (x6=x7)))] [] [.done (.opt (qb Tryz.prog 22 (vl encI a) (.i i_2))) (.fptr (a.flatMap encI.c) ((i_2:Int).toNat*1+0)),.done (qB Tryz.prog 3 (.fptr (a.flatMap encI.c) ((i_2:Int).toNat*1+0))) (.i x6),.done (.opt (qb Tryz.prog 22 (vl encI b) (.i i_2))) (.fptr (b.flatMap encI.c) ((i_2:Int).toNat*1+0)),.done (qB Tryz.prog 3 (.fptr (b.flatMap encI.c) ((i_2:Int).toNat*1+0))) (.i x7)] (And.intro (ky kR (E:=encI) rfl e_x6) (And.intro (kw ce3 (E:=encI) rfl e_x6 (Nat.le_of_ble_eq_true rfl) rfl) (And.intro (ky kR (E:=encI) rfl e_x7) (And.intro (kw ce3 (E:=encI) rfl e_x7 (Nat.le_of_ble_eq_true rfl) rfl) trivial)))) ?_
     refine Goes.ifB (b:=!decide (x6=x7)) (by kernel_rfl) (fun c8=>?_) (fun c8=>?_)
     ·rw[if_pos (c8)]at g3
      refine sq ?_
      refine Goes.rg fol [(4,.bool false)] [] ?_
      refine Goes.ret ?_
      obtain rfl:=Option.some.inj g3
      exact Or.inr (⟨rfl,_,rfl,(Goes.retW (xs:=[.bool false]) (by kernel_rfl) (FzW.still (Still.bool 11 _)))⟩)
     ·rw[if_neg (by rw[c8];exact Bool.false_ne_true)]at g3
      refine Goes.skip ?_
      refine Goes.rg fol [(0,vl encI a),(1,vl encI b),(5,.i (w64 (i_2+1)))] [] ?_
      exact⟨M,(ofG 26 [(0,vl encI a),(1,vl encI b),(5,.i (w64 (i_2+1)))],[]),Nat.lt_succ_self _,(Sub.refl _),_,rfl,g3⟩
    ·rw[if_neg (of_ c5)]at g3
     refine Goes.exit ?_
     obtain rfl:=Option.some.inj g3
     exact Or.inl (⟨rfl,rfl,(Sub.keep [] rfl rfl)⟩)
  rintro x s' (⟨rfl,rfl,hsub⟩|⟨rfl,q9,rfl,hret⟩)
  ·try dsimp only at h
   refine Goes.sub hsub ?_
   refine sq ?_
   refine Goes.rg fol [(4,.bool true)] [] ?_
   refine Goes.ret ?_
   obtain rfl:=Option.some.inj h
   exact(Goes.retW (xs:=[.bool true]) (by kernel_rfl) (FzW.still (Still.bool 11 _)))
  ·try dsimp only at h
   obtain rfl:=Option.some.inj h
   exact hret
end Go.Av
