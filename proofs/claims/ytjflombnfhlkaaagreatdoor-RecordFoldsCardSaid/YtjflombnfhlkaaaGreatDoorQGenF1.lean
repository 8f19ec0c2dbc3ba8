/-
  Walks of functions: what each computes, as a plain function.
-/
import Derived.Test.YtjflombnfhlkaaaGreatDoorAvTxt
import Derived.Test.YtjflombnfhlkaaaGreatDoorAvPz
import Derived.Test.YtjflombnfhlkaaaGreatDoorAvSq
noncomputable section
namespace Go.Av
open Go.Proofs Go.RowKit
set_option linter.unusedSectionVars false
set_option linter.unusedVariables false
set_option linter.unusedSimpArgs false
set_option maxRecDepth 100000
theorem fol:Tryz.prog.follows .mixedOrders=true:=by kernel_rfl
structure ql where
 Number:Int
 Kind:Str
 Names:List Str
 Values:List Int
 Text:Str
def qc:Enc ql:=(encI.prod (encS.prod ((qin encS).prod ((qin encI).prod encS)))).comap fun x=>(x.Number,x.Kind,x.Names,x.Values,x.Text)
instance:SE qc:=⟨nl rfl⟩
structure qj where
 Name:Str
 Batch:Str
 Born:Int
 Last:Int
 Uses:Int
 Used:Int
 Limit:Int
 Until:Int
 Gone:Bool
def qb:Enc qj:=(encS.prod (encS.prod (encI.prod (encI.prod (encI.prod (encI.prod (encI.prod (encI.prod encB)))))))).comap fun x=>(x.Name,x.Batch,x.Born,x.Last,x.Uses,x.Used,x.Limit,x.Until,x.Gone)
instance:SE qb:=⟨nl rfl⟩
abbrev cS (x:qj):List AV:=[.str x.Name,.str x.Batch,.i x.Born,.i x.Last,.i x.Uses,.i x.Used,.i x.Limit,.i x.Until,.bool x.Gone]
abbrev cE (x:ql):List AV:=[.i x.Number,.str x.Kind,vl encS x.Names,vl encI x.Values,.str x.Text]
abbrev bS (l:List qj):Blk:= .cells (l.flatMap qb.c)
abbrev cF (a:Int) (b:Str) (c:List Str) (d:List Int) (e:Str):List AV:=[.i a,.str b,vl encS c,vl encI d,.str e]
abbrev cT (a b:Str) (c d e f g h:Int) (i:Bool):List AV:=[.str a,.str b,.i c,.i d,.i e,.i f,.i g,.i h,.bool i]
structure vY where
 Day:Int
 Slings:List qj
def qer:Enc vY:=(encI.prod (qin qb)).comap fun x=>(x.Day,x.Slings)
instance:SE qer:=⟨nl rfl⟩
structure qm where
 Desk:Str
 Number:Int
 Clock:Int
 Line:Str
def qa:Enc qm:=(encS.prod (encI.prod (encI.prod encS))).comap fun x=>(x.Desk,x.Number,x.Clock,x.Line)
instance:SE qa:=⟨nl rfl⟩
structure qB where
 Desk:Str
 Number:Int
def qd:Enc qB:=(encS.prod encI).comap fun x=>(x.Desk,x.Number)
instance:SE qd:=⟨nl rfl⟩
structure StateT where
 number:Int
 register:vY
def qo:Enc StateT:=(encI.prod qer).comap fun x=>(x.number,x.register)
instance:SE qo:=⟨nl rfl⟩
structure qK where
 Day:Int
 Slings:List qj
def qgW:Enc qK:=(encI.prod (qin qb)).comap fun x=>(x.Day,x.Slings)
instance:SE qgW:=⟨nl rfl⟩
theorem xL:SlT Tryz.prog 24 3 1 8:=⟨by kernel_rfl,by kernel_rfl,by kernel_rfl,by kernel_rfl⟩
theorem ce3:CeT Tryz.prog 3:=⟨by kernel_rfl,by kernel_rfl⟩
theorem vT:SlT Tryz.prog 23 9 1 16:=⟨by kernel_rfl,by kernel_rfl,by kernel_rfl,by kernel_rfl⟩
theorem ce9:CeT Tryz.prog 9:=⟨by kernel_rfl,by kernel_rfl⟩
theorem vM:SlT Tryz.prog 22 26 5 88:=⟨by kernel_rfl,by kernel_rfl,by kernel_rfl,by kernel_rfl⟩
theorem qkt:CeT Tryz.prog 23:=⟨by kernel_rfl,by kernel_rfl⟩
theorem ce24:CeT Tryz.prog 24:=⟨by kernel_rfl,by kernel_rfl⟩
theorem qbs:SlT Tryz.prog 96 132 4 48:=⟨by kernel_rfl,by kernel_rfl,by kernel_rfl,by kernel_rfl⟩
theorem qbM:AgT Tryz.prog 132 4:=⟨by kernel_rfl,by kernel_rfl⟩
theorem qbv:SlT Tryz.prog 98 201 4 48:=⟨by kernel_rfl,by kernel_rfl,by kernel_rfl,by kernel_rfl⟩
theorem qks:SlT Tryz.prog 97 141 2 24:=⟨by kernel_rfl,by kernel_rfl,by kernel_rfl,by kernel_rfl⟩
theorem qll:AgT Tryz.prog 141 2:=⟨by kernel_rfl,by kernel_rfl⟩
theorem qdp:SlT Tryz.prog 100 202 2 24:=⟨by kernel_rfl,by kernel_rfl,by kernel_rfl,by kernel_rfl⟩
theorem sl218:SlT Tryz.prog 218 32 1 8:=⟨by kernel_rfl,by kernel_rfl,by kernel_rfl,by kernel_rfl⟩
theorem ce32:CeT Tryz.prog 32:=⟨by kernel_rfl,by kernel_rfl⟩
theorem qcc:SlT Tryz.prog 29 68 9 88:=⟨by kernel_rfl,by kernel_rfl,by kernel_rfl,by kernel_rfl⟩
theorem ag68:AgT Tryz.prog 68 9:=⟨by kernel_rfl,by kernel_rfl⟩
theorem st9:Tryz.prog.underlying 9=some .string:=by kernel_rfl
theorem qav:MapT Tryz.prog 154 9 152 (.agg [.i 0,.i 0,.nilfunc]):=⟨by kernel_rfl,by kernel_rfl,by kernel_rfl⟩
theorem qng:MpT Tryz.prog 65 9 3 .string (.i 0):=⟨by kernel_rfl,by kernel_rfl,by kernel_rfl⟩
theorem qkj:SlT Tryz.prog 163 167 3 40:=⟨by kernel_rfl,by kernel_rfl,by kernel_rfl,by kernel_rfl⟩
theorem ag31:AgT Tryz.prog 31 2:=⟨by kernel_rfl,by kernel_rfl⟩
theorem it3:Tryz.prog.underlying 3=some (.int .i64):=by kernel_rfl
theorem qhg:AgT Tryz.prog 201 4:=⟨by kernel_rfl,by kernel_rfl⟩
theorem qcz:SlT Tryz.prog 35 60 9 88:=⟨by kernel_rfl,by kernel_rfl,by kernel_rfl,by kernel_rfl⟩
theorem ag26:AgT Tryz.prog 26 5:=⟨by kernel_rfl,by kernel_rfl⟩
theorem ag60:AgT Tryz.prog 60 9:=⟨by kernel_rfl,by kernel_rfl⟩
theorem qnG:EqT Tryz.prog 201 #[{name:= "Desk",type:=9,offset:=0,embedded:=false,tag:= "",pkgPath:= "",byteOffset:=0},{name:= "Number",type:=3,offset:=1,embedded:=false,tag:= "",pkgPath:= "",byteOffset:=16},{name:= "Clock",type:=3,offset:=2,embedded:=false,tag:= "",pkgPath:= "",byteOffset:=24},{name:= "Line",type:=9,offset:=3,embedded:=false,tag:= "",pkgPath:= "",byteOffset:=32}]:=⟨by kernel_rfl,by kernel_rfl,by kernel_rfl⟩
theorem qnd:AgT Tryz.prog 202 2:=⟨by kernel_rfl,by kernel_rfl⟩
theorem qny:EqT Tryz.prog 202 #[{name:= "Desk",type:=9,offset:=0,embedded:=false,tag:= "",pkgPath:= "",byteOffset:=0},{name:= "Number",type:=3,offset:=1,embedded:=false,tag:= "",pkgPath:= "",byteOffset:=16}]:=⟨by kernel_rfl,by kernel_rfl,by kernel_rfl⟩
abbrev fm1:AV:= .fmap [.str [109,97,107,101],.str [116,101,115,116],.str [117,115,101],.str [102,97,105,108],.str [114,101,99,97,108,108],.str [117,110,100,111]] [.agg [.i 2,.i 3,.func (.func 141) [] []],.agg [.i 1,.i 2,.func (.func 142) [] []],.agg [.i 1,.i 2,.func (.func 143) [] []],.agg [.i 1,.i 1,.func (.func 144) [] []],.agg [.i 1,.i 1,.func (.func 145) [] []],.agg [.i 0,.i 0,.nilfunc]]
instance:SC 12 fm1:=⟨Still.fmap SX.h (AllST.cons SC.h (AllST.cons SC.h (AllST.cons SC.h (AllST.cons SC.h (AllST.cons SC.h (AllST.cons SC.h AllST.nil))))))⟩
def vJ (l:List Int):Nat→Int→Option (Unit⊕Int)
 |0,_=>none
 |K+1,n1=>
  if n1<(l.length:Int)then
  (idx l n1).bind fun x5=>
  if(!decide (x5=0))=true then
  some (.inr x5)
  else
  vJ l K (w64 (n1+1))
  else
  some (.inl ())
def qaX (N:Nat) (l:List Int):Option Int:=
 (vJ l N 0).bind (fun
 |(.inl ())=>
 some 0
 |(.inr q7)=>
 some q7)
theorem qgz (N:Nat) (l:List Int) {res:Int} (h:qaX N l=some res):qw Tryz.prog (.fn 28) [vl encI l] [] (.i res) []:=by
 unfold qaX at h
 refine Goes.fnW Tryz.func28 rfl rfl (m:=15) rfl (rs:=[.tmp 2]) rfl (l:=[(0,vl encI l)]) rfl ?_
 refine sq (Goes.rg fol [(0,vl encI l)] [] ?_)
 refine sq ?_
 refine sq (Goes.rg fol [(5,vl encI l),(6,.i (l.length:Int)),(7,.i 0)] [] ?_)
 refine Goes.block ?_
 obtain⟨r2,g2,h⟩:=bnd h
 refine Goes.imp (Q:=fun x s'=>(x= .exit 0∧(.inl ())=r2∧Sub s' (ofG 15 [],[]))∨(x= .ret∧ ∃q3,(.inr q3)=r2∧qW Tryz.prog [.tmp 2] (.i q3) .ret s')) ?_ ?_
 ·refine Goes.loopS (fun M s=> ∃(n1:Int),s=(ofG 15 [(5,vl encI l),(6,.i (l.length:Int)),(7,.i n1)],[])∧vJ l M n1=some r2) ?_ (m:=N) ⟨_,rfl,g2⟩
  rintro M s ⟨n1,rfl,g2⟩
  cases M with
  |zero=>simp only[vJ]at g2;cases g2
  |succ M=>
   rw[vJ]at g2
   refine sq (Goes.rg fol [(5,vl encI l),(6,.i (l.length:Int)),(7,.i n1),(8,.bool (decide (n1<(l.length:Int))))] [] ?_)
   refine sq ?_
   refine Goes.ifB (b:=decide (n1<(l.length:Int))) (by kernel_rfl) (fun c4=>?_) (fun c4=>?_)
   ·rw[if_pos (ot c4)]at g2
    refine Goes.skip ?_
    refine sq (Goes.block ?_)
    refine sq ?_
    obtain⟨x5,e_x5,g2⟩:=bnd g2
    refine Goes.rq fol [0,1] [(4,.i x5),(5,vl encI l),(6,.i (l.length:Int)),(7,.i n1)] [] (ac (iv xL encI e_x5) (ac (lv 0 ce3 encI e_x5 rfl) az)) ?_
    refine sq (Goes.rg fol [(4,.i x5),(5,vl encI l),(6,.i (l.length:Int)),(7,.i n1),(12,.bool (!decide (x5=0)))] [] ?_)
    refine Goes.ifB (b:=!decide (x5=0)) (by kernel_rfl) (fun c6=>?_) (fun c6=>?_)
    ·rw[if_pos (c6)]at g2
     refine sq (Goes.rg fol [(2,.i x5)] [] ?_)
     refine Goes.ret ?_
     obtain rfl:=si g2
     exact Or.inr (⟨rfl,_,rfl,(Goes.retW (xs:=[.i x5]) (by kernel_rfl) (FzW.still tI))⟩)
    ·rw[if_neg (nb c6)]at g2
     refine Goes.skip ?_
     refine Goes.rg fol [(5,vl encI l),(6,.i (l.length:Int)),(7,.i (w64 (n1+1)))] [] ?_
     exact⟨M,(ofG 15 [(5,vl encI l),(6,.i (l.length:Int)),(7,.i (w64 (n1+1)))],[]),Nat.lt_succ_self _,(Sub.refl _),_,rfl,g2⟩
   ·rw[if_neg (of_ c4)]at g2
    refine Goes.exit ?_
    obtain rfl:=si g2
    exact Or.inl (⟨rfl,rfl,(Sub.keep [] rfl rfl)⟩)
 rintro x s' (⟨rfl,rfl,hsub⟩|⟨rfl,q7,rfl,hret⟩)
 ·try dsimp only at h
  refine Goes.sub hsub ?_
  refine sq (Goes.rg fol [(2,.i 0)] [] ?_)
  refine Goes.ret ?_
  obtain rfl:=si h
  exact(Goes.retW (xs:=[.i 0]) (by kernel_rfl) (FzW.still tI))
 ·try dsimp only at h
  obtain rfl:=si h
  exact hret
def zx (a:List Int) (b:List Int):Nat→Int→Option (Unit⊕Bool)
 |0,_=>none
 |K+1,i_2=>
  if i_2<(a.length:Int)then
  (idx a i_2).bind fun x6=>
  (idx b i_2).bind fun x7=>
  if(!decide (x6=x7))=true then
  some (.inr false)
  else
  zx a b K (w64 (i_2+1))
  else
  some (.inl ())
def xx (N:Nat) (a:List Int) (b:List Int):Option Bool:=
 if(!decide ((a.length:Int)=(b.length:Int)))=true then
 some false
 else
 (zx a b N 0).bind (fun
 |(.inl ())=>
 some true
 |(.inr q9)=>
 some q9)
theorem qbO (N:Nat) (a:List Int) (b:List Int) {res:Bool} (h:xx N a b=some res):qw Tryz.prog (.fn 35) [vl encI a,vl encI b] [] (.bool res) []:=by
 unfold xx at h
 refine Goes.fnW Tryz.func35 rfl rfl (m:=26) rfl (rs:=[.tmp 4]) rfl (l:=[(0,vl encI a),(1,vl encI b)]) rfl ?_
 refine sq (Goes.rg fol [(0,vl encI a),(1,vl encI b)] [] ?_)
 refine sq ?_
 refine sq (Goes.rg fol [(0,vl encI a),(1,vl encI b),(10,.bool (!decide ((a.length:Int)=(b.length:Int))))] [] ?_)
 refine Goes.ifB (b:=!decide ((a.length:Int)=(b.length:Int))) (by kernel_rfl) (fun c1=>?_) (fun c1=>?_)
 ·rw[if_pos (c1)]at h
  refine sq (Goes.rg fol [(4,.bool false)] [] ?_)
  refine Goes.ret ?_
  obtain rfl:=si h
  exact(Goes.retW (xs:=[.bool false]) (by kernel_rfl) (FzW.still tB))
 ·rw[if_neg (nb c1)]at h
  refine Goes.skip ?_
  refine sq ?_
  refine sq (Goes.rg fol [(0,vl encI a),(1,vl encI b),(5,.i 0)] [] ?_)
  refine Goes.block ?_
  obtain⟨r3,g3,h⟩:=bnd h
  refine Goes.imp (Q:=fun x s'=>(x= .exit 0∧(.inl ())=r3∧Sub s' (ofG 26 [],[]))∨(x= .ret∧ ∃q4,(.inr q4)=r3∧qW Tryz.prog [.tmp 4] (.bool q4) .ret s')) ?_ ?_
  ·refine Goes.loopS (fun M s=> ∃(i_2:Int),s=(ofG 26 [(0,vl encI a),(1,vl encI b),(5,.i i_2)],[])∧zx a b M i_2=some r3) ?_ (m:=N) ⟨_,rfl,g3⟩
   rintro M s ⟨i_2,rfl,g3⟩
   cases M with
   |zero=>simp only[zx]at g3;cases g3
   |succ M=>
    rw[zx]at g3
    refine sq ?_
    refine sq (Goes.rg fol [(0,vl encI a),(1,vl encI b),(5,.i i_2),(14,.bool (decide (i_2<(a.length:Int))))] [] ?_)
    refine Goes.ifB (b:=decide (i_2<(a.length:Int))) (by kernel_rfl) (fun c5=>?_) (fun c5=>?_)
    ·rw[if_pos (ot c5)]at g3
     refine Goes.skip ?_
     refine sq (Goes.block ?_)
     refine sq ?_
     obtain⟨x6,e_x6,g3⟩:=bnd g3
     obtain⟨x7,e_x7,g3⟩:=bnd g3
     refine Goes.rq fol [2,3,6,7] [(0,vl encI a),(1,vl encI b),(5,.i i_2),(25,.bool (!decide (x6=x7)))] [] (ac (iv xL encI e_x6) (ac (lv 0 ce3 encI e_x6 rfl) (ac (iv xL encI e_x7) (ac (lv 0 ce3 encI e_x7 rfl) az)))) ?_
     refine Goes.ifB (b:=!decide (x6=x7)) (by kernel_rfl) (fun c8=>?_) (fun c8=>?_)
     ·rw[if_pos (c8)]at g3
      refine sq (Goes.rg fol [(4,.bool false)] [] ?_)
      refine Goes.ret ?_
      obtain rfl:=si g3
      exact Or.inr (⟨rfl,_,rfl,(Goes.retW (xs:=[.bool false]) (by kernel_rfl) (FzW.still tB))⟩)
     ·rw[if_neg (nb c8)]at g3
      refine Goes.skip ?_
      refine Goes.rg fol [(0,vl encI a),(1,vl encI b),(5,.i (w64 (i_2+1)))] [] ?_
      exact⟨M,(ofG 26 [(0,vl encI a),(1,vl encI b),(5,.i (w64 (i_2+1)))],[]),Nat.lt_succ_self _,(Sub.refl _),_,rfl,g3⟩
    ·rw[if_neg (of_ c5)]at g3
     refine Goes.exit ?_
     obtain rfl:=si g3
     exact Or.inl (⟨rfl,rfl,(Sub.keep [] rfl rfl)⟩)
  rintro x s' (⟨rfl,rfl,hsub⟩|⟨rfl,q9,rfl,hret⟩)
  ·try dsimp only at h
   refine Goes.sub hsub ?_
   refine sq (Goes.rg fol [(4,.bool true)] [] ?_)
   refine Goes.ret ?_
   obtain rfl:=si h
   exact(Goes.retW (xs:=[.bool true]) (by kernel_rfl) (FzW.still tB))
  ·try dsimp only at h
   obtain rfl:=si h
   exact hret
def ze (a:List Str) (b:List Str):Nat→Int→Option (Unit⊕Bool)
 |0,_=>none
 |K+1,i_2=>
  if i_2<(a.length:Int)then
  (idx a i_2).bind fun x6=>
  (idx b i_2).bind fun x7=>
  if(!(x6==x7))=true then
  some (.inr false)
  else
  ze a b K (w64 (i_2+1))
  else
  some (.inl ())
def yL (N:Nat) (a:List Str) (b:List Str):Option Bool:=
 if(!decide ((a.length:Int)=(b.length:Int)))=true then
 some false
 else
 (ze a b N 0).bind (fun
 |(.inl ())=>
 some true
 |(.inr q9)=>
 some q9)
theorem qae (N:Nat) (a:List Str) (b:List Str) {res:Bool} (h:yL N a b=some res):qw Tryz.prog (.fn 41) [vl encS a,vl encS b] [] (.bool res) []:=by
 unfold yL at h
 refine Goes.fnW Tryz.func41 rfl rfl (m:=26) rfl (rs:=[.tmp 4]) rfl (l:=[(0,vl encS a),(1,vl encS b)]) rfl ?_
 refine sq (Goes.rg fol [(0,vl encS a),(1,vl encS b)] [] ?_)
 refine sq ?_
 refine sq (Goes.rg fol [(0,vl encS a),(1,vl encS b),(10,.bool (!decide ((a.length:Int)=(b.length:Int))))] [] ?_)
 refine Goes.ifB (b:=!decide ((a.length:Int)=(b.length:Int))) (by kernel_rfl) (fun c1=>?_) (fun c1=>?_)
 ·rw[if_pos (c1)]at h
  refine sq (Goes.rg fol [(4,.bool false)] [] ?_)
  refine Goes.ret ?_
  obtain rfl:=si h
  exact(Goes.retW (xs:=[.bool false]) (by kernel_rfl) (FzW.still tB))
 ·rw[if_neg (nb c1)]at h
  refine Goes.skip ?_
  refine sq ?_
  refine sq (Goes.rg fol [(0,vl encS a),(1,vl encS b),(5,.i 0)] [] ?_)
  refine Goes.block ?_
  obtain⟨r3,g3,h⟩:=bnd h
  refine Goes.imp (Q:=fun x s'=>(x= .exit 0∧(.inl ())=r3∧Sub s' (ofG 26 [],[]))∨(x= .ret∧ ∃q4,(.inr q4)=r3∧qW Tryz.prog [.tmp 4] (.bool q4) .ret s')) ?_ ?_
  ·refine Goes.loopS (fun M s=> ∃(i_2:Int),s=(ofG 26 [(0,vl encS a),(1,vl encS b),(5,.i i_2)],[])∧ze a b M i_2=some r3) ?_ (m:=N) ⟨_,rfl,g3⟩
   rintro M s ⟨i_2,rfl,g3⟩
   cases M with
   |zero=>simp only[ze]at g3;cases g3
   |succ M=>
    rw[ze]at g3
    refine sq ?_
    refine sq (Goes.rg fol [(0,vl encS a),(1,vl encS b),(5,.i i_2),(14,.bool (decide (i_2<(a.length:Int))))] [] ?_)
    refine Goes.ifB (b:=decide (i_2<(a.length:Int))) (by kernel_rfl) (fun c5=>?_) (fun c5=>?_)
    ·rw[if_pos (ot c5)]at g3
     refine Goes.skip ?_
     refine sq (Goes.block ?_)
     refine sq ?_
     obtain⟨x6,e_x6,g3⟩:=bnd g3
     obtain⟨x7,e_x7,g3⟩:=bnd g3
     refine Goes.rq fol [2,3,6,7] [(0,vl encS a),(1,vl encS b),(5,.i i_2),(25,.bool (!(x6==x7)))] [] (ac (iv vT encS e_x6) (ac (lv 0 ce9 encS e_x6 rfl) (ac (iv vT encS e_x7) (ac (lv 0 ce9 encS e_x7 rfl) az)))) ?_
     refine Goes.ifB (b:=!(x6==x7)) (by kernel_rfl) (fun c8=>?_) (fun c8=>?_)
     ·rw[if_pos (c8)]at g3
      refine sq (Goes.rg fol [(4,.bool false)] [] ?_)
      refine Goes.ret ?_
      obtain rfl:=si g3
      exact Or.inr (⟨rfl,_,rfl,(Goes.retW (xs:=[.bool false]) (by kernel_rfl) (FzW.still tB))⟩)
     ·rw[if_neg (nb c8)]at g3
      refine Goes.skip ?_
      refine Goes.rg fol [(0,vl encS a),(1,vl encS b),(5,.i (w64 (i_2+1)))] [] ?_
      exact⟨M,(ofG 26 [(0,vl encS a),(1,vl encS b),(5,.i (w64 (i_2+1)))],[]),Nat.lt_succ_self _,(Sub.refl _),_,rfl,g3⟩
    ·rw[if_neg (of_ c5)]at g3
     refine Goes.exit ?_
     obtain rfl:=si g3
     exact Or.inl (⟨rfl,rfl,(Sub.keep [] rfl rfl)⟩)
  rintro x s' (⟨rfl,rfl,hsub⟩|⟨rfl,q9,rfl,hret⟩)
  ·try dsimp only at h
   refine Goes.sub hsub ?_
   refine sq (Goes.rg fol [(4,.bool true)] [] ?_)
   refine Goes.ret ?_
   obtain rfl:=si h
   exact(Goes.retW (xs:=[.bool true]) (by kernel_rfl) (FzW.still tB))
  ·try dsimp only at h
   obtain rfl:=si h
   exact hret
def kR (N:Nat) (a:List ql) (b:List ql):Nat→Int→Option (Unit⊕Bool)
 |0,_=>none
 |K+1,i_2=>
  if i_2<(a.length:Int)then
  ((idx a i_2).bind fun x6=>
  (idx b i_2).bind fun x7=>
  if(!decide (x6.Number=x7.Number))=true then
  some true
  else
  if(!(x6.Kind==x7.Kind))=true then
  some true
  else
  (yL N x6.Names x7.Names).bind fun r10=>
  if(!r10)=true then
  some true
  else
  (xx N x6.Values x7.Values).bind fun r12=>
  if(!r12)=true then
  some true
  else
  some (!(x6.Text==x7.Text)):Option Bool).bind fun b14=>
  if b14=true then
  some (.inr false)
  else
  kR N a b K (w64 (i_2+1))
  else
  some (.inl ())
def yf (N:Nat) (a:List ql) (b:List ql):Option Bool:=
 if(!decide ((a.length:Int)=(b.length:Int)))=true then
 some false
 else
 (kR N a b N 0).bind (fun
 |(.inl ())=>
 some true
 |(.inr q17)=>
 some q17)
theorem xO (N:Nat) (a:List ql) (b:List ql) {res:Bool} (h:yf N a b=some res):qw Tryz.prog (.fn 46) [vl qc a,vl qc b] [] (.bool res) []:=by
 unfold yf at h
 refine Goes.fnW Tryz.func46 rfl rfl (m:=82) rfl (rs:=[.tmp 4]) rfl (l:=[(0,vl qc a),(1,vl qc b)]) rfl ?_
 refine sq (Goes.rg fol [(0,vl qc a),(1,vl qc b)] [] ?_)
 refine sq ?_
 refine sq (Goes.rg fol [(0,vl qc a),(1,vl qc b),(10,.bool (!decide ((a.length:Int)=(b.length:Int))))] [] ?_)
 refine Goes.ifB (b:=!decide ((a.length:Int)=(b.length:Int))) (by kernel_rfl) (fun c1=>?_) (fun c1=>?_)
 ·rw[if_pos (c1)]at h
  refine sq (Goes.rg fol [(4,.bool false)] [] ?_)
  refine Goes.ret ?_
  obtain rfl:=si h
  exact(Goes.retW (xs:=[.bool false]) (by kernel_rfl) (FzW.still tB))
 ·rw[if_neg (nb c1)]at h
  refine Goes.skip ?_
  refine sq ?_
  refine sq (Goes.rg fol [(0,vl qc a),(1,vl qc b),(5,.i 0)] [] ?_)
  refine Goes.block ?_
  obtain⟨r3,g3,h⟩:=bnd h
  refine Goes.imp (Q:=fun x s'=>(x= .exit 0∧(.inl ())=r3∧Sub s' (ofG 82 [],[]))∨(x= .ret∧ ∃q4,(.inr q4)=r3∧qW Tryz.prog [.tmp 4] (.bool q4) .ret s')) ?_ ?_
  ·refine Goes.loopS (fun M s=> ∃(i_2:Int),s=(ofG 82 [(0,vl qc a),(1,vl qc b),(5,.i i_2)],[])∧kR N a b M i_2=some r3) ?_ (m:=N) ⟨_,rfl,g3⟩
   rintro M s ⟨i_2,rfl,g3⟩
   cases M with
   |zero=>simp only[kR]at g3;cases g3
   |succ M=>
    rw[kR]at g3
    refine sq ?_
    refine sq (Goes.rg fol [(0,vl qc a),(1,vl qc b),(5,.i i_2),(14,.bool (decide (i_2<(a.length:Int))))] [] ?_)
    refine Goes.ifB (b:=decide (i_2<(a.length:Int))) (by kernel_rfl) (fun c5=>?_) (fun c5=>?_)
    ·rw[if_pos (ot c5)]at g3
     refine Goes.skip ?_
     refine sq (Goes.block ?_)
     refine sq ?_
     obtain⟨b14,g_v15,g3⟩:=bnd g3
     refine Goes.cut (s':=(ofG 82 [(0,vl qc a),(1,vl qc b),(5,.i i_2),(81,.bool b14)],[])) ?_ ?_
     ·obtain⟨x6,e_x6,g_v15⟩:=bnd g_v15
      obtain⟨x7,e_x7,g_v15⟩:=bnd g_v15
      rcases Bool.eq_false_or_eq_true (!decide (x6.Number=x7.Number))with c8|c8
      ·rw[if_pos (c8)]at g_v15
       obtain rfl:=si g_v15
       exact qp.rq fol [2,4,7,9,11] [(0,vl qc a),(1,vl qc b),(5,.i i_2),(81,.bool true)] [] (ac (iv vM qc e_x6) (ac (lv 0 ce3 qc e_x6 rfl) (ac (iv vM qc e_x7) (ac (lv 0 ce3 qc e_x7 rfl) (ac (gw c8) az)))))
      ·rw[if_neg (nb c8)]at g_v15
       rcases Bool.eq_false_or_eq_true (!(x6.Kind==x7.Kind))with c9|c9
       ·rw[if_pos (c9)]at g_v15
        obtain rfl:=si g_v15
        exact qp.rq fol [2,4,7,9,11,14,16,19,21,24] [(0,vl qc a),(1,vl qc b),(5,.i i_2),(81,.bool true)] [] (ac (iv vM qc e_x6) (ac (lv 0 ce3 qc e_x6 rfl) (ac (iv vM qc e_x7) (ac (lv 0 ce3 qc e_x7 rfl) (ac (gw c8) (ac (iv vM qc e_x6) (ac (lv 1 ce9 qc e_x6 rfl) (ac (iv vM qc e_x7) (ac (lv 1 ce9 qc e_x7 rfl) (ac (gw c9) az))))))))))
       ·rw[if_neg (nb c9)]at g_v15
        obtain⟨r10,e_r10,g_v15⟩:=bnd g_v15
        rcases Bool.eq_false_or_eq_true (!r10)with c11|c11
        ·rw[if_pos (c11)]at g_v15
         obtain rfl:=si g_v15
         exact qp.rq fol [2,4,7,9,11,14,16,19,21,24,27,29,32,34,35,38] [(0,vl qc a),(1,vl qc b),(5,.i i_2),(81,.bool true)] [] (ac (iv vM qc e_x6) (ac (lv 0 ce3 qc e_x6 rfl) (ac (iv vM qc e_x7) (ac (lv 0 ce3 qc e_x7 rfl) (ac (gw c8) (ac (iv vM qc e_x6) (ac (lv 1 ce9 qc e_x6 rfl) (ac (iv vM qc e_x7) (ac (lv 1 ce9 qc e_x7 rfl) (ac (gw c9) (ac (iv vM qc e_x6) (ac (lv 2 qkt qc e_x6 rfl) (ac (iv vM qc e_x7) (ac (lv 2 qkt qc e_x7 rfl) (ac (cv (qae N x6.Names x7.Names e_r10)) (ac (gw c11) az))))))))))))))))
        ·rw[if_neg (nb c11)]at g_v15
         obtain⟨r12,e_r12,g_v15⟩:=bnd g_v15
         rcases Bool.eq_false_or_eq_true (!r12)with c13|c13
         ·rw[if_pos (c13)]at g_v15
          obtain rfl:=si g_v15
          exact qp.rq fol [2,4,7,9,11,14,16,19,21,24,27,29,32,34,35,38,41,43,46,48,49,52] [(0,vl qc a),(1,vl qc b),(5,.i i_2),(81,.bool true)] [] (ac (iv vM qc e_x6) (ac (lv 0 ce3 qc e_x6 rfl) (ac (iv vM qc e_x7) (ac (lv 0 ce3 qc e_x7 rfl) (ac (gw c8) (ac (iv vM qc e_x6) (ac (lv 1 ce9 qc e_x6 rfl) (ac (iv vM qc e_x7) (ac (lv 1 ce9 qc e_x7 rfl) (ac (gw c9) (ac (iv vM qc e_x6) (ac (lv 2 qkt qc e_x6 rfl) (ac (iv vM qc e_x7) (ac (lv 2 qkt qc e_x7 rfl) (ac (cv (qae N x6.Names x7.Names e_r10)) (ac (gw c11) (ac (iv vM qc e_x6) (ac (lv 3 ce24 qc e_x6 rfl) (ac (iv vM qc e_x7) (ac (lv 3 ce24 qc e_x7 rfl) (ac (cv (qbO N x6.Values x7.Values e_r12)) (ac (gw c13) az))))))))))))))))))))))
         ·rw[if_neg (nb c13)]at g_v15
          obtain rfl:=si g_v15
          exact qp.rq fol [2,4,7,9,11,14,16,19,21,24,27,29,32,34,35,38,41,43,46,48,49,52,55,57,60,62] [(0,vl qc a),(1,vl qc b),(5,.i i_2),(81,.bool (!(x6.Text==x7.Text)))] [] (ac (iv vM qc e_x6) (ac (lv 0 ce3 qc e_x6 rfl) (ac (iv vM qc e_x7) (ac (lv 0 ce3 qc e_x7 rfl) (ac (gw c8) (ac (iv vM qc e_x6) (ac (lv 1 ce9 qc e_x6 rfl) (ac (iv vM qc e_x7) (ac (lv 1 ce9 qc e_x7 rfl) (ac (gw c9) (ac (iv vM qc e_x6) (ac (lv 2 qkt qc e_x6 rfl) (ac (iv vM qc e_x7) (ac (lv 2 qkt qc e_x7 rfl) (ac (cv (qae N x6.Names x7.Names e_r10)) (ac (gw c11) (ac (iv vM qc e_x6) (ac (lv 3 ce24 qc e_x6 rfl) (ac (iv vM qc e_x7) (ac (lv 3 ce24 qc e_x7 rfl) (ac (cv (qbO N x6.Values x7.Values e_r12)) (ac (gw c13) (ac (iv vM qc e_x6) (ac (lv 4 ce9 qc e_x6 rfl) (ac (iv vM qc e_x7) (ac (lv 4 ce9 qc e_x7 rfl) az))))))))))))))))))))))))))
     refine Goes.ifB (b:=b14) (by kernel_rfl) (fun c16=>?_) (fun c16=>?_)
     ·rw[if_pos (c16)]at g3
      refine sq (Goes.rg fol [(4,.bool false)] [] ?_)
      refine Goes.ret ?_
      obtain rfl:=si g3
      exact Or.inr (⟨rfl,_,rfl,(Goes.retW (xs:=[.bool false]) (by kernel_rfl) (FzW.still tB))⟩)
     ·rw[if_neg (nb c16)]at g3
      refine Goes.skip ?_
      refine Goes.rg fol [(0,vl qc a),(1,vl qc b),(5,.i (w64 (i_2+1)))] [] ?_
      exact⟨M,(ofG 82 [(0,vl qc a),(1,vl qc b),(5,.i (w64 (i_2+1)))],[]),Nat.lt_succ_self _,(Sub.refl _),_,rfl,g3⟩
    ·rw[if_neg (of_ c5)]at g3
     refine Goes.exit ?_
     obtain rfl:=si g3
     exact Or.inl (⟨rfl,rfl,(Sub.keep [] rfl rfl)⟩)
  rintro x s' (⟨rfl,rfl,hsub⟩|⟨rfl,q17,rfl,hret⟩)
  ·try dsimp only at h
   refine Goes.sub hsub ?_
   refine sq (Goes.rg fol [(4,.bool true)] [] ?_)
   refine Goes.ret ?_
   obtain rfl:=si h
   exact(Goes.retW (xs:=[.bool true]) (by kernel_rfl) (FzW.still tB))
  ·try dsimp only at h
   obtain rfl:=si h
   exact hret
def jU (l:List qm):Nat→(List qm)→Int→Option (List qm)
 |0,_,_=>none
 |K+1,l1,n2=>
  if n2<(l.length:Int)then
  (idx l n2).bind fun x6=>
  (app 48 l1 [x6]).bind fun l7=>
  jU l K l7 (w64 (n2+1))
  else
  some l1
def qan (N:Nat) (l:List qm):Option (List qm):=
 (jU l N ([]:List qm) 0).bind fun l3=>
 some l3
theorem yg (N:Nat) (l:List qm) {res:List qm} (h:qan N l=some res):qw Tryz.prog (.fn 54) [vl qa l] [] (vl qa res) []:=by
 unfold qan at h
 refine Goes.fnW Tryz.func54 rfl rfl (m:=18) rfl (rs:=[.tmp 2]) rfl (l:=[(0,vl qa l)]) rfl ?_
 refine sq (Goes.rg fol [(0,vl qa l)] [] ?_)
 refine sq (Goes.rg fol [(0,vl qa l),(3,.nilslice)] [] ?_)
 refine sq ?_
 refine sq (Goes.rg fol [(3,.nilslice),(6,vl qa l),(7,.i (l.length:Int)),(8,.i 0)] [] ?_)
 refine Goes.block ?_
 obtain⟨r4,g4,h⟩:=bnd h
 refine Goes.imp (Q:=fun x s'=>(x= .exit 0∧ ∃l3,l3=r4∧Sub s' (ofG 18 [(3,.gslice 0 l3.length 4)],[.cells (l3.flatMap qa.c)]))) ?_ ?_
 ·refine Goes.sub (s':=(ofG 18 [(3,.gslice 0 ([]:List qm).length 4),(6,vl qa l),(7,.i (l.length:Int)),(8,.i 0)],[.cells (([]:List qm).flatMap qa.c)])) (Sub.norm [] [none] rfl rfl (.keep .nil (.keep (.same (qh qa _)) (.keep (.same nI) (.keep (.same nI) .nil)))) (.fresh .nil)) ?_
  refine Goes.loopS (fun M s=> ∃(l1:List qm) (n2:Int),s=(ofG 18 [(3,.gslice 0 l1.length 4),(6,vl qa l),(7,.i (l.length:Int)),(8,.i n2)],[.cells (l1.flatMap qa.c)])∧jU l M l1 n2=some r4) ?_ (m:=N) ⟨_,_,rfl,g4⟩
  rintro M s ⟨l1,n2,rfl,g4⟩
  cases M with
  |zero=>simp only[jU]at g4;cases g4
  |succ M=>
   rw[jU]at g4
   refine sq (Goes.rg fol [(3,.gslice 0 l1.length 4),(6,vl qa l),(7,.i (l.length:Int)),(8,.i n2),(9,.bool (decide (n2<(l.length:Int))))] [.cells (l1.flatMap qa.c)] ?_)
   refine sq ?_
   refine Goes.ifB (b:=decide (n2<(l.length:Int))) (by kernel_rfl) (fun c5=>?_) (fun c5=>?_)
   ·rw[if_pos (ot c5)]at g4
    refine Goes.skip ?_
    refine sq (Goes.block ?_)
    refine sq ?_
    obtain⟨x6,e_x6,g4⟩:=bnd g4
    refine Goes.rq fol [0,1] [(3,.gslice 0 l1.length 4),(5,.ptr 1 0),(6,vl qa l),(7,.i (l.length:Int)),(8,.i n2)] [.cells (l1.flatMap qa.c),.cells [.str x6.Desk,.i x6.Number,.i x6.Clock,.str x6.Line]] (ac (iv qbs qa e_x6) (ac (la qbM qa e_x6) az)) ?_
    obtain⟨l7,e_l7,g4⟩:=bnd g4
    refine Goes.rq fol [3] [(3,.gslice 3 l7.length 4),(6,vl qa l),(7,.i (l.length:Int)),(8,.i n2)] [.dead,.cells [.str x6.Desk,.i x6.Number,.i x6.Clock,.str x6.Line],.cells [.str x6.Desk,.i x6.Number,.i x6.Clock,.str x6.Line],.cells (l7.flatMap qa.c)] (ac (hs (.run [0,2] (qQ Tryz.prog [98,98] (.gslice 0 l1.length 4) (.slice 2 0 1 1 4)) [.cells (l1.flatMap qa.c),.cells [.str x6.Desk,.i x6.Number,.i x6.Clock,.str x6.Line],.cells [.str x6.Desk,.i x6.Number,.i x6.Clock,.str x6.Line]] (.gslice 3 l7.length 4) [.dead,.cells [.str x6.Desk,.i x6.Number,.i x6.Clock,.str x6.Line],.cells [.str x6.Desk,.i x6.Number,.i x6.Clock,.str x6.Line],.cells (l7.flatMap qa.c)] true) (kN qbv (E:=qa) rfl (xR (E:=qa) (ys:=[x6]) rfl rfl rfl rfl) (qb4 (E:=qa) (l:=l1) rfl rfl rfl e_l7 rfl))) az) ?_
    refine Goes.rg fol [(3,.gslice 3 l7.length 4),(6,vl qa l),(7,.i (l.length:Int)),(8,.i (w64 (n2+1)))] [.dead,.cells [.str x6.Desk,.i x6.Number,.i x6.Clock,.str x6.Line],.cells [.str x6.Desk,.i x6.Number,.i x6.Clock,.str x6.Line],.cells (l7.flatMap qa.c)] ?_
    exact⟨M,(ofG 18 [(3,.gslice 0 l7.length 4),(6,vl qa l),(7,.i (l.length:Int)),(8,.i (w64 (n2+1)))],[.cells (l7.flatMap qa.c)]),Nat.lt_succ_self _,(Sub.norm [] [some 3] rfl rfl (.keep (.gslice rfl) (.keep (.same (qh qa _)) (.keep (.same nI) (.keep (.same nI) .nil)))) (.keep rfl (.same fa) rfl rfl .nil)),_,_,rfl,g4⟩
   ·rw[if_neg (of_ c5)]at g4
    refine Goes.exit ?_
    obtain rfl:=si g4
    exact⟨rfl,_,rfl,(Sub.keep [3] rfl rfl)⟩
 rintro x s' ⟨rfl,l3,rfl,hsub⟩
 refine Goes.sub hsub ?_
 refine sq (Goes.rg fol [(2,.gslice 0 l3.length 4)] [.cells (l3.flatMap qa.c)] ?_)
 refine Goes.ret ?_
 obtain rfl:=si h
 exact(Goes.retW (xs:=[.gslice 0 l3.length 4]) (by kernel_rfl) (FzW.fz (Fz.gs (E:=qa) rfl rfl (nl rfl))))
def jR (l:List qB):Nat→(List qB)→Int→Option (List qB)
 |0,_,_=>none
 |K+1,l1,n2=>
  if n2<(l.length:Int)then
  (idx l n2).bind fun x6=>
  (app 24 l1 [x6]).bind fun l7=>
  jR l K l7 (w64 (n2+1))
  else
  some l1
def qaj (N:Nat) (l:List qB):Option (List qB):=
 (jR l N ([]:List qB) 0).bind fun l3=>
 some l3
theorem qbr (N:Nat) (l:List qB) {res:List qB} (h:qaj N l=some res):qw Tryz.prog (.fn 55) [vl qd l] [] (vl qd res) []:=by
 unfold qaj at h
 refine Goes.fnW Tryz.func55 rfl rfl (m:=18) rfl (rs:=[.tmp 2]) rfl (l:=[(0,vl qd l)]) rfl ?_
 refine sq (Goes.rg fol [(0,vl qd l)] [] ?_)
 refine sq (Goes.rg fol [(0,vl qd l),(3,.nilslice)] [] ?_)
 refine sq ?_
 refine sq (Goes.rg fol [(3,.nilslice),(6,vl qd l),(7,.i (l.length:Int)),(8,.i 0)] [] ?_)
 refine Goes.block ?_
 obtain⟨r4,g4,h⟩:=bnd h
 refine Goes.imp (Q:=fun x s'=>(x= .exit 0∧ ∃l3,l3=r4∧Sub s' (ofG 18 [(3,.gslice 0 l3.length 2)],[.cells (l3.flatMap qd.c)]))) ?_ ?_
 ·refine Goes.sub (s':=(ofG 18 [(3,.gslice 0 ([]:List qB).length 2),(6,vl qd l),(7,.i (l.length:Int)),(8,.i 0)],[.cells (([]:List qB).flatMap qd.c)])) (Sub.norm [] [none] rfl rfl (.keep .nil (.keep (.same (qh qd _)) (.keep (.same nI) (.keep (.same nI) .nil)))) (.fresh .nil)) ?_
  refine Goes.loopS (fun M s=> ∃(l1:List qB) (n2:Int),s=(ofG 18 [(3,.gslice 0 l1.length 2),(6,vl qd l),(7,.i (l.length:Int)),(8,.i n2)],[.cells (l1.flatMap qd.c)])∧jR l M l1 n2=some r4) ?_ (m:=N) ⟨_,_,rfl,g4⟩
  rintro M s ⟨l1,n2,rfl,g4⟩
  cases M with
  |zero=>simp only[jR]at g4;cases g4
  |succ M=>
   rw[jR]at g4
   refine sq (Goes.rg fol [(3,.gslice 0 l1.length 2),(6,vl qd l),(7,.i (l.length:Int)),(8,.i n2),(9,.bool (decide (n2<(l.length:Int))))] [.cells (l1.flatMap qd.c)] ?_)
   refine sq ?_
   refine Goes.ifB (b:=decide (n2<(l.length:Int))) (by kernel_rfl) (fun c5=>?_) (fun c5=>?_)
   ·rw[if_pos (ot c5)]at g4
    refine Goes.skip ?_
    refine sq (Goes.block ?_)
    refine sq ?_
    obtain⟨x6,e_x6,g4⟩:=bnd g4
    refine Goes.rq fol [0,1] [(3,.gslice 0 l1.length 2),(5,.ptr 1 0),(6,vl qd l),(7,.i (l.length:Int)),(8,.i n2)] [.cells (l1.flatMap qd.c),.cells [.str x6.Desk,.i x6.Number]] (ac (iv qks qd e_x6) (ac (la qll qd e_x6) az)) ?_
    obtain⟨l7,e_l7,g4⟩:=bnd g4
    refine Goes.rq fol [3] [(3,.gslice 3 l7.length 2),(6,vl qd l),(7,.i (l.length:Int)),(8,.i n2)] [.dead,.cells [.str x6.Desk,.i x6.Number],.cells [.str x6.Desk,.i x6.Number],.cells (l7.flatMap qd.c)] (ac (hs (.run [0,2] (qQ Tryz.prog [100,100] (.gslice 0 l1.length 2) (.slice 2 0 1 1 2)) [.cells (l1.flatMap qd.c),.cells [.str x6.Desk,.i x6.Number],.cells [.str x6.Desk,.i x6.Number]] (.gslice 3 l7.length 2) [.dead,.cells [.str x6.Desk,.i x6.Number],.cells [.str x6.Desk,.i x6.Number],.cells (l7.flatMap qd.c)] true) (kN qdp (E:=qd) rfl (xR (E:=qd) (ys:=[x6]) rfl rfl rfl rfl) (qb4 (E:=qd) (l:=l1) rfl rfl rfl e_l7 rfl))) az) ?_
    refine Goes.rg fol [(3,.gslice 3 l7.length 2),(6,vl qd l),(7,.i (l.length:Int)),(8,.i (w64 (n2+1)))] [.dead,.cells [.str x6.Desk,.i x6.Number],.cells [.str x6.Desk,.i x6.Number],.cells (l7.flatMap qd.c)] ?_
    exact⟨M,(ofG 18 [(3,.gslice 0 l7.length 2),(6,vl qd l),(7,.i (l.length:Int)),(8,.i (w64 (n2+1)))],[.cells (l7.flatMap qd.c)]),Nat.lt_succ_self _,(Sub.norm [] [some 3] rfl rfl (.keep (.gslice rfl) (.keep (.same (qh qd _)) (.keep (.same nI) (.keep (.same nI) .nil)))) (.keep rfl (.same fa) rfl rfl .nil)),_,_,rfl,g4⟩
   ·rw[if_neg (of_ c5)]at g4
    refine Goes.exit ?_
    obtain rfl:=si g4
    exact⟨rfl,_,rfl,(Sub.keep [3] rfl rfl)⟩
 rintro x s' ⟨rfl,l3,rfl,hsub⟩
 refine Goes.sub hsub ?_
 refine sq (Goes.rg fol [(2,.gslice 0 l3.length 2)] [.cells (l3.flatMap qd.c)] ?_)
 refine Goes.ret ?_
 obtain rfl:=si h
 exact(Goes.retW (xs:=[.gslice 0 l3.length 2]) (by kernel_rfl) (FzW.fz (Fz.gs (E:=qd) rfl rfl (nl rfl))))
def zu (l:List qm):Nat→Int→Option (Unit⊕Bool)
 |0,_=>none
 |K+1,i_6=>
  if i_6<(l.length:Int)then
  ((idx l i_6).bind fun x10=>
  if(x10.Desk.length:Int)>60 then
  some true
  else
  some (decide ((x10.Line.length:Int)>150)):Option Bool).bind fun b12=>
  if b12=true then
  some (.inr false)
  else
  zu l K (w64 (i_6+1))
  else
  some (.inl ())
def vB (N:Nat) (l:List qm) (n:Int):Option Bool:=
 (if(l.length:Int)>n then
 if(l.length:Int)≤1000 then
 some true
 else
 some (decide ((l.length:Int)>1003))
 else
 some (decide ((l.length:Int)>1003)):Option Bool).bind fun b3=>
 if b3=true then
 some false
 else
 (zu l N 0).bind (fun
 |(.inl ())=>
 some true
 |(.inr q15)=>
 some q15)
theorem qbc (N:Nat) (l:List qm) (n:Int) {res:Bool} (h:vB N l n=some res):qw Tryz.prog (.fn 56) [vl qa l,.i n] [] (.bool res) []:=by
 unfold vB at h
 refine Goes.fnW Tryz.func56 rfl rfl (m:=42) rfl (rs:=[.tmp 4]) rfl (l:=[(0,vl qa l),(1,.i n)]) rfl ?_
 refine sq (Goes.rg fol [(0,vl qa l),(1,.i n)] [] ?_)
 refine sq ?_
 refine sq ?_
 obtain⟨b3,g_v4,h⟩:=bnd h
 refine Goes.cut (s':=(ofG 42 [(0,vl qa l),(19,.bool b3)],[])) ?_ ?_
 ·rcases Bool.eq_false_or_eq_true (decide ((l.length:Int)>n))with c1|c1
  ·rw[if_pos (ot c1)]at g_v4
   rcases Bool.eq_false_or_eq_true (decide ((l.length:Int)≤1000))with c2|c2
   ·rw[if_pos (ot c2)]at g_v4
    obtain rfl:=si g_v4
    exact qp.rq fol [4,9] [(0,vl qa l),(19,.bool true)] [] (ac (gw c1) (ac (gw c2) az))
   ·rw[if_neg (of_ c2)]at g_v4
    obtain rfl:=si g_v4
    exact qp.rq fol [4,9] [(0,vl qa l),(19,.bool (decide ((l.length:Int)>1003)))] [] (ac (gw c1) (ac (gw c2) az))
  ·rw[if_neg (of_ c1)]at g_v4
   obtain rfl:=si g_v4
   exact qp.rq fol [4] [(0,vl qa l),(19,.bool (decide ((l.length:Int)>1003)))] [] (ac (gw c1) az)
 refine Goes.ifB (b:=b3) (by kernel_rfl) (fun c5=>?_) (fun c5=>?_)
 ·rw[if_pos (c5)]at h
  refine sq (Goes.rg fol [(4,.bool false)] [] ?_)
  refine Goes.ret ?_
  obtain rfl:=si h
  exact(Goes.retW (xs:=[.bool false]) (by kernel_rfl) (FzW.still tB))
 ·rw[if_neg (nb c5)]at h
  refine Goes.skip ?_
  refine sq ?_
  refine sq (Goes.rg fol [(0,vl qa l),(5,.i 0)] [] ?_)
  refine Goes.block ?_
  obtain⟨r7,g7,h⟩:=bnd h
  refine Goes.imp (Q:=fun x s'=>(x= .exit 0∧(.inl ())=r7∧Sub s' (ofG 42 [],[]))∨(x= .ret∧ ∃q8,(.inr q8)=r7∧qW Tryz.prog [.tmp 4] (.bool q8) .ret s')) ?_ ?_
  ·refine Goes.loopS (fun M s=> ∃(i_6:Int),s=(ofG 42 [(0,vl qa l),(5,.i i_6)],[])∧zu l M i_6=some r7) ?_ (m:=N) ⟨_,rfl,g7⟩
   rintro M s ⟨i_6,rfl,g7⟩
   cases M with
   |zero=>simp only[zu]at g7;cases g7
   |succ M=>
    rw[zu]at g7
    refine sq ?_
    refine sq (Goes.rg fol [(0,vl qa l),(5,.i i_6),(23,.bool (decide (i_6<(l.length:Int))))] [] ?_)
    refine Goes.ifB (b:=decide (i_6<(l.length:Int))) (by kernel_rfl) (fun c9=>?_) (fun c9=>?_)
    ·rw[if_pos (ot c9)]at g7
     refine Goes.skip ?_
     refine sq (Goes.block ?_)
     refine sq ?_
     obtain⟨b12,g_v13,g7⟩:=bnd g7
     refine Goes.cut (s':=(ofG 42 [(0,vl qa l),(5,.i i_6),(41,.bool b12)],[])) ?_ ?_
     ·obtain⟨x10,e_x10,g_v13⟩:=bnd g_v13
      rcases Bool.eq_false_or_eq_true (decide ((x10.Desk.length:Int)>60))with c11|c11
      ·rw[if_pos (ot c11)]at g_v13
       obtain rfl:=si g_v13
       exact qp.rq fol [2,4,7] [(0,vl qa l),(5,.i i_6),(41,.bool true)] [] (ac (iv qbv qa e_x10) (ac (lv 0 ce9 qa e_x10 rfl) (ac (gw c11) az)))
      ·rw[if_neg (of_ c11)]at g_v13
       obtain rfl:=si g_v13
       exact qp.rq fol [2,4,7,10,12] [(0,vl qa l),(5,.i i_6),(41,.bool (decide ((x10.Line.length:Int)>150)))] [] (ac (iv qbv qa e_x10) (ac (lv 0 ce9 qa e_x10 rfl) (ac (gw c11) (ac (iv qbv qa e_x10) (ac (lv 3 ce9 qa e_x10 rfl) az)))))
     refine Goes.ifB (b:=b12) (by kernel_rfl) (fun c14=>?_) (fun c14=>?_)
     ·rw[if_pos (c14)]at g7
      refine sq (Goes.rg fol [(4,.bool false)] [] ?_)
      refine Goes.ret ?_
      obtain rfl:=si g7
      exact Or.inr (⟨rfl,_,rfl,(Goes.retW (xs:=[.bool false]) (by kernel_rfl) (FzW.still tB))⟩)
     ·rw[if_neg (nb c14)]at g7
      refine Goes.skip ?_
      refine Goes.rg fol [(0,vl qa l),(5,.i (w64 (i_6+1)))] [] ?_
      exact⟨M,(ofG 42 [(0,vl qa l),(5,.i (w64 (i_6+1)))],[]),Nat.lt_succ_self _,(Sub.refl _),_,rfl,g7⟩
    ·rw[if_neg (of_ c9)]at g7
     refine Goes.exit ?_
     obtain rfl:=si g7
     exact Or.inl (⟨rfl,rfl,(Sub.keep [] rfl rfl)⟩)
  rintro x s' (⟨rfl,rfl,hsub⟩|⟨rfl,q15,rfl,hret⟩)
  ·try dsimp only at h
   refine Goes.sub hsub ?_
   refine sq (Goes.rg fol [(4,.bool true)] [] ?_)
   refine Goes.ret ?_
   obtain rfl:=si h
   exact(Goes.retW (xs:=[.bool true]) (by kernel_rfl) (FzW.still tB))
  ·try dsimp only at h
   obtain rfl:=si h
   exact hret
def zw (l:List qB):Nat→Int→Option (Unit⊕Bool)
 |0,_=>none
 |K+1,i_6=>
  if i_6<(l.length:Int)then
  (idx l i_6).bind fun x10=>
  if(x10.Desk.length:Int)>60 then
  some (.inr false)
  else
  zw l K (w64 (i_6+1))
  else
  some (.inl ())
def yj (N:Nat) (l:List qB):Option Bool:=
 (if(l.length:Int)>12 then
 if(l.length:Int)≤1000 then
 some true
 else
 some (decide ((l.length:Int)>1003))
 else
 some (decide ((l.length:Int)>1003)):Option Bool).bind fun b3=>
 if b3=true then
 some false
 else
 (zw l N 0).bind (fun
 |(.inl ())=>
 some true
 |(.inr q12)=>
 some q12)
theorem qdT (N:Nat) (l:List qB) {res:Bool} (h:yj N l=some res):qw Tryz.prog (.fn 57) [vl qd l] [] (.bool res) []:=by
 unfold yj at h
 refine Goes.fnW Tryz.func57 rfl rfl (m:=30) rfl (rs:=[.tmp 2]) rfl (l:=[(0,vl qd l)]) rfl ?_
 refine sq (Goes.rg fol [(0,vl qd l)] [] ?_)
 refine sq ?_
 refine sq ?_
 obtain⟨b3,g_v4,h⟩:=bnd h
 refine Goes.cut (s':=(ofG 30 [(0,vl qd l),(16,.bool b3)],[])) ?_ ?_
 ·rcases Bool.eq_false_or_eq_true (decide ((l.length:Int)>12))with c1|c1
  ·rw[if_pos (ot c1)]at g_v4
   rcases Bool.eq_false_or_eq_true (decide ((l.length:Int)≤1000))with c2|c2
   ·rw[if_pos (ot c2)]at g_v4
    obtain rfl:=si g_v4
    exact qp.rq fol [3,8] [(0,vl qd l),(16,.bool true)] [] (ac (gw c1) (ac (gw c2) az))
   ·rw[if_neg (of_ c2)]at g_v4
    obtain rfl:=si g_v4
    exact qp.rq fol [3,8] [(0,vl qd l),(16,.bool (decide ((l.length:Int)>1003)))] [] (ac (gw c1) (ac (gw c2) az))
  ·rw[if_neg (of_ c1)]at g_v4
   obtain rfl:=si g_v4
   exact qp.rq fol [3] [(0,vl qd l),(16,.bool (decide ((l.length:Int)>1003)))] [] (ac (gw c1) az)
 refine Goes.ifB (b:=b3) (by kernel_rfl) (fun c5=>?_) (fun c5=>?_)
 ·rw[if_pos (c5)]at h
  refine sq (Goes.rg fol [(2,.bool false)] [] ?_)
  refine Goes.ret ?_
  obtain rfl:=si h
  exact(Goes.retW (xs:=[.bool false]) (by kernel_rfl) (FzW.still tB))
 ·rw[if_neg (nb c5)]at h
  refine Goes.skip ?_
  refine sq ?_
  refine sq (Goes.rg fol [(0,vl qd l),(3,.i 0)] [] ?_)
  refine Goes.block ?_
  obtain⟨r7,g7,h⟩:=bnd h
  refine Goes.imp (Q:=fun x s'=>(x= .exit 0∧(.inl ())=r7∧Sub s' (ofG 30 [],[]))∨(x= .ret∧ ∃q8,(.inr q8)=r7∧qW Tryz.prog [.tmp 2] (.bool q8) .ret s')) ?_ ?_
  ·refine Goes.loopS (fun M s=> ∃(i_6:Int),s=(ofG 30 [(0,vl qd l),(3,.i i_6)],[])∧zw l M i_6=some r7) ?_ (m:=N) ⟨_,rfl,g7⟩
   rintro M s ⟨i_6,rfl,g7⟩
   cases M with
   |zero=>simp only[zw]at g7;cases g7
   |succ M=>
    rw[zw]at g7
    refine sq ?_
    refine sq (Goes.rg fol [(0,vl qd l),(3,.i i_6),(20,.bool (decide (i_6<(l.length:Int))))] [] ?_)
    refine Goes.ifB (b:=decide (i_6<(l.length:Int))) (by kernel_rfl) (fun c9=>?_) (fun c9=>?_)
    ·rw[if_pos (ot c9)]at g7
     refine Goes.skip ?_
     refine sq (Goes.block ?_)
     refine sq ?_
     obtain⟨x10,e_x10,g7⟩:=bnd g7
     refine Goes.rq fol [2,4] [(0,vl qd l),(3,.i i_6),(29,.bool (decide ((x10.Desk.length:Int)>60)))] [] (ac (iv qdp qd e_x10) (ac (lv 0 ce9 qd e_x10 rfl) az)) ?_
     refine Goes.ifB (b:=decide ((x10.Desk.length:Int)>60)) (by kernel_rfl) (fun c11=>?_) (fun c11=>?_)
     ·rw[if_pos (ot c11)]at g7
      refine sq (Goes.rg fol [(2,.bool false)] [] ?_)
      refine Goes.ret ?_
      obtain rfl:=si g7
      exact Or.inr (⟨rfl,_,rfl,(Goes.retW (xs:=[.bool false]) (by kernel_rfl) (FzW.still tB))⟩)
     ·rw[if_neg (of_ c11)]at g7
      refine Goes.skip ?_
      refine Goes.rg fol [(0,vl qd l),(3,.i (w64 (i_6+1)))] [] ?_
      exact⟨M,(ofG 30 [(0,vl qd l),(3,.i (w64 (i_6+1)))],[]),Nat.lt_succ_self _,(Sub.refl _),_,rfl,g7⟩
    ·rw[if_neg (of_ c9)]at g7
     refine Goes.exit ?_
     obtain rfl:=si g7
     exact Or.inl (⟨rfl,rfl,(Sub.keep [] rfl rfl)⟩)
  rintro x s' (⟨rfl,rfl,hsub⟩|⟨rfl,q12,rfl,hret⟩)
  ·try dsimp only at h
   refine Goes.sub hsub ?_
   refine sq (Goes.rg fol [(2,.bool true)] [] ?_)
   refine Goes.ret ?_
   obtain rfl:=si h
   exact(Goes.retW (xs:=[.bool true]) (by kernel_rfl) (FzW.still tB))
  ·try dsimp only at h
   obtain rfl:=si h
   exact hret
def jZ (l:List Int):Nat→Int→Option (Unit⊕Int)
 |0,_=>none
 |K+1,n1=>
  if n1<(l.length:Int)then
  (idx l n1).bind fun x5=>
  if(!decide (x5=0))=true then
  some (.inr x5)
  else
  jZ l K (w64 (n1+1))
  else
  some (.inl ())
def qV (N:Nat) (l:List Int):Option Int:=
 (jZ l N 0).bind (fun
 |(.inl ())=>
 some 0
 |(.inr q7)=>
 some q7)
theorem kS (N:Nat) (l:List Int) {res:Int} (h:qV N l=some res):qw Tryz.prog (.fn 86) [vl encI l] [] (.i res) []:=by
 unfold qV at h
 refine Goes.fnW Tryz.func86 rfl rfl (m:=15) rfl (rs:=[.tmp 2]) rfl (l:=[(0,vl encI l)]) rfl ?_
 refine sq (Goes.rg fol [(0,vl encI l)] [] ?_)
 refine sq ?_
 refine sq (Goes.rg fol [(5,vl encI l),(6,.i (l.length:Int)),(7,.i 0)] [] ?_)
 refine Goes.block ?_
 obtain⟨r2,g2,h⟩:=bnd h
 refine Goes.imp (Q:=fun x s'=>(x= .exit 0∧(.inl ())=r2∧Sub s' (ofG 15 [],[]))∨(x= .ret∧ ∃q3,(.inr q3)=r2∧qW Tryz.prog [.tmp 2] (.i q3) .ret s')) ?_ ?_
 ·refine Goes.loopS (fun M s=> ∃(n1:Int),s=(ofG 15 [(5,vl encI l),(6,.i (l.length:Int)),(7,.i n1)],[])∧jZ l M n1=some r2) ?_ (m:=N) ⟨_,rfl,g2⟩
  rintro M s ⟨n1,rfl,g2⟩
  cases M with
  |zero=>simp only[jZ]at g2;cases g2
  |succ M=>
   rw[jZ]at g2
   refine sq (Goes.rg fol [(5,vl encI l),(6,.i (l.length:Int)),(7,.i n1),(8,.bool (decide (n1<(l.length:Int))))] [] ?_)
   refine sq ?_
   refine Goes.ifB (b:=decide (n1<(l.length:Int))) (by kernel_rfl) (fun c4=>?_) (fun c4=>?_)
   ·rw[if_pos (ot c4)]at g2
    refine Goes.skip ?_
    refine sq (Goes.block ?_)
    refine sq ?_
    obtain⟨x5,e_x5,g2⟩:=bnd g2
    refine Goes.rq fol [0,1] [(4,.i x5),(5,vl encI l),(6,.i (l.length:Int)),(7,.i n1)] [] (ac (iv sl218 encI e_x5) (ac (lv 0 ce32 encI e_x5 rfl) az)) ?_
    refine sq (Goes.rg fol [(4,.i x5),(5,vl encI l),(6,.i (l.length:Int)),(7,.i n1),(12,.bool (!decide (x5=0)))] [] ?_)
    refine Goes.ifB (b:=!decide (x5=0)) (by kernel_rfl) (fun c6=>?_) (fun c6=>?_)
    ·rw[if_pos (c6)]at g2
     refine sq (Goes.rg fol [(2,.i x5)] [] ?_)
     refine Goes.ret ?_
     obtain rfl:=si g2
     exact Or.inr (⟨rfl,_,rfl,(Goes.retW (xs:=[.i x5]) (by kernel_rfl) (FzW.still tI))⟩)
    ·rw[if_neg (nb c6)]at g2
     refine Goes.skip ?_
     refine Goes.rg fol [(5,vl encI l),(6,.i (l.length:Int)),(7,.i (w64 (n1+1)))] [] ?_
     exact⟨M,(ofG 15 [(5,vl encI l),(6,.i (l.length:Int)),(7,.i (w64 (n1+1)))],[]),Nat.lt_succ_self _,(Sub.refl _),_,rfl,g2⟩
   ·rw[if_neg (of_ c4)]at g2
    refine Goes.exit ?_
    obtain rfl:=si g2
    exact Or.inl (⟨rfl,rfl,(Sub.keep [] rfl rfl)⟩)
 rintro x s' (⟨rfl,rfl,hsub⟩|⟨rfl,q7,rfl,hret⟩)
 ·try dsimp only at h
  refine Goes.sub hsub ?_
  refine sq (Goes.rg fol [(2,.i 0)] [] ?_)
  refine Goes.ret ?_
  obtain rfl:=si h
  exact(Goes.retW (xs:=[.i 0]) (by kernel_rfl) (FzW.still tI))
 ·try dsimp only at h
  obtain rfl:=si h
  exact hret
def qU (holds:Bool) (e:Int):Option Int:=
 if holds=true then
 some e
 else
 some 0
theorem qL (holds:Bool) (e:Int) {res:Int} (h:qU holds e=some res):qw Tryz.prog (.fn 88) [.bool holds,.i e] [] (.i res) []:=by
 unfold qU at h
 refine Goes.fnW Tryz.func88 rfl rfl (m:=7) rfl (rs:=[.tmp 4]) rfl (l:=[(0,.bool holds),(1,.i e)]) rfl ?_
 refine sq (Goes.rg fol [(0,.bool holds),(1,.i e)] [] ?_)
 refine sq ?_
 refine sq (Goes.rg fol [(1,.i e),(5,.bool holds)] [] ?_)
 refine Goes.ifB (b:=holds) (by kernel_rfl) (fun c1=>?_) (fun c1=>?_)
 ·rw[if_pos (c1)]at h
  refine sq (Goes.rg fol [(4,.i e)] [] ?_)
  refine Goes.ret ?_
  obtain rfl:=si h
  exact(Goes.retW (xs:=[.i e]) (by kernel_rfl) (FzW.still tI))
 ·rw[if_neg (nb c1)]at h
  refine Goes.skip ?_
  refine sq (Goes.rg fol [(4,.i 0)] [] ?_)
  refine Goes.ret ?_
  obtain rfl:=si h
  exact(Goes.retW (xs:=[.i 0]) (by kernel_rfl) (FzW.still tI))
def zm (n:qm):Option qB:=
 some (⟨n.Desk,n.Number⟩:qB)
theorem zq (n:qm) {res:qB} (h:zm n=some res):qw Tryz.prog (.fn 129) [.agg [.str n.Desk,.i n.Number,.i n.Clock,.str n.Line]] [] (.agg [.str res.Desk,.i res.Number]) []:=by
 unfold zm at h
 refine Goes.fnW Tryz.func129 rfl rfl (m:=8) rfl (rs:=[.cell 2 141]) rfl (l:=[(0,.agg [.str n.Desk,.i n.Number,.i n.Clock,.str n.Line])]) rfl ?_
 refine sq (Goes.rg fol [(1,.ptr 0 0),(2,.ptr 1 0)] [.cells [.str n.Desk,.i n.Number,.i n.Clock,.str n.Line],.cells [.str [],.i 0]] ?_)
 refine sq (Goes.rg fol [(2,.ptr 1 0)] [.cells [.str n.Desk,.i n.Number,.i n.Clock,.str n.Line],.cells [.str n.Desk,.i n.Number]] ?_)
 refine Goes.ret ?_
 obtain rfl:=si h
 exact(Goes.retW (xs:=[.agg [.str n.Desk,.i n.Number]]) (by kernel_rfl) (FzW.agg (qz.cons (FzW.still tS) (qz.cons (FzW.still tI) qz.nil))))
def cmp_isNaN_int (x_:Int):Option Bool:=
 some (!decide (x_=x_))
theorem qb1 (x_:Int) {res:Bool} (h:cmp_isNaN_int x_=some res):qw Tryz.prog (.fn 171) [.i x_] [] (.bool res) []:=by
 unfold cmp_isNaN_int at h
 refine Goes.fnW Tryz.func171 rfl rfl (m:=6) rfl (rs:=[.tmp 2]) rfl (l:=[(0,.i x_)]) rfl ?_
 refine sq (Goes.rg fol [(0,.i x_)] [] ?_)
 refine sq (Goes.rg fol [(2,.bool (!decide (x_=x_)))] [] ?_)
 refine Goes.ret ?_
 obtain rfl:=si h
 exact(Goes.retW (xs:=[.bool (!decide (x_=x_))]) (by kernel_rfl) (FzW.still tB))
def cmp_Compare_int (x_:Int) (y:Int):Option Int:=
 (cmp_isNaN_int x_).bind fun r1=>
 (cmp_isNaN_int y).bind fun r2=>
 if r1=true then
 if r2=true then
 some 0
 else
 some (-1)
 else
 if r2=true then
 some 1
 else
 if x_<y then
 some (-1)
 else
 if x_>y then
 some 1
 else
 some 0
theorem qbz (x_:Int) (y:Int) {res:Int} (h:cmp_Compare_int x_ y=some res):qw Tryz.prog (.fn 126) [.i x_,.i y] [] (.i res) []:=by
 unfold cmp_Compare_int at h
 refine Goes.fnW Tryz.func126 rfl rfl (m:=20) rfl (rs:=[.tmp 4]) rfl (l:=[(0,.i x_),(1,.i y)]) rfl ?_
 refine sq (Goes.rg fol [(0,.i x_),(1,.i y)] [] ?_)
 refine sq ?_
 obtain⟨r1,e_r1,h⟩:=bnd h
 refine Goes.rq fol [1] [(0,.i x_),(1,.i y),(5,.bool r1)] [] (ac (cv (qb1 x_ e_r1)) az) ?_
 refine sq ?_
 obtain⟨r2,e_r2,h⟩:=bnd h
 refine Goes.rq fol [1] [(0,.i x_),(1,.i y),(5,.bool r1),(6,.bool r2)] [] (ac (cv (qb1 y e_r2)) az) ?_
 refine sq ?_
 refine sq (Goes.rg fol [(0,.i x_),(1,.i y),(6,.bool r2),(11,.bool r1)] [] ?_)
 refine Goes.ifB (b:=r1) (by kernel_rfl) (fun c3=>?_) (fun c3=>?_)
 ·rw[if_pos (c3)]at h
  refine sq ?_
  refine sq (Goes.rg fol [(12,.bool r2)] [] ?_)
  refine Goes.ifB (b:=r2) (by kernel_rfl) (fun c4=>?_) (fun c4=>?_)
  ·rw[if_pos (c4)]at h
   refine sq (Goes.rg fol [(4,.i 0)] [] ?_)
   refine Goes.ret ?_
   obtain rfl:=si h
   exact(Goes.retW (xs:=[.i 0]) (by kernel_rfl) (FzW.still tI))
  ·rw[if_neg (nb c4)]at h
   refine Goes.skip ?_
   refine sq (Goes.rg fol [(4,.i (-1))] [] ?_)
   refine Goes.ret ?_
   obtain rfl:=si h
   exact(Goes.retW (xs:=[.i (-1)]) (by kernel_rfl) (FzW.still tI))
 ·rw[if_neg (nb c3)]at h
  refine Goes.skip ?_
  refine sq ?_
  refine sq (Goes.rg fol [(0,.i x_),(1,.i y),(13,.bool r2)] [] ?_)
  refine Goes.ifB (b:=r2) (by kernel_rfl) (fun c5=>?_) (fun c5=>?_)
  ·rw[if_pos (c5)]at h
   refine sq (Goes.rg fol [(4,.i 1)] [] ?_)
   refine Goes.ret ?_
   obtain rfl:=si h
   exact(Goes.retW (xs:=[.i 1]) (by kernel_rfl) (FzW.still tI))
  ·rw[if_neg (nb c5)]at h
   refine Goes.skip ?_
   refine sq ?_
   refine sq (Goes.rg fol [(0,.i x_),(1,.i y),(16,.bool (decide (x_<y)))] [] ?_)
   refine Goes.ifB (b:=decide (x_<y)) (by kernel_rfl) (fun c6=>?_) (fun c6=>?_)
   ·rw[if_pos (ot c6)]at h
    refine sq (Goes.rg fol [(4,.i (-1))] [] ?_)
    refine Goes.ret ?_
    obtain rfl:=si h
    exact(Goes.retW (xs:=[.i (-1)]) (by kernel_rfl) (FzW.still tI))
   ·rw[if_neg (of_ c6)]at h
    refine Goes.skip ?_
    refine sq ?_
    refine sq (Goes.rg fol [(19,.bool (decide (x_>y)))] [] ?_)
    refine Goes.ifB (b:=decide (x_>y)) (by kernel_rfl) (fun c7=>?_) (fun c7=>?_)
    ·rw[if_pos (ot c7)]at h
     refine sq (Goes.rg fol [(4,.i 1)] [] ?_)
     refine Goes.ret ?_
     obtain rfl:=si h
     exact(Goes.retW (xs:=[.i 1]) (by kernel_rfl) (FzW.still tI))
    ·rw[if_neg (of_ c7)]at h
     refine Goes.skip ?_
     refine sq (Goes.rg fol [(4,.i 0)] [] ?_)
     refine Goes.ret ?_
     obtain rfl:=si h
     exact(Goes.retW (xs:=[.i 0]) (by kernel_rfl) (FzW.still tI))
def vo (vals:List Int):Nat→Int→Option (Unit⊕Int)
 |0,_=>none
 |K+1,n1=>
  if n1<(vals.length:Int)then
  (idx vals n1).bind fun x5=>
  if(!decide (x5=0))=true then
  some (.inr x5)
  else
  vo vals K (w64 (n1+1))
  else
  some (.inl ())
def qbp (N:Nat) (vals:List Int):Option Int:=
 (vo vals N 0).bind (fun
 |(.inl ())=>
 some 0
 |(.inr q7)=>
 some q7)
theorem qg4 (N:Nat) (vals:List Int) {res:Int} (h:qbp N vals=some res):qw Tryz.prog (.fn 177) [vl encI vals] [] (.i res) []:=by
 unfold qbp at h
 refine Goes.fnW Tryz.func177 rfl rfl (m:=18) rfl (rs:=[.tmp 2]) rfl (l:=[(0,vl encI vals)]) rfl ?_
 refine sq (Goes.rg fol [(0,vl encI vals)] [] ?_)
 refine sq (Goes.rg fol [(0,vl encI vals),(3,.i 0)] [] ?_)
 refine sq ?_
 refine sq (Goes.rg fol [(3,.i 0),(6,vl encI vals),(7,.i (vals.length:Int)),(8,.i 0)] [] ?_)
 refine Goes.block ?_
 obtain⟨r2,g2,h⟩:=bnd h
 refine Goes.imp (Q:=fun x s'=>(x= .exit 0∧(.inl ())=r2∧Sub s' (ofG 18 [(3,.i 0)],[]))∨(x= .ret∧ ∃q3,(.inr q3)=r2∧qW Tryz.prog [.tmp 2] (.i q3) .ret s')) ?_ ?_
 ·refine Goes.loopS (fun M s=> ∃(n1:Int),s=(ofG 18 [(3,.i 0),(6,vl encI vals),(7,.i (vals.length:Int)),(8,.i n1)],[])∧vo vals M n1=some r2) ?_ (m:=N) ⟨_,rfl,g2⟩
  rintro M s ⟨n1,rfl,g2⟩
  cases M with
  |zero=>simp only[vo]at g2;cases g2
  |succ M=>
   rw[vo]at g2
   refine sq (Goes.rg fol [(3,.i 0),(6,vl encI vals),(7,.i (vals.length:Int)),(8,.i n1),(9,.bool (decide (n1<(vals.length:Int))))] [] ?_)
   refine sq ?_
   refine Goes.ifB (b:=decide (n1<(vals.length:Int))) (by kernel_rfl) (fun c4=>?_) (fun c4=>?_)
   ·rw[if_pos (ot c4)]at g2
    refine Goes.skip ?_
    refine sq (Goes.block ?_)
    refine sq ?_
    obtain⟨x5,e_x5,g2⟩:=bnd g2
    refine Goes.rq fol [0,1] [(3,.i 0),(5,.i x5),(6,vl encI vals),(7,.i (vals.length:Int)),(8,.i n1)] [] (ac (iv xL encI e_x5) (ac (lv 0 ce3 encI e_x5 rfl) az)) ?_
    refine sq (Goes.rg fol [(3,.i 0),(5,.i x5),(6,vl encI vals),(7,.i (vals.length:Int)),(8,.i n1),(14,.bool (!decide (x5=0)))] [] ?_)
    refine Goes.ifB (b:=!decide (x5=0)) (by kernel_rfl) (fun c6=>?_) (fun c6=>?_)
    ·rw[if_pos (c6)]at g2
     refine sq (Goes.rg fol [(2,.i x5)] [] ?_)
     refine Goes.ret ?_
     obtain rfl:=si g2
     exact Or.inr (⟨rfl,_,rfl,(Goes.retW (xs:=[.i x5]) (by kernel_rfl) (FzW.still tI))⟩)
    ·rw[if_neg (nb c6)]at g2
     refine Goes.skip ?_
     refine Goes.rg fol [(3,.i 0),(6,vl encI vals),(7,.i (vals.length:Int)),(8,.i (w64 (n1+1)))] [] ?_
     exact⟨M,(ofG 18 [(3,.i 0),(6,vl encI vals),(7,.i (vals.length:Int)),(8,.i (w64 (n1+1)))],[]),Nat.lt_succ_self _,(Sub.refl _),_,rfl,g2⟩
   ·rw[if_neg (of_ c4)]at g2
    refine Goes.exit ?_
    obtain rfl:=si g2
    exact Or.inl (⟨rfl,rfl,(Sub.keep [3] rfl rfl)⟩)
 rintro x s' (⟨rfl,rfl,hsub⟩|⟨rfl,q7,rfl,hret⟩)
 ·try dsimp only at h
  refine Goes.sub hsub ?_
  refine sq (Goes.rg fol [(2,.i 0)] [] ?_)
  refine Goes.ret ?_
  obtain rfl:=si h
  exact(Goes.retW (xs:=[.i 0]) (by kernel_rfl) (FzW.still tI))
 ·try dsimp only at h
  obtain rfl:=si h
  exact hret
def cmp_isNaN_string (x_:Str):Option Bool:=
 some (!(x_==x_))
theorem qa8 (x_:Str) {res:Bool} (h:cmp_isNaN_string x_=some res):qw Tryz.prog (.fn 205) [.str x_] [] (.bool res) []:=by
 unfold cmp_isNaN_string at h
 refine Goes.fnW Tryz.func205 rfl rfl (m:=6) rfl (rs:=[.tmp 2]) rfl (l:=[(0,.str x_)]) rfl ?_
 refine sq (Goes.rg fol [(0,.str x_)] [] ?_)
 refine sq (Goes.rg fol [(2,.bool (!(x_==x_)))] [] ?_)
 refine Goes.ret ?_
 obtain rfl:=si h
 exact(Goes.retW (xs:=[.bool (!(x_==x_))]) (by kernel_rfl) (FzW.still tB))
def vF (x_:Str) (y:Str):Option Int:=
 (cmp_isNaN_string x_).bind fun r1=>
 (cmp_isNaN_string y).bind fun r2=>
 if r1=true then
 if r2=true then
 some 0
 else
 some (-1)
 else
 if r2=true then
 some 1
 else
 if(ltL x_ y)=true then
 some (-1)
 else
 if(!(ltL x_ y||x_==y))=true then
 some 1
 else
 some 0
theorem qcS (x_:Str) (y:Str) {res:Int} (h:vF x_ y=some res):qw Tryz.prog (.fn 178) [.str x_,.str y] [] (.i res) []:=by
 unfold vF at h
 refine Goes.fnW Tryz.func178 rfl rfl (m:=20) rfl (rs:=[.tmp 4]) rfl (l:=[(0,.str x_),(1,.str y)]) rfl ?_
 refine sq (Goes.rg fol [(0,.str x_),(1,.str y)] [] ?_)
 refine sq ?_
 obtain⟨r1,e_r1,h⟩:=bnd h
 refine Goes.rq fol [1] [(0,.str x_),(1,.str y),(5,.bool r1)] [] (ac (cv (qa8 x_ e_r1)) az) ?_
 refine sq ?_
 obtain⟨r2,e_r2,h⟩:=bnd h
 refine Goes.rq fol [1] [(0,.str x_),(1,.str y),(5,.bool r1),(6,.bool r2)] [] (ac (cv (qa8 y e_r2)) az) ?_
 refine sq ?_
 refine sq (Goes.rg fol [(0,.str x_),(1,.str y),(6,.bool r2),(11,.bool r1)] [] ?_)
 refine Goes.ifB (b:=r1) (by kernel_rfl) (fun c3=>?_) (fun c3=>?_)
 ·rw[if_pos (c3)]at h
  refine sq ?_
  refine sq (Goes.rg fol [(12,.bool r2)] [] ?_)
  refine Goes.ifB (b:=r2) (by kernel_rfl) (fun c4=>?_) (fun c4=>?_)
  ·rw[if_pos (c4)]at h
   refine sq (Goes.rg fol [(4,.i 0)] [] ?_)
   refine Goes.ret ?_
   obtain rfl:=si h
   exact(Goes.retW (xs:=[.i 0]) (by kernel_rfl) (FzW.still tI))
  ·rw[if_neg (nb c4)]at h
   refine Goes.skip ?_
   refine sq (Goes.rg fol [(4,.i (-1))] [] ?_)
   refine Goes.ret ?_
   obtain rfl:=si h
   exact(Goes.retW (xs:=[.i (-1)]) (by kernel_rfl) (FzW.still tI))
 ·rw[if_neg (nb c3)]at h
  refine Goes.skip ?_
  refine sq ?_
  refine sq (Goes.rg fol [(0,.str x_),(1,.str y),(13,.bool r2)] [] ?_)
  refine Goes.ifB (b:=r2) (by kernel_rfl) (fun c5=>?_) (fun c5=>?_)
  ·rw[if_pos (c5)]at h
   refine sq (Goes.rg fol [(4,.i 1)] [] ?_)
   refine Goes.ret ?_
   obtain rfl:=si h
   exact(Goes.retW (xs:=[.i 1]) (by kernel_rfl) (FzW.still tI))
  ·rw[if_neg (nb c5)]at h
   refine Goes.skip ?_
   refine sq ?_
   refine sq (Goes.rg fol [(0,.str x_),(1,.str y),(16,.bool (ltL x_ y))] [] ?_)
   refine Goes.ifB (b:=ltL x_ y) (by kernel_rfl) (fun c6=>?_) (fun c6=>?_)
   ·rw[if_pos (c6)]at h
    refine sq (Goes.rg fol [(4,.i (-1))] [] ?_)
    refine Goes.ret ?_
    obtain rfl:=si h
    exact(Goes.retW (xs:=[.i (-1)]) (by kernel_rfl) (FzW.still tI))
   ·rw[if_neg (nb c6)]at h
    refine Goes.skip ?_
    refine sq ?_
    refine sq (Goes.rg fol [(19,.bool (!(ltL x_ y||x_==y)))] [] ?_)
    refine Goes.ifB (b:=!(ltL x_ y||x_==y)) (by kernel_rfl) (fun c7=>?_) (fun c7=>?_)
    ·rw[if_pos (c7)]at h
     refine sq (Goes.rg fol [(4,.i 1)] [] ?_)
     refine Goes.ret ?_
     obtain rfl:=si h
     exact(Goes.retW (xs:=[.i 1]) (by kernel_rfl) (FzW.still tI))
    ·rw[if_neg (nb c7)]at h
     refine Goes.skip ?_
     refine sq (Goes.rg fol [(4,.i 0)] [] ?_)
     refine Goes.ret ?_
     obtain rfl:=si h
     exact(Goes.retW (xs:=[.i 0]) (by kernel_rfl) (FzW.still tI))
def jB (N:Nat) (m:qB) (o:qB):Option Int:=
 (vF m.Desk o.Desk).bind fun r1=>
 (cmp_Compare_int m.Number o.Number).bind fun r2=>
 (qbp N ([r1,r2]:List Int)).bind fun r3=>
 some r3
theorem yD (N:Nat) (m:qB) (o:qB) {res:Int} (h:jB N m o=some res):qw Tryz.prog (.fn 131) [.agg [.str m.Desk,.i m.Number],.agg [.str o.Desk,.i o.Number]] [] (.i res) []:=by
 unfold jB at h
 refine Goes.fnW Tryz.func131 rfl rfl (m:=17) rfl (rs:=[.tmp 4]) rfl (l:=[(0,.agg [.str m.Desk,.i m.Number]),(1,.agg [.str o.Desk,.i o.Number])]) rfl ?_
 refine sq (Goes.rg fol [(2,.ptr 0 0),(3,.ptr 1 0)] [.cells [.str m.Desk,.i m.Number],.cells [.str o.Desk,.i o.Number]] ?_)
 refine sq ?_
 obtain⟨r1,e_r1,h⟩:=bnd h
 obtain⟨r2,e_r2,h⟩:=bnd h
 obtain⟨r3,e_r3,h⟩:=bnd h
 refine Goes.rq fol [4,9,11] [(4,.i r3)] [.cells [.str m.Desk,.i m.Number],.cells [.str o.Desk,.i o.Number],.cells [.i r1,.i r2]] (ac (cv (qcS m.Desk o.Desk e_r1)) (ac (cv (qbz m.Number o.Number e_r2)) (ac (hs (.call 177 [.slice 2 0 2 2 1] [.cells [.str m.Desk,.i m.Number],.cells [.str o.Desk,.i o.Number],.cells [.i r1,.i r2]] [2] [vl encI ([r1,r2]:List Int)] (.i r3)) (xw (FzL.cons (Fz.lit rfl rfl (FzL.still (AllST.cons tI (AllST.cons tI AllST.nil)))) FzL.nil) (qg4 N ([r1,r2]:List Int) e_r3) tI rfl)) az))) ?_
 refine Goes.ret ?_
 obtain rfl:=si h
 exact(Goes.retW (xs:=[.i r3]) (by kernel_rfl) (FzW.still tI))
def kV (n:Int) (low:Int) (high:Int):Option Int:=
 (if n<low then
 (qU true 3).bind fun r2=>
 some r2
 else
 (qU (decide (n>high)) 3).bind fun r3=>
 some r3:Option Int).bind fun n4=>
 some n4
theorem ku (n:Int) (low:Int) (high:Int) {res:Int} (h:kV n low high=some res):qw Tryz.prog (.fn 87) [.i n,.i low,.i high] [] (.i res) []:=by
 unfold kV at h
 refine Goes.fnW Tryz.func87 rfl rfl (m:=16) rfl (rs:=[.tmp 6]) rfl (l:=[(0,.i n),(1,.i low),(2,.i high)]) rfl ?_
 refine sq (Goes.rg fol [(0,.i n),(1,.i low),(2,.i high)] [] ?_)
 refine sq ?_
 obtain⟨n4,g_v5,h⟩:=bnd h
 refine Goes.cut (s':=(ofG 16 [(6,.i n4)],[])) ?_ ?_
 ·rcases Bool.eq_false_or_eq_true (decide (n<low))with c1|c1
  ·rw[if_pos (ot c1)]at g_v5
   obtain⟨r2,e_r2,g_v5⟩:=bnd g_v5
   obtain rfl:=si g_v5
   exact qp.rq fol [3,8] [(6,.i r2)] [] (ac (gw c1) (ac (cv (qL true 3 e_r2)) az))
  ·rw[if_neg (of_ c1)]at g_v5
   obtain⟨r3,e_r3,g_v5⟩:=bnd g_v5
   obtain rfl:=si g_v5
   exact qp.rq fol [3,8] [(6,.i r3)] [] (ac (gw c1) (ac (cv (qL (decide (n>high)) 3 e_r3)) az))
 refine Goes.ret ?_
 obtain rfl:=si h
 exact(Goes.retW (xs:=[.i n4]) (by kernel_rfl) (FzW.still tI))
def vO (c:Int):Option Bool:=
 (if c≥97 then
 if c≤122 then
 some true
 else
 if c≥65 then
 some (decide (c≤90))
 else
 some false
 else
 if c≥65 then
 some (decide (c≤90))
 else
 some false:Option Bool).bind fun b5=>
 some b5
theorem vI (c:Int) {res:Bool} (h:vO c=some res):qw Tryz.prog (.fn 183) [.int .i32 c] [] (.bool res) []:=by
 unfold vO at h
 refine Goes.fnW Tryz.func183 rfl rfl (m:=17) rfl (rs:=[.tmp 2]) rfl (l:=[(0,.int .i32 c)]) rfl ?_
 refine sq (Goes.rg fol [(0,.int .i32 c)] [] ?_)
 refine sq ?_
 obtain⟨b5,g_v6,h⟩:=bnd h
 refine Goes.cut (s':=(ofG 17 [(2,.bool b5)],[])) ?_ ?_
 ·rcases Bool.eq_false_or_eq_true (decide (c≥97))with c1|c1
  ·rw[if_pos (ot c1)]at g_v6
   rcases Bool.eq_false_or_eq_true (decide (c≤122))with c2|c2
   ·rw[if_pos (ot c2)]at g_v6
    obtain rfl:=si g_v6
    exact qp.rq fol [2,6] [(2,.bool true)] [] (ac (gw c1) (ac (gw c2) az))
   ·rw[if_neg (of_ c2)]at g_v6
    rcases Bool.eq_false_or_eq_true (decide (c≥65))with c3|c3
    ·rw[if_pos (ot c3)]at g_v6
     obtain rfl:=si g_v6
     exact qp.rq fol [2,6,9] [(2,.bool (decide (c≤90)))] [] (ac (gw c1) (ac (gw c2) (ac (gw c3) az)))
    ·rw[if_neg (of_ c3)]at g_v6
     obtain rfl:=si g_v6
     exact qp.rq fol [2,6,9] [(2,.bool false)] [] (ac (gw c1) (ac (gw c2) (ac (gw c3) az)))
  ·rw[if_neg (of_ c1)]at g_v6
   rcases Bool.eq_false_or_eq_true (decide (c≥65))with c4|c4
   ·rw[if_pos (ot c4)]at g_v6
    obtain rfl:=si g_v6
    exact qp.rq fol [2,9] [(2,.bool (decide (c≤90)))] [] (ac (gw c1) (ac (gw c4) az))
   ·rw[if_neg (of_ c4)]at g_v6
    obtain rfl:=si g_v6
    exact qp.rq fol [2,9] [(2,.bool false)] [] (ac (gw c1) (ac (gw c4) az))
 refine Goes.ret ?_
 obtain rfl:=si h
 exact(Goes.retW (xs:=[.bool b5]) (by kernel_rfl) (FzW.still tB))
def jH (s_:Str):Nat→Nat→Option (Unit⊕Bool)
 |0,_=>none
 |K+1,k1=>
  if k1<s_.length then
  ((vO (j4 s_ k1)).bind fun r5=>
  if(!r5)=true then
  if(k1:Int)=0 then
  some true
  else
  if(!decide ((j4 s_ k1)=95))=true then
  if(j4 s_ k1)<48 then
  some true
  else
  some (decide ((j4 s_ k1)>57))
  else
  some false
  else
  some false:Option Bool).bind fun b10=>
  if b10=true then
  some (.inr false)
  else
  jH s_ K (k1+runeLen s_ k1)
  else
  some (.inl ())
def xP (N:Nat) (s_:Str):Option Bool:=
 (jH s_ N 0).bind (fun
 |(.inl ())=>
 (if(!(s_==[]))=true then
 some (decide ((s_.length:Int)≤24))
 else
 some false:Option Bool).bind fun b14=>
 some b14
 |(.inr q16)=>
 some q16)
theorem qfd (N:Nat) (s_:Str) {res:Bool} (h:xP N s_=some res):qw Tryz.prog (.fn 146) [.str s_] [] (.bool res) []:=by
 unfold xP at h
 refine Goes.fnW Tryz.func146 rfl rfl (m:=37) rfl (rs:=[.tmp 2]) rfl (l:=[(0,.str s_)]) rfl ?_
 refine sq (Goes.rg fol [(0,.str s_)] [] ?_)
 refine sq ?_
 refine sq (Goes.rg fol [(0,.str s_),(6,.ptr 0 0)] [.iter s_ 0] ?_)
 refine Goes.block ?_
 obtain⟨r2,g2,h⟩:=bnd h
 refine Goes.imp (Q:=fun x s'=>(x= .exit 0∧(.inl ())=r2∧Sub s' (ofG 37 [(0,.str s_)],[]))∨(x= .ret∧ ∃q3,(.inr q3)=r2∧qW Tryz.prog [.tmp 2] (.bool q3) .ret s')) ?_ ?_
 ·refine Goes.sub (s':=(ofG 37 [(0,.str s_),(6,.ptr 0 0)],[.iter s_ 0])) (Sub.keep [0,6] rfl rfl) ?_
  refine Goes.loopS (fun M s=> ∃(k1:Nat),s=(ofG 37 [(0,.str s_),(6,.ptr 0 0)],[.iter s_ k1])∧jH s_ M k1=some r2) ?_ (m:=N) ⟨_,rfl,g2⟩
  rintro M s ⟨k1,rfl,g2⟩
  cases M with
  |zero=>simp only[jH]at g2;cases g2
  |succ M=>
   rw[jH]at g2
   refine sq ?_
   rcases Classical.em (k1<s_.length)with c4|c4
   ·rw[if_pos c4]at g2
    refine Goes.rq fol [0] [(0,.str s_),(6,.ptr 0 0),(7,.tuple [.bool true,.i (k1:Int),.int .i32 (j4 s_ k1)]),(8,.bool true)] [.iter s_ (k1+runeLen s_ k1)] (ac (hs (.run [0] (qcU (.ptr 0 0) true) [.iter s_ k1] (.tuple [.bool true,.i (k1:Int),.int .i32 (j4 s_ k1)]) [.iter s_ (k1+runeLen s_ k1)] true) (qhq rfl c4 rfl)) az) ?_
    refine sq ?_
    refine Goes.ifB (b:=true) (by kernel_rfl) (fun _=>?_) (fun c=>(by cases c))
    refine Goes.skip ?_
    refine Goes.block ?_
    refine sq (Goes.rg fol [(0,.str s_),(3,.i (k1:Int)),(4,.int .i32 (j4 s_ k1)),(6,.ptr 0 0)] [.iter s_ (k1+runeLen s_ k1)] ?_)
    refine sq ?_
    obtain⟨b10,g_v11,g2⟩:=bnd g2
    refine Goes.cut (s':=(ofG 37 [(0,.str s_),(6,.ptr 0 0),(29,.bool b10)],[.iter s_ (k1+runeLen s_ k1)])) ?_ ?_
    ·obtain⟨r5,e_r5,g_v11⟩:=bnd g_v11
     rcases Bool.eq_false_or_eq_true (!r5)with c6|c6
     ·rw[if_pos (c6)]at g_v11
      rcases Bool.eq_false_or_eq_true (decide ((k1:Int)=0))with c7|c7
      ·rw[if_pos (ot c7)]at g_v11
       obtain rfl:=si g_v11
       exact qp.rq fol [1,3,6] [(0,.str s_),(6,.ptr 0 0),(29,.bool true)] [.iter s_ (k1+runeLen s_ k1)] (ac (cv (vI (j4 s_ k1) e_r5)) (ac (gw c6) (ac (gw c7) az)))
      ·rw[if_neg (of_ c7)]at g_v11
       rcases Bool.eq_false_or_eq_true (!decide ((j4 s_ k1)=95))with c8|c8
       ·rw[if_pos (c8)]at g_v11
        rcases Bool.eq_false_or_eq_true (decide ((j4 s_ k1)<48))with c9|c9
        ·rw[if_pos (ot c9)]at g_v11
         obtain rfl:=si g_v11
         exact qp.rq fol [1,3,6,9,12] [(0,.str s_),(6,.ptr 0 0),(29,.bool true)] [.iter s_ (k1+runeLen s_ k1)] (ac (cv (vI (j4 s_ k1) e_r5)) (ac (gw c6) (ac (gw c7) (ac (gw c8) (ac (gw c9) az)))))
        ·rw[if_neg (of_ c9)]at g_v11
         obtain rfl:=si g_v11
         exact qp.rq fol [1,3,6,9,12] [(0,.str s_),(6,.ptr 0 0),(29,.bool (decide ((j4 s_ k1)>57)))] [.iter s_ (k1+runeLen s_ k1)] (ac (cv (vI (j4 s_ k1) e_r5)) (ac (gw c6) (ac (gw c7) (ac (gw c8) (ac (gw c9) az)))))
       ·rw[if_neg (nb c8)]at g_v11
        obtain rfl:=si g_v11
        exact qp.rq fol [1,3,6,9] [(0,.str s_),(6,.ptr 0 0),(29,.bool false)] [.iter s_ (k1+runeLen s_ k1)] (ac (cv (vI (j4 s_ k1) e_r5)) (ac (gw c6) (ac (gw c7) (ac (gw c8) az))))
     ·rw[if_neg (nb c6)]at g_v11
      obtain rfl:=si g_v11
      exact qp.rq fol [1,3] [(0,.str s_),(6,.ptr 0 0),(29,.bool false)] [.iter s_ (k1+runeLen s_ k1)] (ac (cv (vI (j4 s_ k1) e_r5)) (ac (gw c6) az))
    refine Goes.ifB (b:=b10) (by kernel_rfl) (fun c12=>?_) (fun c12=>?_)
    ·rw[if_pos (c12)]at g2
     refine sq (Goes.rg fol [(2,.bool false)] [.iter s_ (k1+runeLen s_ k1)] ?_)
     refine Goes.ret ?_
     obtain rfl:=si g2
     exact Or.inr (⟨rfl,_,rfl,(Goes.retW (xs:=[.bool false]) (by kernel_rfl) (FzW.still tB))⟩)
    ·rw[if_neg (nb c12)]at g2
     refine Goes.skip ?_
     exact⟨M,(ofG 37 [(0,.str s_),(6,.ptr 0 0)],[.iter s_ (k1+runeLen s_ k1)]),Nat.lt_succ_self _,(Sub.keep [0,6] rfl rfl),_,rfl,g2⟩
   ·rw[if_neg c4]at g2
    refine Goes.rq fol [0] [(0,.str s_),(6,.ptr 0 0),(7,.tuple [.bool false]),(8,.bool false)] [.iter s_ k1] (ac (hs (.run [0] (qcU (.ptr 0 0) true) [.iter s_ k1] (.tuple [.bool false]) [.iter s_ k1] false) (qhA rfl c4)) az) ?_
    refine sq ?_
    refine Goes.ifB (b:=false) (by kernel_rfl) (fun c=>(by cases c)) (fun _=>?_)
    refine Goes.exit ?_
    obtain rfl:=si g2
    exact Or.inl (⟨rfl,rfl,(Sub.norm [] [] rfl rfl (.keep (.same nS) .nil) .nil)⟩)
 rintro x s' (⟨rfl,rfl,hsub⟩|⟨rfl,q16,rfl,hret⟩)
 ·try dsimp only at h
  refine Goes.sub hsub ?_
  refine sq ?_
  obtain⟨b14,g_v15,h⟩:=bnd h
  refine Goes.cut (s':=(ofG 37 [(2,.bool b14)],[])) ?_ ?_
  ·rcases Bool.eq_false_or_eq_true (!(s_==[]))with c13|c13
   ·rw[if_pos (c13)]at g_v15
    obtain rfl:=si g_v15
    exact qp.rq fol [2] [(2,.bool (decide ((s_.length:Int)≤24)))] [] (ac (gw c13) az)
   ·rw[if_neg (nb c13)]at g_v15
    obtain rfl:=si g_v15
    exact qp.rq fol [2] [(2,.bool false)] [] (ac (gw c13) az)
  refine Goes.ret ?_
  obtain rfl:=si h
  exact(Goes.retW (xs:=[.bool b14]) (by kernel_rfl) (FzW.still tB))
 ·try dsimp only at h
  obtain rfl:=si h
  exact hret
def vW (N:Nat) (s_:Str):Option Int:=
 (xP N s_).bind fun r1=>
 (qU (!r1) 8).bind fun r2=>
 some r2
theorem yM (N:Nat) (s_:Str) {res:Int} (h:vW N s_=some res):qw Tryz.prog (.fn 89) [.str s_] [] (.i res) []:=by
 unfold vW at h
 refine Goes.fnW Tryz.func89 rfl rfl (m:=7) rfl (rs:=[.tmp 2]) rfl (l:=[(0,.str s_)]) rfl ?_
 refine sq (Goes.rg fol [(0,.str s_)] [] ?_)
 refine sq ?_
 obtain⟨r1,e_r1,h⟩:=bnd h
 obtain⟨r2,e_r2,h⟩:=bnd h
 refine Goes.rq fol [1,3] [(2,.i r2)] [] (ac (cv (qfd N s_ e_r1)) (ac (cv (qL (!r1) 8 e_r2)) az)) ?_
 refine Goes.ret ?_
 obtain rfl:=si h
 exact(Goes.retW (xs:=[.i r2]) (by kernel_rfl) (FzW.still tI))
def jw (a0_:qj) (a1_:Str):Option Bool:=
 some (!(ltL a0_.Name a1_))
theorem qaV (a0_:qj) (a1_:Str) {res:Bool} (h:jw a0_ a1_=some res):qw Tryz.prog (.fn 149) [.agg (cS a0_),.fptr [.str a1_] 0] [] (.bool res) []:=by
 unfold jw at h
 refine Goes.fnW Tryz.func149 rfl rfl (m:=8) rfl (rs:=[.tmp 3]) rfl (l:=[(0,.agg (cS a0_)),(1,.fptr [.str a1_] 0)]) rfl ?_
 refine sq (Goes.rg fol [(1,.fptr [.str a1_] 0),(2,.ptr 0 0)] [.cells (cS a0_)] ?_)
 refine sq (Goes.rg fol [(3,.bool (!(ltL a0_.Name a1_)))] [.cells (cS a0_)] ?_)
 refine Goes.ret ?_
 obtain rfl:=si h
 exact(Goes.retW (xs:=[.bool (!(ltL a0_.Name a1_))]) (by kernel_rfl) (FzW.still tB))
def qX (a0_:List qj) (a1_:Str):Nat→Int→Option (Unit⊕Int)
 |0,_=>none
 |K+1,n1=>
  if n1<(a0_.length:Int)then
  (idx a0_ n1).bind fun x5=>
  (jw x5 a1_).bind fun r6=>
  if r6=true then
  some (.inr n1)
  else
  qX a0_ a1_ K (w64 (n1+1))
  else
  some (.inl ())
def jE (N:Nat) (a0_:List qj) (a1_:Str):Option Int:=
 (qX a0_ a1_ N 0).bind (fun
 |(.inl ())=>
 some (-1)
 |(.inr q8)=>
 some q8)
theorem qa5 (N:Nat) (a0_:List qj) (a1_:Str) {res:Int} (h:jE N a0_ a1_=some res):qw Tryz.prog (.fn 148) [vl qb a0_,.func (.func 149) [] [.fptr [.str a1_] 0]] [] (.i res) []:=by
 unfold jE at h
 refine Goes.fnW Tryz.func148 rfl rfl (m:=19) rfl (rs:=[.tmp 4]) rfl (l:=[(0,vl qb a0_),(1,.func (.func 149) [] [.fptr [.str a1_] 0])]) rfl ?_
 refine sq (Goes.rg fol [(0,vl qb a0_),(1,.func (.func 149) [] [.fptr [.str a1_] 0])] [] ?_)
 refine sq ?_
 refine sq (Goes.rg fol [(0,vl qb a0_),(1,.func (.func 149) [] [.fptr [.str a1_] 0]),(7,.i (a0_.length:Int)),(8,.i 0)] [] ?_)
 refine Goes.block ?_
 obtain⟨r2,g2,h⟩:=bnd h
 refine Goes.imp (Q:=fun x s'=>(x= .exit 0∧(.inl ())=r2∧Sub s' (ofG 19 [],[]))∨(x= .ret∧ ∃q3,(.inr q3)=r2∧qW Tryz.prog [.tmp 4] (.i q3) .ret s')) ?_ ?_
 ·refine Goes.loopS (fun M s=> ∃(n1:Int),s=(ofG 19 [(0,vl qb a0_),(1,.func (.func 149) [] [.fptr [.str a1_] 0]),(7,.i (a0_.length:Int)),(8,.i n1)],[])∧qX a0_ a1_ M n1=some r2) ?_ (m:=N) ⟨_,rfl,g2⟩
  rintro M s ⟨n1,rfl,g2⟩
  cases M with
  |zero=>simp only[qX]at g2;cases g2
  |succ M=>
   rw[qX]at g2
   refine sq (Goes.rg fol [(0,vl qb a0_),(1,.func (.func 149) [] [.fptr [.str a1_] 0]),(7,.i (a0_.length:Int)),(8,.i n1),(9,.bool (decide (n1<(a0_.length:Int))))] [] ?_)
   refine sq ?_
   refine Goes.ifB (b:=decide (n1<(a0_.length:Int))) (by kernel_rfl) (fun c4=>?_) (fun c4=>?_)
   ·rw[if_pos (ot c4)]at g2
    refine Goes.skip ?_
    refine sq (Goes.block ?_)
    refine sq (Goes.rg fol [(0,vl qb a0_),(1,.func (.func 149) [] [.fptr [.str a1_] 0]),(5,.i n1),(7,.i (a0_.length:Int)),(8,.i n1)] [] ?_)
    refine sq ?_
    obtain⟨x5,e_x5,g2⟩:=bnd g2
    obtain⟨r6,e_r6,g2⟩:=bnd g2
    refine Goes.rq fol [3,4,5] [(0,vl qb a0_),(1,.func (.func 149) [] [.fptr [.str a1_] 0]),(5,.i n1),(7,.i (a0_.length:Int)),(8,.i n1),(16,.bool r6)] [] (ac (iv qcc qb e_x5) (ac (la ag68 qb e_x5) (ac (hs (.call 149 [.agg (cS x5),.fptr [.str a1_] 0] [] [] [.agg (cS x5),.fptr [.str a1_] 0] (.bool r6)) (qnN (FzL.cons (Fz.still (Still.agg (AllST.cons tS (AllST.cons tS (AllST.cons tI (AllST.cons tI (AllST.cons tI (AllST.cons tI (AllST.cons tI (AllST.cons tI (AllST.cons tB AllST.nil))))))))))) (FzL.cons (Fz.still (Still.fptr (AllST.cons tS AllST.nil))) FzL.nil)) (qaV x5 a1_ e_r6) tB)) az))) ?_
    refine Goes.ifB (b:=r6) (by kernel_rfl) (fun c7=>?_) (fun c7=>?_)
    ·rw[if_pos (c7)]at g2
     refine sq (Goes.rg fol [(4,.i n1)] [] ?_)
     refine Goes.ret ?_
     obtain rfl:=si g2
     exact Or.inr (⟨rfl,_,rfl,(Goes.retW (xs:=[.i n1]) (by kernel_rfl) (FzW.still tI))⟩)
    ·rw[if_neg (nb c7)]at g2
     refine Goes.skip ?_
     refine Goes.rg fol [(0,vl qb a0_),(1,.func (.func 149) [] [.fptr [.str a1_] 0]),(7,.i (a0_.length:Int)),(8,.i (w64 (n1+1)))] [] ?_
     exact⟨M,(ofG 19 [(0,vl qb a0_),(1,.func (.func 149) [] [.fptr [.str a1_] 0]),(7,.i (a0_.length:Int)),(8,.i (w64 (n1+1)))],[]),Nat.lt_succ_self _,(Sub.refl _),_,rfl,g2⟩
   ·rw[if_neg (of_ c4)]at g2
    refine Goes.exit ?_
    obtain rfl:=si g2
    exact Or.inl (⟨rfl,rfl,(Sub.keep [] rfl rfl)⟩)
 rintro x s' (⟨rfl,rfl,hsub⟩|⟨rfl,q8,rfl,hret⟩)
 ·try dsimp only at h
  refine Goes.sub hsub ?_
  refine sq (Goes.rg fol [(4,.i (-1))] [] ?_)
  refine Goes.ret ?_
  obtain rfl:=si h
  exact(Goes.retW (xs:=[.i (-1)]) (by kernel_rfl) (FzW.still tI))
 ·try dsimp only at h
  obtain rfl:=si h
  exact hret
def jb (N:Nat) (r:vY) (name:Str):Option (Int×Bool):=
 (jE N r.Slings name).bind fun r1=>
 if r1<0 then
 some ((r.Slings.length:Int),false)
 else
 (idx r.Slings r1).bind fun x3=>
 some (r1,x3.Name==name)
theorem qah (N:Nat) (r:vY) (name:Str) {res:Int×Bool} (h:jb N r name=some res):qw Tryz.prog (.fn 93) [.agg [.i r.Day,vl qb r.Slings],.str name] [] (.tuple [.i res.1,.bool res.2]) []:=by
 unfold jb at h
 refine Goes.fnW Tryz.func93 rfl rfl (m:=25) rfl (rs:=[.tmp 4,.tmp 5]) rfl (l:=[(0,.agg [.i r.Day,vl qb r.Slings]),(1,.str name)]) rfl ?_
 refine sq (Goes.rg fol [(2,.ptr 0 0),(3,.ptr 1 0)] [.cells [.i r.Day,vl qb r.Slings],.cells [.str name]] ?_)
 refine sq ?_
 obtain⟨r1,e_r1,h⟩:=bnd h
 refine Goes.rq fol [3] [(2,.ptr 0 0),(3,.ptr 1 0),(6,.i r1)] [.cells [.i r.Day,vl qb r.Slings],.cells [.str name]] (ac (hs (.call 148 [vl qb r.Slings,.func (.func 149) [] [.ptr 1 0]] [.cells [.i r.Day,vl qb r.Slings],.cells [.str name]] [1] [vl qb r.Slings,.func (.func 149) [] [.fptr [.str name] 0]] (.i r1)) (xw (FzL.cons (Fz.still (vU qb _ (nl rfl))) (FzL.cons (Fz.func FzL.nil (FzL.cons (Fz.ptr rfl rfl (FzL.cons (Fz.still tS) FzL.nil)) FzL.nil)) FzL.nil)) (qa5 N r.Slings name e_r1) tI rfl)) az) ?_
 refine sq ?_
 refine sq (Goes.rg fol [(2,.ptr 0 0),(3,.ptr 1 0),(6,.i r1),(12,.bool (decide (r1<0)))] [.cells [.i r.Day,vl qb r.Slings],.cells [.str name]] ?_)
 refine Goes.ifB (b:=decide (r1<0)) (by kernel_rfl) (fun c2=>?_) (fun c2=>?_)
 ·rw[if_pos (ot c2)]at h
  refine sq (Goes.rg fol [(4,.i (r.Slings.length:Int)),(5,.bool false)] [.cells [.i r.Day,vl qb r.Slings],.cells [.str name]] ?_)
  refine Goes.ret ?_
  obtain rfl:=si h
  exact(Goes.retW (xs:=[.i (r.Slings.length:Int),.bool false]) (by kernel_rfl) (FzW.tuple (qz.cons (FzW.still tI) (qz.cons (FzW.still tB) qz.nil))))
 ·rw[if_neg (of_ c2)]at h
  refine Goes.skip ?_
  refine sq ?_
  obtain⟨x3,e_x3,h⟩:=bnd h
  refine Goes.rq fol [4,6] [(4,.i r1),(5,.bool (x3.Name==name))] [.cells [.i r.Day,vl qb r.Slings],.cells [.str name]] (ac (iv qcc qb e_x3) (ac (lv 0 ce9 qb e_x3 rfl) az)) ?_
  refine Goes.ret ?_
  obtain rfl:=si h
  exact(Goes.retW (xs:=[.i r1,.bool (x3.Name==name)]) (by kernel_rfl) (FzW.tuple (qz.cons (FzW.still tI) (qz.cons (FzW.still tB) qz.nil))))
def vN (n:Int):Option Int:=
 (kV n 0 99999).bind fun r1=>
 some r1
theorem qbu (n:Int) {res:Int} (h:vN n=some res):qw Tryz.prog (.fn 94) [.i n] [] (.i res) []:=by
 unfold vN at h
 refine Goes.fnW Tryz.func94 rfl rfl (m:=5) rfl (rs:=[.tmp 2]) rfl (l:=[(0,.i n)]) rfl ?_
 refine sq (Goes.rg fol [(0,.i n)] [] ?_)
 refine sq ?_
 obtain⟨r1,e_r1,h⟩:=bnd h
 refine Goes.rq fol [1] [(2,.i r1)] [] (ac (cv (ku n 0 99999 e_r1)) az) ?_
 refine Goes.ret ?_
 obtain rfl:=si h
 exact(Goes.retW (xs:=[.i r1]) (by kernel_rfl) (FzW.still tI))
def ja (s_:qj) (day:Int):Option Bool:=
 (if s_.Gone=true then
 some true
 else
 if day>s_.Last then
 some true
 else
 some (decide (s_.Used=s_.Uses)):Option Bool).bind fun b3=>
 some b3
theorem qai (s_:qj) (day:Int) {res:Bool} (h:ja s_ day=some res):qw Tryz.prog (.fn 95) [.agg (cS s_),.i day] [] (.bool res) []:=by
 unfold ja at h
 refine Goes.fnW Tryz.func95 rfl rfl (m:=20) rfl (rs:=[.tmp 4]) rfl (l:=[(0,.agg (cS s_)),(1,.i day)]) rfl ?_
 refine sq (Goes.rg fol [(1,.i day),(2,.ptr 0 0)] [.cells (cS s_)] ?_)
 refine sq ?_
 obtain⟨b3,g_v4,h⟩:=bnd h
 refine Goes.cut (s':=(ofG 20 [(4,.bool b3)],[.cells (cS s_)])) ?_ ?_
 ·rcases Bool.eq_false_or_eq_true (s_.Gone)with c1|c1
  ·rw[if_pos (c1)]at g_v4
   obtain rfl:=si g_v4
   exact qp.rq fol [2] [(4,.bool true)] [.cells (cS s_)] (ac (gw c1) az)
  ·rw[if_neg (nb c1)]at g_v4
   rcases Bool.eq_false_or_eq_true (decide (day>s_.Last))with c2|c2
   ·rw[if_pos (ot c2)]at g_v4
    obtain rfl:=si g_v4
    exact qp.rq fol [2,8] [(4,.bool true)] [.cells (cS s_)] (ac (gw c1) (ac (gw c2) az))
   ·rw[if_neg (of_ c2)]at g_v4
    obtain rfl:=si g_v4
    exact qp.rq fol [2,8] [(4,.bool (decide (s_.Used=s_.Uses)))] [.cells (cS s_)] (ac (gw c1) (ac (gw c2) az))
 refine Goes.ret ?_
 obtain rfl:=si h
 exact(Goes.retW (xs:=[.bool b3]) (by kernel_rfl) (FzW.still tB))
def vH (s_:qj) (day:Int):Option Bool:=
 (if s_.Limit>0 then
 some (decide (day≤s_.Until))
 else
 some false:Option Bool).bind fun b2=>
 some b2
theorem qcP (s_:qj) (day:Int) {res:Bool} (h:vH s_ day=some res):qw Tryz.prog (.fn 96) [.agg (cS s_),.i day] [] (.bool res) []:=by
 unfold vH at h
 refine Goes.fnW Tryz.func96 rfl rfl (m:=14) rfl (rs:=[.tmp 4]) rfl (l:=[(0,.agg (cS s_)),(1,.i day)]) rfl ?_
 refine sq (Goes.rg fol [(1,.i day),(2,.ptr 0 0)] [.cells (cS s_)] ?_)
 refine sq ?_
 obtain⟨b2,g_v3,h⟩:=bnd h
 refine Goes.cut (s':=(ofG 14 [(4,.bool b2)],[.cells (cS s_)])) ?_ ?_
 ·rcases Bool.eq_false_or_eq_true (decide (s_.Limit>0))with c1|c1
  ·rw[if_pos (ot c1)]at g_v3
   obtain rfl:=si g_v3
   exact qp.rq fol [3] [(4,.bool (decide (day≤s_.Until)))] [.cells (cS s_)] (ac (gw c1) az)
  ·rw[if_neg (of_ c1)]at g_v3
   obtain rfl:=si g_v3
   exact qp.rq fol [3] [(4,.bool false)] [.cells (cS s_)] (ac (gw c1) az)
 refine Goes.ret ?_
 obtain rfl:=si h
 exact(Goes.retW (xs:=[.bool b2]) (by kernel_rfl) (FzW.still tB))
def zA:Option Unit:=
 some ()
theorem qH {res:Unit} (h:zA=some res):qw Tryz.prog (.fn 85) [] [] (fm1) []:=by
 unfold zA at h
 refine Goes.fnW Tryz.func85 rfl rfl (m:=9) rfl (rs:=[.tmp 0]) rfl (l:=[]) rfl ?_
 refine sq (Goes.rg fol [] [] ?_)
 refine sq (Goes.rg fol [(0,.map 0)] [.map [.str [109,97,107,101],.str [116,101,115,116],.str [117,115,101],.str [102,97,105,108],.str [114,101,99,97,108,108],.str [117,110,100,111]] [.agg [.i 2,.i 3,.func (.func 141) [] []],.agg [.i 1,.i 2,.func (.func 142) [] []],.agg [.i 1,.i 2,.func (.func 143) [] []],.agg [.i 1,.i 1,.func (.func 144) [] []],.agg [.i 1,.i 1,.func (.func 145) [] []],.agg [.i 0,.i 0,.nilfunc]]] ?_)
 refine Goes.ret ?_
 obtain rfl:=si h
 exact(Goes.retW (xs:=[.map 0]) (by kernel_rfl) (FzW.of (by kernel_rfl)))
def stringslite_IndexByte (s_:Str) (c:Int):Option Int:=
 (qhV s_ c).bind fun r1=>
 some r1
theorem qbQ (s_:Str) (c:Int) {res:Int} (h:stringslite_IndexByte s_ c=some res):qw Tryz.prog (.fn 173) [.str s_,.int .u8 c] [] (.i res) []:=by
 unfold stringslite_IndexByte at h
 refine Goes.fnW Tryz.func173 rfl rfl (m:=8) rfl (rs:=[.tmp 4]) rfl (l:=[(0,.str s_),(1,.int .u8 c)]) rfl ?_
 refine sq (Goes.rg fol [(0,.str s_),(1,.int .u8 c)] [] ?_)
 refine sq ?_
 obtain⟨r1,e_r1,h⟩:=bnd h
 refine Goes.rq fol [2] [(4,.i r1)] [] (ac (cv (qkR s_ c e_r1)) az) ?_
 refine Goes.ret ?_
 obtain rfl:=si h
 exact(Goes.retW (xs:=[.i r1]) (by kernel_rfl) (FzW.still tI))
def bytealg_Cutover (n:Int):Option Int:=
 some (w64 ((w64 (n+16)).tdiv 8))
def stringslite_Index (s_:Str) (substr:Str):Option Int:=
 (if(substr.length:Int)=0 then
 some true
 else
 some (substr==s_):Option Bool).bind fun b2=>
 if b2=true then
 some 0
 else
 if(substr.length:Int)=1 then
 (idx substr 0).bind fun c6=>
 (stringslite_IndexByte s_ (c6.toNat:Int)).bind fun r7=>
 some r7
 else
 if(substr.length:Int)≥(s_.length:Int)then
 some (-1)
 else
 none
theorem qcY (s_:Str) (substr:Str) {res:Int} (h:stringslite_Index s_ substr=some res):qw Tryz.prog (.fn 130) [.str s_,.str substr] [] (.i res) []:=by
 unfold stringslite_Index at h
 refine Goes.fnW Tryz.func130 rfl rfl (m:=143) rfl (rs:=[.tmp 4]) rfl (l:=[(0,.str s_),(1,.str substr)]) rfl ?_
 refine sq (Goes.rg fol [(0,.str s_),(1,.str substr)] [] ?_)
 refine sq (Goes.rg fol [(0,.str s_),(1,.str substr),(5,.i (substr.length:Int))] [] ?_)
 refine sq (Goes.block ?_)
 refine sq ?_
 obtain⟨b2,g_v3,h⟩:=bnd h
 refine Goes.cut (s':=(ofG 143 [(0,.str s_),(1,.str substr),(5,.i (substr.length:Int)),(16,.bool b2)],[])) ?_ ?_
 ·rcases Bool.eq_false_or_eq_true (decide ((substr.length:Int)=0))with c1|c1
  ·rw[if_pos (ot c1)]at g_v3
   obtain rfl:=si g_v3
   exact qp.rq fol [2] [(0,.str s_),(1,.str substr),(5,.i (substr.length:Int)),(16,.bool true)] [] (ac (gw c1) az)
  ·rw[if_neg (of_ c1)]at g_v3
   obtain rfl:=si g_v3
   exact qp.rq fol [2] [(0,.str s_),(1,.str substr),(5,.i (substr.length:Int)),(16,.bool (substr==s_))] [] (ac (gw c1) az)
 refine Goes.ifB (b:=b2) (by kernel_rfl) (fun c4=>?_) (fun c4=>?_)
 ·rw[if_pos (c4)]at h
  refine sq (Goes.rg fol [(4,.i 0)] [] ?_)
  refine Goes.ret ?_
  obtain rfl:=si h
  exact(Goes.retW (xs:=[.i 0]) (by kernel_rfl) (FzW.still tI))
 ·rw[if_neg (nb c4)]at h
  refine sq (Goes.rg fol [(0,.str s_),(1,.str substr),(5,.i (substr.length:Int)),(24,.bool (decide ((substr.length:Int)=1)))] [] ?_)
  refine Goes.ifB (b:=decide ((substr.length:Int)=1)) (by kernel_rfl) (fun c5=>?_) (fun c5=>?_)
  ·rw[if_pos (ot c5)]at h
   refine sq ?_
   obtain⟨c6,e_c6,h⟩:=bnd h
   obtain⟨r7,e_r7,h⟩:=bnd h
   refine Goes.rq fol [2,3] [(4,.i r7)] [] (ac (hs (.done (.opt (xh Tryz.prog 9 (.str substr) (.i 0))) (.int .u8 (c6.toNat:Int))) (qbk st9 e_c6)) (ac (cv (qbQ s_ (c6.toNat:Int) e_r7)) az)) ?_
   refine Goes.ret ?_
   obtain rfl:=si h
   exact(Goes.retW (xs:=[.i r7]) (by kernel_rfl) (FzW.still tI))
  ·rw[if_neg (of_ c5)]at h
   refine sq (Goes.rg fol [(0,.str s_),(1,.str substr),(5,.i (substr.length:Int)),(31,.bool (decide ((substr.length:Int)≥(s_.length:Int))))] [] ?_)
   refine Goes.ifB (b:=decide ((substr.length:Int)≥(s_.length:Int))) (by kernel_rfl) (fun c8=>?_) (fun c8=>?_)
   ·rw[if_pos (ot c8)]at h
    refine sq (Goes.rg fol [(4,.i (-1))] [] ?_)
    refine Goes.ret ?_
    obtain rfl:=si h
    exact(Goes.retW (xs:=[.i (-1)]) (by kernel_rfl) (FzW.still tI))
   ·rw[if_neg (of_ c8)]at h
    cases h
def strings_Index (s_:Str) (substr:Str):Option Int:=
 (stringslite_Index s_ substr).bind fun r1=>
 some r1
theorem qbZ (s_:Str) (substr:Str) {res:Int} (h:strings_Index s_ substr=some res):qw Tryz.prog (.fn 67) [.str s_,.str substr] [] (.i res) []:=by
 unfold strings_Index at h
 refine Goes.fnW Tryz.func67 rfl rfl (m:=8) rfl (rs:=[.tmp 4]) rfl (l:=[(0,.str s_),(1,.str substr)]) rfl ?_
 refine sq (Goes.rg fol [(0,.str s_),(1,.str substr)] [] ?_)
 refine sq ?_
 obtain⟨r1,e_r1,h⟩:=bnd h
 refine Goes.rq fol [2] [(4,.i r1)] [] (ac (cv (qcY s_ substr e_r1)) az) ?_
 refine Goes.ret ?_
 obtain rfl:=si h
 exact(Goes.retW (xs:=[.i r1]) (by kernel_rfl) (FzW.still tI))
def zL (s_:Str):Nat→Nat→Int→Option Int
 |0,_,_=>none
 |K+1,k1,n_2=>
  if k1<s_.length then
  zL s_ K (k1+runeLen s_ k1) (w64 (n_2+1))
  else
  some n_2
def utf8_RuneCountInString (N:Nat) (s_:Str):Option Int:=
 (zL s_ N 0 0).bind fun n_3=>
 some n_3
theorem xK (N:Nat) (s_:Str) {res:Int} (h:utf8_RuneCountInString N s_=some res):qw Tryz.prog (.fn 229) [.str s_] [] (.i res) []:=by
 unfold utf8_RuneCountInString at h
 refine Goes.fnW Tryz.func229 rfl rfl (m:=10) rfl (rs:=[.tmp 2]) rfl (l:=[(0,.str s_)]) rfl ?_
 refine sq (Goes.rg fol [(0,.str s_),(2,.i 0)] [] ?_)
 refine sq ?_
 refine sq (Goes.rg fol [(2,.i 0),(4,.ptr 0 0)] [.iter s_ 0] ?_)
 refine Goes.block ?_
 obtain⟨r4,g4,h⟩:=bnd h
 refine Goes.imp (Q:=fun x s'=>(x= .exit 0∧ ∃n_3,n_3=r4∧Sub s' (ofG 10 [(2,.i n_3)],[]))) ?_ ?_
 ·refine Goes.sub (s':=(ofG 10 [(2,.i 0),(4,.ptr 0 0)],[.iter s_ 0])) (Sub.keep [2,4] rfl rfl) ?_
  refine Goes.loopS (fun M s=> ∃(k1:Nat) (n_2:Int),s=(ofG 10 [(2,.i n_2),(4,.ptr 0 0)],[.iter s_ k1])∧zL s_ M k1 n_2=some r4) ?_ (m:=N) ⟨_,_,rfl,g4⟩
  rintro M s ⟨k1,n_2,rfl,g4⟩
  cases M with
  |zero=>simp only[zL]at g4;cases g4
  |succ M=>
   rw[zL]at g4
   refine sq ?_
   rcases Classical.em (k1<s_.length)with c5|c5
   ·rw[if_pos c5]at g4
    refine Goes.rq fol [0] [(2,.i n_2),(4,.ptr 0 0),(6,.bool true)] [.iter s_ (k1+runeLen s_ k1)] (ac (hs (.run [0] (qcU (.ptr 0 0) true) [.iter s_ k1] (.tuple [.bool true,.i (k1:Int),.int .i32 (j4 s_ k1)]) [.iter s_ (k1+runeLen s_ k1)] true) (qhq rfl c5 rfl)) az) ?_
    refine sq ?_
    refine Goes.ifB (b:=true) (by kernel_rfl) (fun _=>?_) (fun c=>(by cases c))
    refine Goes.skip ?_
    refine Goes.block ?_
    refine Goes.rg fol [(2,.i (w64 (n_2+1))),(4,.ptr 0 0)] [.iter s_ (k1+runeLen s_ k1)] ?_
    exact⟨M,(ofG 10 [(2,.i (w64 (n_2+1))),(4,.ptr 0 0)],[.iter s_ (k1+runeLen s_ k1)]),Nat.lt_succ_self _,(Sub.keep [2,4] rfl rfl),_,_,rfl,g4⟩
   ·rw[if_neg c5]at g4
    refine Goes.rq fol [0] [(2,.i n_2),(4,.ptr 0 0),(6,.bool false)] [.iter s_ k1] (ac (hs (.run [0] (qcU (.ptr 0 0) true) [.iter s_ k1] (.tuple [.bool false]) [.iter s_ k1] false) (qhA rfl c5)) az) ?_
    refine sq ?_
    refine Goes.ifB (b:=false) (by kernel_rfl) (fun c=>(by cases c)) (fun _=>?_)
    refine Goes.exit ?_
    obtain rfl:=si g4
    exact⟨rfl,_,rfl,(Sub.norm [] [] rfl rfl (.keep (.same nI) .nil) .nil)⟩
 rintro x s' ⟨rfl,n_3,rfl,hsub⟩
 refine Goes.sub hsub ?_
 refine sq (Goes.rg fol [(2,.i n_3)] [] ?_)
 refine Goes.ret ?_
 obtain rfl:=si h
 exact(Goes.retW (xs:=[.i n_3]) (by kernel_rfl) (FzW.still tI))
def yF (n_5:Int):Nat→Option Unit
 |0=>none
 |K+1=>
  if 0<(w64 (n_5-1))then
  none
  else
  some ()
def qa4 (N:Nat) (s_:Str) (n:Int):Option (List Str):=
 (utf8_RuneCountInString N s_).bind fun r1=>
 (if n<0 then
 some true
 else
 some (decide (n>r1)):Option Bool).bind fun b3=>
 ((if b3=true then
 some r1
 else
 some n:Option Int)).bind fun n_5=>
 (mk 16 n_5 []).bind fun l8=>
 (yF n_5 N).bind fun _=>
 ((if n_5>0 then
 (idx l8 (w64 (n_5-1))).bind fun x14=>
 (put l8 (w64 (n_5-1)) s_).bind fun l15=>
 some l15
 else
 some l8:Option (List Str))).bind fun l11=>
 some l11
theorem qd9 (N:Nat) (s_:Str) (n:Int) {res:List Str} (h:qa4 N s_ n=some res):qw Tryz.prog (.fn 191) [.str s_,.i n] [] (vl encS res) []:=by
 unfold qa4 at h
 refine Goes.fnW Tryz.func191 rfl rfl (m:=50) rfl (rs:=[.tmp 4]) rfl (l:=[(0,.str s_),(1,.i n)]) rfl ?_
 refine sq (Goes.rg fol [(0,.str s_),(1,.i n)] [] ?_)
 refine sq ?_
 obtain⟨r1,e_r1,h⟩:=bnd h
 refine Goes.rq fol [1] [(0,.str s_),(1,.i n),(5,.i r1)] [] (ac (cv (xK N s_ e_r1)) az) ?_
 refine sq ?_
 refine sq ?_
 obtain⟨b3,g_v4,h⟩:=bnd h
 refine Goes.cut (s':=(ofG 50 [(0,.str s_),(1,.i n),(5,.i r1),(18,.bool b3)],[])) ?_ ?_
 ·rcases Bool.eq_false_or_eq_true (decide (n<0))with c2|c2
  ·rw[if_pos (ot c2)]at g_v4
   obtain rfl:=si g_v4
   exact qp.rq fol [2] [(0,.str s_),(1,.i n),(5,.i r1),(18,.bool true)] [] (ac (gw c2) az)
  ·rw[if_neg (of_ c2)]at g_v4
   obtain rfl:=si g_v4
   exact qp.rq fol [2] [(0,.str s_),(1,.i n),(5,.i r1),(18,.bool (decide (n>r1)))] [] (ac (gw c2) az)
 obtain⟨r6,g6,h⟩:=bnd h
 refine Goes.imp (Q:=fun x s'=>(x= .normal∧ ∃n_5,n_5=r6∧Sub s' (ofG 50 [(0,.str s_),(1,.i n_5)],[]))) ?_ ?_
 ·refine Goes.ifB (b:=b3) (by kernel_rfl) (fun c7=>?_) (fun c7=>?_)
  ·rw[if_pos (c7)]at g6
   refine Goes.rg fol [(0,.str s_),(1,.i r1)] [] ?_
   obtain rfl:=si g6
   exact⟨rfl,_,rfl,(Sub.refl _)⟩
  ·rw[if_neg (nb c7)]at g6
   refine Goes.skip ?_
   obtain rfl:=si g6
   exact⟨rfl,_,rfl,(Sub.keep [0,1] rfl rfl)⟩
 rintro x s' ⟨rfl,n_5,rfl,hsub⟩
 refine Goes.sub hsub ?_
 refine sq ?_
 obtain⟨l8,e_l8,h⟩:=bnd h
 refine Goes.rq fol [1] [(0,.str s_),(1,.i n_5),(6,.slice 0 0 l8.length l8.length 1)] [.cells (l8.flatMap encS.c)] (ac (hs (.run [] (xB Tryz.prog 23 (.i n_5) (.i n_5)) [] (.slice 0 0 l8.length l8.length 1) [.cells (l8.flatMap encS.c)] false) (qjo vT (E:=encS) (z:=[]) rfl (by kernel_rfl) e_l8 rfl)) az) ?_
 refine sq ?_
 refine sq (Goes.rg fol [(0,.str s_),(1,.i n_5),(6,.slice 0 0 l8.length l8.length 1),(7,.i 0)] [.cells (l8.flatMap encS.c)] ?_)
 refine Goes.block ?_
 obtain⟨r9,g9,h⟩:=bnd h
 refine Goes.imp (Q:=fun x s'=>(x= .exit 0∧()=r9∧Sub s' (ofG 50 [(0,.str s_),(1,.i n_5),(6,.slice 0 0 l8.length l8.length 1)],[.cells (l8.flatMap encS.c)]))) ?_ ?_
 ·refine Goes.loopS (fun M s=>s=(ofG 50 [(0,.str s_),(1,.i n_5),(6,.slice 0 0 l8.length l8.length 1),(7,.i 0)],[.cells (l8.flatMap encS.c)])∧yF n_5 M=some r9) ?_ (m:=N) ⟨rfl,g9⟩
  rintro M s ⟨rfl,g9⟩
  cases M with
  |zero=>simp only[yF]at g9;cases g9
  |succ M=>
   rw[yF]at g9
   refine sq ?_
   refine sq (Goes.rg fol [(0,.str s_),(1,.i n_5),(6,.slice 0 0 l8.length l8.length 1),(7,.i 0),(25,.bool (decide (0<(w64 (n_5-1)))))] [.cells (l8.flatMap encS.c)] ?_)
   refine Goes.ifB (b:=decide (0<(w64 (n_5-1)))) (by kernel_rfl) (fun c10=>?_) (fun c10=>?_)
   ·rw[if_pos (ot c10)]at g9
    cases g9
   ·rw[if_neg (of_ c10)]at g9
    refine Goes.exit ?_
    obtain rfl:=si g9
    exact⟨rfl,rfl,(Sub.keep [0,1,6] rfl rfl)⟩
 rintro x s' ⟨rfl,rfl,hsub⟩
 refine Goes.sub hsub ?_
 refine sq ?_
 refine sq (Goes.rg fol [(0,.str s_),(1,.i n_5),(6,.slice 0 0 l8.length l8.length 1),(43,.bool (decide (n_5>0)))] [.cells (l8.flatMap encS.c)] ?_)
 obtain⟨r12,g12,h⟩:=bnd h
 refine Goes.imp (Q:=fun x s'=>(x= .normal∧ ∃l11,l11=r12∧Sub s' (ofG 50 [(6,.slice 0 0 l11.length l11.length 1)],[.cells (l11.flatMap encS.c)]))) ?_ ?_
 ·refine Goes.ifB (b:=decide (n_5>0)) (by kernel_rfl) (fun c13=>?_) (fun c13=>?_)
  ·rw[if_pos (ot c13)]at g12
   obtain⟨x14,e_x14,g12⟩:=bnd g12
   obtain⟨l15,e_l15,g12⟩:=bnd g12
   refine Goes.rq fol [4,5] [(6,.slice 0 0 l8.length l8.length 1)] [.cells (l15.flatMap encS.c)] (ac (hs (.done (.opt (qF Tryz.prog 23 (.slice 0 0 l8.length l8.length 1) (.i (w64 (n_5-1))))) (.ptr 0 ((w64 (n_5-1):Int).toNat*1+0))) (qiL vT e_x14)) (ac (hs (.run [0] (yA Tryz.prog 9 (.ptr 0 ((w64 (n_5-1):Int).toNat*1+0)) (.str s_)) [.cells (l8.flatMap encS.c)] .undef [.cells (l15.flatMap encS.c)] true) (qbK (E:=encS) (l:=l8) (y:=s_) rfl (show _=some 1 by kernel_rfl) rfl e_x14 rfl rfl rfl rfl rfl e_l15 rfl)) az)) ?_
   obtain rfl:=si g12
   exact⟨rfl,_,rfl,((show Sub (ofG 50 [(6,.slice 0 0 l8.length l8.length 1)],[.cells (l15.flatMap encS.c)]) (ofG 50 [(6,.slice 0 0 l15.length l15.length 1)],[.cells (l15.flatMap encS.c)])from(Sub.norm [] [some 0] rfl rfl (.keep (.sliceE rfl (y7 e_l15)) .nil) (.keep rfl (.same fa) rfl rfl .nil))).trans (Sub.refl _))⟩
  ·rw[if_neg (of_ c13)]at g12
   refine Goes.skip ?_
   obtain rfl:=si g12
   exact⟨rfl,_,rfl,(Sub.keep [6] rfl rfl)⟩
 rintro x s' ⟨rfl,l11,rfl,hsub⟩
 refine Goes.sub hsub ?_
 refine sq (Goes.rg fol [(4,.slice 0 0 l11.length l11.length 1)] [.cells (l11.flatMap encS.c)] ?_)
 refine Goes.ret ?_
 obtain rfl:=si h
 exact(Goes.retW (xs:=[.slice 0 0 l11.length l11.length 1]) (by kernel_rfl) (FzW.fz (Fz.sl (E:=encS) rfl rfl (nl rfl))))
def yo (substr:Str):Nat→Str→Int→Option Int
 |0,_,_=>none
 |K+1,s_6,n_7=>
  (strings_Index s_6 substr).bind fun r10=>
  if r10=(-1)then
  some n_7
  else
  (cut s_6 (w64 (r10+(substr.length:Int))) (s_6.length:Int)).bind fun s12=>
  yo substr K s12 (w64 (n_7+1))
def strings_Count (N:Nat) (s_:Str) (substr:Str):Option Int:=
 if(substr.length:Int)=0 then
 (utf8_RuneCountInString N s_).bind fun r2=>
 some (w64 (r2+1))
 else
 if(substr.length:Int)=1 then
 (idx substr 0).bind fun c4=>
 (qh9 s_ (c4.toNat:Int)).bind fun r5=>
 some r5
 else
 (yo substr N s_ 0).bind fun q13=>
 some q13
theorem qfk (N:Nat) (s_:Str) (substr:Str) {res:Int} (h:strings_Count N s_ substr=some res):qw Tryz.prog (.fn 192) [.str s_,.str substr] [] (.i res) []:=by
 unfold strings_Count at h
 refine Goes.fnW Tryz.func192 rfl rfl (m:=34) rfl (rs:=[.tmp 4]) rfl (l:=[(0,.str s_),(1,.str substr)]) rfl ?_
 refine sq (Goes.rg fol [(0,.str s_),(1,.str substr)] [] ?_)
 refine sq ?_
 refine sq (Goes.rg fol [(0,.str s_),(1,.str substr),(9,.bool (decide ((substr.length:Int)=0)))] [] ?_)
 refine Goes.ifB (b:=decide ((substr.length:Int)=0)) (by kernel_rfl) (fun c1=>?_) (fun c1=>?_)
 ·rw[if_pos (ot c1)]at h
  refine sq ?_
  obtain⟨r2,e_r2,h⟩:=bnd h
  refine Goes.rq fol [1] [(4,.i (w64 (r2+1)))] [] (ac (cv (xK N s_ e_r2)) az) ?_
  refine Goes.ret ?_
  obtain rfl:=si h
  exact(Goes.retW (xs:=[.i (w64 (r2+1))]) (by kernel_rfl) (FzW.still tI))
 ·rw[if_neg (of_ c1)]at h
  refine Goes.skip ?_
  refine sq ?_
  refine sq (Goes.rg fol [(0,.str s_),(1,.str substr),(15,.bool (decide ((substr.length:Int)=1)))] [] ?_)
  refine Goes.ifB (b:=decide ((substr.length:Int)=1)) (by kernel_rfl) (fun c3=>?_) (fun c3=>?_)
  ·rw[if_pos (ot c3)]at h
   refine sq ?_
   obtain⟨c4,e_c4,h⟩:=bnd h
   obtain⟨r5,e_r5,h⟩:=bnd h
   refine Goes.rq fol [2,3] [(4,.i r5)] [] (ac (hs (.done (.opt (xh Tryz.prog 9 (.str substr) (.i 0))) (.int .u8 (c4.toNat:Int))) (qbk st9 e_c4)) (ac (cv (qk1 s_ (c4.toNat:Int) e_r5)) az)) ?_
   refine Goes.ret ?_
   obtain rfl:=si h
   exact(Goes.retW (xs:=[.i r5]) (by kernel_rfl) (FzW.still tI))
  ·rw[if_neg (of_ c3)]at h
   refine Goes.skip ?_
   refine sq (Goes.rg fol [(0,.str s_),(1,.str substr),(5,.i 0)] [] ?_)
   refine Goes.block ?_
   obtain⟨r8,g8,h⟩:=bnd h
   refine Goes.imp (Q:=fun x s'=>(x= .ret∧ ∃q9,q9=r8∧qW Tryz.prog [.tmp 4] (.i q9) .ret s')) ?_ ?_
   ·refine Goes.loopS (fun M s=> ∃(s_6:Str) (n_7:Int),s=(ofG 34 [(0,.str s_6),(1,.str substr),(5,.i n_7)],[])∧yo substr M s_6 n_7=some r8) ?_ (m:=N) ⟨_,_,rfl,g8⟩
    rintro M s ⟨s_6,n_7,rfl,g8⟩
    cases M with
    |zero=>simp only[yo]at g8;cases g8
    |succ M=>
     rw[yo]at g8
     refine Goes.block ?_
     refine sq ?_
     obtain⟨r10,e_r10,g8⟩:=bnd g8
     refine Goes.rq fol [2] [(0,.str s_6),(1,.str substr),(5,.i n_7),(6,.i r10)] [] (ac (cv (qbZ s_6 substr e_r10)) az) ?_
     refine sq ?_
     refine sq (Goes.rg fol [(0,.str s_6),(1,.str substr),(5,.i n_7),(6,.i r10),(24,.bool (decide (r10=(-1))))] [] ?_)
     refine Goes.ifB (b:=decide (r10=(-1))) (by kernel_rfl) (fun c11=>?_) (fun c11=>?_)
     ·rw[if_pos (ot c11)]at g8
      refine sq (Goes.rg fol [(4,.i n_7)] [] ?_)
      refine Goes.ret ?_
      obtain rfl:=si g8
      exact⟨rfl,_,rfl,(Goes.retW (xs:=[.i n_7]) (by kernel_rfl) (FzW.still tI))⟩
     ·rw[if_neg (of_ c11)]at g8
      refine Goes.skip ?_
      refine sq (Goes.rg fol [(0,.str s_6),(1,.str substr),(5,.i (w64 (n_7+1))),(6,.i r10)] [] ?_)
      obtain⟨s12,e_s12,g8⟩:=bnd g8
      refine Goes.rq fol [5] [(0,.str s12),(1,.str substr),(5,.i (w64 (n_7+1)))] [] (ac (hs (.done (.opt (kU Tryz.prog 9 (.str s_6) (some (.i (w64 (r10+(substr.length:Int))))) none none)) (.str s12)) (qhQ st9 (some (w64 (r10+(substr.length:Int)))) none e_s12)) az) ?_
      exact⟨M,(ofG 34 [(0,.str s12),(1,.str substr),(5,.i (w64 (n_7+1)))],[]),Nat.lt_succ_self _,(Sub.refl _),_,_,rfl,g8⟩
   rintro x s' ⟨rfl,q13,rfl,hret⟩
   obtain rfl:=si h
   exact hret
def zt (s_:Str) (sep:Str) (sepSave:Int) (n_4:Int):Nat→(List Str)→Str→Int→Option ((List Str)×Str×Int)
 |0,_,_,_=>none
 |K+1,l9,s_10,i_11=>
  if i_11<(w64 ((if(w64 ((s_.length:Int)+1))<n_4 then(w64 ((s_.length:Int)+1))else n_4)-1))then
  (strings_Index s_10 sep).bind fun r17=>
  if r17<0 then
  some (l9,s_10,i_11)
  else
  (cut s_10 0 (w64 (r17+sepSave))).bind fun s19=>
  (idx l9 i_11).bind fun x20=>
  (put l9 i_11 s19).bind fun l21=>
  (cut s_10 (w64 (r17+(sep.length:Int))) (s_10.length:Int)).bind fun s22=>
  zt s_ sep sepSave n_4 K l21 s22 (w64 (i_11+1))
  else
  some (l9,s_10,i_11)
def strings_genSplit (N:Nat) (s_:Str) (sep:Str) (sepSave:Int) (n:Int):Option (List Str):=
 if n=0 then
 some []
 else
 if(sep==[])=true then
 (qa4 N s_ n).bind fun r3=>
 some r3
 else
 ((if n<0 then
 (strings_Count N s_ sep).bind fun r7=>
 some (w64 (r7+1))
 else
 some n:Option Int)).bind fun n_4=>
 (mk 16 (if(w64 ((s_.length:Int)+1))<n_4 then(w64 ((s_.length:Int)+1))else n_4) []).bind fun l8=>
 (zt s_ sep sepSave n_4 N l8 s_ 0).bind fun(l12,s_13,i_14)=>
 (idx l12 i_14).bind fun x23=>
 (put l12 i_14 s_13).bind fun l24=>
 (cut l24 0 (w64 (i_14+1))).bind fun s25=>
 some s25
theorem qdO (N:Nat) (s_:Str) (sep:Str) (sepSave:Int) (n:Int) {res:List Str} (h:strings_genSplit N s_ sep sepSave n=some res):qw Tryz.prog (.fn 157) [.str s_,.str sep,.i sepSave,.i n] [] (vl encS res) []:=by
 unfold strings_genSplit at h
 refine Goes.fnW Tryz.func157 rfl rfl (m:=66) rfl (rs:=[.tmp 8]) rfl (l:=[(0,.str s_),(1,.str sep),(2,.i sepSave),(3,.i n)]) rfl ?_
 refine sq (Goes.rg fol [(0,.str s_),(1,.str sep),(2,.i sepSave),(3,.i n)] [] ?_)
 refine sq ?_
 refine sq (Goes.rg fol [(0,.str s_),(1,.str sep),(2,.i sepSave),(3,.i n),(13,.bool (decide (n=0)))] [] ?_)
 refine Goes.ifB (b:=decide (n=0)) (by kernel_rfl) (fun c1=>?_) (fun c1=>?_)
 ·rw[if_pos (ot c1)]at h
  refine sq (Goes.rg fol [(8,.nilslice)] [] ?_)
  refine Goes.ret ?_
  obtain rfl:=si h
  exact(Goes.retW (xs:=[.nilslice]) (by kernel_rfl) (FzW.nilv (E:=encS)))
 ·rw[if_neg (of_ c1)]at h
  refine Goes.skip ?_
  refine sq ?_
  refine sq (Goes.rg fol [(0,.str s_),(1,.str sep),(2,.i sepSave),(3,.i n),(15,.bool (sep==[]))] [] ?_)
  refine Goes.ifB (b:=sep==[]) (by kernel_rfl) (fun c2=>?_) (fun c2=>?_)
  ·rw[if_pos (c2)]at h
   refine sq ?_
   obtain⟨r3,e_r3,h⟩:=bnd h
   refine Goes.rq fol [2] [(8,vl encS r3)] [] (ac (cv (qd9 N s_ n e_r3)) az) ?_
   refine Goes.ret ?_
   obtain rfl:=si h
   exact(Goes.retW (xs:=[vl encS r3]) (by kernel_rfl) (FzW.still (vU encS _ (nl rfl))))
  ·rw[if_neg (nb c2)]at h
   refine Goes.skip ?_
   refine sq ?_
   refine sq (Goes.rg fol [(0,.str s_),(1,.str sep),(2,.i sepSave),(3,.i n),(20,.bool (decide (n<0)))] [] ?_)
   obtain⟨r5,g5,h⟩:=bnd h
   refine Goes.imp (Q:=fun x s'=>(x= .normal∧ ∃n_4,n_4=r5∧Sub s' (ofG 66 [(0,.str s_),(1,.str sep),(2,.i sepSave),(3,.i n_4)],[]))) ?_ ?_
   ·refine Goes.ifB (b:=decide (n<0)) (by kernel_rfl) (fun c6=>?_) (fun c6=>?_)
    ·rw[if_pos (ot c6)]at g5
     obtain⟨r7,e_r7,g5⟩:=bnd g5
     refine Goes.rq fol [2] [(0,.str s_),(1,.str sep),(2,.i sepSave),(3,.i (w64 (r7+1)))] [] (ac (cv (qfk N s_ sep e_r7)) az) ?_
     obtain rfl:=si g5
     exact⟨rfl,_,rfl,(Sub.refl _)⟩
    ·rw[if_neg (of_ c6)]at g5
     refine Goes.skip ?_
     obtain rfl:=si g5
     exact⟨rfl,_,rfl,(Sub.keep [0,1,2,3] rfl rfl)⟩
   rintro x s' ⟨rfl,n_4,rfl,hsub⟩
   refine Goes.sub hsub ?_
   refine sq (Goes.rg fol [(0,.str s_),(1,.str sep),(2,.i sepSave),(3,.i (if(w64 ((s_.length:Int)+1))<n_4 then(w64 ((s_.length:Int)+1))else n_4))] [] ?_)
   refine sq ?_
   obtain⟨l8,e_l8,h⟩:=bnd h
   refine Goes.rq fol [1] [(0,.str s_),(1,.str sep),(2,.i sepSave),(3,.i (if(w64 ((s_.length:Int)+1))<n_4 then(w64 ((s_.length:Int)+1))else n_4)),(9,.slice 0 0 l8.length l8.length 1)] [.cells (l8.flatMap encS.c)] (ac (hs (.run [] (xB Tryz.prog 23 (.i (if(w64 ((s_.length:Int)+1))<n_4 then(w64 ((s_.length:Int)+1))else n_4)) (.i (if(w64 ((s_.length:Int)+1))<n_4 then(w64 ((s_.length:Int)+1))else n_4))) [] (.slice 0 0 l8.length l8.length 1) [.cells (l8.flatMap encS.c)] false) (qjo vT (E:=encS) (z:=[]) rfl (by kernel_rfl) e_l8 rfl)) az) ?_
   refine sq (Goes.rg fol [(0,.str s_),(1,.str sep),(2,.i sepSave),(3,.i (w64 ((if(w64 ((s_.length:Int)+1))<n_4 then(w64 ((s_.length:Int)+1))else n_4)-1))),(9,.slice 0 0 l8.length l8.length 1)] [.cells (l8.flatMap encS.c)] ?_)
   refine sq (Goes.rg fol [(0,.str s_),(1,.str sep),(2,.i sepSave),(3,.i (w64 ((if(w64 ((s_.length:Int)+1))<n_4 then(w64 ((s_.length:Int)+1))else n_4)-1))),(9,.slice 0 0 l8.length l8.length 1),(10,.i 0)] [.cells (l8.flatMap encS.c)] ?_)
   refine sq (Goes.block ?_)
   obtain⟨r15,g15,h⟩:=bnd h
   refine Goes.imp (Q:=fun x s'=>(x= .exit 0∧ ∃l12 s_13 i_14,(l12,s_13,i_14)=r15∧Sub s' (ofG 66 [(0,.str s_13),(9,.slice 0 0 l12.length l12.length 1),(10,.i i_14)],[.cells (l12.flatMap encS.c)]))) ?_ ?_
   ·refine Goes.loopS (fun M s=> ∃(l9:List Str) (s_10:Str) (i_11:Int),s=(ofG 66 [(0,.str s_10),(1,.str sep),(2,.i sepSave),(3,.i (w64 ((if(w64 ((s_.length:Int)+1))<n_4 then(w64 ((s_.length:Int)+1))else n_4)-1))),(9,.slice 0 0 l9.length l9.length 1),(10,.i i_11)],[.cells (l9.flatMap encS.c)])∧zt s_ sep sepSave n_4 M l9 s_10 i_11=some r15) ?_ (m:=N) ⟨_,_,_,rfl,g15⟩
    rintro M s ⟨l9,s_10,i_11,rfl,g15⟩
    cases M with
    |zero=>simp only[zt]at g15;cases g15
    |succ M=>
     rw[zt]at g15
     refine sq ?_
     refine sq (Goes.rg fol [(0,.str s_10),(1,.str sep),(2,.i sepSave),(3,.i (w64 ((if(w64 ((s_.length:Int)+1))<n_4 then(w64 ((s_.length:Int)+1))else n_4)-1))),(9,.slice 0 0 l9.length l9.length 1),(10,.i i_11),(36,.bool (decide (i_11<(w64 ((if(w64 ((s_.length:Int)+1))<n_4 then(w64 ((s_.length:Int)+1))else n_4)-1)))))] [.cells (l9.flatMap encS.c)] ?_)
     refine Goes.ifB (b:=decide (i_11<(w64 ((if(w64 ((s_.length:Int)+1))<n_4 then(w64 ((s_.length:Int)+1))else n_4)-1)))) (by kernel_rfl) (fun c16=>?_) (fun c16=>?_)
     ·rw[if_pos (ot c16)]at g15
      refine Goes.skip ?_
      refine Goes.block ?_
      refine sq ?_
      obtain⟨r17,e_r17,g15⟩:=bnd g15
      refine Goes.rq fol [2] [(0,.str s_10),(1,.str sep),(2,.i sepSave),(3,.i (w64 ((if(w64 ((s_.length:Int)+1))<n_4 then(w64 ((s_.length:Int)+1))else n_4)-1))),(9,.slice 0 0 l9.length l9.length 1),(10,.i i_11),(11,.i r17)] [.cells (l9.flatMap encS.c)] (ac (cv (qbZ s_10 sep e_r17)) az) ?_
      refine sq ?_
      refine sq (Goes.rg fol [(0,.str s_10),(1,.str sep),(2,.i sepSave),(3,.i (w64 ((if(w64 ((s_.length:Int)+1))<n_4 then(w64 ((s_.length:Int)+1))else n_4)-1))),(9,.slice 0 0 l9.length l9.length 1),(10,.i i_11),(11,.i r17),(41,.bool (decide (r17<0)))] [.cells (l9.flatMap encS.c)] ?_)
      refine Goes.ifB (b:=decide (r17<0)) (by kernel_rfl) (fun c18=>?_) (fun c18=>?_)
      ·rw[if_pos (ot c18)]at g15
       refine Goes.exit ?_
       obtain rfl:=si g15
       exact⟨rfl,_,_,_,rfl,(Sub.keep [0,9,10] rfl rfl)⟩
      ·rw[if_neg (of_ c18)]at g15
       refine Goes.skip ?_
       refine sq ?_
       obtain⟨s19,e_s19,g15⟩:=bnd g15
       obtain⟨x20,e_x20,g15⟩:=bnd g15
       obtain⟨l21,e_l21,g15⟩:=bnd g15
       refine Goes.rq fol [6,7,8] [(0,.str s_10),(1,.str sep),(2,.i sepSave),(3,.i (w64 ((if(w64 ((s_.length:Int)+1))<n_4 then(w64 ((s_.length:Int)+1))else n_4)-1))),(9,.slice 0 0 l9.length l9.length 1),(10,.i i_11),(11,.i r17)] [.cells (l21.flatMap encS.c)] (ac (hs (.done (.opt (kU Tryz.prog 9 (.str s_10) none (some (.i (w64 (r17+sepSave)))) none)) (.str s19)) (qhQ st9 none (some (w64 (r17+sepSave))) e_s19)) (ac (hs (.done (.opt (qF Tryz.prog 23 (.slice 0 0 l9.length l9.length 1) (.i i_11))) (.ptr 0 ((i_11:Int).toNat*1+0))) (qiL vT e_x20)) (ac (hs (.run [0] (yA Tryz.prog 9 (.ptr 0 ((i_11:Int).toNat*1+0)) (.str s19)) [.cells (l9.flatMap encS.c)] .undef [.cells (l21.flatMap encS.c)] true) (qbK (E:=encS) (l:=l9) (y:=s19) rfl (show _=some 1 by kernel_rfl) rfl e_x20 rfl rfl rfl rfl rfl e_l21 rfl)) az))) ?_
       refine Goes.sub (show Sub (ofG 66 [(0,.str s_10),(1,.str sep),(2,.i sepSave),(3,.i (w64 ((if(w64 ((s_.length:Int)+1))<n_4 then(w64 ((s_.length:Int)+1))else n_4)-1))),(9,.slice 0 0 l9.length l9.length 1),(10,.i i_11),(11,.i r17)],[.cells (l21.flatMap encS.c)]) (ofG 66 [(0,.str s_10),(1,.str sep),(2,.i sepSave),(3,.i (w64 ((if(w64 ((s_.length:Int)+1))<n_4 then(w64 ((s_.length:Int)+1))else n_4)-1))),(9,.slice 0 0 l21.length l21.length 1),(10,.i i_11),(11,.i r17)],[.cells (l21.flatMap encS.c)])from(Sub.norm [] [some 0] rfl rfl (.keep (.same nS) (.keep (.same nS) (.keep (.same nI) (.keep (.same nI) (.keep (.sliceE rfl (y7 e_l21)) (.keep (.same nI) (.keep (.same nI) .nil))))))) (.keep rfl (.same fa) rfl rfl .nil))) ?_
       refine sq ?_
       obtain⟨s22,e_s22,g15⟩:=bnd g15
       refine Goes.rq fol [5] [(0,.str s22),(1,.str sep),(2,.i sepSave),(3,.i (w64 ((if(w64 ((s_.length:Int)+1))<n_4 then(w64 ((s_.length:Int)+1))else n_4)-1))),(9,.slice 0 0 l21.length l21.length 1),(10,.i i_11)] [.cells (l21.flatMap encS.c)] (ac (hs (.done (.opt (kU Tryz.prog 9 (.str s_10) (some (.i (w64 (r17+(sep.length:Int))))) none none)) (.str s22)) (qhQ st9 (some (w64 (r17+(sep.length:Int)))) none e_s22)) az) ?_
       refine Goes.rg fol [(0,.str s22),(1,.str sep),(2,.i sepSave),(3,.i (w64 ((if(w64 ((s_.length:Int)+1))<n_4 then(w64 ((s_.length:Int)+1))else n_4)-1))),(9,.slice 0 0 l21.length l21.length 1),(10,.i (w64 (i_11+1)))] [.cells (l21.flatMap encS.c)] ?_
       exact⟨M,(ofG 66 [(0,.str s22),(1,.str sep),(2,.i sepSave),(3,.i (w64 ((if(w64 ((s_.length:Int)+1))<n_4 then(w64 ((s_.length:Int)+1))else n_4)-1))),(9,.slice 0 0 l21.length l21.length 1),(10,.i (w64 (i_11+1)))],[.cells (l21.flatMap encS.c)]),Nat.lt_succ_self _,(Sub.refl _),_,_,_,rfl,g15⟩
     ·rw[if_neg (of_ c16)]at g15
      refine Goes.exit ?_
      obtain rfl:=si g15
      exact⟨rfl,_,_,_,rfl,(Sub.keep [0,9,10] rfl rfl)⟩
   rintro x s' ⟨rfl,l12,s_13,i_14,rfl,hsub⟩
   try dsimp only at h
   refine Goes.sub hsub ?_
   refine sq ?_
   obtain⟨x23,e_x23,h⟩:=bnd h
   obtain⟨l24,e_l24,h⟩:=bnd h
   refine Goes.rq fol [3,4] [(9,.slice 0 0 l12.length l12.length 1),(10,.i i_14)] [.cells (l24.flatMap encS.c)] (ac (hs (.done (.opt (qF Tryz.prog 23 (.slice 0 0 l12.length l12.length 1) (.i i_14))) (.ptr 0 ((i_14:Int).toNat*1+0))) (qiL vT e_x23)) (ac (hs (.run [0] (yA Tryz.prog 9 (.ptr 0 ((i_14:Int).toNat*1+0)) (.str s_13)) [.cells (l12.flatMap encS.c)] .undef [.cells (l24.flatMap encS.c)] true) (qbK (E:=encS) (l:=l12) (y:=s_13) rfl (show _=some 1 by kernel_rfl) rfl e_x23 rfl rfl rfl rfl rfl e_l24 rfl)) az)) ?_
   refine Goes.sub (show Sub (ofG 66 [(9,.slice 0 0 l12.length l12.length 1),(10,.i i_14)],[.cells (l24.flatMap encS.c)]) (ofG 66 [(9,.slice 0 0 l24.length l24.length 1),(10,.i i_14)],[.cells (l24.flatMap encS.c)])from(Sub.norm [] [some 0] rfl rfl (.keep (.sliceE rfl (y7 e_l24)) (.keep (.same nI) .nil)) (.keep rfl (.same fa) rfl rfl .nil))) ?_
   refine sq (Goes.sub (s':=(ofG 66 [(9,vl encS l24),(10,.i i_14)],[])) (Sub.norm [0] [] rfl rfl (.keep (.frz (Fz.sl (E:=encS) rfl rfl (nl rfl)) (qh encS _)) (.keep (.same nI) .nil)) .nil) ?_)
   obtain⟨s25,e_s25,h⟩:=bnd h
   refine Goes.rq fol [3] [(8,vl encS s25)] [] (ac (hs (.done (.opt (kU Tryz.prog 23 (vl encS l24) none (some (.i (w64 (i_14+1)))) none)) (vl encS s25)) (qft vT (E:=encS) rfl none (some (w64 (i_14+1))) e_s25)) az) ?_
   refine Goes.ret ?_
   obtain rfl:=si h
   exact(Goes.retW (xs:=[vl encS s25]) (by kernel_rfl) (FzW.still (vU encS _ (nl rfl))))
def strings_Split (N:Nat) (s_:Str) (sep:Str):Option (List Str):=
 (strings_genSplit N s_ sep 0 (-1)).bind fun r1=>
 some r1
theorem qe4 (N:Nat) (s_:Str) (sep:Str) {res:List Str} (h:strings_Split N s_ sep=some res):qw Tryz.prog (.fn 107) [.str s_,.str sep] [] (vl encS res) []:=by
 unfold strings_Split at h
 refine Goes.fnW Tryz.func107 rfl rfl (m:=8) rfl (rs:=[.tmp 4]) rfl (l:=[(0,.str s_),(1,.str sep)]) rfl ?_
 refine sq (Goes.rg fol [(0,.str s_),(1,.str sep)] [] ?_)
 refine sq ?_
 obtain⟨r1,e_r1,h⟩:=bnd h
 refine Goes.rq fol [2] [(4,vl encS r1)] [] (ac (cv (qdO N s_ sep 0 (-1) e_r1)) az) ?_
 refine Goes.ret ?_
 obtain rfl:=si h
 exact(Goes.retW (xs:=[vl encS r1]) (by kernel_rfl) (FzW.still (vU encS _ (nl rfl))))
def kI (s_:List Str) (v:Str):Nat→Int→Option (Unit⊕Int)
 |0,_=>none
 |K+1,n1=>
  if n1<(s_.length:Int)then
  (idx s_ n1).bind fun x5=>
  if(v==x5)=true then
  some (.inr n1)
  else
  kI s_ v K (w64 (n1+1))
  else
  some (.inl ())
def slices_Index_string (N:Nat) (s_:List Str) (v:Str):Option Int:=
 (kI s_ v N 0).bind (fun
 |(.inl ())=>
 some (-1)
 |(.inr q7)=>
 some q7)
theorem qcx (N:Nat) (s_:List Str) (v:Str) {res:Int} (h:slices_Index_string N s_ v=some res):qw Tryz.prog (.fn 164) [vl encS s_,.str v] [] (.i res) []:=by
 unfold slices_Index_string at h
 refine Goes.fnW Tryz.func164 rfl rfl (m:=19) rfl (rs:=[.tmp 4]) rfl (l:=[(0,vl encS s_),(1,.str v)]) rfl ?_
 refine sq (Goes.rg fol [(0,vl encS s_),(1,.str v)] [] ?_)
 refine sq ?_
 refine sq (Goes.rg fol [(0,vl encS s_),(1,.str v),(7,.i (s_.length:Int)),(8,.i 0)] [] ?_)
 refine Goes.block ?_
 obtain⟨r2,g2,h⟩:=bnd h
 refine Goes.imp (Q:=fun x s'=>(x= .exit 0∧(.inl ())=r2∧Sub s' (ofG 19 [],[]))∨(x= .ret∧ ∃q3,(.inr q3)=r2∧qW Tryz.prog [.tmp 4] (.i q3) .ret s')) ?_ ?_
 ·refine Goes.loopS (fun M s=> ∃(n1:Int),s=(ofG 19 [(0,vl encS s_),(1,.str v),(7,.i (s_.length:Int)),(8,.i n1)],[])∧kI s_ v M n1=some r2) ?_ (m:=N) ⟨_,rfl,g2⟩
  rintro M s ⟨n1,rfl,g2⟩
  cases M with
  |zero=>simp only[kI]at g2;cases g2
  |succ M=>
   rw[kI]at g2
   refine sq (Goes.rg fol [(0,vl encS s_),(1,.str v),(7,.i (s_.length:Int)),(8,.i n1),(9,.bool (decide (n1<(s_.length:Int))))] [] ?_)
   refine sq ?_
   refine Goes.ifB (b:=decide (n1<(s_.length:Int))) (by kernel_rfl) (fun c4=>?_) (fun c4=>?_)
   ·rw[if_pos (ot c4)]at g2
    refine Goes.skip ?_
    refine sq (Goes.block ?_)
    refine sq (Goes.rg fol [(0,vl encS s_),(1,.str v),(5,.i n1),(7,.i (s_.length:Int)),(8,.i n1)] [] ?_)
    refine sq ?_
    obtain⟨x5,e_x5,g2⟩:=bnd g2
    refine Goes.rq fol [3,4] [(0,vl encS s_),(1,.str v),(5,.i n1),(7,.i (s_.length:Int)),(8,.i n1),(16,.bool (v==x5))] [] (ac (iv vT encS e_x5) (ac (lv 0 ce9 encS e_x5 rfl) az)) ?_
    refine Goes.ifB (b:=v==x5) (by kernel_rfl) (fun c6=>?_) (fun c6=>?_)
    ·rw[if_pos (c6)]at g2
     refine sq (Goes.rg fol [(4,.i n1)] [] ?_)
     refine Goes.ret ?_
     obtain rfl:=si g2
     exact Or.inr (⟨rfl,_,rfl,(Goes.retW (xs:=[.i n1]) (by kernel_rfl) (FzW.still tI))⟩)
    ·rw[if_neg (nb c6)]at g2
     refine Goes.skip ?_
     refine Goes.rg fol [(0,vl encS s_),(1,.str v),(7,.i (s_.length:Int)),(8,.i (w64 (n1+1)))] [] ?_
     exact⟨M,(ofG 19 [(0,vl encS s_),(1,.str v),(7,.i (s_.length:Int)),(8,.i (w64 (n1+1)))],[]),Nat.lt_succ_self _,(Sub.refl _),_,rfl,g2⟩
   ·rw[if_neg (of_ c4)]at g2
    refine Goes.exit ?_
    obtain rfl:=si g2
    exact Or.inl (⟨rfl,rfl,(Sub.keep [] rfl rfl)⟩)
 rintro x s' (⟨rfl,rfl,hsub⟩|⟨rfl,q7,rfl,hret⟩)
 ·try dsimp only at h
  refine Goes.sub hsub ?_
  refine sq (Goes.rg fol [(4,.i (-1))] [] ?_)
  refine Goes.ret ?_
  obtain rfl:=si h
  exact(Goes.retW (xs:=[.i (-1)]) (by kernel_rfl) (FzW.still tI))
 ·try dsimp only at h
  obtain rfl:=si h
  exact hret
def slices_Contains_string (N:Nat) (s_:List Str) (v:Str):Option Bool:=
 (slices_Index_string N s_ v).bind fun r1=>
 some (decide (r1≥0))
theorem qbC (N:Nat) (s_:List Str) (v:Str) {res:Bool} (h:slices_Contains_string N s_ v=some res):qw Tryz.prog (.fn 112) [vl encS s_,.str v] [] (.bool res) []:=by
 unfold slices_Contains_string at h
 refine Goes.fnW Tryz.func112 rfl rfl (m:=9) rfl (rs:=[.tmp 4]) rfl (l:=[(0,vl encS s_),(1,.str v)]) rfl ?_
 refine sq (Goes.rg fol [(0,vl encS s_),(1,.str v)] [] ?_)
 refine sq ?_
 obtain⟨r1,e_r1,h⟩:=bnd h
 refine Goes.rq fol [2] [(4,.bool (decide (r1≥0)))] [] (ac (cv (qcx N s_ v e_r1)) az) ?_
 refine Goes.ret ?_
 obtain rfl:=si h
 exact(Goes.retW (xs:=[.bool (decide (r1≥0))]) (by kernel_rfl) (FzW.still tB))
def jG:Option (List Str):=
 qew (some []) ((app 16 ([]:List Str) ([]:List Str)).bind fun l1=>
 some l1)
theorem qbP {res:List Str} (h:jG=some res):qw Tryz.prog (.fn 165) [vl encS ([]:List Str)] [] (vl encS res) []:=by
 unfold jG at h
 refine Goes.fnW Tryz.func165 rfl rfl (m:=8) rfl (rs:=[.tmp 2]) rfl (l:=[(0,vl encS ([]:List Str))]) rfl ?_
 refine sq (Goes.rg fol [(0,vl encS ([]:List Str))] [] ?_)
 refine sq ?_
 refine sq (Goes.rg fol [(0,vl encS ([]:List Str)),(4,.anyb)] [] ?_)
 refine Goes.condAny (by kernel_rfl) ?_ ?_
 ·replace h:=(qaI h).1
  refine sq (Goes.rg fol [(2,.nilslice)] [] ?_)
  refine Goes.ret ?_
  obtain rfl:=si h
  exact(Goes.retW (xs:=[.nilslice]) (by kernel_rfl) (FzW.nilv (E:=encS)))
 ·replace h:=(qaI h).2
  refine Goes.skip ?_
  refine sq ?_
  obtain⟨l1,e_l1,h⟩:=bnd h
  refine Goes.rq fol [2] [(2,.oslice 1 l1.length 1)] [.dead,.cells (l1.flatMap encS.c)] (ac (hs (.run [0] (qQ Tryz.prog [23,23] (.slice 0 0 0 0 1) (vl encS ([]:List Str))) [.cells []] (.oslice 1 l1.length 1) [.dead,.cells (l1.flatMap encS.c)] true) (kN vT (E:=encS) rfl (qa7 (E:=encS) rfl _) (qb2 (E:=encS) rfl rfl rfl e_l1 rfl))) az) ?_
  refine Goes.ret ?_
  obtain rfl:=si h
  exact(Goes.retW (xs:=[.oslice 1 l1.length 1]) (by kernel_rfl) (FzW.fz (Fz.os (E:=encS) rfl rfl (nl rfl))))
def zS (x:Str) (xs:List Str):Option (List Str):=
 (app 16 ([]:List Str) (x::xs)).bind fun l1=>
 some l1
theorem qbV (x:Str) (xs:List Str) {res:List Str} (h:zS x xs=some res):qw Tryz.prog (.fn 165) [vl encS (x::xs)] [] (vl encS res) []:=by
 unfold zS at h
 refine Goes.fnW Tryz.func165 rfl rfl (m:=8) rfl (rs:=[.tmp 2]) rfl (l:=[(0,vl encS (x::xs))]) rfl ?_
 refine sq (Goes.rg fol [(0,vl encS (x::xs))] [] ?_)
 refine sq ?_
 refine sq (Goes.rg fol [(0,vl encS (x::xs)),(4,.bool false)] [] ?_)
 refine Goes.ifB (b:=false) (by kernel_rfl) (fun c=>(by cases c)) (fun _=>?_)
 refine Goes.skip ?_
 refine sq ?_
 obtain⟨l1,e_l1,h⟩:=bnd h
 refine Goes.rq fol [2] [(2,.oslice 1 l1.length 1)] [.dead,.cells (l1.flatMap encS.c)] (ac (hs (.run [0] (qQ Tryz.prog [23,23] (.slice 0 0 0 0 1) (vl encS (x::xs))) [.cells []] (.oslice 1 l1.length 1) [.dead,.cells (l1.flatMap encS.c)] true) (kN vT (E:=encS) rfl (qa7 (E:=encS) rfl _) (qb2 (E:=encS) rfl rfl rfl e_l1 rfl))) az) ?_
 refine Goes.ret ?_
 obtain rfl:=si h
 exact(Goes.retW (xs:=[.oslice 1 l1.length 1]) (by kernel_rfl) (FzW.fz (Fz.os (E:=encS) rfl rfl (nl rfl))))
def slices_Clone_string:List Str→Option (List Str)
 |[]=>jG
 |x::xs=>zS x xs
theorem qaz (l:List Str) {res:List Str} (h:slices_Clone_string l=some res):qw Tryz.prog (.fn 165) [vl encS l] [] (vl encS res) []:=by
 cases l with
 |nil=>exact qbP h
 |cons x xs=>exact qbV x xs h
def yP (s_:Str):Option Bool:=
 (if(!(s_==[]))=true then
 (qiY s_ [48,49,50,51,52,53,54,55,56,57]).bind fun r2=>
 some (r2==[])
 else
 some false:Option Bool).bind fun b3=>
 some b3
theorem qad (s_:Str) {res:Bool} (h:yP s_=some res):qw Tryz.prog (.fn 155) [.str s_] [] (.bool res) []:=by
 unfold yP at h
 refine Goes.fnW Tryz.func155 rfl rfl (m:=10) rfl (rs:=[.tmp 2]) rfl (l:=[(0,.str s_)]) rfl ?_
 refine sq (Goes.rg fol [(0,.str s_)] [] ?_)
 refine sq ?_
 obtain⟨b3,g_v4,h⟩:=bnd h
 refine Goes.cut (s':=(ofG 10 [(2,.bool b3)],[])) ?_ ?_
 ·rcases Bool.eq_false_or_eq_true (!(s_==[]))with c1|c1
  ·rw[if_pos (c1)]at g_v4
   obtain⟨r2,e_r2,g_v4⟩:=bnd g_v4
   obtain rfl:=si g_v4
   exact qp.rq fol [2,4] [(2,.bool (r2==[]))] [] (ac (gw c1) (ac (cv (qmf s_ [48,49,50,51,52,53,54,55,56,57] e_r2)) az))
  ·rw[if_neg (nb c1)]at g_v4
   obtain rfl:=si g_v4
   exact qp.rq fol [2] [(2,.bool false)] [] (ac (gw c1) az)
 refine Goes.ret ?_
 obtain rfl:=si h
 exact(Goes.retW (xs:=[.bool b3]) (by kernel_rfl) (FzW.still tB))
def xy (s_:Str):Option (Int×Bool):=
 (if(s_.length:Int)>9 then
 some true
 else
 (yP s_).bind fun r2=>
 if(!r2)=true then
 some true
 else
 (idx s_ 0).bind fun c4=>
 if(c4.toNat:Int)=48 then
 some (!(s_==[48]))
 else
 some false:Option Bool).bind fun b6=>
 if b6=true then
 some (0,false)
 else
 (qiq s_).bind fun r9=>
 some (r9.1,true)
theorem qeJ (s_:Str) {res:Int×Bool} (h:xy s_=some res):qw Tryz.prog (.fn 172) [.str s_] [] (.tuple [.i res.1,.bool res.2]) []:=by
 unfold xy at h
 refine Goes.fnW Tryz.func172 rfl rfl (m:=31) rfl (rs:=[.tmp 2,.tmp 3]) rfl (l:=[(0,.str s_)]) rfl ?_
 refine sq (Goes.rg fol [(0,.str s_)] [] ?_)
 refine sq ?_
 refine sq ?_
 obtain⟨b6,g_v7,h⟩:=bnd h
 refine Goes.cut (s':=(ofG 31 [(0,.str s_),(22,.bool b6)],[])) ?_ ?_
 ·rcases Bool.eq_false_or_eq_true (decide ((s_.length:Int)>9))with c1|c1
  ·rw[if_pos (ot c1)]at g_v7
   obtain rfl:=si g_v7
   exact qp.rq fol [3] [(0,.str s_),(22,.bool true)] [] (ac (gw c1) az)
  ·rw[if_neg (of_ c1)]at g_v7
   obtain⟨r2,e_r2,g_v7⟩:=bnd g_v7
   rcases Bool.eq_false_or_eq_true (!r2)with c3|c3
   ·rw[if_pos (c3)]at g_v7
    obtain rfl:=si g_v7
    exact qp.rq fol [3,5,8] [(0,.str s_),(22,.bool true)] [] (ac (gw c1) (ac (cv (qad s_ e_r2)) (ac (gw c3) az)))
   ·rw[if_neg (nb c3)]at g_v7
    obtain⟨c4,e_c4,g_v7⟩:=bnd g_v7
    rcases Bool.eq_false_or_eq_true (decide ((c4.toNat:Int)=48))with c5|c5
    ·rw[if_pos (ot c5)]at g_v7
     obtain rfl:=si g_v7
     exact qp.rq fol [3,5,8,10,12] [(0,.str s_),(22,.bool (!(s_==[48])))] [] (ac (gw c1) (ac (cv (qad s_ e_r2)) (ac (gw c3) (ac (hs (.done (.opt (xh Tryz.prog 9 (.str s_) (.i 0))) (.int .u8 (c4.toNat:Int))) (qbk st9 e_c4)) (ac (gw c5) az)))))
    ·rw[if_neg (of_ c5)]at g_v7
     obtain rfl:=si g_v7
     exact qp.rq fol [3,5,8,10,12] [(0,.str s_),(22,.bool false)] [] (ac (gw c1) (ac (cv (qad s_ e_r2)) (ac (gw c3) (ac (hs (.done (.opt (xh Tryz.prog 9 (.str s_) (.i 0))) (.int .u8 (c4.toNat:Int))) (qbk st9 e_c4)) (ac (gw c5) az)))))
 refine Goes.ifB (b:=b6) (by kernel_rfl) (fun c8=>?_) (fun c8=>?_)
 ·rw[if_pos (c8)]at h
  refine sq (Goes.rg fol [(2,.i 0),(3,.bool false)] [] ?_)
  refine Goes.ret ?_
  obtain rfl:=si h
  exact(Goes.retW (xs:=[.i 0,.bool false]) (by kernel_rfl) (FzW.tuple (qz.cons (FzW.still tI) (qz.cons (FzW.still tB) qz.nil))))
 ·rw[if_neg (nb c8)]at h
  refine Goes.skip ?_
  refine sq ?_
  obtain⟨r9,e_r9,h⟩:=bnd h
  refine Goes.rq fol [1] [(4,.i r9.1),(5,.niliface)] [] (ac (cv (qlr s_ e_r9)) az) ?_
  refine sq (Goes.rg fol [(2,.i r9.1),(3,.bool true)] [] ?_)
  refine Goes.ret ?_
  obtain rfl:=si h
  exact(Goes.retW (xs:=[.i r9.1,.bool true]) (by kernel_rfl) (FzW.tuple (qz.cons (FzW.still tI) (qz.cons (FzW.still tB) qz.nil))))
def zF (s23:List Str):Nat→(List Int)→Int→Option ((List Int)⊕(ql×Bool))
 |0,_,_=>none
 |K+1,l24,n25=>
  if n25<(s23.length:Int)then
  (idx s23 n25).bind fun x30=>
  (xy x30).bind fun r31=>
  if(!r31.2)=true then
  some (.inr ((⟨0,[],[],[],[]⟩:ql),false))
  else
  (app 8 l24 [r31.1]).bind fun l33=>
  zF s23 K l33 (w64 (n25+1))
  else
  some (.inl l24)
def j5 (N:Nat) (s_:Str):Option (ql×Bool):=
 (strings_Split N s_ [32]).bind fun r1=>
 ((zA).bind fun r2=>
 (idx r1 0).bind fun x3=>
 if(x3==[109,97,107,101])=true then
 some (2,3,true)
 else
 if(x3==[116,101,115,116])=true then
 some (1,2,true)
 else
 if(x3==[117,115,101])=true then
 some (1,2,true)
 else
 if(x3==[102,97,105,108])=true then
 some (1,1,true)
 else
 if(x3==[114,101,99,97,108,108])=true then
 some (1,1,true)
 else
 if(x3==[117,110,100,111])=true then
 some (0,0,true)
 else
 some (0,0,false):Option (Int×Int×Bool)).bind fun(n10,n11,is_12)=>
 (if(!is_12)=true then
 some true
 else
 if(!decide ((r1.length:Int)=(w64 ((w64 (1+n10))+n11))))=true then
 some true
 else
 (slices_Contains_string N r1 []).bind fun r16=>
 some r16:Option Bool).bind fun b17=>
 if b17=true then
 some ((⟨0,[],[],[],[]⟩:ql),false)
 else
 (idx r1 0).bind fun x20=>
 (cut r1 1 (w64 (1+n10))).bind fun s21=>
 (slices_Clone_string s21).bind fun r22=>
 (cut r1 (w64 (1+n10)) (r1.length:Int)).bind fun s23=>
 (zF s23 N ([]:List Int) 0).bind (fun
 |(.inl l26)=>
 some ((⟨0,x20,r22,l26,[]⟩:ql),true)
 |(.inr q34)=>
 some q34)
theorem qaa (N:Nat) (s_:Str) {res:ql×Bool} (h:j5 N s_=some res):qw Tryz.prog (.fn 127) [.str s_] [] (.tuple [.agg (cE res.1),.bool res.2]) []:=by
 unfold j5 at h
 refine Goes.fnW Tryz.func127 rfl rfl (m:=76) rfl (rs:=[.cell 2 26,.tmp 3]) rfl (l:=[(0,.str s_)]) rfl ?_
 refine sq (Goes.rg fol [(0,.str s_),(2,.ptr 0 0)] [.cells [.i 0,.str [],.nilslice,.nilslice,.str []]] ?_)
 refine sq ?_
 obtain⟨r1,e_r1,h⟩:=bnd h
 refine Goes.rq fol [1] [(2,.ptr 0 0),(4,vl encS r1)] [.cells [.i 0,.str [],.nilslice,.nilslice,.str []]] (ac (cv (qe4 N s_ [32] e_r1)) az) ?_
 refine sq ?_
 obtain⟨⟨n10,n11,is_12⟩,g_v13,h⟩:=bnd h
 refine Goes.cutS (s':=(ofG 76 [(2,.ptr 0 0),(4,vl encS r1),(5,.ptr 1 0),(6,.bool is_12)],[.cells [.i 0,.str [],.nilslice,.nilslice,.str []],.cells [.i n10,.i n11,.undef]])) ?_ ?_
 ·obtain⟨r2,e_r2,g_v13⟩:=bnd g_v13
  obtain⟨x3,e_x3,g_v13⟩:=bnd g_v13
  rcases Bool.eq_false_or_eq_true (x3==[109,97,107,101])with c4|c4
  ·rw[if_pos (c4)]at g_v13
   simp only[Option.some.injEq,Prod.mk.injEq]at g_v13
   obtain⟨rfl,rfl,rfl⟩:=g_v13
   exact qp.sub (qp.rq fol [0,2,3,4] [(2,.ptr 0 0),(4,vl encS r1),(5,.ptr 1 0),(6,.bool true)] [.cells [.i 0,.str [],.nilslice,.nilslice,.str []],.cells [.i 2,.i 3,.func (.func 141) [] []]] (ac (cv (qH e_r2)) (ac (iv vT encS e_x3) (ac (lv 0 ce9 encS e_x3 rfl) (ac (hs (.done (kP Tryz.prog 154 (fm1) (.str x3) true) (.tuple [.agg [.i 2,.i 3,.func (.func 141) [] []],.bool true])) (qa3 qav [[109,97,107,101],[116,101,115,116],[117,115,101],[102,97,105,108],[114,101,99,97,108,108],[117,110,100,111]] (jk c4) rfl)) az))))) (Sub.norm [] [some 0,some 1] rfl rfl (.keep (.ptr rfl) (.keep (.same (qh encS _)) (.keep (.ptr rfl) (.keep (.same nB) .nil)))) (.keep rfl (.same (qf.cons nI (qf.cons nS (qf.cons (qx.nilslice) (qf.cons (qx.nilslice) (qf.cons nS qf.nil)))))) rfl rfl (.keep rfl (.cells (qg.cons (.same nI) (qg.cons (.same nI) (qg.cons (.undef) qg.nil)))) rfl rfl .nil)))
  ·rw[if_neg (nb c4)]at g_v13
   rcases Bool.eq_false_or_eq_true (x3==[116,101,115,116])with c5|c5
   ·rw[if_pos (c5)]at g_v13
    simp only[Option.some.injEq,Prod.mk.injEq]at g_v13
    obtain⟨rfl,rfl,rfl⟩:=g_v13
    exact qp.sub (qp.rq fol [0,2,3,4] [(2,.ptr 0 0),(4,vl encS r1),(5,.ptr 1 0),(6,.bool true)] [.cells [.i 0,.str [],.nilslice,.nilslice,.str []],.cells [.i 1,.i 2,.func (.func 142) [] []]] (ac (cv (qH e_r2)) (ac (iv vT encS e_x3) (ac (lv 0 ce9 encS e_x3 rfl) (ac (hs (.done (kP Tryz.prog 154 (fm1) (.str x3) true) (.tuple [.agg [.i 1,.i 2,.func (.func 142) [] []],.bool true])) (qa3 qav [[109,97,107,101],[116,101,115,116],[117,115,101],[102,97,105,108],[114,101,99,97,108,108],[117,110,100,111]] (qy c4 (jk c5)) rfl)) az))))) (Sub.norm [] [some 0,some 1] rfl rfl (.keep (.ptr rfl) (.keep (.same (qh encS _)) (.keep (.ptr rfl) (.keep (.same nB) .nil)))) (.keep rfl (.same (qf.cons nI (qf.cons nS (qf.cons (qx.nilslice) (qf.cons (qx.nilslice) (qf.cons nS qf.nil)))))) rfl rfl (.keep rfl (.cells (qg.cons (.same nI) (qg.cons (.same nI) (qg.cons (.undef) qg.nil)))) rfl rfl .nil)))
   ·rw[if_neg (nb c5)]at g_v13
    rcases Bool.eq_false_or_eq_true (x3==[117,115,101])with c6|c6
    ·rw[if_pos (c6)]at g_v13
     simp only[Option.some.injEq,Prod.mk.injEq]at g_v13
     obtain⟨rfl,rfl,rfl⟩:=g_v13
     exact qp.sub (qp.rq fol [0,2,3,4] [(2,.ptr 0 0),(4,vl encS r1),(5,.ptr 1 0),(6,.bool true)] [.cells [.i 0,.str [],.nilslice,.nilslice,.str []],.cells [.i 1,.i 2,.func (.func 143) [] []]] (ac (cv (qH e_r2)) (ac (iv vT encS e_x3) (ac (lv 0 ce9 encS e_x3 rfl) (ac (hs (.done (kP Tryz.prog 154 (fm1) (.str x3) true) (.tuple [.agg [.i 1,.i 2,.func (.func 143) [] []],.bool true])) (qa3 qav [[109,97,107,101],[116,101,115,116],[117,115,101],[102,97,105,108],[114,101,99,97,108,108],[117,110,100,111]] (qy c4 (qy c5 (jk c6))) rfl)) az))))) (Sub.norm [] [some 0,some 1] rfl rfl (.keep (.ptr rfl) (.keep (.same (qh encS _)) (.keep (.ptr rfl) (.keep (.same nB) .nil)))) (.keep rfl (.same (qf.cons nI (qf.cons nS (qf.cons (qx.nilslice) (qf.cons (qx.nilslice) (qf.cons nS qf.nil)))))) rfl rfl (.keep rfl (.cells (qg.cons (.same nI) (qg.cons (.same nI) (qg.cons (.undef) qg.nil)))) rfl rfl .nil)))
    ·rw[if_neg (nb c6)]at g_v13
     rcases Bool.eq_false_or_eq_true (x3==[102,97,105,108])with c7|c7
     ·rw[if_pos (c7)]at g_v13
      simp only[Option.some.injEq,Prod.mk.injEq]at g_v13
      obtain⟨rfl,rfl,rfl⟩:=g_v13
      exact qp.sub (qp.rq fol [0,2,3,4] [(2,.ptr 0 0),(4,vl encS r1),(5,.ptr 1 0),(6,.bool true)] [.cells [.i 0,.str [],.nilslice,.nilslice,.str []],.cells [.i 1,.i 1,.func (.func 144) [] []]] (ac (cv (qH e_r2)) (ac (iv vT encS e_x3) (ac (lv 0 ce9 encS e_x3 rfl) (ac (hs (.done (kP Tryz.prog 154 (fm1) (.str x3) true) (.tuple [.agg [.i 1,.i 1,.func (.func 144) [] []],.bool true])) (qa3 qav [[109,97,107,101],[116,101,115,116],[117,115,101],[102,97,105,108],[114,101,99,97,108,108],[117,110,100,111]] (qy c4 (qy c5 (qy c6 (jk c7)))) rfl)) az))))) (Sub.norm [] [some 0,some 1] rfl rfl (.keep (.ptr rfl) (.keep (.same (qh encS _)) (.keep (.ptr rfl) (.keep (.same nB) .nil)))) (.keep rfl (.same (qf.cons nI (qf.cons nS (qf.cons (qx.nilslice) (qf.cons (qx.nilslice) (qf.cons nS qf.nil)))))) rfl rfl (.keep rfl (.cells (qg.cons (.same nI) (qg.cons (.same nI) (qg.cons (.undef) qg.nil)))) rfl rfl .nil)))
     ·rw[if_neg (nb c7)]at g_v13
      rcases Bool.eq_false_or_eq_true (x3==[114,101,99,97,108,108])with c8|c8
      ·rw[if_pos (c8)]at g_v13
       simp only[Option.some.injEq,Prod.mk.injEq]at g_v13
       obtain⟨rfl,rfl,rfl⟩:=g_v13
       exact qp.sub (qp.rq fol [0,2,3,4] [(2,.ptr 0 0),(4,vl encS r1),(5,.ptr 1 0),(6,.bool true)] [.cells [.i 0,.str [],.nilslice,.nilslice,.str []],.cells [.i 1,.i 1,.func (.func 145) [] []]] (ac (cv (qH e_r2)) (ac (iv vT encS e_x3) (ac (lv 0 ce9 encS e_x3 rfl) (ac (hs (.done (kP Tryz.prog 154 (fm1) (.str x3) true) (.tuple [.agg [.i 1,.i 1,.func (.func 145) [] []],.bool true])) (qa3 qav [[109,97,107,101],[116,101,115,116],[117,115,101],[102,97,105,108],[114,101,99,97,108,108],[117,110,100,111]] (qy c4 (qy c5 (qy c6 (qy c7 (jk c8))))) rfl)) az))))) (Sub.norm [] [some 0,some 1] rfl rfl (.keep (.ptr rfl) (.keep (.same (qh encS _)) (.keep (.ptr rfl) (.keep (.same nB) .nil)))) (.keep rfl (.same (qf.cons nI (qf.cons nS (qf.cons (qx.nilslice) (qf.cons (qx.nilslice) (qf.cons nS qf.nil)))))) rfl rfl (.keep rfl (.cells (qg.cons (.same nI) (qg.cons (.same nI) (qg.cons (.undef) qg.nil)))) rfl rfl .nil)))
      ·rw[if_neg (nb c8)]at g_v13
       rcases Bool.eq_false_or_eq_true (x3==[117,110,100,111])with c9|c9
       ·rw[if_pos (c9)]at g_v13
        simp only[Option.some.injEq,Prod.mk.injEq]at g_v13
        obtain⟨rfl,rfl,rfl⟩:=g_v13
        exact qp.sub (qp.rq fol [0,2,3,4] [(2,.ptr 0 0),(4,vl encS r1),(5,.ptr 1 0),(6,.bool true)] [.cells [.i 0,.str [],.nilslice,.nilslice,.str []],.cells [.i 0,.i 0,.nilfunc]] (ac (cv (qH e_r2)) (ac (iv vT encS e_x3) (ac (lv 0 ce9 encS e_x3 rfl) (ac (hs (.done (kP Tryz.prog 154 (fm1) (.str x3) true) (.tuple [.agg [.i 0,.i 0,.nilfunc],.bool true])) (qa3 qav [[109,97,107,101],[116,101,115,116],[117,115,101],[102,97,105,108],[114,101,99,97,108,108],[117,110,100,111]] (qy c4 (qy c5 (qy c6 (qy c7 (qy c8 (jk c9)))))) rfl)) az))))) (Sub.norm [] [some 0,some 1] rfl rfl (.keep (.ptr rfl) (.keep (.same (qh encS _)) (.keep (.ptr rfl) (.keep (.same nB) .nil)))) (.keep rfl (.same (qf.cons nI (qf.cons nS (qf.cons (qx.nilslice) (qf.cons (qx.nilslice) (qf.cons nS qf.nil)))))) rfl rfl (.keep rfl (.cells (qg.cons (.same nI) (qg.cons (.same nI) (qg.cons (.undef) qg.nil)))) rfl rfl .nil)))
       ·rw[if_neg (nb c9)]at g_v13
        simp only[Option.some.injEq,Prod.mk.injEq]at g_v13
        obtain⟨rfl,rfl,rfl⟩:=g_v13
        exact qp.sub (qp.rq fol [0,2,3,4] [(2,.ptr 0 0),(4,vl encS r1),(5,.ptr 1 0),(6,.bool false)] [.cells [.i 0,.str [],.nilslice,.nilslice,.str []],.cells [.i 0,.i 0,.nilfunc]] (ac (cv (qH e_r2)) (ac (iv vT encS e_x3) (ac (lv 0 ce9 encS e_x3 rfl) (ac (hs (.done (kP Tryz.prog 154 (fm1) (.str x3) true) (.tuple [.agg [.i 0,.i 0,.nilfunc],.bool false])) (qjY qav [[109,97,107,101],[116,101,115,116],[117,115,101],[102,97,105,108],[114,101,99,97,108,108],[117,110,100,111]] (qy c4 (qy c5 (qy c6 (qy c7 (qy c8 (qy c9 (rfl))))))))) az))))) (Sub.norm [] [some 0,some 1] rfl rfl (.keep (.ptr rfl) (.keep (.same (qh encS _)) (.keep (.ptr rfl) (.keep (.same nB) .nil)))) (.keep rfl (.same (qf.cons nI (qf.cons nS (qf.cons (qx.nilslice) (qf.cons (qx.nilslice) (qf.cons nS qf.nil)))))) rfl rfl (.keep rfl (.cells (qg.cons (.same nI) (qg.cons (.same nI) (qg.cons (.undef) qg.nil)))) rfl rfl .nil)))
 intro _ hsub
 try dsimp only at h
 refine Goes.sub hsub ?_
 refine sq ?_
 refine sq ?_
 obtain⟨b17,g_v18,h⟩:=bnd h
 refine Goes.cutS (s':=(ofG 76 [(2,.ptr 0 0),(4,vl encS r1),(5,.ptr 1 0),(38,.bool b17)],[.cells [.i 0,.str [],.nilslice,.nilslice,.str []],.cells [.i n10,.i n11,.undef]])) ?_ ?_
 ·rcases Bool.eq_false_or_eq_true (!is_12)with c14|c14
  ·rw[if_pos (c14)]at g_v18
   obtain rfl:=si g_v18
   exact qp.sub (qp.rq fol [2] [(2,.ptr 0 0),(4,vl encS r1),(5,.ptr 1 0),(38,.bool true)] [.cells [.i 0,.str [],.nilslice,.nilslice,.str []],.cells [.i n10,.i n11,.undef]] (ac (gw c14) az)) (Sub.refl _)
  ·rw[if_neg (nb c14)]at g_v18
   rcases Bool.eq_false_or_eq_true (!decide ((r1.length:Int)=(w64 ((w64 (1+n10))+n11))))with c15|c15
   ·rw[if_pos (c15)]at g_v18
    obtain rfl:=si g_v18
    exact qp.sub (qp.rq fol [2,13] [(2,.ptr 0 0),(4,vl encS r1),(5,.ptr 1 0),(38,.bool true)] [.cells [.i 0,.str [],.nilslice,.nilslice,.str []],.cells [.i n10,.i n11,.undef]] (ac (gw c14) (ac (gw c15) az))) (Sub.refl _)
   ·rw[if_neg (nb c15)]at g_v18
    obtain⟨r16,e_r16,g_v18⟩:=bnd g_v18
    obtain rfl:=si g_v18
    exact qp.sub (qp.rq fol [2,13,15] [(2,.ptr 0 0),(4,vl encS r1),(5,.ptr 1 0),(38,.bool r16)] [.cells [.i 0,.str [],.nilslice,.nilslice,.str []],.cells [.i n10,.i n11,.undef]] (ac (gw c14) (ac (gw c15) (ac (cv (qbC N r1 [] e_r16)) az)))) (Sub.refl _)
 intro _ hsub
 refine Goes.sub hsub ?_
 refine Goes.ifB (b:=b17) (by kernel_rfl) (fun c19=>?_) (fun c19=>?_)
 ·rw[if_pos (c19)]at h
  refine sq (Goes.rg fol [(2,.ptr 0 0),(3,.bool false)] [.cells [.i 0,.str [],.nilslice,.nilslice,.str []],.cells [.i n10,.i n11,.undef]] ?_)
  refine Goes.ret ?_
  obtain rfl:=si h
  exact(Goes.retW (xs:=[.agg [.i 0,.str [],.nilslice,.nilslice,.str []],.bool false]) (by kernel_rfl) (FzW.tuple (qz.cons (FzW.agg (qz.cons (FzW.still tI) (qz.cons (FzW.still tS) (qz.cons (FzW.nilv (E:=encS)) (qz.cons (FzW.nilv (E:=encI)) (qz.cons (FzW.still tS) qz.nil)))))) (qz.cons (FzW.still tB) qz.nil))))
 ·rw[if_neg (nb c19)]at h
  refine Goes.skip ?_
  refine sq ?_
  obtain⟨x20,e_x20,h⟩:=bnd h
  obtain⟨s21,e_s21,h⟩:=bnd h
  obtain⟨r22,e_r22,h⟩:=bnd h
  refine Goes.rq fol [1,2,7,8] [(2,.ptr 0 0),(4,vl encS r1),(5,.ptr 1 0),(7,.ptr 2 0)] [.cells [.i 0,.str [],.nilslice,.nilslice,.str []],.cells [.i n10,.i n11,.undef],.cells [.i 0,.str x20,vl encS r22,.nilslice,.str []]] (ac (iv vT encS e_x20) (ac (lv 0 ce9 encS e_x20 rfl) (ac (hs (.done (.opt (kU Tryz.prog 23 (vl encS r1) (some (.i 1)) (some (.i (w64 (1+n10)))) none)) (vl encS s21)) (qft vT (E:=encS) rfl (some 1) (some (w64 (1+n10))) e_s21)) (ac (cv (qaz s21 e_r22)) az)))) ?_
  refine sq ?_
  refine sq ?_
  obtain⟨s23,e_s23,h⟩:=bnd h
  refine Goes.rq fol [4] [(2,.ptr 0 0),(7,.ptr 2 0),(54,vl encS s23),(55,.i (s23.length:Int)),(56,.i 0)] [.cells [.i 0,.str [],.nilslice,.nilslice,.str []],.cells [.i n10,.i n11,.undef],.cells [.i 0,.str x20,vl encS r22,.nilslice,.str []]] (ac (hs (.done (.opt (kU Tryz.prog 23 (vl encS r1) (some (.i (w64 (1+n10)))) none none)) (vl encS s23)) (qft vT (E:=encS) rfl (some (w64 (1+n10))) none e_s23)) az) ?_
  refine Goes.block ?_
  obtain⟨r27,g27,h⟩:=bnd h
  refine Goes.imp (Q:=fun x s'=>(x= .exit 0∧ ∃l26,(.inl l26)=r27∧Sub s' (ofG 76 [(2,.ptr 0 0),(7,.ptr 1 0)],[.cells [.i 0,.str [],.nilslice,.nilslice,.str []],.cells [.i 0,.str x20,vl encS r22,.gslice 2 l26.length 1,.str []],.cells (l26.flatMap encI.c)]))∨(x= .ret∧ ∃q28,(.inr q28)=r27∧qW Tryz.prog [.cell 2 26,.tmp 3] (.tuple [.agg (cE q28.1),.bool q28.2]) .ret s')) ?_ ?_
  ·refine Goes.sub (s':=(ofG 76 [(2,.ptr 0 0),(7,.ptr 1 0),(54,vl encS s23),(55,.i (s23.length:Int)),(56,.i 0)],[.cells [.i 0,.str [],.nilslice,.nilslice,.str []],.cells [.i 0,.str x20,vl encS r22,.gslice 2 ([]:List Int).length 1,.str []],.cells (([]:List Int).flatMap encI.c)])) (Sub.norm [] [some 0,some 2,none] rfl rfl (.keep (.ptr rfl) (.keep (.ptr rfl) (.keep (.same (qh encS _)) (.keep (.same nI) (.keep (.same nI) .nil))))) (.keep rfl (.same (qf.cons nI (qf.cons nS (qf.cons (qx.nilslice) (qf.cons (qx.nilslice) (qf.cons nS qf.nil)))))) rfl rfl (.keep rfl (.cells (qg.cons (.same nI) (qg.cons (.same nS) (qg.cons (.same (qh encS _)) (qg.cons (.nil) (qg.cons (.same nS) qg.nil)))))) rfl rfl (.fresh .nil)))) ?_
   refine Goes.loopS (fun M s=> ∃(l24:List Int) (n25:Int),s=(ofG 76 [(2,.ptr 0 0),(7,.ptr 1 0),(54,vl encS s23),(55,.i (s23.length:Int)),(56,.i n25)],[.cells [.i 0,.str [],.nilslice,.nilslice,.str []],.cells [.i 0,.str x20,vl encS r22,.gslice 2 l24.length 1,.str []],.cells (l24.flatMap encI.c)])∧zF s23 M l24 n25=some r27) ?_ (m:=N) ⟨_,_,rfl,g27⟩
   rintro M s ⟨l24,n25,rfl,g27⟩
   cases M with
   |zero=>simp only[zF]at g27;cases g27
   |succ M=>
    rw[zF]at g27
    refine sq (Goes.rg fol [(2,.ptr 0 0),(7,.ptr 1 0),(54,vl encS s23),(55,.i (s23.length:Int)),(56,.i n25),(57,.bool (decide (n25<(s23.length:Int))))] [.cells [.i 0,.str [],.nilslice,.nilslice,.str []],.cells [.i 0,.str x20,vl encS r22,.gslice 2 l24.length 1,.str []],.cells (l24.flatMap encI.c)] ?_)
    refine sq ?_
    refine Goes.ifB (b:=decide (n25<(s23.length:Int))) (by kernel_rfl) (fun c29=>?_) (fun c29=>?_)
    ·rw[if_pos (ot c29)]at g27
     refine Goes.skip ?_
     refine sq (Goes.block ?_)
     refine sq ?_
     obtain⟨x30,e_x30,g27⟩:=bnd g27
     refine Goes.rq fol [0,1] [(2,.ptr 0 0),(7,.ptr 1 0),(9,.str x30),(54,vl encS s23),(55,.i (s23.length:Int)),(56,.i n25)] [.cells [.i 0,.str [],.nilslice,.nilslice,.str []],.cells [.i 0,.str x20,vl encS r22,.gslice 2 l24.length 1,.str []],.cells (l24.flatMap encI.c)] (ac (iv vT encS e_x30) (ac (lv 0 ce9 encS e_x30 rfl) az)) ?_
     refine sq ?_
     obtain⟨r31,e_r31,g27⟩:=bnd g27
     refine Goes.rq fol [1] [(2,.ptr 0 0),(7,.ptr 1 0),(10,.i r31.1),(11,.bool r31.2),(54,vl encS s23),(55,.i (s23.length:Int)),(56,.i n25)] [.cells [.i 0,.str [],.nilslice,.nilslice,.str []],.cells [.i 0,.str x20,vl encS r22,.gslice 2 l24.length 1,.str []],.cells (l24.flatMap encI.c)] (ac (cv (qeJ x30 e_r31)) az) ?_
     refine sq ?_
     refine sq (Goes.rg fol [(2,.ptr 0 0),(7,.ptr 1 0),(10,.i r31.1),(54,vl encS s23),(55,.i (s23.length:Int)),(56,.i n25),(66,.bool (!r31.2))] [.cells [.i 0,.str [],.nilslice,.nilslice,.str []],.cells [.i 0,.str x20,vl encS r22,.gslice 2 l24.length 1,.str []],.cells (l24.flatMap encI.c)] ?_)
     refine Goes.ifB (b:=!r31.2) (by kernel_rfl) (fun c32=>?_) (fun c32=>?_)
     ·rw[if_pos (c32)]at g27
      refine sq (Goes.rg fol [(2,.ptr 0 0),(3,.bool false)] [.cells [.i 0,.str [],.nilslice,.nilslice,.str []],.cells [.i 0,.str x20,vl encS r22,.gslice 2 l24.length 1,.str []],.cells (l24.flatMap encI.c)] ?_)
      refine Goes.ret ?_
      obtain rfl:=si g27
      exact Or.inr (⟨rfl,_,rfl,(Goes.retW (xs:=[.agg [.i 0,.str [],.nilslice,.nilslice,.str []],.bool false]) (by kernel_rfl) (FzW.tuple (qz.cons (FzW.agg (qz.cons (FzW.still tI) (qz.cons (FzW.still tS) (qz.cons (FzW.nilv (E:=encS)) (qz.cons (FzW.nilv (E:=encI)) (qz.cons (FzW.still tS) qz.nil)))))) (qz.cons (FzW.still tB) qz.nil))))⟩)
     ·rw[if_neg (nb c32)]at g27
      refine Goes.skip ?_
      obtain⟨l33,e_l33,g27⟩:=bnd g27
      refine Goes.rq fol [4] [(2,.ptr 0 0),(7,.ptr 1 0),(54,vl encS s23),(55,.i (s23.length:Int)),(56,.i n25)] [.cells [.i 0,.str [],.nilslice,.nilslice,.str []],.cells [.i 0,.str x20,vl encS r22,.gslice 4 l33.length 1,.str []],.dead,.cells [.i r31.1],.cells (l33.flatMap encI.c)] (ac (hs (.run [2,3] (qQ Tryz.prog [24,24] (.gslice 2 l24.length 1) (.slice 3 0 1 1 1)) [.cells [.i 0,.str [],.nilslice,.nilslice,.str []],.cells [.i 0,.str x20,vl encS r22,.gslice 2 l24.length 1,.str []],.cells (l24.flatMap encI.c),.cells [.i r31.1]] (.gslice 4 l33.length 1) [.cells [.i 0,.str [],.nilslice,.nilslice,.str []],.cells [.i 0,.str x20,vl encS r22,.gslice 2 l24.length 1,.str []],.dead,.cells [.i r31.1],.cells (l33.flatMap encI.c)] true) (kN xL (E:=encI) rfl (xR (E:=encI) (ys:=[r31.1]) rfl rfl rfl rfl) (qb4 (E:=encI) (l:=l24) rfl rfl rfl e_l33 rfl))) az) ?_
      refine Goes.rg fol [(2,.ptr 0 0),(7,.ptr 1 0),(54,vl encS s23),(55,.i (s23.length:Int)),(56,.i (w64 (n25+1)))] [.cells [.i 0,.str [],.nilslice,.nilslice,.str []],.cells [.i 0,.str x20,vl encS r22,.gslice 4 l33.length 1,.str []],.dead,.cells [.i r31.1],.cells (l33.flatMap encI.c)] ?_
      exact⟨M,(ofG 76 [(2,.ptr 0 0),(7,.ptr 1 0),(54,vl encS s23),(55,.i (s23.length:Int)),(56,.i (w64 (n25+1)))],[.cells [.i 0,.str [],.nilslice,.nilslice,.str []],.cells [.i 0,.str x20,vl encS r22,.gslice 2 l33.length 1,.str []],.cells (l33.flatMap encI.c)]),Nat.lt_succ_self _,(Sub.norm [] [some 0,some 1,some 4] rfl rfl (.keep (.ptr rfl) (.keep (.ptr rfl) (.keep (.same (qh encS _)) (.keep (.same nI) (.keep (.same nI) .nil))))) (.keep rfl (.same (qf.cons nI (qf.cons nS (qf.cons (qx.nilslice) (qf.cons (qx.nilslice) (qf.cons nS qf.nil)))))) rfl rfl (.keep rfl (.cells (qg.cons (.same nI) (qg.cons (.same nS) (qg.cons (.same (qh encS _)) (qg.cons (.gslice rfl) (qg.cons (.same nS) qg.nil)))))) rfl rfl (.keep rfl (.same fa) rfl rfl .nil)))),_,_,rfl,g27⟩
    ·rw[if_neg (of_ c29)]at g27
     refine Goes.exit ?_
     obtain rfl:=si g27
     exact Or.inl (⟨rfl,_,rfl,(Sub.keep [2,7] rfl rfl)⟩)
  rintro x s' (⟨rfl,l26,rfl,hsub⟩|⟨rfl,q34,rfl,hret⟩)
  ·try dsimp only at h
   refine Goes.sub hsub ?_
   refine sq (Goes.rg fol [(2,.ptr 0 0),(3,.bool true)] [.cells [.i 0,.str x20,vl encS r22,.gslice 2 l26.length 1,.str []],.cells [.i 0,.str x20,vl encS r22,.gslice 2 l26.length 1,.str []],.cells (l26.flatMap encI.c)] ?_)
   refine Goes.ret ?_
   obtain rfl:=si h
   exact(Goes.retW (xs:=[.agg [.i 0,.str x20,vl encS r22,.gslice 2 l26.length 1,.str []],.bool true]) (by kernel_rfl) (FzW.tuple (qz.cons (FzW.agg (qz.cons (FzW.still tI) (qz.cons (FzW.still tS) (qz.cons (FzW.still (vU encS _ (nl rfl))) (qz.cons (FzW.fz (Fz.gs (E:=encI) rfl rfl (nl rfl))) (qz.cons (FzW.still tS) qz.nil)))))) (qz.cons (FzW.still tB) qz.nil))))
  ·try dsimp only at h
   obtain rfl:=si h
   exact hret
def yl (N:Nat) (n:qm):Option Int:=
 (j5 N n.Line).bind fun r1=>
 ((vW N n.Desk).bind fun r2=>
 (kV n.Number 1 1000).bind fun r3=>
 (kV n.Clock 1 1000000).bind fun r4=>
 if(!r1.2)=true then
 (qU true 25).bind fun r6=>
 (qV N ([r2,r3,r4,r6]:List Int)).bind fun r7=>
 some (r2,r3,r4,r6,r7)
 else
 (qU (r1.1.Kind==[117,110,100,111]) 25).bind fun r8=>
 (qV N ([r2,r3,r4,r8]:List Int)).bind fun r9=>
 some (r2,r3,r4,r8,r9):Option (Int×Int×Int×Int×Int)).bind fun(n10,n11,n12,n13,n14)=>
 some n14
theorem qdR (N:Nat) (n:qm) {res:Int} (h:yl N n=some res):qw Tryz.prog (.fn 132) [.agg [.str n.Desk,.i n.Number,.i n.Clock,.str n.Line]] [] (.i res) []:=by
 unfold yl at h
 refine Goes.fnW Tryz.func132 rfl rfl (m:=30) rfl (rs:=[.tmp 2]) rfl (l:=[(0,.agg [.str n.Desk,.i n.Number,.i n.Clock,.str n.Line])]) rfl ?_
 refine sq (Goes.rg fol [(1,.ptr 0 0)] [.cells [.str n.Desk,.i n.Number,.i n.Clock,.str n.Line]] ?_)
 refine sq ?_
 obtain⟨r1,e_r1,h⟩:=bnd h
 refine Goes.rq fol [2] [(1,.ptr 0 0),(3,.ptr 1 0),(4,.bool r1.2)] [.cells [.str n.Desk,.i n.Number,.i n.Clock,.str n.Line],.cells (cE r1.1)] (ac (cv (qaa N n.Line e_r1)) az) ?_
 refine sq ?_
 obtain⟨⟨n10,n11,n12,n13,n14⟩,g_v15,h⟩:=bnd h
 refine Goes.cut (s':=(ofG 30 [(2,.i n14)],[.cells [.str n.Desk,.i n.Number,.i n.Clock,.str n.Line],.cells (cE r1.1),.cells [.i n10,.i n11,.i n12,.i n13]])) ?_ ?_
 ·obtain⟨r2,e_r2,g_v15⟩:=bnd g_v15
  obtain⟨r3,e_r3,g_v15⟩:=bnd g_v15
  obtain⟨r4,e_r4,g_v15⟩:=bnd g_v15
  rcases Bool.eq_false_or_eq_true (!r1.2)with c5|c5
  ·rw[if_pos (c5)]at g_v15
   obtain⟨r6,e_r6,g_v15⟩:=bnd g_v15
   obtain⟨r7,e_r7,g_v15⟩:=bnd g_v15
   simp only[Option.some.injEq,Prod.mk.injEq]at g_v15
   obtain⟨rfl,rfl,rfl,rfl,rfl⟩:=g_v15
   exact qp.rq fol [2,5,8,11,16,18] [(2,.i r7)] [.cells [.str n.Desk,.i n.Number,.i n.Clock,.str n.Line],.cells (cE r1.1),.cells [.i r2,.i r3,.i r4,.i r6]] (ac (cv (yM N n.Desk e_r2)) (ac (cv (ku n.Number 1 1000 e_r3)) (ac (cv (ku n.Clock 1 1000000 e_r4)) (ac (gw c5) (ac (cv (qL true 25 e_r6)) (ac (hs (.call 86 [.slice 2 0 4 4 1] [.cells [.str n.Desk,.i n.Number,.i n.Clock,.str n.Line],.cells (cE r1.1),.cells [.i r2,.i r3,.i r4,.i r6]] [2] [vl encI ([r2,r3,r4,r6]:List Int)] (.i r7)) (xw (FzL.cons (Fz.lit rfl rfl (FzL.still (AllST.cons tI (AllST.cons tI (AllST.cons tI (AllST.cons tI AllST.nil)))))) FzL.nil) (kS N ([r2,r3,r4,r6]:List Int) e_r7) tI rfl)) az))))))
  ·rw[if_neg (nb c5)]at g_v15
   obtain⟨r8,e_r8,g_v15⟩:=bnd g_v15
   obtain⟨r9,e_r9,g_v15⟩:=bnd g_v15
   simp only[Option.some.injEq,Prod.mk.injEq]at g_v15
   obtain⟨rfl,rfl,rfl,rfl,rfl⟩:=g_v15
   exact qp.rq fol [2,5,8,11,16,18] [(2,.i r9)] [.cells [.str n.Desk,.i n.Number,.i n.Clock,.str n.Line],.cells (cE r1.1),.cells [.i r2,.i r3,.i r4,.i r8]] (ac (cv (yM N n.Desk e_r2)) (ac (cv (ku n.Number 1 1000 e_r3)) (ac (cv (ku n.Clock 1 1000000 e_r4)) (ac (gw c5) (ac (cv (qL (r1.1.Kind==[117,110,100,111]) 25 e_r8)) (ac (hs (.call 86 [.slice 2 0 4 4 1] [.cells [.str n.Desk,.i n.Number,.i n.Clock,.str n.Line],.cells (cE r1.1),.cells [.i r2,.i r3,.i r4,.i r8]] [2] [vl encI ([r2,r3,r4,r8]:List Int)] (.i r9)) (xw (FzL.cons (Fz.lit rfl rfl (FzL.still (AllST.cons tI (AllST.cons tI (AllST.cons tI (AllST.cons tI AllST.nil)))))) FzL.nil) (kS N ([r2,r3,r4,r8]:List Int) e_r9) tI rfl)) az))))))
 try dsimp only at h
 refine Goes.ret ?_
 obtain rfl:=si h
 exact(Goes.retW (xs:=[.i n14]) (by kernel_rfl) (FzW.still tI))
def kL (N:Nat) (l:List qm):Nat→Int→Option (Unit⊕Int)
 |0,_=>none
 |K+1,n2=>
  if n2<(l.length:Int)then
  (idx l n2).bind fun x6=>
  (if n2>0 then
  (idx l (w64 (n2-1))).bind fun x8=>
  (zm x8).bind fun r9=>
  (zm x6).bind fun r10=>
  (jB N r9 r10).bind fun r11=>
  if r11≥0 then
  some true
  else
  if(x8.Desk==x6.Desk)=true then
  some (decide (x8.Clock≥x6.Clock))
  else
  some false
  else
  some false:Option Bool).bind fun order_14=>
  (yl N x6).bind fun r16=>
  (qU order_14 11).bind fun r17=>
  (qV N ([r16,r17]:List Int)).bind fun r18=>
  if(!decide (r18=0))=true then
  some (.inr r18)
  else
  kL N l K (w64 (n2+1))
  else
  some (.inl ())
def zP (N:Nat) (l:List qm):Option Int:=
 if(l.length:Int)>1000 then
 some 5
 else
 (kL N l N 0).bind (fun
 |(.inl ())=>
 some 0
 |(.inr q20)=>
 some q20)
theorem xq (N:Nat) (l:List qm) {res:Int} (h:zP N l=some res):qw Tryz.prog (.fn 68) [vl qa l] [] (.i res) []:=by
 unfold zP at h
 refine Goes.fnW Tryz.func68 rfl rfl (m:=63) rfl (rs:=[.tmp 2]) rfl (l:=[(0,vl qa l)]) rfl ?_
 refine sq (Goes.rg fol [(0,vl qa l)] [] ?_)
 refine sq ?_
 refine sq (Goes.rg fol [(0,vl qa l),(9,.bool (decide ((l.length:Int)>1000)))] [] ?_)
 refine Goes.ifB (b:=decide ((l.length:Int)>1000)) (by kernel_rfl) (fun c1=>?_) (fun c1=>?_)
 ·rw[if_pos (ot c1)]at h
  refine sq (Goes.rg fol [(2,.i 5)] [] ?_)
  refine Goes.ret ?_
  obtain rfl:=si h
  exact(Goes.retW (xs:=[.i 5]) (by kernel_rfl) (FzW.still tI))
 ·rw[if_neg (of_ c1)]at h
  refine Goes.skip ?_
  refine sq ?_
  refine sq (Goes.rg fol [(0,vl qa l),(10,vl qa l),(11,.i (l.length:Int)),(12,.i 0)] [] ?_)
  refine Goes.block ?_
  obtain⟨r3,g3,h⟩:=bnd h
  refine Goes.imp (Q:=fun x s'=>(x= .exit 0∧(.inl ())=r3∧Sub s' (ofG 63 [],[]))∨(x= .ret∧ ∃q4,(.inr q4)=r3∧qW Tryz.prog [.tmp 2] (.i q4) .ret s')) ?_ ?_
  ·refine Goes.loopS (fun M s=> ∃(n2:Int),s=(ofG 63 [(0,vl qa l),(10,vl qa l),(11,.i (l.length:Int)),(12,.i n2)],[])∧kL N l M n2=some r3) ?_ (m:=N) ⟨_,rfl,g3⟩
   rintro M s ⟨n2,rfl,g3⟩
   cases M with
   |zero=>simp only[kL]at g3;cases g3
   |succ M=>
    rw[kL]at g3
    refine sq (Goes.rg fol [(0,vl qa l),(10,vl qa l),(11,.i (l.length:Int)),(12,.i n2),(13,.bool (decide (n2<(l.length:Int))))] [] ?_)
    refine sq ?_
    refine Goes.ifB (b:=decide (n2<(l.length:Int))) (by kernel_rfl) (fun c5=>?_) (fun c5=>?_)
    ·rw[if_pos (ot c5)]at g3
     refine Goes.skip ?_
     refine sq (Goes.block ?_)
     refine sq ?_
     obtain⟨x6,e_x6,g3⟩:=bnd g3
     refine Goes.rq fol [1,2] [(0,vl qa l),(3,.i n2),(4,.ptr 0 0),(10,vl qa l),(11,.i (l.length:Int)),(12,.i n2)] [.cells [.str x6.Desk,.i x6.Number,.i x6.Clock,.str x6.Line]] (ac (iv qbs qa e_x6) (ac (la qbM qa e_x6) az)) ?_
     refine sq ?_
     obtain⟨order_14,g_v15,g3⟩:=bnd g3
     refine Goes.cut (s':=(ofG 63 [(0,vl qa l),(4,.ptr 0 0),(5,.bool order_14),(10,vl qa l),(11,.i (l.length:Int)),(12,.i n2)],[.cells [.str x6.Desk,.i x6.Number,.i x6.Clock,.str x6.Line]])) ?_ ?_
     ·rcases Bool.eq_false_or_eq_true (decide (n2>0))with c7|c7
      ·rw[if_pos (ot c7)]at g_v15
       obtain⟨x8,e_x8,g_v15⟩:=bnd g_v15
       obtain⟨r9,e_r9,g_v15⟩:=bnd g_v15
       obtain⟨r10,e_r10,g_v15⟩:=bnd g_v15
       obtain⟨r11,e_r11,g_v15⟩:=bnd g_v15
       rcases Bool.eq_false_or_eq_true (decide (r11≥0))with c12|c12
       ·rw[if_pos (ot c12)]at g_v15
        obtain rfl:=si g_v15
        exact qp.rq fol [2,6,7,8,10,11,13] [(0,vl qa l),(4,.ptr 0 0),(5,.bool true),(10,vl qa l),(11,.i (l.length:Int)),(12,.i n2)] [.cells [.str x6.Desk,.i x6.Number,.i x6.Clock,.str x6.Line]] (ac (gw c7) (ac (iv qbs qa e_x8) (ac (la qbM qa e_x8) (ac (cv (zq x8 e_r9)) (ac (cv (zq x6 e_r10)) (ac (cv (yD N r9 r10 e_r11)) (ac (gw c12) az)))))))
       ·rw[if_neg (of_ c12)]at g_v15
        rcases Bool.eq_false_or_eq_true (x8.Desk==x6.Desk)with c13|c13
        ·rw[if_pos (c13)]at g_v15
         obtain rfl:=si g_v15
         exact qp.rq fol [2,6,7,8,10,11,13,17,19,23,27,29] [(0,vl qa l),(4,.ptr 0 0),(5,.bool (decide (x8.Clock≥x6.Clock))),(10,vl qa l),(11,.i (l.length:Int)),(12,.i n2)] [.cells [.str x6.Desk,.i x6.Number,.i x6.Clock,.str x6.Line]] (ac (gw c7) (ac (iv qbs qa e_x8) (ac (la qbM qa e_x8) (ac (cv (zq x8 e_r9)) (ac (cv (zq x6 e_r10)) (ac (cv (yD N r9 r10 e_r11)) (ac (gw c12) (ac (iv qbs qa e_x8) (ac (lv 0 ce9 qa e_x8 rfl) (ac (gw c13) (ac (iv qbs qa e_x8) (ac (lv 2 ce3 qa e_x8 rfl) az))))))))))))
        ·rw[if_neg (nb c13)]at g_v15
         obtain rfl:=si g_v15
         exact qp.rq fol [2,6,7,8,10,11,13,17,19,23] [(0,vl qa l),(4,.ptr 0 0),(5,.bool false),(10,vl qa l),(11,.i (l.length:Int)),(12,.i n2)] [.cells [.str x6.Desk,.i x6.Number,.i x6.Clock,.str x6.Line]] (ac (gw c7) (ac (iv qbs qa e_x8) (ac (la qbM qa e_x8) (ac (cv (zq x8 e_r9)) (ac (cv (zq x6 e_r10)) (ac (cv (yD N r9 r10 e_r11)) (ac (gw c12) (ac (iv qbs qa e_x8) (ac (lv 0 ce9 qa e_x8 rfl) (ac (gw c13) az))))))))))
      ·rw[if_neg (of_ c7)]at g_v15
       obtain rfl:=si g_v15
       exact qp.rq fol [2] [(0,vl qa l),(4,.ptr 0 0),(5,.bool false),(10,vl qa l),(11,.i (l.length:Int)),(12,.i n2)] [.cells [.str x6.Desk,.i x6.Number,.i x6.Clock,.str x6.Line]] (ac (gw c7) az)
     refine sq ?_
     obtain⟨r16,e_r16,g3⟩:=bnd g3
     obtain⟨r17,e_r17,g3⟩:=bnd g3
     obtain⟨r18,e_r18,g3⟩:=bnd g3
     refine Goes.rq fol [1,3,5] [(0,vl qa l),(6,.i r18),(10,vl qa l),(11,.i (l.length:Int)),(12,.i n2)] [.cells [.str x6.Desk,.i x6.Number,.i x6.Clock,.str x6.Line],.cells [.i r16,.i r17]] (ac (cv (qdR N x6 e_r16)) (ac (cv (qL order_14 11 e_r17)) (ac (hs (.call 86 [.slice 1 0 2 2 1] [.cells [.str x6.Desk,.i x6.Number,.i x6.Clock,.str x6.Line],.cells [.i r16,.i r17]] [1] [vl encI ([r16,r17]:List Int)] (.i r18)) (xw (FzL.cons (Fz.lit rfl rfl (FzL.still (AllST.cons tI (AllST.cons tI AllST.nil)))) FzL.nil) (kS N ([r16,r17]:List Int) e_r18) tI rfl)) az))) ?_
     refine sq (Goes.rg fol [(0,vl qa l),(6,.i r18),(10,vl qa l),(11,.i (l.length:Int)),(12,.i n2),(60,.bool (!decide (r18=0)))] [.cells [.str x6.Desk,.i x6.Number,.i x6.Clock,.str x6.Line],.cells [.i r16,.i r17]] ?_)
     refine Goes.ifB (b:=!decide (r18=0)) (by kernel_rfl) (fun c19=>?_) (fun c19=>?_)
     ·rw[if_pos (c19)]at g3
      refine sq (Goes.rg fol [(2,.i r18)] [.cells [.str x6.Desk,.i x6.Number,.i x6.Clock,.str x6.Line],.cells [.i r16,.i r17]] ?_)
      refine Goes.ret ?_
      obtain rfl:=si g3
      exact Or.inr (⟨rfl,_,rfl,(Goes.retW (xs:=[.i r18]) (by kernel_rfl) (FzW.still tI))⟩)
     ·rw[if_neg (nb c19)]at g3
      refine Goes.skip ?_
      refine Goes.rg fol [(0,vl qa l),(10,vl qa l),(11,.i (l.length:Int)),(12,.i (w64 (n2+1)))] [.cells [.str x6.Desk,.i x6.Number,.i x6.Clock,.str x6.Line],.cells [.i r16,.i r17]] ?_
      exact⟨M,(ofG 63 [(0,vl qa l),(10,vl qa l),(11,.i (l.length:Int)),(12,.i (w64 (n2+1)))],[]),Nat.lt_succ_self _,(Sub.norm [] [] rfl rfl (.keep (.same (qh qa _)) (.keep (.same (qh qa _)) (.keep (.same nI) (.keep (.same nI) .nil)))) .nil),_,rfl,g3⟩
    ·rw[if_neg (of_ c5)]at g3
     refine Goes.exit ?_
     obtain rfl:=si g3
     exact Or.inl (⟨rfl,rfl,(Sub.keep [] rfl rfl)⟩)
  rintro x s' (⟨rfl,rfl,hsub⟩|⟨rfl,q20,rfl,hret⟩)
  ·try dsimp only at h
   refine Goes.sub hsub ?_
   refine sq (Goes.rg fol [(2,.i 0)] [] ?_)
   refine Goes.ret ?_
   obtain rfl:=si h
   exact(Goes.retW (xs:=[.i 0]) (by kernel_rfl) (FzW.still tI))
  ·try dsimp only at h
   obtain rfl:=si h
   exact hret
def ky (N:Nat) (v:List qB):Nat→Int→Option (Unit⊕Int)
 |0,_=>none
 |K+1,n2=>
  if n2<(v.length:Int)then
  (idx v n2).bind fun x6=>
  ((vW N x6.Desk).bind fun r7=>
  (kV x6.Number 0 1000).bind fun r8=>
  if n2>0 then
  (idx v (w64 (n2-1))).bind fun x10=>
  (qU (!(ltL x10.Desk x6.Desk)) 11).bind fun r11=>
  (qV N ([r7,r8,r11]:List Int)).bind fun r12=>
  some (r7,r8,r11,r12)
  else
  (qU false 11).bind fun r13=>
  (qV N ([r7,r8,r13]:List Int)).bind fun r14=>
  some (r7,r8,r13,r14):Option (Int×Int×Int×Int)).bind fun(n15,n16,n17,e_18)=>
  if(!decide (e_18=0))=true then
  some (.inr e_18)
  else
  ky N v K (w64 (n2+1))
  else
  some (.inl ())
def vD (N:Nat) (v:List qB):Option Int:=
 if(v.length:Int)>1000 then
 some 5
 else
 (ky N v N 0).bind (fun
 |(.inl ())=>
 some 0
 |(.inr q21)=>
 some q21)
theorem qcO (N:Nat) (v:List qB) {res:Int} (h:vD N v=some res):qw Tryz.prog (.fn 119) [vl qd v] [] (.i res) []:=by
 unfold vD at h
 refine Goes.fnW Tryz.func119 rfl rfl (m:=42) rfl (rs:=[.tmp 2]) rfl (l:=[(0,vl qd v)]) rfl ?_
 refine sq (Goes.rg fol [(0,vl qd v)] [] ?_)
 refine sq ?_
 refine sq (Goes.rg fol [(0,vl qd v),(8,.bool (decide ((v.length:Int)>1000)))] [] ?_)
 refine Goes.ifB (b:=decide ((v.length:Int)>1000)) (by kernel_rfl) (fun c1=>?_) (fun c1=>?_)
 ·rw[if_pos (ot c1)]at h
  refine sq (Goes.rg fol [(2,.i 5)] [] ?_)
  refine Goes.ret ?_
  obtain rfl:=si h
  exact(Goes.retW (xs:=[.i 5]) (by kernel_rfl) (FzW.still tI))
 ·rw[if_neg (of_ c1)]at h
  refine Goes.skip ?_
  refine sq ?_
  refine sq (Goes.rg fol [(0,vl qd v),(9,vl qd v),(10,.i (v.length:Int)),(11,.i 0)] [] ?_)
  refine Goes.block ?_
  obtain⟨r3,g3,h⟩:=bnd h
  refine Goes.imp (Q:=fun x s'=>(x= .exit 0∧(.inl ())=r3∧Sub s' (ofG 42 [],[]))∨(x= .ret∧ ∃q4,(.inr q4)=r3∧qW Tryz.prog [.tmp 2] (.i q4) .ret s')) ?_ ?_
  ·refine Goes.loopS (fun M s=> ∃(n2:Int),s=(ofG 42 [(0,vl qd v),(9,vl qd v),(10,.i (v.length:Int)),(11,.i n2)],[])∧ky N v M n2=some r3) ?_ (m:=N) ⟨_,rfl,g3⟩
   rintro M s ⟨n2,rfl,g3⟩
   cases M with
   |zero=>simp only[ky]at g3;cases g3
   |succ M=>
    rw[ky]at g3
    refine sq (Goes.rg fol [(0,vl qd v),(9,vl qd v),(10,.i (v.length:Int)),(11,.i n2),(12,.bool (decide (n2<(v.length:Int))))] [] ?_)
    refine sq ?_
    refine Goes.ifB (b:=decide (n2<(v.length:Int))) (by kernel_rfl) (fun c5=>?_) (fun c5=>?_)
    ·rw[if_pos (ot c5)]at g3
     refine Goes.skip ?_
     refine sq (Goes.block ?_)
     refine sq ?_
     obtain⟨x6,e_x6,g3⟩:=bnd g3
     refine Goes.rq fol [1,2] [(0,vl qd v),(3,.i n2),(4,.ptr 0 0),(9,vl qd v),(10,.i (v.length:Int)),(11,.i n2)] [.cells [.str x6.Desk,.i x6.Number]] (ac (iv qks qd e_x6) (ac (la qll qd e_x6) az)) ?_
     refine sq ?_
     obtain⟨⟨n15,n16,n17,e_18⟩,g_v19,g3⟩:=bnd g3
     refine Goes.cut (s':=(ofG 42 [(0,vl qd v),(5,.i e_18),(9,vl qd v),(10,.i (v.length:Int)),(11,.i n2)],[.cells [.str x6.Desk,.i x6.Number],.cells [.i n15,.i n16,.i n17]])) ?_ ?_
     ·obtain⟨r7,e_r7,g_v19⟩:=bnd g_v19
      obtain⟨r8,e_r8,g_v19⟩:=bnd g_v19
      rcases Bool.eq_false_or_eq_true (decide (n2>0))with c9|c9
      ·rw[if_pos (ot c9)]at g_v19
       obtain⟨x10,e_x10,g_v19⟩:=bnd g_v19
       obtain⟨r11,e_r11,g_v19⟩:=bnd g_v19
       obtain⟨r12,e_r12,g_v19⟩:=bnd g_v19
       simp only[Option.some.injEq,Prod.mk.injEq]at g_v19
       obtain⟨rfl,rfl,rfl,rfl⟩:=g_v19
       exact qp.rq fol [2,5,8,12,14,19,21] [(0,vl qd v),(5,.i r12),(9,vl qd v),(10,.i (v.length:Int)),(11,.i n2)] [.cells [.str x6.Desk,.i x6.Number],.cells [.i r7,.i r8,.i r11]] (ac (cv (yM N x6.Desk e_r7)) (ac (cv (ku x6.Number 0 1000 e_r8)) (ac (gw c9) (ac (iv qks qd e_x10) (ac (lv 0 ce9 qd e_x10 rfl) (ac (cv (qL (!(ltL x10.Desk x6.Desk)) 11 e_r11)) (ac (hs (.call 86 [.slice 1 0 3 3 1] [.cells [.str x6.Desk,.i x6.Number],.cells [.i r7,.i r8,.i r11]] [1] [vl encI ([r7,r8,r11]:List Int)] (.i r12)) (xw (FzL.cons (Fz.lit rfl rfl (FzL.still (AllST.cons tI (AllST.cons tI (AllST.cons tI AllST.nil))))) FzL.nil) (kS N ([r7,r8,r11]:List Int) e_r12) tI rfl)) az)))))))
      ·rw[if_neg (of_ c9)]at g_v19
       obtain⟨r13,e_r13,g_v19⟩:=bnd g_v19
       obtain⟨r14,e_r14,g_v19⟩:=bnd g_v19
       simp only[Option.some.injEq,Prod.mk.injEq]at g_v19
       obtain⟨rfl,rfl,rfl,rfl⟩:=g_v19
       exact qp.rq fol [2,5,8,19,21] [(0,vl qd v),(5,.i r14),(9,vl qd v),(10,.i (v.length:Int)),(11,.i n2)] [.cells [.str x6.Desk,.i x6.Number],.cells [.i r7,.i r8,.i r13]] (ac (cv (yM N x6.Desk e_r7)) (ac (cv (ku x6.Number 0 1000 e_r8)) (ac (gw c9) (ac (cv (qL false 11 e_r13)) (ac (hs (.call 86 [.slice 1 0 3 3 1] [.cells [.str x6.Desk,.i x6.Number],.cells [.i r7,.i r8,.i r13]] [1] [vl encI ([r7,r8,r13]:List Int)] (.i r14)) (xw (FzL.cons (Fz.lit rfl rfl (FzL.still (AllST.cons tI (AllST.cons tI (AllST.cons tI AllST.nil))))) FzL.nil) (kS N ([r7,r8,r13]:List Int) e_r14) tI rfl)) az)))))
     try dsimp only at g3
     refine sq (Goes.rg fol [(0,vl qd v),(5,.i e_18),(9,vl qd v),(10,.i (v.length:Int)),(11,.i n2),(39,.bool (!decide (e_18=0)))] [.cells [.str x6.Desk,.i x6.Number],.cells [.i n15,.i n16,.i n17]] ?_)
     refine Goes.ifB (b:=!decide (e_18=0)) (by kernel_rfl) (fun c20=>?_) (fun c20=>?_)
     ·rw[if_pos (c20)]at g3
      refine sq (Goes.rg fol [(2,.i e_18)] [.cells [.str x6.Desk,.i x6.Number],.cells [.i n15,.i n16,.i n17]] ?_)
      refine Goes.ret ?_
      obtain rfl:=si g3
      exact Or.inr (⟨rfl,_,rfl,(Goes.retW (xs:=[.i e_18]) (by kernel_rfl) (FzW.still tI))⟩)
     ·rw[if_neg (nb c20)]at g3
      refine Goes.skip ?_
      refine Goes.rg fol [(0,vl qd v),(9,vl qd v),(10,.i (v.length:Int)),(11,.i (w64 (n2+1)))] [.cells [.str x6.Desk,.i x6.Number],.cells [.i n15,.i n16,.i n17]] ?_
      exact⟨M,(ofG 42 [(0,vl qd v),(9,vl qd v),(10,.i (v.length:Int)),(11,.i (w64 (n2+1)))],[]),Nat.lt_succ_self _,(Sub.norm [] [] rfl rfl (.keep (.same (qh qd _)) (.keep (.same (qh qd _)) (.keep (.same nI) (.keep (.same nI) .nil)))) .nil),_,rfl,g3⟩
    ·rw[if_neg (of_ c5)]at g3
     refine Goes.exit ?_
     obtain rfl:=si g3
     exact Or.inl (⟨rfl,rfl,(Sub.keep [] rfl rfl)⟩)
  rintro x s' (⟨rfl,rfl,hsub⟩|⟨rfl,q21,rfl,hret⟩)
  ·try dsimp only at h
   refine Goes.sub hsub ?_
   refine sq (Goes.rg fol [(2,.i 0)] [] ?_)
   refine Goes.ret ?_
   obtain rfl:=si h
   exact(Goes.retW (xs:=[.i 0]) (by kernel_rfl) (FzW.still tI))
  ·try dsimp only at h
   obtain rfl:=si h
   exact hret
def yV (n:qm):Option qm:=
 some n
theorem qdf (n:qm) {res:qm} (h:yV n=some res):qw Tryz.prog (.fn 122) [.agg [.str n.Desk,.i n.Number,.i n.Clock,.str n.Line]] [] (.agg [.str res.Desk,.i res.Number,.i res.Clock,.str res.Line]) []:=by
 unfold yV at h
 refine Goes.fnW Tryz.func122 rfl rfl (m:=4) rfl (rs:=[.cell 2 132]) rfl (l:=[(0,.agg [.str n.Desk,.i n.Number,.i n.Clock,.str n.Line])]) rfl ?_
 refine sq (Goes.rg fol [(1,.ptr 0 0),(2,.ptr 1 0)] [.cells [.str n.Desk,.i n.Number,.i n.Clock,.str n.Line],.cells [.str [],.i 0,.i 0,.str []]] ?_)
 refine sq (Goes.rg fol [(2,.ptr 1 0)] [.cells [.str n.Desk,.i n.Number,.i n.Clock,.str n.Line],.cells [.str n.Desk,.i n.Number,.i n.Clock,.str n.Line]] ?_)
 refine Goes.ret ?_
 obtain rfl:=si h
 exact(Goes.retW (xs:=[.agg [.str n.Desk,.i n.Number,.i n.Clock,.str n.Line]]) (by kernel_rfl) (FzW.agg (qz.cons (FzW.still tS) (qz.cons (FzW.still tI) (qz.cons (FzW.still tI) (qz.cons (FzW.still tS) qz.nil))))))
end Go.Av
