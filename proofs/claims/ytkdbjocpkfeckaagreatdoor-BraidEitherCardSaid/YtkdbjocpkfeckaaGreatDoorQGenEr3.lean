/-
  Walks of functions: what each computes, as a plain function.
-/
import Derived.Test.YtkdbjocpkfeckaaGreatDoorQGenEr2
noncomputable section
namespace Go.Av
open Go.Proofs Go.RowKit
set_option linter.unusedSectionVars false
set_option linter.unusedVariables false
set_option linter.unusedSimpArgs false
set_option maxRecDepth 100000
def jW (a:Int) (b:List Int) (c:List Int):Option Unit:=
 some ()
theorem qbd (a:Int) (b:List Int) (c:List Int) (h:jW a b c=some ()):qb ZT (.fn 54) (.i a::(kAs b c)) [] (.slice 0 0 5 5 2) (.cells [.str [101,120,112,111,110,101,110,116],.func (.func 121) [] [.ptr 1 0,.ptr 2 0],.str [112,101,114,109],.func (.func 122) [] [.ptr 3 0,.ptr 1 0,.ptr 2 0],.str [108,105,110,107],.func (.func 123) [] [.ptr 3 0,.ptr 1 0,.ptr 2 0],.str [98,117,114,97,117],.func (.func 125) [] [.ptr 3 0,.ptr 1 0,.ptr 2 0],.str [102,111,114,109],.func (.func 131) [] [.ptr 3 0,.ptr 1 0,.ptr 2 0]]::(kC b (kC c (kAB a [])))):=by
 unfold jW at h;refine Ug Tryz.func54 rfl rfl (m:=18) rfl (rs:=[.tmp 6]) rfl (l:=(kE a b (kAS c []))) rfl ?_;intro B hB;refine sg fol (kBL []) (kAB a (kC b (kC c []))) ?_;refine sg fol [(6,.slice 3 0 5 5 2)] (kAB a (kC b (kC c [.cells [.str [101,120,112,111,110,101,110,116],.func (.func 121) [] [.ptr 1 0,.ptr 2 0],.str [112,101,114,109],.func (.func 122) [] [.ptr 0 0,.ptr 1 0,.ptr 2 0],.str [108,105,110,107],.func (.func 123) [] [.ptr 0 0,.ptr 1 0,.ptr 2 0],.str [98,117,114,97,117],.func (.func 125) [] [.ptr 0 0,.ptr 1 0,.ptr 2 0],.str [102,111,114,109],.func (.func 131) [] [.ptr 0 0,.ptr 1 0,.ptr 2 0]]]))) ?_;refine Goes.ret ?_;exact(gh2 [.slice 3 0 5 5 2] (Sub.norm [] [some 3,some 1,some 2,some 0] (by rw[hB];rfl) rfl (.keep (.slice rfl) .nil) (.kb rfl (.cells (rc (.same nS) (rc (.funcL (sn) (rc (.ptr rfl) (rc (.ptr rfl) rn))) (rc (.same nS) (rc (.funcL (sn) (rc (.ptr rfl) (rc (.ptr rfl) (rc (.ptr rfl) rn)))) (rc (.same nS) (rc (.funcL (sn) (rc (.ptr rfl) (rc (.ptr rfl) (rc (.ptr rfl) rn)))) (rc (.same nS) (rc (.funcL (sn) (rc (.ptr rfl) (rc (.ptr rfl) (rc (.ptr rfl) rn)))) (rc (.same nS) (rc (.funcL (sn) (rc (.ptr rfl) (rc (.ptr rfl) (rc (.ptr rfl) rn)))) rn))))))))))) (.kb rfl (.same sn) (.kb rfl (.same sn) (.kb rfl (.same sn) .nil))))))
def xu (a:Str) (c:List Int) (d:List Int) (b:Str):Option Bool:=
 some (a==b)
theorem qcO (a:Str) (c:List Int) (d:List Int) (b:Str) {res:Bool} (h:xu a c d b=some res):qb ZT (.fn 56) [.agg [.str a,.func (.func 121) [] [.fptr [vl encI c] 0,.fptr [vl encI d] 0]],.fptr [.str b] 0] [] (.bool res) []:=by
 unfold xu at h;refine Ub Tryz.func56 rfl rfl (m:=8) rfl (rs:=[.tmp 3]) rfl (l:=[(0,.agg [.str a,.func (.func 121) [] [.fptr [vl encI c] 0,.fptr [vl encI d] 0]]),(1,.fptr [.str b] 0)]) rfl ?_;refine sg fol ((1,.fptr [.str b] 0)::kA6) [.cells [.str a,.func (.func 121) [] [.fptr [vl encI c] 0,.fptr [vl encI d] 0]]] ?_;refine sh fol [(3,.bool (a==b))] ?_;refine Goes.ret ?_;obtain rfl:=si h;exact(gw2 [.bool (a==b)] (Ua tB))
def xG (a:Str) (c:Int) (d:List Int) (e:List Int) (b:Str):Option Bool:=
 some (a==b)
theorem qcN (a:Str) (c:Int) (d:List Int) (e:List Int) (b:Str) {res:Bool} (h:xG a c d e b=some res):qb ZT (.fn 56) [.agg [.str a,.func (.func 122) [] [.fptr [.i c] 0,.fptr [vl encI d] 0,.fptr [vl encI e] 0]],.fptr [.str b] 0] [] (.bool res) []:=by
 unfold xG at h;refine Ub Tryz.func56 rfl rfl (m:=8) rfl (rs:=[.tmp 3]) rfl (l:=[(0,.agg [.str a,.func (.func 122) [] [.fptr [.i c] 0,.fptr [vl encI d] 0,.fptr [vl encI e] 0]]),(1,.fptr [.str b] 0)]) rfl ?_;refine sg fol ((1,.fptr [.str b] 0)::kA6) [.cells [.str a,.func (.func 122) [] [.fptr [.i c] 0,.fptr [vl encI d] 0,.fptr [vl encI e] 0]]] ?_;refine sh fol [(3,.bool (a==b))] ?_;refine Goes.ret ?_;obtain rfl:=si h;exact(gw2 [.bool (a==b)] (Ua tB))
def xe (a:Str) (c:Int) (d:List Int) (e:List Int) (b:Str):Option Bool:=
 some (a==b)
theorem qcF (a:Str) (c:Int) (d:List Int) (e:List Int) (b:Str) {res:Bool} (h:xe a c d e b=some res):qb ZT (.fn 56) [.agg [.str a,.func (.func 123) [] [.fptr [.i c] 0,.fptr [vl encI d] 0,.fptr [vl encI e] 0]],.fptr [.str b] 0] [] (.bool res) []:=by
 unfold xe at h;refine Ub Tryz.func56 rfl rfl (m:=8) rfl (rs:=[.tmp 3]) rfl (l:=[(0,.agg [.str a,.func (.func 123) [] [.fptr [.i c] 0,.fptr [vl encI d] 0,.fptr [vl encI e] 0]]),(1,.fptr [.str b] 0)]) rfl ?_;refine sg fol ((1,.fptr [.str b] 0)::kA6) [.cells [.str a,.func (.func 123) [] [.fptr [.i c] 0,.fptr [vl encI d] 0,.fptr [vl encI e] 0]]] ?_;refine sh fol [(3,.bool (a==b))] ?_;refine Goes.ret ?_;obtain rfl:=si h;exact(gw2 [.bool (a==b)] (Ua tB))
def xw (a:Str) (c:Int) (d:List Int) (e:List Int) (b:Str):Option Bool:=
 some (a==b)
theorem qcE (a:Str) (c:Int) (d:List Int) (e:List Int) (b:Str) {res:Bool} (h:xw a c d e b=some res):qb ZT (.fn 56) [.agg [.str a,.func (.func 125) [] [.fptr [.i c] 0,.fptr [vl encI d] 0,.fptr [vl encI e] 0]],.fptr [.str b] 0] [] (.bool res) []:=by
 unfold xw at h;refine Ub Tryz.func56 rfl rfl (m:=8) rfl (rs:=[.tmp 3]) rfl (l:=[(0,.agg [.str a,.func (.func 125) [] [.fptr [.i c] 0,.fptr [vl encI d] 0,.fptr [vl encI e] 0]]),(1,.fptr [.str b] 0)]) rfl ?_;refine sg fol ((1,.fptr [.str b] 0)::kA6) [.cells [.str a,.func (.func 125) [] [.fptr [.i c] 0,.fptr [vl encI d] 0,.fptr [vl encI e] 0]]] ?_;refine sh fol [(3,.bool (a==b))] ?_;refine Goes.ret ?_;obtain rfl:=si h;exact(gw2 [.bool (a==b)] (Ua tB))
def xz (a:Str) (c:Int) (d:List Int) (e:List Int) (b:Str):Option Bool:=
 some (a==b)
theorem qcD (a:Str) (c:Int) (d:List Int) (e:List Int) (b:Str) {res:Bool} (h:xz a c d e b=some res):qb ZT (.fn 56) [.agg [.str a,.func (.func 131) [] [.fptr [.i c] 0,.fptr [vl encI d] 0,.fptr [vl encI e] 0]],.fptr [.str b] 0] [] (.bool res) []:=by
 unfold xz at h;refine Ub Tryz.func56 rfl rfl (m:=8) rfl (rs:=[.tmp 3]) rfl (l:=[(0,.agg [.str a,.func (.func 131) [] [.fptr [.i c] 0,.fptr [vl encI d] 0,.fptr [vl encI e] 0]]),(1,.fptr [.str b] 0)]) rfl ?_;refine sg fol ((1,.fptr [.str b] 0)::kA6) [.cells [.str a,.func (.func 131) [] [.fptr [.i c] 0,.fptr [vl encI d] 0,.fptr [vl encI e] 0]]] ?_;refine sh fol [(3,.bool (a==b))] ?_;refine Goes.ret ?_;obtain rfl:=si h;exact(gw2 [.bool (a==b)] (Ua tB))
def zq (b:Str) (c:List Int) (d:List Int) (e:Str) (f:Int) (g:List Int) (h:List Int) (i:Str) (j:Int) (k:List Int) (a10_:List Int) (a11_:Str) (a12_:Int) (a13_:List Int) (a14_:List Int) (a15_:Str) (a16_:Int) (a17_:List Int) (a18_:List Int) (a19_:Str):Nat->Int->Option (Unit⊕Int)
 |0,_=>none
 |K+1,a=>
  if a<5 then
  (if a=0 then
  (xu b c d a19_).bind fun p=>
  some p
  else
  if a=1 then
  (xG e f g h a19_).bind fun q=>
  some q
  else
  if a=2 then
  (xe i j k a10_ a19_).bind fun l=>
  some l
  else
  if a=3 then
  (xw a11_ a12_ a13_ a14_ a19_).bind fun m=>
  some m
  else
  if a=4 then
  (xz a15_ a16_ a17_ a18_ a19_).bind fun n=>
  some n
  else
  none:Option Bool).bind fun o=>
  if o=true then
  some (.inr a)
  else
  zq b c d e f g h i j k a10_ a11_ a12_ a13_ a14_ a15_ a16_ a17_ a18_ a19_ K (w64 (a+1))
  else
  some (.inl ())
def qE (N:Nat) (a:Str) (b:List Int) (c:List Int) (d:Str) (e:Int) (f:List Int) (g:List Int) (h:Str) (i:Int) (j:List Int) (a10_:List Int) (a11_:Str) (a12_:Int) (a13_:List Int) (a14_:List Int) (a15_:Str) (a16_:Int) (a17_:List Int) (a18_:List Int) (a19_:Str):Option Int:=
 (zq a b c d e f g h i j a10_ a11_ a12_ a13_ a14_ a15_ a16_ a17_ a18_ a19_ N 0).bind (fun
 |(.inl ())=>
 some (-1)
 |(.inr k)=>
 some k)
theorem qbh (N:Nat) (b:Str) (c:List Int) (d:List Int) (e:Str) (f:Int) (g:List Int) (j:List Int) (k:Str) (n:Int) (o:List Int) (a10_:List Int) (a11_:Str) (a12_:Int) (a13_:List Int) (a14_:List Int) (a15_:Str) (a16_:Int) (a17_:List Int) (a18_:List Int) (a19_:Str) {res:Int} (h:qE N b c d e f g j k n o a10_ a11_ a12_ a13_ a14_ a15_ a16_ a17_ a18_ a19_=some res):qb ZT (.fn 55) [.fslice 5 [.str b,.func (.func 121) [] [.fptr [vl encI c] 0,.fptr [vl encI d] 0],.str e,.func (.func 122) [] [.fptr [.i f] 0,.fptr [vl encI g] 0,.fptr [vl encI j] 0],.str k,.func (.func 123) [] [.fptr [.i n] 0,.fptr [vl encI o] 0,.fptr [vl encI a10_] 0],.str a11_,.func (.func 125) [] [.fptr [.i a12_] 0,.fptr [vl encI a13_] 0,.fptr [vl encI a14_] 0],.str a15_,.func (.func 131) [] [.fptr [.i a16_] 0,.fptr [vl encI a17_] 0,.fptr [vl encI a18_] 0]],.func (.func 56) [] [.fptr [.str a19_] 0]] [] (.i res) []:=by
 unfold qE at h;refine Ub Tryz.func55 rfl rfl (m:=19) rfl (rs:=[.tmp 4]) rfl (l:=[(0,.fslice 5 [.str b,.func (.func 121) [] [.fptr [vl encI c] 0,.fptr [vl encI d] 0],.str e,.func (.func 122) [] [.fptr [.i f] 0,.fptr [vl encI g] 0,.fptr [vl encI j] 0],.str k,.func (.func 123) [] [.fptr [.i n] 0,.fptr [vl encI o] 0,.fptr [vl encI a10_] 0],.str a11_,.func (.func 125) [] [.fptr [.i a12_] 0,.fptr [vl encI a13_] 0,.fptr [vl encI a14_] 0],.str a15_,.func (.func 131) [] [.fptr [.i a16_] 0,.fptr [vl encI a17_] 0,.fptr [vl encI a18_] 0]]),(1,.func (.func 56) [] [.fptr [.str a19_] 0])]) rfl ?_;refine sh fol [(0,.fslice 5 [.str b,.func (.func 121) [] [.fptr [vl encI c] 0,.fptr [vl encI d] 0],.str e,.func (.func 122) [] [.fptr [.i f] 0,.fptr [vl encI g] 0,.fptr [vl encI j] 0],.str k,.func (.func 123) [] [.fptr [.i n] 0,.fptr [vl encI o] 0,.fptr [vl encI a10_] 0],.str a11_,.func (.func 125) [] [.fptr [.i a12_] 0,.fptr [vl encI a13_] 0,.fptr [vl encI a14_] 0],.str a15_,.func (.func 131) [] [.fptr [.i a16_] 0,.fptr [vl encI a17_] 0,.fptr [vl encI a18_] 0]]),(1,.func (.func 56) [] [.fptr [.str a19_] 0])] ?_;refine sq ?_;refine sh fol [(0,.fslice 5 [.str b,.func (.func 121) [] [.fptr [vl encI c] 0,.fptr [vl encI d] 0],.str e,.func (.func 122) [] [.fptr [.i f] 0,.fptr [vl encI g] 0,.fptr [vl encI j] 0],.str k,.func (.func 123) [] [.fptr [.i n] 0,.fptr [vl encI o] 0,.fptr [vl encI a10_] 0],.str a11_,.func (.func 125) [] [.fptr [.i a12_] 0,.fptr [vl encI a13_] 0,.fptr [vl encI a14_] 0],.str a15_,.func (.func 131) [] [.fptr [.i a16_] 0,.fptr [vl encI a17_] 0,.fptr [vl encI a18_] 0]]),(1,.func (.func 56) [] [.fptr [.str a19_] 0]),(7,.i 5),(8,.i 0)] ?_;refine Goes.block ?_;obtain⟨C,g2,h⟩:=bnd h;refine Goes.imp (Q:=fun x s'=>(x= .exit 0/\(.inl ())=C/\Sub s' (ofG 19 [],[]))\/(x= .ret/\ ∃F,(.inr F)=C/\jM ZT [.tmp 4] (.i F) .ret s')) ?_ ?_
 ·refine Ud (fun M s=> ∃(p:Int),s=(ofG 19 ((0,.fslice 5 [.str b,.func (.func 121) [] [.fptr [vl encI c] 0,.fptr [vl encI d] 0],.str e,.func (.func 122) [] [.fptr [.i f] 0,.fptr [vl encI g] 0,.fptr [vl encI j] 0],.str k,.func (.func 123) [] [.fptr [.i n] 0,.fptr [vl encI o] 0,.fptr [vl encI a10_] 0],.str a11_,.func (.func 125) [] [.fptr [.i a12_] 0,.fptr [vl encI a13_] 0,.fptr [vl encI a14_] 0],.str a15_,.func (.func 131) [] [.fptr [.i a16_] 0,.fptr [vl encI a17_] 0,.fptr [vl encI a18_] 0]])::(1,.func (.func 56) [] [.fptr [.str a19_] 0])::(7,.i 5)::(kAp p)),[])/\zq b c d e f g j k n o a10_ a11_ a12_ a13_ a14_ a15_ a16_ a17_ a18_ a19_ M p=some C) ?_ (m:=N) ⟨_,rfl,g2⟩;rintro M s ⟨p,rfl,g2⟩
  cases M with
  |zero=>simp only[zq]at g2;cases g2
  |succ M=>
   rw[zq]at g2;refine sh fol [(0,.fslice 5 [.str b,.func (.func 121) [] [.fptr [vl encI c] 0,.fptr [vl encI d] 0],.str e,.func (.func 122) [] [.fptr [.i f] 0,.fptr [vl encI g] 0,.fptr [vl encI j] 0],.str k,.func (.func 123) [] [.fptr [.i n] 0,.fptr [vl encI o] 0,.fptr [vl encI a10_] 0],.str a11_,.func (.func 125) [] [.fptr [.i a12_] 0,.fptr [vl encI a13_] 0,.fptr [vl encI a14_] 0],.str a15_,.func (.func 131) [] [.fptr [.i a16_] 0,.fptr [vl encI a17_] 0,.fptr [vl encI a18_] 0]]),(1,.func (.func 56) [] [.fptr [.str a19_] 0]),(7,.i 5),(8,.i p),(9,.bool (decide (p<5)))] ?_;refine sq ?_;refine ihD g2 (fun L g2=>?_) (fun L g2=>?_)
   ·refine Goes.skip ?_;refine sq (Goes.block ?_);refine sh fol ((0,.fslice 5 [.str b,.func (.func 121) [] [.fptr [vl encI c] 0,.fptr [vl encI d] 0],.str e,.func (.func 122) [] [.fptr [.i f] 0,.fptr [vl encI g] 0,.fptr [vl encI j] 0],.str k,.func (.func 123) [] [.fptr [.i n] 0,.fptr [vl encI o] 0,.fptr [vl encI a10_] 0],.str a11_,.func (.func 125) [] [.fptr [.i a12_] 0,.fptr [vl encI a13_] 0,.fptr [vl encI a14_] 0],.str a15_,.func (.func 131) [] [.fptr [.i a16_] 0,.fptr [vl encI a17_] 0,.fptr [vl encI a18_] 0]])::(1,.func (.func 56) [] [.fptr [.str a19_] 0])::(5,.i p)::(7,.i 5)::(kAp p)) ?_;refine sq ?_;obtain⟨D,a,g2⟩:=bnd g2;refine Goes.cut (s':=(ofG 19 ((0,.fslice 5 [.str b,.func (.func 121) [] [.fptr [vl encI c] 0,.fptr [vl encI d] 0],.str e,.func (.func 122) [] [.fptr [.i f] 0,.fptr [vl encI g] 0,.fptr [vl encI j] 0],.str k,.func (.func 123) [] [.fptr [.i n] 0,.fptr [vl encI o] 0,.fptr [vl encI a10_] 0],.str a11_,.func (.func 125) [] [.fptr [.i a12_] 0,.fptr [vl encI a13_] 0,.fptr [vl encI a14_] 0],.str a15_,.func (.func 131) [] [.fptr [.i a16_] 0,.fptr [vl encI a17_] 0,.fptr [vl encI a18_] 0]])::(1,.func (.func 56) [] [.fptr [.str a19_] 0])::(kAd p D)),[])) ?_ ?_
    ·rcases wyD a with⟨G,a⟩|⟨G,a⟩
     ·obtain⟨H,u,a⟩:=bnd a;obtain rfl:=si a;exact tr fol [3,5] ((0,.fslice 5 [.str b,.func (.func 121) [] [.fptr [vl encI c] 0,.fptr [vl encI d] 0],.str e,.func (.func 122) [] [.fptr [.i f] 0,.fptr [vl encI g] 0,.fptr [vl encI j] 0],.str k,.func (.func 123) [] [.fptr [.i n] 0,.fptr [vl encI o] 0,.fptr [vl encI a10_] 0],.str a11_,.func (.func 125) [] [.fptr [.i a12_] 0,.fptr [vl encI a13_] 0,.fptr [vl encI a14_] 0],.str a15_,.func (.func 131) [] [.fptr [.i a16_] 0,.fptr [vl encI a17_] 0,.fptr [vl encI a18_] 0]])::(1,.func (.func 56) [] [.fptr [.str a19_] 0])::(kAd p H)) (ac (hs (.done (.opt (qd ZT 89 (.fslice 5 [.str b,.func (.func 121) [] [.fptr [vl encI c] 0,.fptr [vl encI d] 0],.str e,.func (.func 122) [] [.fptr [.i f] 0,.fptr [vl encI g] 0,.fptr [vl encI j] 0],.str k,.func (.func 123) [] [.fptr [.i n] 0,.fptr [vl encI o] 0,.fptr [vl encI a10_] 0],.str a11_,.func (.func 125) [] [.fptr [.i a12_] 0,.fptr [vl encI a13_] 0,.fptr [vl encI a14_] 0],.str a15_,.func (.func 131) [] [.fptr [.i a16_] 0,.fptr [vl encI a17_] 0,.fptr [vl encI a18_] 0]]) (.i p))) (.fptr [.str b,.func (.func 121) [] [.fptr [vl encI c] 0,.fptr [vl encI d] 0],.str e,.func (.func 122) [] [.fptr [.i f] 0,.fptr [vl encI g] 0,.fptr [vl encI j] 0],.str k,.func (.func 123) [] [.fptr [.i n] 0,.fptr [vl encI o] 0,.fptr [vl encI a10_] 0],.str a11_,.func (.func 125) [] [.fptr [.i a12_] 0,.fptr [vl encI a13_] 0,.fptr [vl encI a14_] 0],.str a15_,.func (.func 131) [] [.fptr [.i a16_] 0,.fptr [vl encI a17_] 0,.fptr [vl encI a18_] 0]] 0)) (ixA (ot G) (by kernel_rfl))) (ac (hs (.call 56 [.agg [.str b,.func (.func 121) [] [.fptr [vl encI c] 0,.fptr [vl encI d] 0]],.fptr [.str a19_] 0] [] [] [.agg [.str b,.func (.func 121) [] [.fptr [vl encI c] 0,.fptr [vl encI d] 0]],.fptr [.str a19_] 0] (.bool H)) (qcJ (FzL.cons (Fz.agg (FzL.cons (Uc tS) (FzL.cons (Fz.func FzL.nil (FzL.cons (Uc (Still.fptr (AllST.cons (qy encI _ (nl rfl)) AllST.nil))) (FzL.cons (Uc (Still.fptr (AllST.cons (qy encI _ (nl rfl)) AllST.nil))) FzL.nil))) FzL.nil))) (FzL.cons (Uc (Still.fptr (AllST.cons tS AllST.nil))) FzL.nil)) (qcO b c d a19_ u) tB)) az))
     rcases wyD a with⟨I,a⟩|⟨I,a⟩
     ·obtain⟨J,v,a⟩:=bnd a;obtain rfl:=si a;exact tr fol [3,5] ((0,.fslice 5 [.str b,.func (.func 121) [] [.fptr [vl encI c] 0,.fptr [vl encI d] 0],.str e,.func (.func 122) [] [.fptr [.i f] 0,.fptr [vl encI g] 0,.fptr [vl encI j] 0],.str k,.func (.func 123) [] [.fptr [.i n] 0,.fptr [vl encI o] 0,.fptr [vl encI a10_] 0],.str a11_,.func (.func 125) [] [.fptr [.i a12_] 0,.fptr [vl encI a13_] 0,.fptr [vl encI a14_] 0],.str a15_,.func (.func 131) [] [.fptr [.i a16_] 0,.fptr [vl encI a17_] 0,.fptr [vl encI a18_] 0]])::(1,.func (.func 56) [] [.fptr [.str a19_] 0])::(kAd p J)) (ac (hs (.done (.opt (qd ZT 89 (.fslice 5 [.str b,.func (.func 121) [] [.fptr [vl encI c] 0,.fptr [vl encI d] 0],.str e,.func (.func 122) [] [.fptr [.i f] 0,.fptr [vl encI g] 0,.fptr [vl encI j] 0],.str k,.func (.func 123) [] [.fptr [.i n] 0,.fptr [vl encI o] 0,.fptr [vl encI a10_] 0],.str a11_,.func (.func 125) [] [.fptr [.i a12_] 0,.fptr [vl encI a13_] 0,.fptr [vl encI a14_] 0],.str a15_,.func (.func 131) [] [.fptr [.i a16_] 0,.fptr [vl encI a17_] 0,.fptr [vl encI a18_] 0]]) (.i p))) (.fptr [.str b,.func (.func 121) [] [.fptr [vl encI c] 0,.fptr [vl encI d] 0],.str e,.func (.func 122) [] [.fptr [.i f] 0,.fptr [vl encI g] 0,.fptr [vl encI j] 0],.str k,.func (.func 123) [] [.fptr [.i n] 0,.fptr [vl encI o] 0,.fptr [vl encI a10_] 0],.str a11_,.func (.func 125) [] [.fptr [.i a12_] 0,.fptr [vl encI a13_] 0,.fptr [vl encI a14_] 0],.str a15_,.func (.func 131) [] [.fptr [.i a16_] 0,.fptr [vl encI a17_] 0,.fptr [vl encI a18_] 0]] 2)) (ixA (ot I) (by kernel_rfl))) (ac (hs (.call 56 [.agg [.str e,.func (.func 122) [] [.fptr [.i f] 0,.fptr [vl encI g] 0,.fptr [vl encI j] 0]],.fptr [.str a19_] 0] [] [] [.agg [.str e,.func (.func 122) [] [.fptr [.i f] 0,.fptr [vl encI g] 0,.fptr [vl encI j] 0]],.fptr [.str a19_] 0] (.bool J)) (qcJ (FzL.cons (Fz.agg (FzL.cons (Uc tS) (FzL.cons (Fz.func FzL.nil (FzL.cons (Uc (Still.fptr (AllST.cons tI AllST.nil))) (FzL.cons (Uc (Still.fptr (AllST.cons (qy encI _ (nl rfl)) AllST.nil))) (FzL.cons (Uc (Still.fptr (AllST.cons (qy encI _ (nl rfl)) AllST.nil))) FzL.nil)))) FzL.nil))) (FzL.cons (Uc (Still.fptr (AllST.cons tS AllST.nil))) FzL.nil)) (qcN e f g j a19_ v) tB)) az))
     rcases wyD a with⟨K,a⟩|⟨K,a⟩
     ·obtain⟨w,q,a⟩:=bnd a;obtain rfl:=si a;exact tr fol [3,5] ((0,.fslice 5 [.str b,.func (.func 121) [] [.fptr [vl encI c] 0,.fptr [vl encI d] 0],.str e,.func (.func 122) [] [.fptr [.i f] 0,.fptr [vl encI g] 0,.fptr [vl encI j] 0],.str k,.func (.func 123) [] [.fptr [.i n] 0,.fptr [vl encI o] 0,.fptr [vl encI a10_] 0],.str a11_,.func (.func 125) [] [.fptr [.i a12_] 0,.fptr [vl encI a13_] 0,.fptr [vl encI a14_] 0],.str a15_,.func (.func 131) [] [.fptr [.i a16_] 0,.fptr [vl encI a17_] 0,.fptr [vl encI a18_] 0]])::(1,.func (.func 56) [] [.fptr [.str a19_] 0])::(kAd p w)) (ac (hs (.done (.opt (qd ZT 89 (.fslice 5 [.str b,.func (.func 121) [] [.fptr [vl encI c] 0,.fptr [vl encI d] 0],.str e,.func (.func 122) [] [.fptr [.i f] 0,.fptr [vl encI g] 0,.fptr [vl encI j] 0],.str k,.func (.func 123) [] [.fptr [.i n] 0,.fptr [vl encI o] 0,.fptr [vl encI a10_] 0],.str a11_,.func (.func 125) [] [.fptr [.i a12_] 0,.fptr [vl encI a13_] 0,.fptr [vl encI a14_] 0],.str a15_,.func (.func 131) [] [.fptr [.i a16_] 0,.fptr [vl encI a17_] 0,.fptr [vl encI a18_] 0]]) (.i p))) (.fptr [.str b,.func (.func 121) [] [.fptr [vl encI c] 0,.fptr [vl encI d] 0],.str e,.func (.func 122) [] [.fptr [.i f] 0,.fptr [vl encI g] 0,.fptr [vl encI j] 0],.str k,.func (.func 123) [] [.fptr [.i n] 0,.fptr [vl encI o] 0,.fptr [vl encI a10_] 0],.str a11_,.func (.func 125) [] [.fptr [.i a12_] 0,.fptr [vl encI a13_] 0,.fptr [vl encI a14_] 0],.str a15_,.func (.func 131) [] [.fptr [.i a16_] 0,.fptr [vl encI a17_] 0,.fptr [vl encI a18_] 0]] 4)) (ixA (ot K) (by kernel_rfl))) (ac (hs (.call 56 [.agg [.str k,.func (.func 123) [] [.fptr [.i n] 0,.fptr [vl encI o] 0,.fptr [vl encI a10_] 0]],.fptr [.str a19_] 0] [] [] [.agg [.str k,.func (.func 123) [] [.fptr [.i n] 0,.fptr [vl encI o] 0,.fptr [vl encI a10_] 0]],.fptr [.str a19_] 0] (.bool w)) (qcJ (FzL.cons (Fz.agg (FzL.cons (Uc tS) (FzL.cons (Fz.func FzL.nil (FzL.cons (Uc (Still.fptr (AllST.cons tI AllST.nil))) (FzL.cons (Uc (Still.fptr (AllST.cons (qy encI _ (nl rfl)) AllST.nil))) (FzL.cons (Uc (Still.fptr (AllST.cons (qy encI _ (nl rfl)) AllST.nil))) FzL.nil)))) FzL.nil))) (FzL.cons (Uc (Still.fptr (AllST.cons tS AllST.nil))) FzL.nil)) (qcF k n o a10_ a19_ q) tB)) az))
     rcases wyD a with⟨y,a⟩|⟨y,a⟩
     ·obtain⟨z,r,a⟩:=bnd a;obtain rfl:=si a;exact tr fol [3,5] ((0,.fslice 5 [.str b,.func (.func 121) [] [.fptr [vl encI c] 0,.fptr [vl encI d] 0],.str e,.func (.func 122) [] [.fptr [.i f] 0,.fptr [vl encI g] 0,.fptr [vl encI j] 0],.str k,.func (.func 123) [] [.fptr [.i n] 0,.fptr [vl encI o] 0,.fptr [vl encI a10_] 0],.str a11_,.func (.func 125) [] [.fptr [.i a12_] 0,.fptr [vl encI a13_] 0,.fptr [vl encI a14_] 0],.str a15_,.func (.func 131) [] [.fptr [.i a16_] 0,.fptr [vl encI a17_] 0,.fptr [vl encI a18_] 0]])::(1,.func (.func 56) [] [.fptr [.str a19_] 0])::(kAd p z)) (ac (hs (.done (.opt (qd ZT 89 (.fslice 5 [.str b,.func (.func 121) [] [.fptr [vl encI c] 0,.fptr [vl encI d] 0],.str e,.func (.func 122) [] [.fptr [.i f] 0,.fptr [vl encI g] 0,.fptr [vl encI j] 0],.str k,.func (.func 123) [] [.fptr [.i n] 0,.fptr [vl encI o] 0,.fptr [vl encI a10_] 0],.str a11_,.func (.func 125) [] [.fptr [.i a12_] 0,.fptr [vl encI a13_] 0,.fptr [vl encI a14_] 0],.str a15_,.func (.func 131) [] [.fptr [.i a16_] 0,.fptr [vl encI a17_] 0,.fptr [vl encI a18_] 0]]) (.i p))) (.fptr [.str b,.func (.func 121) [] [.fptr [vl encI c] 0,.fptr [vl encI d] 0],.str e,.func (.func 122) [] [.fptr [.i f] 0,.fptr [vl encI g] 0,.fptr [vl encI j] 0],.str k,.func (.func 123) [] [.fptr [.i n] 0,.fptr [vl encI o] 0,.fptr [vl encI a10_] 0],.str a11_,.func (.func 125) [] [.fptr [.i a12_] 0,.fptr [vl encI a13_] 0,.fptr [vl encI a14_] 0],.str a15_,.func (.func 131) [] [.fptr [.i a16_] 0,.fptr [vl encI a17_] 0,.fptr [vl encI a18_] 0]] 6)) (ixA (ot y) (by kernel_rfl))) (ac (hs (.call 56 [.agg [.str a11_,.func (.func 125) [] [.fptr [.i a12_] 0,.fptr [vl encI a13_] 0,.fptr [vl encI a14_] 0]],.fptr [.str a19_] 0] [] [] [.agg [.str a11_,.func (.func 125) [] [.fptr [.i a12_] 0,.fptr [vl encI a13_] 0,.fptr [vl encI a14_] 0]],.fptr [.str a19_] 0] (.bool z)) (qcJ (FzL.cons (Fz.agg (FzL.cons (Uc tS) (FzL.cons (Fz.func FzL.nil (FzL.cons (Uc (Still.fptr (AllST.cons tI AllST.nil))) (FzL.cons (Uc (Still.fptr (AllST.cons (qy encI _ (nl rfl)) AllST.nil))) (FzL.cons (Uc (Still.fptr (AllST.cons (qy encI _ (nl rfl)) AllST.nil))) FzL.nil)))) FzL.nil))) (FzL.cons (Uc (Still.fptr (AllST.cons tS AllST.nil))) FzL.nil)) (qcE a11_ a12_ a13_ a14_ a19_ r) tB)) az))
     rcases wyD a with⟨A,a⟩|⟨A,a⟩
     ·obtain⟨B,t,a⟩:=bnd a;obtain rfl:=si a;exact tr fol [3,5] ((0,.fslice 5 [.str b,.func (.func 121) [] [.fptr [vl encI c] 0,.fptr [vl encI d] 0],.str e,.func (.func 122) [] [.fptr [.i f] 0,.fptr [vl encI g] 0,.fptr [vl encI j] 0],.str k,.func (.func 123) [] [.fptr [.i n] 0,.fptr [vl encI o] 0,.fptr [vl encI a10_] 0],.str a11_,.func (.func 125) [] [.fptr [.i a12_] 0,.fptr [vl encI a13_] 0,.fptr [vl encI a14_] 0],.str a15_,.func (.func 131) [] [.fptr [.i a16_] 0,.fptr [vl encI a17_] 0,.fptr [vl encI a18_] 0]])::(1,.func (.func 56) [] [.fptr [.str a19_] 0])::(kAd p B)) (ac (hs (.done (.opt (qd ZT 89 (.fslice 5 [.str b,.func (.func 121) [] [.fptr [vl encI c] 0,.fptr [vl encI d] 0],.str e,.func (.func 122) [] [.fptr [.i f] 0,.fptr [vl encI g] 0,.fptr [vl encI j] 0],.str k,.func (.func 123) [] [.fptr [.i n] 0,.fptr [vl encI o] 0,.fptr [vl encI a10_] 0],.str a11_,.func (.func 125) [] [.fptr [.i a12_] 0,.fptr [vl encI a13_] 0,.fptr [vl encI a14_] 0],.str a15_,.func (.func 131) [] [.fptr [.i a16_] 0,.fptr [vl encI a17_] 0,.fptr [vl encI a18_] 0]]) (.i p))) (.fptr [.str b,.func (.func 121) [] [.fptr [vl encI c] 0,.fptr [vl encI d] 0],.str e,.func (.func 122) [] [.fptr [.i f] 0,.fptr [vl encI g] 0,.fptr [vl encI j] 0],.str k,.func (.func 123) [] [.fptr [.i n] 0,.fptr [vl encI o] 0,.fptr [vl encI a10_] 0],.str a11_,.func (.func 125) [] [.fptr [.i a12_] 0,.fptr [vl encI a13_] 0,.fptr [vl encI a14_] 0],.str a15_,.func (.func 131) [] [.fptr [.i a16_] 0,.fptr [vl encI a17_] 0,.fptr [vl encI a18_] 0]] 8)) (ixA (ot A) (by kernel_rfl))) (ac (hs (.call 56 [.agg [.str a15_,.func (.func 131) [] [.fptr [.i a16_] 0,.fptr [vl encI a17_] 0,.fptr [vl encI a18_] 0]],.fptr [.str a19_] 0] [] [] [.agg [.str a15_,.func (.func 131) [] [.fptr [.i a16_] 0,.fptr [vl encI a17_] 0,.fptr [vl encI a18_] 0]],.fptr [.str a19_] 0] (.bool B)) (qcJ (FzL.cons (Fz.agg (FzL.cons (Uc tS) (FzL.cons (Fz.func FzL.nil (FzL.cons (Uc (Still.fptr (AllST.cons tI AllST.nil))) (FzL.cons (Uc (Still.fptr (AllST.cons (qy encI _ (nl rfl)) AllST.nil))) (FzL.cons (Uc (Still.fptr (AllST.cons (qy encI _ (nl rfl)) AllST.nil))) FzL.nil)))) FzL.nil))) (FzL.cons (Uc (Still.fptr (AllST.cons tS AllST.nil))) FzL.nil)) (qcD a15_ a16_ a17_ a18_ a19_ t) tB)) az))
     cases a
    refine ihB g2 (fun E g2=>?_) (fun E g2=>?_)
    ·refine sh fol [(4,.i p)] ?_;refine Goes.ret ?_;obtain rfl:=si g2;exact Or.inr (⟨rfl,_,rfl,(gw2 [.i p] (Ua tI))⟩)
    refine Goes.skip ?_;refine gh fol ((0,.fslice 5 [.str b,.func (.func 121) [] [.fptr [vl encI c] 0,.fptr [vl encI d] 0],.str e,.func (.func 122) [] [.fptr [.i f] 0,.fptr [vl encI g] 0,.fptr [vl encI j] 0],.str k,.func (.func 123) [] [.fptr [.i n] 0,.fptr [vl encI o] 0,.fptr [vl encI a10_] 0],.str a11_,.func (.func 125) [] [.fptr [.i a12_] 0,.fptr [vl encI a13_] 0,.fptr [vl encI a14_] 0],.str a15_,.func (.func 131) [] [.fptr [.i a16_] 0,.fptr [vl encI a17_] 0,.fptr [vl encI a18_] 0]])::(1,.func (.func 56) [] [.fptr [.str a19_] 0])::(7,.i 5)::(kAp (w64 (p+1)))) ?_;exact⟨M,(ofG 19 ((0,.fslice 5 [.str b,.func (.func 121) [] [.fptr [vl encI c] 0,.fptr [vl encI d] 0],.str e,.func (.func 122) [] [.fptr [.i f] 0,.fptr [vl encI g] 0,.fptr [vl encI j] 0],.str k,.func (.func 123) [] [.fptr [.i n] 0,.fptr [vl encI o] 0,.fptr [vl encI a10_] 0],.str a11_,.func (.func 125) [] [.fptr [.i a12_] 0,.fptr [vl encI a13_] 0,.fptr [vl encI a14_] 0],.str a15_,.func (.func 131) [] [.fptr [.i a16_] 0,.fptr [vl encI a17_] 0,.fptr [vl encI a18_] 0]])::(1,.func (.func 56) [] [.fptr [.str a19_] 0])::(7,.i 5)::(kAp (w64 (p+1)))),[]),Nat.lt_succ_self _,(Sub.refl _),_,rfl,g2⟩
   refine Goes.exit ?_;obtain rfl:=si g2;exact Or.inl (⟨rfl,rfl,(Sub.keep [] rfl rfl)⟩)
 rintro x s' (⟨rfl,rfl,hsub⟩|⟨rfl,O,rfl,hret⟩)
 ·try dsimp only at h
  refine Goes.sub hsub ?_;refine sh fol [(4,.i (-1))] ?_;refine Goes.ret ?_;obtain rfl:=si h;exact(gw2 [.i (-1)] (Ua tI))
 try dsimp only at h
 obtain rfl:=si h;exact hret
def zw (N:Nat) (a:List Int) (b:List Int):Option Bool:=
 (xD N a).bind fun c=>
 (xD N b).bind fun d=>
 some (!decide (c=d))
theorem qaI (N:Nat) (a:List Int) (b:List Int) {res:Bool} (h:zw N a b=some res):qb ZT (.fn 121) [.fptr [vl encI a] 0,.fptr [vl encI b] 0] [] (.bool res) []:=by
 unfold zw at h;refine Ub Tryz.func121 rfl rfl (m:=8) rfl (rs:=[.tmp 2]) rfl (l:=[(0,.fptr [vl encI a] 0),(1,.fptr [vl encI b] 0)]) rfl ?_;refine sh fol [(0,.fptr [vl encI a] 0),(1,.fptr [vl encI b] 0)] ?_;obtain⟨e,c,h⟩:=bnd h;obtain⟨f,d,h⟩:=bnd h;refine sq (gr fol [1,3] [(2,.bool (!decide (e=f)))] (ac (cv (qc7 N a c)) (ac (cv (qc7 N b d)) az)) ?_);refine Goes.ret ?_;obtain rfl:=si h;exact(gw2 [.bool (!decide (e=f))] (Ua tB))
def zt (N:Nat) (a:Int) (b:List Int) (c:List Int):Option Bool:=
 (qbB N a b).bind fun d=>
 (qbB N a c).bind fun e=>
 (slices_Equal_int N d e).bind fun f=>
 some (!f)
theorem qaG (N:Nat) (a:Int) (b:List Int) (c:List Int) {res:Bool} (h:zt N a b c=some res):qb ZT (.fn 122) [.fptr [.i a] 0,.fptr [vl encI b] 0,.fptr [vl encI c] 0] [] (.bool res) []:=by
 unfold zt at h;refine Ub Tryz.func122 rfl rfl (m:=12) rfl (rs:=[.tmp 3]) rfl (l:=[(0,.fptr [.i a] 0),(1,.fptr [vl encI b] 0),(2,.fptr [vl encI c] 0)]) rfl ?_;refine sh fol [(0,.fptr [.i a] 0),(1,.fptr [vl encI b] 0),(2,.fptr [vl encI c] 0)] ?_;obtain⟨j,d,h⟩:=bnd h;obtain⟨k,e,h⟩:=bnd h;obtain⟨g,f,h⟩:=bnd h;refine sq (gr fol [2,5,6] [(3,.bool (!g))] (ac (cv (qfo N a b d)) (ac (cv (qfo N a c e)) (ac (cv (qaP N j k f)) az))) ?_);refine Goes.ret ?_;obtain rfl:=si h;exact(gw2 [.bool (!g)] (Ua tB))
def zo (N:Nat) (a:Int) (b:List Int) (c:List Int):Option Bool:=
 (qbD N a b).bind fun d=>
 (qbD N a c).bind fun e=>
 (zg N d e).bind fun f=>
 some (!f)
theorem qaF (N:Nat) (a:Int) (b:List Int) (c:List Int) {res:Bool} (h:zo N a b c=some res):qb ZT (.fn 123) [.fptr [.i a] 0,.fptr [vl encI b] 0,.fptr [vl encI c] 0] [] (.bool res) []:=by
 unfold zo at h;refine Ub Tryz.func123 rfl rfl (m:=12) rfl (rs:=[.tmp 3]) rfl (l:=[(0,.fptr [.i a] 0),(1,.fptr [vl encI b] 0),(2,.fptr [vl encI c] 0)]) rfl ?_;refine sh fol [(0,.fptr [.i a] 0),(1,.fptr [vl encI b] 0),(2,.fptr [vl encI c] 0)] ?_;obtain⟨g,d,h⟩:=bnd h;obtain⟨j,e,h⟩:=bnd h;obtain⟨k,f,h⟩:=bnd h;refine sq (gr fol [2,5,6] [(3,.bool (!k))] (ac (cv (qfn N a b d)) (ac (cv (qfn N a c e)) (ac (hs (.call 124 [vl (qm encI) g,vl (qm encI) j,.func (.func 63) [] []] [] [] [vl (qm encI) g,vl (qm encI) j,.func (.func 63) [] []] (.bool k)) (qcJ (FzL.cons (Uc (qy (qm encI) _ (nl rfl))) (FzL.cons (Uc (qy (qm encI) _ (nl rfl))) (FzL.cons (Fz.func FzL.nil FzL.nil) FzL.nil))) (qav N g j f) tB)) az))) ?_);refine Goes.ret ?_;obtain rfl:=si h;exact(gw2 [.bool (!k)] (Ua tB))
def qL (N:Nat) (a:List (List qo)) (b:List (List qo)):Nat->Int->Option (Unit⊕Bool)
 |0,_=>none
 |K+1,c=>
  if c<(a.length:Int)then
  (idx a c).bind fun d=>
  (idx b c).bind fun e=>
  (zX N d e).bind fun f=>
  if(!f)=true then
  some (.inr false)
  else
  qL N a b K (w64 (c+1))
  else
  some (.inl ())
def zy (N:Nat) (a:List (List qo)) (b:List (List qo)):Option Bool:=
 if(!decide ((a.length:Int)=(b.length:Int)))=true then
 some false
 else
 (qL N a b N 0).bind (fun
 |(.inl ())=>
 some true
 |(.inr c)=>
 some c)
theorem qct (N:Nat) (a:List (List qo)) (b:List (List qo)) {res:Bool} (h:zy N a b=some res):qb ZT (.fn 127) [vl (qm qa) a,vl (qm qa) b,.func (.func 128) [] []] [] (.bool res) []:=by
 unfold zy at h;refine Ub Tryz.func127 rfl rfl (m:=32) rfl (rs:=[.tmp 6]) rfl (l:=[(0,vl (qm qa) a),(1,vl (qm qa) b),(2,.func (.func 128) [] [])]) rfl ?_;refine sh fol [(0,vl (qm qa) a),(1,vl (qm qa) b),(2,.func (.func 128) [] [])] ?_;refine sq ?_;refine sh fol [(0,vl (qm qa) a),(1,vl (qm qa) b),(2,.func (.func 128) [] []),(14,.bool (!decide ((a.length:Int)=(b.length:Int))))] ?_;refine ihB h (fun o h=>?_) (fun o h=>?_)
 ·refine sh fol kAh ?_;refine Goes.ret ?_;obtain rfl:=si h;exact(gw2 [.bool false] (Ua tB))
 refine Goes.skip ?_;refine sq ?_;refine sh fol [(1,vl (qm qa) b),(2,.func (.func 128) [] []),(15,vl (qm qa) a),(16,.i (a.length:Int)),(17,.i 0)] ?_;refine Goes.block ?_;obtain⟨g,g3,h⟩:=bnd h;refine Goes.imp (Q:=fun x s'=>(x= .exit 0/\(.inl ())=g/\Sub s' (ofG 32 [],[]))\/(x= .ret/\ ∃k,(.inr k)=g/\jM ZT [.tmp 6] (.bool k) .ret s')) ?_ ?_
 ·refine Ud (fun M s=> ∃(c:Int),s=(ofG 32 ((1,vl (qm qa) b)::(2,.func (.func 128) [] [])::(15,vl (qm qa) a)::(kAE (a.length:Int) c)),[])/\qL N a b M c=some g) ?_ (m:=N) ⟨_,rfl,g3⟩;rintro M s ⟨c,rfl,g3⟩
  cases M with
  |zero=>simp only[qL]at g3;cases g3
  |succ M=>
   rw[qL]at g3;refine sh fol [(1,vl (qm qa) b),(2,.func (.func 128) [] []),(15,vl (qm qa) a),(16,.i (a.length:Int)),(17,.i c),(18,.bool (decide (c<(a.length:Int))))] ?_;refine sq ?_;refine ihD g3 (fun p g3=>?_) (fun p g3=>?_)
   ·refine Goes.skip ?_;refine sq (Goes.block ?_);obtain⟨j,d,g3⟩:=bnd g3;refine sq (gr fol [1,2] ((1,vl (qm qa) b)::(2,.func (.func 128) [] [])::(7,.i c)::(8,vl qa j)::(15,vl (qm qa) a)::(kAE (a.length:Int) c)) (ac (iv qjn (qm qa) d) (ac (lv 0 qoe (qm qa) d rfl) az)) ?_);obtain⟨n,e,g3⟩:=bnd g3;refine sq (gr fol [2,3] ((1,vl (qm qa) b)::(2,.func (.func 128) [] [])::(8,vl qa j)::(9,vl qa n)::(15,vl (qm qa) a)::(kAE (a.length:Int) c)) (ac (iv qjn (qm qa) e) (ac (lv 0 qoe (qm qa) e rfl) az)) ?_);obtain⟨q,f,g3⟩:=bnd g3;refine sq (gr fol [3] [(1,vl (qm qa) b),(2,.func (.func 128) [] []),(15,vl (qm qa) a),(16,.i (a.length:Int)),(17,.i c),(30,.bool (!q))] (ac (cv (qdl N j n f)) az) ?_);refine ihB g3 (fun r g3=>?_) (fun r g3=>?_)
    ·refine sh fol kAh ?_;refine Goes.ret ?_;obtain rfl:=si g3;exact Or.inr (⟨rfl,_,rfl,(gw2 [.bool false] (Ua tB))⟩)
    refine Goes.skip ?_;refine gh fol ((1,vl (qm qa) b)::(2,.func (.func 128) [] [])::(15,vl (qm qa) a)::(kAE (a.length:Int) (w64 (c+1)))) ?_;exact⟨M,(ofG 32 ((1,vl (qm qa) b)::(2,.func (.func 128) [] [])::(15,vl (qm qa) a)::(kAE (a.length:Int) (w64 (c+1)))),[]),Nat.lt_succ_self _,(Sub.refl _),_,rfl,g3⟩
   refine Goes.exit ?_;obtain rfl:=si g3;exact Or.inl (⟨rfl,rfl,(Sub.keep [] rfl rfl)⟩)
 rintro x s' (⟨rfl,rfl,hsub⟩|⟨rfl,t,rfl,hret⟩)
 ·try dsimp only at h
  refine Goes.sub hsub ?_;refine sh fol [(6,.bool true)] ?_;refine Goes.ret ?_;obtain rfl:=si h;exact(gw2 [.bool true] (Ua tB))
 try dsimp only at h
 obtain rfl:=si h;exact hret
def zu (N:Nat) (a:Int) (b:List Int) (c:List Int):Option Bool:=
 (qgi 2).bind fun d=>
 (qa9 N a b d).bind fun e=>
 (qgi 2).bind fun f=>
 (qa9 N a c f).bind fun g=>
 (zy N e g).bind fun h=>
 some (!h)
theorem qaJ (N:Nat) (a:Int) (b:List Int) (c:List Int) {res:Bool} (h:zu N a b c=some res):qb ZT (.fn 125) [.fptr [.i a] 0,.fptr [vl encI b] 0,.fptr [vl encI c] 0] [] (.bool res) []:=by
 unfold zu at h;refine Ub Tryz.func125 rfl rfl (m:=18) rfl (rs:=[.tmp 3]) rfl (l:=[(0,.fptr [.i a] 0),(1,.fptr [vl encI b] 0),(2,.fptr [vl encI c] 0)]) rfl ?_;refine sh fol [(0,.fptr [.i a] 0),(1,.fptr [vl encI b] 0),(2,.fptr [vl encI c] 0)] ?_;obtain⟨p,d,h⟩:=bnd h;obtain⟨k,e,h⟩:=bnd h;obtain⟨q,f,h⟩:=bnd h;obtain⟨n,g,h⟩:=bnd h;refine sq (gr fol [2,3,6,7] [(4,vl (qm qa) k),(5,vl (qm qa) n)] (ac (cv (qdv 2 d)) (ac (cv (qeG N a b p e)) (ac (cv (qdv 2 f)) (ac (cv (qeG N a c q g)) az)))) ?_);obtain⟨o,j,h⟩:=bnd h;refine sq (gr fol [2] [(3,.bool (!o))] (ac (hs (.call 127 [vl (qm qa) k,vl (qm qa) n,.func (.func 128) [] []] [] [] [vl (qm qa) k,vl (qm qa) n,.func (.func 128) [] []] (.bool o)) (qcJ (FzL.cons (Uc (qy (qm qa) _ (nl rfl))) (FzL.cons (Uc (qy (qm qa) _ (nl rfl))) (FzL.cons (Fz.func FzL.nil FzL.nil) FzL.nil))) (qct N k n j) tB)) az) ?_);refine Goes.ret ?_;obtain rfl:=si h;exact(gw2 [.bool (!o)] (Ua tB))
def zL (N:Nat) (a:Int) (b:List Int) (c:List Int):Option Bool:=
 (jZ N a b c).bind fun d=>
 some (!d)
theorem qaH (N:Nat) (a:Int) (b:List Int) (c:List Int) {res:Bool} (h:zL N a b c=some res):qb ZT (.fn 131) [.fptr [.i a] 0,.fptr [vl encI b] 0,.fptr [vl encI c] 0] [] (.bool res) []:=by
 unfold zL at h;refine Ub Tryz.func131 rfl rfl (m:=9) rfl (rs:=[.tmp 3]) rfl (l:=[(0,.fptr [.i a] 0),(1,.fptr [vl encI b] 0),(2,.fptr [vl encI c] 0)]) rfl ?_;refine sh fol [(0,.fptr [.i a] 0),(1,.fptr [vl encI b] 0),(2,.fptr [vl encI c] 0)] ?_;obtain⟨e,d,h⟩:=bnd h;refine sq (gr fol [3] [(3,.bool (!e))] (ac (cv (qcH N a b c d)) az) ?_);refine Goes.ret ?_;obtain rfl:=si h;exact(gw2 [.bool (!e)] (Ua tB))
def qH (N:Nat) (n:Int) (a:List Int) (b:List Int) (kind:Str):Option Int:=
 (jG N n a b).bind fun m=>
 if(!decide (m=0))=true then
 some m
 else
 (jW n a b).bind fun _=>
 (qE N [101,120,112,111,110,101,110,116] a b [112,101,114,109] n a b [108,105,110,107] n a b [98,117,114,97,117] n a b [102,111,114,109] n a b kind).bind fun c=>
 if c<0 then
 some 13
 else
 (if c=0 then
 (zw N a b).bind fun o=>
 (qx (!o) 21).bind fun p=>
 some p
 else
 if c=1 then
 (zt N n a b).bind fun d=>
 (qx (!d) 21).bind fun e=>
 some e
 else
 if c=2 then
 (zo N n a b).bind fun f=>
 (qx (!f) 21).bind fun g=>
 some g
 else
 if c=3 then
 (zu N n a b).bind fun h=>
 (qx (!h) 21).bind fun i=>
 some i
 else
 if c=4 then
 (zL N n a b).bind fun j=>
 (qx (!j) 21).bind fun k=>
 some k
 else
 none:Option Int).bind fun l=>
 some l
theorem qbU (N:Nat) (n:Int) (a:List Int) (b:List Int) (kind:Str) {res:Int} (h:qH N n a b kind=some res):qb ZT (.fn 16) [.i n,vl encI a,vl encI b,.str kind] [] (.i res) []:=by
 unfold qH at h;refine Ub Tryz.func16 rfl rfl (m:=36) rfl (rs:=[.tmp 8]) rfl (l:=(kE n a (kAS b [(3,.str kind)]))) rfl ?_;refine sg fol (kE n a (kAS b [(7,.ptr 0 0)])) [.cells [.str kind]] ?_;refine sq ?_;obtain⟨r,s,h⟩:=bnd h;refine sq (gr fol [3] (kE n a (kAS b [(7,.ptr 0 0),(9,.i r)])) (ac (cv (yx N n a b s)) az) ?_);refine sh fol (kE n a (kAS b [(7,.ptr 0 0),(9,.i r),(17,.bool (!decide (r=0)))])) ?_;refine ihB h (fun L h=>?_) (fun L h=>?_)
 ·refine sh fol (kAp r) ?_;refine Goes.ret ?_;obtain rfl:=si h;exact(gw2 [.i r] (Ua tI))
 refine Goes.skip ?_;obtain⟨_,t,h⟩:=bnd h;refine sq (gq fol [3] [(7,.ptr 0 0),(10,.slice 1 0 5 5 2)] (.cells [.str kind]:: .cells [.str [101,120,112,111,110,101,110,116],.func (.func 121) [] [.ptr 2 0,.ptr 3 0],.str [112,101,114,109],.func (.func 122) [] [.ptr 4 0,.ptr 2 0,.ptr 3 0],.str [108,105,110,107],.func (.func 123) [] [.ptr 4 0,.ptr 2 0,.ptr 3 0],.str [98,117,114,97,117],.func (.func 125) [] [.ptr 4 0,.ptr 2 0,.ptr 3 0],.str [102,111,114,109],.func (.func 131) [] [.ptr 4 0,.ptr 2 0,.ptr 3 0]]::(kC a (kC b (kAB n [])))) (ac (hs (.callH 54 (.i n::(kAs a b)) [.cells [.str kind]] [] (.slice 1 0 5 5 2) (.cells [.str kind]:: .cells [.str [101,120,112,111,110,101,110,116],.func (.func 121) [] [.ptr 2 0,.ptr 3 0],.str [112,101,114,109],.func (.func 122) [] [.ptr 4 0,.ptr 2 0,.ptr 3 0],.str [108,105,110,107],.func (.func 123) [] [.ptr 4 0,.ptr 2 0,.ptr 3 0],.str [98,117,114,97,117],.func (.func 125) [] [.ptr 4 0,.ptr 2 0,.ptr 3 0],.str [102,111,114,109],.func (.func 131) [] [.ptr 4 0,.ptr 2 0,.ptr 3 0]]::(kC a (kC b (kAB n []))))) (zG [] [none,some 0,some 1,some 2,some 3] (qbd n a b t) .nil rfl rfl (.old rfl rfl (.new rfl rfl (.cells (rc (.same nS) (rc (.funcL (sn) (rc (.ptr rfl) (rc (.ptr rfl) rn))) (rc (.same nS) (rc (.funcL (sn) (rc (.ptr rfl) (rc (.ptr rfl) (rc (.ptr rfl) rn)))) (rc (.same nS) (rc (.funcL (sn) (rc (.ptr rfl) (rc (.ptr rfl) (rc (.ptr rfl) rn)))) (rc (.same nS) (rc (.funcL (sn) (rc (.ptr rfl) (rc (.ptr rfl) (rc (.ptr rfl) rn)))) (rc (.same nS) (rc (.funcL (sn) (rc (.ptr rfl) (rc (.ptr rfl) (rc (.ptr rfl) rn)))) rn))))))))))) rfl (.new rfl rfl (.cells (rc (.same (qf encI _)) rn)) rfl (.new rfl rfl (.cells (rc (.same (qf encI _)) rn)) rfl (.new rfl rfl (.cells (rc (.same nI) rn)) rfl .nil))))) (rc (.same nI) (rc (.same (qf encI _)) (rc (.same (qf encI _)) rn))) (.slice rfl) rfl)) az) ?_);obtain⟨d,u,h⟩:=bnd h;refine sq (gr fol [2] ((10,.slice 1 0 5 5 2)::(kBA d)) (ac (hs (.call 55 [.slice 1 0 5 5 2,.func (.func 56) [] [.ptr 0 0]] (.cells [.str kind]:: .cells [.str [101,120,112,111,110,101,110,116],.func (.func 121) [] [.ptr 2 0,.ptr 3 0],.str [112,101,114,109],.func (.func 122) [] [.ptr 4 0,.ptr 2 0,.ptr 3 0],.str [108,105,110,107],.func (.func 123) [] [.ptr 4 0,.ptr 2 0,.ptr 3 0],.str [98,117,114,97,117],.func (.func 125) [] [.ptr 4 0,.ptr 2 0,.ptr 3 0],.str [102,111,114,109],.func (.func 131) [] [.ptr 4 0,.ptr 2 0,.ptr 3 0]]::(kC a (kC b (kAB n [])))) [0,1,2,3,4] [.fslice 5 [.str [101,120,112,111,110,101,110,116],.func (.func 121) [] [.fptr [vl encI a] 0,.fptr [vl encI b] 0],.str [112,101,114,109],.func (.func 122) [] [.fptr [.i n] 0,.fptr [vl encI a] 0,.fptr [vl encI b] 0],.str [108,105,110,107],.func (.func 123) [] [.fptr [.i n] 0,.fptr [vl encI a] 0,.fptr [vl encI b] 0],.str [98,117,114,97,117],.func (.func 125) [] [.fptr [.i n] 0,.fptr [vl encI a] 0,.fptr [vl encI b] 0],.str [102,111,114,109],.func (.func 131) [] [.fptr [.i n] 0,.fptr [vl encI a] 0,.fptr [vl encI b] 0]],.func (.func 56) [] [.fptr [.str kind] 0]] (.i d)) (vL (FzL.cons (Fz.lit rfl rfl (FzL.cons (Uc tS) (FzL.cons (Fz.func FzL.nil (FzL.cons (Fz.ptr rfl rfl (FzL.cons (Uc (qy encI _ (nl rfl))) FzL.nil)) (FzL.cons (Fz.ptr rfl rfl (FzL.cons (Uc (qy encI _ (nl rfl))) FzL.nil)) FzL.nil))) (FzL.cons (Uc tS) (FzL.cons (Fz.func FzL.nil (FzL.cons (Fz.ptr rfl rfl (FzL.cons (Uc tI) FzL.nil)) (FzL.cons (Fz.ptr rfl rfl (FzL.cons (Uc (qy encI _ (nl rfl))) FzL.nil)) (FzL.cons (Fz.ptr rfl rfl (FzL.cons (Uc (qy encI _ (nl rfl))) FzL.nil)) FzL.nil)))) (FzL.cons (Uc tS) (FzL.cons (Fz.func FzL.nil (FzL.cons (Fz.ptr rfl rfl (FzL.cons (Uc tI) FzL.nil)) (FzL.cons (Fz.ptr rfl rfl (FzL.cons (Uc (qy encI _ (nl rfl))) FzL.nil)) (FzL.cons (Fz.ptr rfl rfl (FzL.cons (Uc (qy encI _ (nl rfl))) FzL.nil)) FzL.nil)))) (FzL.cons (Uc tS) (FzL.cons (Fz.func FzL.nil (FzL.cons (Fz.ptr rfl rfl (FzL.cons (Uc tI) FzL.nil)) (FzL.cons (Fz.ptr rfl rfl (FzL.cons (Uc (qy encI _ (nl rfl))) FzL.nil)) (FzL.cons (Fz.ptr rfl rfl (FzL.cons (Uc (qy encI _ (nl rfl))) FzL.nil)) FzL.nil)))) (FzL.cons (Uc tS) (FzL.cons (Fz.func FzL.nil (FzL.cons (Fz.ptr rfl rfl (FzL.cons (Uc tI) FzL.nil)) (FzL.cons (Fz.ptr rfl rfl (FzL.cons (Uc (qy encI _ (nl rfl))) FzL.nil)) (FzL.cons (Fz.ptr rfl rfl (FzL.cons (Uc (qy encI _ (nl rfl))) FzL.nil)) FzL.nil)))) FzL.nil))))))))))) (FzL.cons (Fz.func FzL.nil (FzL.cons (Fz.ptr rfl rfl (FzL.cons (Uc tS) FzL.nil)) FzL.nil)) FzL.nil)) (qbh N [101,120,112,111,110,101,110,116] a b [112,101,114,109] n a b [108,105,110,107] n a b [98,117,114,97,117] n a b [102,111,114,109] n a b kind u) tI rfl)) az) ?_);refine sq ?_;refine sh fol [(10,.slice 1 0 5 5 2),(11,.i d),(27,.bool (decide (d<0)))] ?_;refine ihD h (fun M h=>?_) (fun M h=>?_)
 ·refine sh fol [(8,.i 13)] ?_;refine Goes.ret ?_;obtain rfl:=si h;exact(gw2 [.i 13] (Ua tI))
 refine Goes.skip ?_;refine sq ?_;obtain⟨v,c,h⟩:=bnd h;refine Goes.cut (s':=(ofG 36 (kAp v),(.cells [.str kind]:: .cells [.str [101,120,112,111,110,101,110,116],.func (.func 121) [] [.ptr 2 0,.ptr 3 0],.str [112,101,114,109],.func (.func 122) [] [.ptr 4 0,.ptr 2 0,.ptr 3 0],.str [108,105,110,107],.func (.func 123) [] [.ptr 4 0,.ptr 2 0,.ptr 3 0],.str [98,117,114,97,117],.func (.func 125) [] [.ptr 4 0,.ptr 2 0,.ptr 3 0],.str [102,111,114,109],.func (.func 131) [] [.ptr 4 0,.ptr 2 0,.ptr 3 0]]::(kC a (kC b (kAB n [])))))) ?_ ?_
 ·rcases wyD c with⟨c6,c⟩|⟨c6,c⟩
  ·obtain⟨J,w,c⟩:=bnd c;obtain⟨O,x,c⟩:=bnd c;obtain rfl:=si c;exact tr fol [2,5,7] (kAp O) (ac (hs (.done (.opt (qd ZT 89 (.slice 1 0 5 5 2) (.i d))) (.ptr 1 0)) (ixA (ot c6) (by kernel_rfl))) (ac (hs (.call 121 kAj (.cells [.str kind]:: .cells [.str [101,120,112,111,110,101,110,116],.func (.func 121) [] [.ptr 2 0,.ptr 3 0],.str [112,101,114,109],.func (.func 122) [] [.ptr 4 0,.ptr 2 0,.ptr 3 0],.str [108,105,110,107],.func (.func 123) [] [.ptr 4 0,.ptr 2 0,.ptr 3 0],.str [98,117,114,97,117],.func (.func 125) [] [.ptr 4 0,.ptr 2 0,.ptr 3 0],.str [102,111,114,109],.func (.func 131) [] [.ptr 4 0,.ptr 2 0,.ptr 3 0]]::(kC a (kC b (kAB n [])))) [2,3] [.fptr [vl encI a] 0,.fptr [vl encI b] 0] (.bool J)) (vL (FzL.cons (Fz.ptr rfl rfl (FzL.cons (Uc (qy encI _ (nl rfl))) FzL.nil)) (FzL.cons (Fz.ptr rfl rfl (FzL.cons (Uc (qy encI _ (nl rfl))) FzL.nil)) FzL.nil)) (qaI N a b w) tB rfl)) (ac (cv (qh (!J) 21 x)) az)))
  rcases wyD c with⟨K,c⟩|⟨K,c⟩
  ·obtain⟨y,e,c⟩:=bnd c;obtain⟨F,f,c⟩:=bnd c;obtain rfl:=si c;exact tr fol [2,5,7] (kAp F) (ac (hs (.done (.opt (qd ZT 89 (.slice 1 0 5 5 2) (.i d))) (.ptr 1 2)) (ixA (ot K) (by kernel_rfl))) (ac (hs (.call 122 (.ptr 4 0::kAj) (.cells [.str kind]:: .cells [.str [101,120,112,111,110,101,110,116],.func (.func 121) [] [.ptr 2 0,.ptr 3 0],.str [112,101,114,109],.func (.func 122) [] [.ptr 4 0,.ptr 2 0,.ptr 3 0],.str [108,105,110,107],.func (.func 123) [] [.ptr 4 0,.ptr 2 0,.ptr 3 0],.str [98,117,114,97,117],.func (.func 125) [] [.ptr 4 0,.ptr 2 0,.ptr 3 0],.str [102,111,114,109],.func (.func 131) [] [.ptr 4 0,.ptr 2 0,.ptr 3 0]]::(kC a (kC b (kAB n [])))) [2,3,4] [.fptr [.i n] 0,.fptr [vl encI a] 0,.fptr [vl encI b] 0] (.bool y)) (vL (FzL.cons (Fz.ptr rfl rfl (FzL.cons (Uc tI) FzL.nil)) (FzL.cons (Fz.ptr rfl rfl (FzL.cons (Uc (qy encI _ (nl rfl))) FzL.nil)) (FzL.cons (Fz.ptr rfl rfl (FzL.cons (Uc (qy encI _ (nl rfl))) FzL.nil)) FzL.nil))) (qaG N n a b e) tB rfl)) (ac (cv (qh (!y) 21 f)) az)))
  rcases wyD c with⟨z,c⟩|⟨z,c⟩
  ·obtain⟨A,g,c⟩:=bnd c;obtain⟨G,j,c⟩:=bnd c;obtain rfl:=si c;exact tr fol [2,5,7] (kAp G) (ac (hs (.done (.opt (qd ZT 89 (.slice 1 0 5 5 2) (.i d))) (.ptr 1 4)) (ixA (ot z) (by kernel_rfl))) (ac (hs (.call 123 (.ptr 4 0::kAj) (.cells [.str kind]:: .cells [.str [101,120,112,111,110,101,110,116],.func (.func 121) [] [.ptr 2 0,.ptr 3 0],.str [112,101,114,109],.func (.func 122) [] [.ptr 4 0,.ptr 2 0,.ptr 3 0],.str [108,105,110,107],.func (.func 123) [] [.ptr 4 0,.ptr 2 0,.ptr 3 0],.str [98,117,114,97,117],.func (.func 125) [] [.ptr 4 0,.ptr 2 0,.ptr 3 0],.str [102,111,114,109],.func (.func 131) [] [.ptr 4 0,.ptr 2 0,.ptr 3 0]]::(kC a (kC b (kAB n [])))) [2,3,4] [.fptr [.i n] 0,.fptr [vl encI a] 0,.fptr [vl encI b] 0] (.bool A)) (vL (FzL.cons (Fz.ptr rfl rfl (FzL.cons (Uc tI) FzL.nil)) (FzL.cons (Fz.ptr rfl rfl (FzL.cons (Uc (qy encI _ (nl rfl))) FzL.nil)) (FzL.cons (Fz.ptr rfl rfl (FzL.cons (Uc (qy encI _ (nl rfl))) FzL.nil)) FzL.nil))) (qaF N n a b g) tB rfl)) (ac (cv (qh (!A) 21 j)) az)))
  rcases wyD c with⟨B,c⟩|⟨B,c⟩
  ·obtain⟨C,k,c⟩:=bnd c;obtain⟨H,o,c⟩:=bnd c;obtain rfl:=si c;exact tr fol [2,5,7] (kAp H) (ac (hs (.done (.opt (qd ZT 89 (.slice 1 0 5 5 2) (.i d))) (.ptr 1 6)) (ixA (ot B) (by kernel_rfl))) (ac (hs (.call 125 (.ptr 4 0::kAj) (.cells [.str kind]:: .cells [.str [101,120,112,111,110,101,110,116],.func (.func 121) [] [.ptr 2 0,.ptr 3 0],.str [112,101,114,109],.func (.func 122) [] [.ptr 4 0,.ptr 2 0,.ptr 3 0],.str [108,105,110,107],.func (.func 123) [] [.ptr 4 0,.ptr 2 0,.ptr 3 0],.str [98,117,114,97,117],.func (.func 125) [] [.ptr 4 0,.ptr 2 0,.ptr 3 0],.str [102,111,114,109],.func (.func 131) [] [.ptr 4 0,.ptr 2 0,.ptr 3 0]]::(kC a (kC b (kAB n [])))) [2,3,4] [.fptr [.i n] 0,.fptr [vl encI a] 0,.fptr [vl encI b] 0] (.bool C)) (vL (FzL.cons (Fz.ptr rfl rfl (FzL.cons (Uc tI) FzL.nil)) (FzL.cons (Fz.ptr rfl rfl (FzL.cons (Uc (qy encI _ (nl rfl))) FzL.nil)) (FzL.cons (Fz.ptr rfl rfl (FzL.cons (Uc (qy encI _ (nl rfl))) FzL.nil)) FzL.nil))) (qaJ N n a b k) tB rfl)) (ac (cv (qh (!C) 21 o)) az)))
  rcases wyD c with⟨D,c⟩|⟨D,c⟩
  ·obtain⟨E,p,c⟩:=bnd c;obtain⟨I,q,c⟩:=bnd c;obtain rfl:=si c;exact tr fol [2,5,7] (kAp I) (ac (hs (.done (.opt (qd ZT 89 (.slice 1 0 5 5 2) (.i d))) (.ptr 1 8)) (ixA (ot D) (by kernel_rfl))) (ac (hs (.call 131 (.ptr 4 0::kAj) (.cells [.str kind]:: .cells [.str [101,120,112,111,110,101,110,116],.func (.func 121) [] [.ptr 2 0,.ptr 3 0],.str [112,101,114,109],.func (.func 122) [] [.ptr 4 0,.ptr 2 0,.ptr 3 0],.str [108,105,110,107],.func (.func 123) [] [.ptr 4 0,.ptr 2 0,.ptr 3 0],.str [98,117,114,97,117],.func (.func 125) [] [.ptr 4 0,.ptr 2 0,.ptr 3 0],.str [102,111,114,109],.func (.func 131) [] [.ptr 4 0,.ptr 2 0,.ptr 3 0]]::(kC a (kC b (kAB n [])))) [2,3,4] [.fptr [.i n] 0,.fptr [vl encI a] 0,.fptr [vl encI b] 0] (.bool E)) (vL (FzL.cons (Fz.ptr rfl rfl (FzL.cons (Uc tI) FzL.nil)) (FzL.cons (Fz.ptr rfl rfl (FzL.cons (Uc (qy encI _ (nl rfl))) FzL.nil)) (FzL.cons (Fz.ptr rfl rfl (FzL.cons (Uc (qy encI _ (nl rfl))) FzL.nil)) FzL.nil))) (qaH N n a b p) tB rfl)) (ac (cv (qh (!E) 21 q)) az)))
  cases c
 refine Goes.ret ?_;obtain rfl:=si h;exact(gw2 [.i v] (Ua tI))
def qbm (a:List Int):Option Bool:=
 some true
theorem qfU (a:List Int) {res:Bool} (h:qbm a=some res):qb ZT (.fn 224) [vl encI a] [] (.bool res) []:=by
 unfold qbm at h;refine Ub Tryz.func224 rfl rfl (m:=3) rfl (rs:=[.tmp 2]) rfl (l:=(kAP a [])) rfl ?_;refine sh fol [] ?_;refine sh fol [(2,.bool true)] ?_;refine Goes.ret ?_;obtain rfl:=si h;exact(gw2 [.bool true] (Ua tB))
def qbp (l:List Int):Option Bool:=
 (idx l 0).bind fun a=>
 (idx l 1).bind fun b=>
 some (decide (a=(w64 (0-b))))
theorem qgf (l:List Int) {res:Bool} (h:qbp l=some res):qb ZT (.fn 226) [vl encI l] [] (.bool res) []:=by
 unfold qbp at h;refine Ub Tryz.func226 rfl rfl (m:=11) rfl (rs:=[.tmp 2]) rfl (l:=(kAP l [])) rfl ?_;refine sh fol (kAP l []) ?_;obtain⟨c,a,h⟩:=bnd h;obtain⟨d,b,h⟩:=bnd h;refine sq (gr fol [1,2,4,5] [(2,.bool (decide (c=(w64 (0-d)))))] (ac (iv vo encI a) (ac (lv 0 ce3 encI a rfl) (ac (iv vo encI b) (ac (lv 0 ce3 encI b rfl) az)))) ?_);refine Goes.ret ?_;obtain rfl:=si h;exact(gw2 [.bool (decide (c=(w64 (0-d))))] (Ua tB))
def qas (l:List Int):Option Bool:=
 (idx l 0).bind fun a=>
 (qQ a).bind fun b=>
 (idx l 1).bind fun c=>
 (qQ c).bind fun d=>
 (qQ (w64 (b-d))).bind fun e=>
 some (decide (e>=2))
theorem qfY (l:List Int) {res:Bool} (h:qas l=some res):qb ZT (.fn 228) [vl encI l] [] (.bool res) []:=by
 unfold qas at h;refine Ub Tryz.func228 rfl rfl (m:=14) rfl (rs:=[.tmp 2]) rfl (l:=(kAP l [])) rfl ?_;refine sh fol (kAP l []) ?_;obtain⟨g,a,h⟩:=bnd h;obtain⟨i,c,h⟩:=bnd h;obtain⟨j,b,h⟩:=bnd h;obtain⟨k,d,h⟩:=bnd h;obtain⟨f,e,h⟩:=bnd h;refine sq (gr fol [1,2,3,5,6,7,9] [(2,.bool (decide (f>=2)))] (ac (iv vo encI a) (ac (lv 0 ce3 encI a rfl) (ac (cv (qp g c)) (ac (iv vo encI b) (ac (lv 0 ce3 encI b rfl) (ac (cv (qp j d)) (ac (cv (qp (w64 (i-k)) e)) az))))))) ?_);refine Goes.ret ?_;obtain rfl:=si h;exact(gw2 [.bool (decide (f>=2))] (Ua tB))
def qaw (l:List Int):Option Bool:=
 (idx l 0).bind fun a=>
 (idx l 1).bind fun b=>
 (idx l 2).bind fun h=>
 ((qQ a).bind fun i=>
 (qQ h).bind fun j=>
 if i=j then
 (qQ a).bind fun k=>
 (qQ b).bind fun m=>
 (qQ (w64 (k-m))).bind fun n=>
 if n=1 then
 (zW a).bind fun c=>
 (zW b).bind fun d=>
 if c=d then
 some true
 else
 (zW b).bind fun e=>
 (zW h).bind fun f=>
 some (decide (e=f))
 else
 some false
 else
 some false:Option Bool).bind fun g=>
 some g
theorem qhK (l:List Int) {res:Bool} (h:qaw l=some res):qb ZT (.fn 230) [vl encI l] [] (.bool res) []:=by
 unfold qaw at h;refine Ub Tryz.func230 rfl rfl (m:=43) rfl (rs:=[.tmp 2]) rfl (l:=(kAP l [])) rfl ?_;refine sh fol (kAP l []) ?_;obtain⟨k,o,h⟩:=bnd h;obtain⟨r,p,h⟩:=bnd h;obtain⟨v,q,h⟩:=bnd h;refine sq (gr fol [1,2,4,5,7,8] [(3,.i k),(4,.i r),(5,.i v)] (ac (iv vo encI o) (ac (lv 0 ce3 encI o rfl) (ac (iv vo encI p) (ac (lv 0 ce3 encI p rfl) (ac (iv vo encI q) (ac (lv 0 ce3 encI q rfl) az)))))) ?_);refine sq ?_;obtain⟨w,a,h⟩:=bnd h;refine Goes.cut (s':=(ofG 43 [(2,.bool w)],[])) ?_ ?_
 ·obtain⟨D,b,a⟩:=bnd a;obtain⟨E,c,a⟩:=bnd a;rcases wyD a with⟨c6,a⟩|⟨c6,a⟩
  ·obtain⟨x,d,a⟩:=bnd a;obtain⟨y,e,a⟩:=bnd a;obtain⟨F,f,a⟩:=bnd a;rcases wyD a with⟨n,a⟩|⟨n,a⟩
   ·obtain⟨B,g,a⟩:=bnd a;obtain⟨C,j,a⟩:=bnd a;rcases wyD a with⟨s,a⟩|⟨s,a⟩
    ·obtain rfl:=si a;exact tr fol [1,3,5,7,9,11,14,16,18,20] [(2,.bool true)] (ac (cv (qp k b)) (ac (cv (qp v c)) (ac (gw c6) (ac (cv (qp k d)) (ac (cv (qp r e)) (ac (cv (qp (w64 (x-y)) f)) (ac (gw n) (ac (cv (zT k g)) (ac (cv (zT r j)) (ac (gw s) az))))))))))
    obtain⟨z,t,a⟩:=bnd a;obtain⟨A,u,a⟩:=bnd a;obtain rfl:=si a;exact tr fol [1,3,5,7,9,11,14,16,18,20,22,24] [(2,.bool (decide (z=A)))] (ac (cv (qp k b)) (ac (cv (qp v c)) (ac (gw c6) (ac (cv (qp k d)) (ac (cv (qp r e)) (ac (cv (qp (w64 (x-y)) f)) (ac (gw n) (ac (cv (zT k g)) (ac (cv (zT r j)) (ac (gw s) (ac (cv (zT r t)) (ac (cv (zT v u)) az))))))))))))
   obtain rfl:=si a;exact tr fol [1,3,5,7,9,11,14] [(2,.bool false)] (ac (cv (qp k b)) (ac (cv (qp v c)) (ac (gw c6) (ac (cv (qp k d)) (ac (cv (qp r e)) (ac (cv (qp (w64 (x-y)) f)) (ac (gw n) az)))))))
  obtain rfl:=si a;exact tr fol [1,3,5] [(2,.bool false)] (ac (cv (qp k b)) (ac (cv (qp v c)) (ac (gw c6) az)))
 refine Goes.ret ?_;obtain rfl:=si h;exact(gw2 [.bool w] (Ua tB))
def qat:Option Unit:=
 some ()
theorem qaq {res:Unit} (h:qat=some res):qb ZT (.fn 172) [] [] (fm1) []:=by
 unfold qat at h;refine Ub Tryz.func172 rfl rfl (m:=7) rfl (rs:=[.tmp 0]) rfl (l:=[]) rfl ?_;refine sh fol [] ?_;refine sg fol [(0,.map 0)] [.map kAq [.agg [.i 0,.func (.func 224) [] [],.func (.func 225) [] []],.agg [.i 2,.func (.func 226) [] [],.func (.func 227) [] []],.agg [.i 2,.func (.func 228) [] [],.func (.func 229) [] []],.agg [.i 3,.func (.func 230) [] [],.func (.func 231) [] []]]] ?_;refine Goes.ret ?_;obtain rfl:=si h;exact(gw2 [.map 0] (FzW.of (by kernel_rfl)))
def qak (a:List Int) (b:Str) (c:Int) (d:Int):Option Unit:=
 some ()
theorem qeH (d:List Int) (b:Str) (c:Int) (a:Int) (h:qak d b c a=some ()):qb ZT (.fn 225) (vl encI d::(kAX b c a)) [] (.slice 0 0 2 2 1) (kW a (w64 (0-a)) []):=by
 unfold qak at h;refine Ug Tryz.func225 rfl rfl (m:=11) rfl (rs:=[.tmp 4]) rfl (l:=(kAP d (kA1 b c a))) rfl ?_;intro B hB;refine sg fol [(3,.ptr 0 0)] (kG b c a []) ?_;refine sg fol [(4,.slice 1 0 2 2 1)] (kG b c a (kW a (w64 (0-a)) [])) ?_;refine Goes.ret ?_;exact(gh2 [.slice 1 0 2 2 1] (Sub.norm [] [some 1] (by rw[hB];rfl) rfl (.keep (.slice rfl) .nil) (.kb rfl (.same sn) .nil)))
def qah (a:List Int) (b:Str) (c:Int) (d:Int):Option Unit:=
 some ()
theorem qen (d:List Int) (a:Str) (b:Int) (c:Int) (h:qah d a b c=some ()):qb ZT (.fn 227) (vl encI d::(kAX a b c)) [] (.nilslice) []:=by
 unfold qah at h;refine Ug Tryz.func227 rfl rfl (m:=5) rfl (rs:=[.tmp 4]) rfl (l:=(kAP d (kA1 a b c))) rfl ?_;intro B hB;refine sg fol [] (kG a b c []) ?_;refine sh fol [(4,.nilslice)] ?_;refine Goes.ret ?_;exact(gh2 [.nilslice] (Sub.norm [] [] (by rw[hB];rfl) rfl (.keep (.same (qA.nilslice)) .nil) .nil))
def qaj (a:List Int) (b:Str) (c:Int) (d:Int):Option (Int×Int):=
 (idx a 1).bind fun e=>
 (idx a 0).bind fun f=>
 some (e,f)
theorem qej (d:List Int) (a:Str) (b:Int) (c:Int) {g:Int} {i:Int} (h:qaj d a b c=some (g,i)):qb ZT (.fn 229) (vl encI d::(kAX a b c)) [] (.slice 0 0 2 2 1) (kW g i []):=by
 unfold qaj at h;refine Ug Tryz.func229 rfl rfl (m:=12) rfl (rs:=[.tmp 4]) rfl (l:=(kAP d (kA1 a b c))) rfl ?_;intro B hB;refine sg fol (kAP d []) (kG a b c []) ?_;obtain⟨j,e,h⟩:=bnd h;obtain⟨k,f,h⟩:=bnd h;refine sq (gq fol [1,2,4,5] [(4,.slice 1 0 2 2 1)] (kG a b c (kW j k [])) (ac (iv vo encI e) (ac (lv 0 ce3 encI e rfl) (ac (iv vo encI f) (ac (lv 0 ce3 encI f rfl) az)))) ?_);refine Goes.ret ?_;simp only[ZI,ZP]at h;obtain⟨rfl,rfl⟩:=h;exact(gh2 [.slice 1 0 2 2 1] (Sub.norm [] [some 1] (by rw[hB];rfl) rfl (.keep (.slice rfl) .nil) (.kb rfl (.same sn) .nil)))
def xR (a:List Int) (g:Str) (h:Int) (i:Int):Option (List Int):=
 (idx a 0).bind fun c=>
 (idx a 1).bind fun b=>
 (idx a 2).bind fun f=>
 (zW c).bind fun j=>
 (zW b).bind fun k=>
 if j=k then
 (zW f).bind fun l=>
 (qQ b).bind fun m=>
 some ([w64 (l*m),c,b]:List Int)
 else
 (zW c).bind fun d=>
 (qQ b).bind fun e=>
 some ([b,f,w64 (d*e)]:List Int)
theorem qfx (d:List Int) (a:Str) (b:Int) (c:Int) {w:List Int} (h:xR d a b c=some w):qb ZT (.fn 231) (vl encI d::(kAX a b c)) [] (vl encI w) []:=by
 unfold xR at h;refine Ug Tryz.func231 rfl rfl (m:=38) rfl (rs:=[.tmp 4]) rfl (l:=(kAP d (kA1 a b c))) rfl ?_;intro B hB;refine sg fol (kAP d []) (kG a b c []) ?_;obtain⟨o,e,h⟩:=bnd h;obtain⟨j,f,h⟩:=bnd h;obtain⟨t,g,h⟩:=bnd h;refine sq (gr fol [1,2,4,5,7,8] ((5,.i o)::(kA8 j t [])) (ac (iv vo encI e) (ac (lv 0 ce3 encI e rfl) (ac (iv vo encI f) (ac (lv 0 ce3 encI f rfl) (ac (iv vo encI g) (ac (lv 0 ce3 encI g rfl) az)))))) ?_);refine sq ?_;obtain⟨x,p,h⟩:=bnd h;obtain⟨y,q,h⟩:=bnd h;refine sq (gr fol [1,3] ((5,.i o)::(kA8 j t [(21,.bool (decide (x=y)))])) (ac (cv (zT o p)) (ac (cv (zT j q)) az)) ?_);refine ihD h (fun z h=>?_) (fun z h=>?_)
 ·obtain⟨A,r,h⟩:=bnd h;obtain⟨C,s,h⟩:=bnd h;refine sq (gq fol [1,3] [(4,.slice 1 0 3 3 1)] (kG a b c [.cells [.i (w64 (A*C)),.i o,.i j]]) (ac (cv (zT t r)) (ac (cv (qp j s)) az)) ?_);refine Goes.ret ?_;obtain rfl:=si h;exact(gh2 [.slice 1 0 3 3 1] (Sub.norm [1] [] (by rw[hB];rfl) rfl (.keep (.frz (Fz.lit rfl rfl (Uh (AllST.cons tI (AllST.cons tI (AllST.cons tI AllST.nil))))) (qf encI _)) .nil) .nil))
 refine Goes.skip ?_;obtain⟨u,k,h⟩:=bnd h;obtain⟨v,n,h⟩:=bnd h;refine sq (gq fol [3,5] [(4,.slice 1 0 3 3 1)] (kG a b c [.cells [.i j,.i t,.i (w64 (u*v))]]) (ac (cv (zT o k)) (ac (cv (qp j n)) az)) ?_);refine Goes.ret ?_;obtain rfl:=si h;exact(gh2 [.slice 1 0 3 3 1] (Sub.norm [1] [] (by rw[hB];rfl) rfl (.keep (.frz (Fz.lit rfl rfl (Uh (AllST.cons tI (AllST.cons tI (AllST.cons tI AllST.nil))))) (qf encI _)) .nil) .nil))
def zK (N:Nat) (n:Int) (w:List Int) (m:qG):Option ((List Int)×Int):=
 (qat).bind fun r1=>
 if(m.Kind==[105,110,115,101,114,116])=true then
 ((qx false 13).bind fun K=>
 (qx false 1).bind fun L=>
 (xX n m.Letter).bind fun r8=>
 (qx r8 3).bind fun M=>
 if m.At<0 then
 (qx true 3).bind fun r=>
 (ky N ([K,L,M,r]:List Int)).bind fun O=>
 some (K,L,M,r,O)
 else
 (qx (decide (m.At>(w64 ((w.length:Int)-0)))) 3).bind fun s=>
 (ky N ([K,L,M,s]:List Int)).bind fun P=>
 some (K,L,M,s,P):Option (Int×Int×Int×Int×Int)).bind fun(n15,n16,n17,n18,t)=>
 if(!decide (t=0))=true then
 some ([],t)
 else
 (cut w m.At (w64 (m.At+0))).bind fun u=>
 (qbm u).bind fun Q=>
 if(!Q)=true then
 some ([],18)
 else
 (qdh w).bind fun _=>
 (qak u m.Kind m.At m.Letter).bind fun _=>
 (qgT w m.At (w64 (m.At+0)) m.Letter (w64 (0-m.Letter))).bind fun U=>
 some (U,0)
 else
 if(m.Kind==[99,97,110,99,101,108])=true then
 ((qx false 13).bind fun b=>
 (qx (!decide (m.Letter=0)) 1).bind fun c=>
 (qx false 3).bind fun d=>
 if m.At<0 then
 (qx true 3).bind fun v=>
 (ky N ([b,c,d,v]:List Int)).bind fun V=>
 some (b,c,d,v,V)
 else
 (qx (decide (m.At>(w64 ((w.length:Int)-2)))) 3).bind fun x=>
 (ky N ([b,c,d,x]:List Int)).bind fun X=>
 some (b,c,d,x,X):Option (Int×Int×Int×Int×Int)).bind fun(n37,n38,n39,n40,y)=>
 if(!decide (y=0))=true then
 some ([],y)
 else
 (cut w m.At (w64 (m.At+2))).bind fun z=>
 (qbp z).bind fun Y=>
 if(!Y)=true then
 some ([],18)
 else
 (qdh w).bind fun _=>
 (qah z m.Kind m.At m.Letter).bind fun _=>
 (ql9 w m.At (w64 (m.At+2))).bind fun Z=>
 some (Z,0)
 else
 if(m.Kind==[115,119,97,112])=true then
 ((qx false 13).bind fun e=>
 (qx (!decide (m.Letter=0)) 1).bind fun f=>
 (qx false 3).bind fun g=>
 if m.At<0 then
 (qx true 3).bind fun A=>
 (ky N ([e,f,g,A]:List Int)).bind fun a0=>
 some (e,f,g,A,a0)
 else
 (qx (decide (m.At>(w64 ((w.length:Int)-2)))) 3).bind fun B=>
 (ky N ([e,f,g,B]:List Int)).bind fun a1=>
 some (e,f,g,B,a1):Option (Int×Int×Int×Int×Int)).bind fun(n59,n60,n61,n62,C)=>
 if(!decide (C=0))=true then
 some ([],C)
 else
 (cut w m.At (w64 (m.At+2))).bind fun D=>
 (qas D).bind fun a2=>
 if(!a2)=true then
 some ([],18)
 else
 (qdh w).bind fun _=>
 (qaj D m.Kind m.At m.Letter).bind fun(a3,a4)=>
 (qgT w m.At (w64 (m.At+2)) a3 a4).bind fun a5=>
 some (a5,0)
 else
 if(m.Kind==[116,117,114,110])=true then
 ((qx false 13).bind fun h=>
 (qx (!decide (m.Letter=0)) 1).bind fun i=>
 (qx false 3).bind fun j=>
 if m.At<0 then
 (qx true 3).bind fun E=>
 (ky N ([h,i,j,E]:List Int)).bind fun a6=>
 some (h,i,j,E,a6)
 else
 (qx (decide (m.At>(w64 ((w.length:Int)-3)))) 3).bind fun F=>
 (ky N ([h,i,j,F]:List Int)).bind fun a7=>
 some (h,i,j,F,a7):Option (Int×Int×Int×Int×Int)).bind fun(n83,n84,n85,n86,G)=>
 if(!decide (G=0))=true then
 some ([],G)
 else
 (cut w m.At (w64 (m.At+3))).bind fun H=>
 (qaw H).bind fun a8=>
 if(!a8)=true then
 some ([],18)
 else
 (qdh w).bind fun _=>
 (xR H m.Kind m.At m.Letter).bind fun a9=>
 (qlr w m.At (w64 (m.At+3)) a9).bind fun b0=>
 some (b0,0)
 else
 ((qx true 13).bind fun k=>
 (qx (!decide (m.Letter=0)) 1).bind fun l=>
 (qx false 3).bind fun a=>
 if m.At<0 then
 (qx true 3).bind fun o=>
 (ky N ([k,l,a,o]:List Int)).bind fun I=>
 some (k,l,a,o,I)
 else
 (qx (decide (m.At>(w64 ((w.length:Int)-0)))) 3).bind fun p=>
 (ky N ([k,l,a,p]:List Int)).bind fun J=>
 some (k,l,a,p,J):Option (Int×Int×Int×Int×Int)).bind fun(b1,b2,b3,b4,q)=>
 if(!decide (q=0))=true then
 some ([],q)
 else
 (cut w m.At (w64 (m.At+0))).bind fun b5=>
 none
theorem qcS (N:Nat) (n:Int) (w:List Int) (m:qG) {res:(List Int)×Int} (h:zK N n w m=some res):qb ZT (.fn 105) (.i n::vl encI w::(kAX m.Kind m.At m.Letter)) [] (.tuple [vl encI res.1,.i res.2]) []:=by
 unfold zK at h;refine Ub Tryz.func105 rfl rfl (m:=90) rfl (rs:=[.tmp 6,.tmp 7]) rfl (l:=(kE n w [(2,.agg [.str m.Kind,.i m.At,.i m.Letter])])) rfl ?_;refine sg fol (kE n w (kAr [])) (kG m.Kind m.At m.Letter []) ?_;refine sq ?_;obtain⟨r1,j,h⟩:=bnd h;rcases wyB h with⟨f,h⟩|⟨f,h⟩
 ·refine gq fol [0,3] (kE n w (kAM [])) (kG m.Kind m.At m.Letter [.cells [.i 0,.func (.func 224) [] [],.func (.func 225) [] []]]) (ac (cv (qaq j)) (ac (hs (.done (qaW ZT 205 (fm1) (.str m.Kind) true) (.tuple [.agg [.i 0,.func (.func 224) [] [],.func (.func 225) [] []],.bool true])) (qkt qlD [[105,110,115,101,114,116],[99,97,110,99,101,108],[115,119,97,112],[116,117,114,110]] (qeY f) rfl)) az)) ?_;refine sh fol (kE n w (kAM (kA9 (m.Kind==[105,110,115,101,114,116])))) ?_;refine sq ?_;refine sq ?_;obtain⟨⟨k,o,p,q,a3⟩,b,h⟩:=bnd h;refine Goes.cut (s':=(ofG 90 (kN w (kBA a3)),(kG m.Kind m.At m.Letter (.cells [.i 0,.func (.func 224) [] [],.func (.func 225) [] []]::(kP k o p q []))))) ?_ ?_
  ·obtain⟨r6,e_r6,b⟩:=bnd b;obtain⟨r7,e_r7,b⟩:=bnd b;obtain⟨r8,e_r8,b⟩:=bnd b;obtain⟨r9,e_r9,b⟩:=bnd b;rcases wyD b with⟨c10,b⟩|⟨c10,b⟩
   ·obtain⟨d0,e_r11,b⟩:=bnd b;obtain⟨r12,e_r12,b⟩:=bnd b;simp only[ZI,ZP]at b;obtain⟨rfl,rfl,rfl,rfl,rfl⟩:=b;exact vV.rq fol [2,5,10,12,16,18,22,32,34] (kN w (kBA r12)) (kG m.Kind m.At m.Letter (.cells [.i 0,.func (.func 224) [] [],.func (.func 225) [] []]::(kP r6 r7 r9 d0 []))) (ac (cv (qh false 13 e_r6)) (ac (gw (congrArg not f)) (ac (cv (qh false 1 e_r7)) (ac (gw f) (ac (cv (qbC n m.Letter e_r8)) (ac (cv (qh r8 3 e_r9)) (ac (gw c10) (ac (cv (qh true 3 e_r11)) (ac (hs (.call 62 [.slice 2 0 4 4 1] (kG m.Kind m.At m.Letter (.cells [.i 0,.func (.func 224) [] [],.func (.func 225) [] []]::(kP r6 r7 r9 d0 []))) [2] [vl encI ([r6,r7,r9,d0]:List Int)] (.i r12)) (vL (FzL.cons (Fz.lit rfl rfl (Uh (AllST.cons tI (AllST.cons tI (AllST.cons tI (AllST.cons tI AllST.nil)))))) FzL.nil) (zm N ([r6,r7,r9,d0]:List Int) e_r12) tI rfl)) az)))))))))
   obtain⟨d1,e_r13,b⟩:=bnd b;obtain⟨r14,e_r14,b⟩:=bnd b;simp only[ZI,ZP]at b;obtain⟨rfl,rfl,rfl,rfl,rfl⟩:=b;exact vV.rq fol [2,5,10,12,16,18,22,32,34] (kN w (kBA r14)) (kG m.Kind m.At m.Letter (.cells [.i 0,.func (.func 224) [] [],.func (.func 225) [] []]::(kP r6 r7 r9 d1 []))) (ac (cv (qh false 13 e_r6)) (ac (gw (congrArg not f)) (ac (cv (qh false 1 e_r7)) (ac (gw f) (ac (cv (qbC n m.Letter e_r8)) (ac (cv (qh r8 3 e_r9)) (ac (gw c10) (ac (cv (qh (decide (m.At>(w64 ((w.length:Int)-0)))) 3 e_r13)) (ac (hs (.call 62 [.slice 2 0 4 4 1] (kG m.Kind m.At m.Letter (.cells [.i 0,.func (.func 224) [] [],.func (.func 225) [] []]::(kP r6 r7 r9 d1 []))) [2] [vl encI ([r6,r7,r9,d1]:List Int)] (.i r14)) (vL (FzL.cons (Fz.lit rfl rfl (Uh (AllST.cons tI (AllST.cons tI (AllST.cons tI (AllST.cons tI AllST.nil)))))) FzL.nil) (zm N ([r6,r7,r9,d1]:List Int) e_r14) tI rfl)) az)))))))))
  try dsimp only at h
  refine sh fol (kN w [(11,.i a3),(59,.bool (!decide (a3=0)))]) ?_;refine ihB h (fun c21 h=>?_) (fun c21 h=>?_)
  ·refine sh fol (kAw a3) ?_;refine Goes.ret ?_;obtain rfl:=si h;exact(gw2 [.nilslice,.i a3] (FzW.tuple (ql.cons (FzW.nilv (E:=encI)) (ql.cons (Ua tI) ql.nil))))
  refine Goes.skip ?_;obtain⟨Z,e_s22,h⟩:=bnd h;refine sq (gr fol [8] (kN w [(12,vl encI Z)]) (ac (hs (.done (.opt (qaO ZT 22 (vl encI w) (some (.i m.At)) (some (.i (w64 (m.At+0)))) none)) (vl encI Z)) (qlh vo (E:=encI) rfl (some m.At) (some (w64 (m.At+0))) e_s22)) az) ?_);refine sq ?_;obtain⟨r23,e_r23,h⟩:=bnd h;refine sq (gr fol [3] (kN w [(12,vl encI Z),(74,.bool (!r23))]) (ac (cv (qfU Z e_r23)) az) ?_);refine ihB h (fun c24 h=>?_) (fun c24 h=>?_)
  ·refine sh fol kBK ?_;refine Goes.ret ?_;obtain rfl:=si h;exact(gw2 [.nilslice,.i 18] (FzW.tuple (ql.cons (FzW.nilv (E:=encI)) (ql.cons (Ua tI) ql.nil))))
  refine Goes.skip ?_;obtain⟨_,e_r25,h⟩:=bnd h;obtain⟨_,e_r26,h⟩:=bnd h;obtain⟨a4,e_r27,h⟩:=bnd h;refine sq (gq fol [1,13,14] ((6,.oslice 5 a4.length 1)::kBG) (kG m.Kind m.At m.Letter (.cells [.i 0,.func (.func 224) [] [],.func (.func 225) [] []]::(kP k o p q (.dead::(kW m.Letter (w64 (0-m.Letter)) (kA a4 [])))))) (ac (hs (.callH 65 [vl encI w] (kG m.Kind m.At m.Letter (.cells [.i 0,.func (.func 224) [] [],.func (.func 225) [] []]::(kP k o p q []))) [] (.gslice 3 w.length 1) (kG m.Kind m.At m.Letter (.cells [.i 0,.func (.func 224) [] [],.func (.func 225) [] []]::(kP k o p q (kA w []))))) (zG [] [none,none,none,some 0] (qcB w e_r25) .nil rfl rfl (.old rfl rfl (.old rfl rfl (.old rfl rfl (.new rfl rfl (.same fa) rfl .nil)))) (rc (.same (qf encI _)) rn) (.gslice rfl) rfl)) (ac (hs (.callH 225 (vl encI Z::(kAX m.Kind m.At m.Letter)) (kG m.Kind m.At m.Letter (.cells [.i 0,.func (.func 224) [] [],.func (.func 225) [] []]::(kP k o p q (kA w [])))) [] (.slice 4 0 2 2 1) (kG m.Kind m.At m.Letter (.cells [.i 0,.func (.func 224) [] [],.func (.func 225) [] []]::(kP k o p q (kA w (kW m.Letter (w64 (0-m.Letter)) [])))))) (zG [] [none,none,none,none,some 0] (qeH Z m.Kind m.At m.Letter e_r26) .nil rfl rfl (.old rfl rfl (.old rfl rfl (.old rfl rfl (.old rfl rfl (.new rfl rfl (.cells (rc (.same nI) (rc (.same nI) rn))) rfl .nil))))) (rc (.same (qf encI _)) (rc (.same (qA.agg sn)) rn)) (.slice rfl) rfl)) (ac (hs (.callH 173 [.gslice 3 w.length 1,.i m.At,.i (w64 (m.At+0)),.slice 4 0 2 2 1] (kG m.Kind m.At m.Letter (.cells [.i 0,.func (.func 224) [] [],.func (.func 225) [] []]::(kP k o p q (kA w (kW m.Letter (w64 (0-m.Letter)) []))))) [3,4] (.oslice 5 a4.length 1) (kG m.Kind m.At m.Letter (.cells [.i 0,.func (.func 224) [] [],.func (.func 225) [] []]::(kP k o p q (.dead::(kW m.Letter (w64 (0-m.Letter)) (kA a4 []))))))) (zG [some 3,some 4] [none,none,none,none,some 1,some 2] (qmd w m.At (w64 (m.At+0)) m.Letter (w64 (0-m.Letter)) e_r27) (.ks (.kb rfl (.cells (rc (.same nI) (rc (.same nI) rn))) .nil)) rfl rfl (.old rfl rfl (.old rfl rfl (.old rfl rfl (.dead (.back rfl rfl (.cells (rc (.same nI) (rc (.same nI) rn))) rfl (.new rfl rfl (.same fa) rfl .nil)))))) (rc (.gslice rfl) (rc (.same nI) (rc (.same nI) (rc (.slice rfl) rn)))) (.oslice rfl) rfl)) az))) ?_);refine Goes.ret ?_;obtain rfl:=si h;exact(gw2 [.oslice 5 a4.length 1,.i 0] (FzW.tuple (ql.cons (Ut (Fz.os (E:=encI) rfl rfl (nl rfl))) (ql.cons (Ua tI) ql.nil))))
 rcases wyB h with⟨c3,h⟩|⟨c3,h⟩
 ·refine gq fol [0,3] (kE n w (kAM [])) (kG m.Kind m.At m.Letter [.cells [.i 2,.func (.func 226) [] [],.func (.func 227) [] []]]) (ac (cv (qaq j)) (ac (hs (.done (qaW ZT 205 (fm1) (.str m.Kind) true) (.tuple [.agg [.i 2,.func (.func 226) [] [],.func (.func 227) [] []],.bool true])) (qkt qlD [[105,110,115,101,114,116],[99,97,110,99,101,108],[115,119,97,112],[116,117,114,110]] (yY f (qeY c3)) rfl)) az)) ?_;refine sh fol (kE n w (kAM (kA9 (m.Kind==[105,110,115,101,114,116])))) ?_;refine sq ?_;refine sq ?_;obtain⟨⟨r,s,t,u,a5⟩,c,h⟩:=bnd h;refine Goes.cut (s':=(ofG 90 (kN w (kBA a5)),(kG m.Kind m.At m.Letter (.cells [.i 2,.func (.func 226) [] [],.func (.func 227) [] []]::(kP r s t u []))))) ?_ ?_
  ·obtain⟨v,a6,c⟩:=bnd c;obtain⟨x,a7,c⟩:=bnd c;obtain⟨y,a8,c⟩:=bnd c;rcases wyD c with⟨c32,c⟩|⟨c32,c⟩
   ·obtain⟨d2,e_r33,c⟩:=bnd c;obtain⟨r34,e_r34,c⟩:=bnd c;simp only[ZI,ZP]at c;obtain⟨rfl,rfl,rfl,rfl,rfl⟩:=c;exact vV.rq fol [2,5,10,12,18,22,32,34] (kN w (kBA r34)) (kG m.Kind m.At m.Letter (.cells [.i 2,.func (.func 226) [] [],.func (.func 227) [] []]::(kP v x y d2 []))) (ac (cv (qh false 13 a6)) (ac (gw (congrArg not f)) (ac (cv (qh (!decide (m.Letter=0)) 1 a7)) (ac (gw f) (ac (cv (qh false 3 a8)) (ac (gw c32) (ac (cv (qh true 3 e_r33)) (ac (hs (.call 62 [.slice 2 0 4 4 1] (kG m.Kind m.At m.Letter (.cells [.i 2,.func (.func 226) [] [],.func (.func 227) [] []]::(kP v x y d2 []))) [2] [vl encI ([v,x,y,d2]:List Int)] (.i r34)) (vL (FzL.cons (Fz.lit rfl rfl (Uh (AllST.cons tI (AllST.cons tI (AllST.cons tI (AllST.cons tI AllST.nil)))))) FzL.nil) (zm N ([v,x,y,d2]:List Int) e_r34) tI rfl)) az))))))))
   obtain⟨d3,e_r35,c⟩:=bnd c;obtain⟨r36,e_r36,c⟩:=bnd c;simp only[ZI,ZP]at c;obtain⟨rfl,rfl,rfl,rfl,rfl⟩:=c;exact vV.rq fol [2,5,10,12,18,22,32,34] (kN w (kBA r36)) (kG m.Kind m.At m.Letter (.cells [.i 2,.func (.func 226) [] [],.func (.func 227) [] []]::(kP v x y d3 []))) (ac (cv (qh false 13 a6)) (ac (gw (congrArg not f)) (ac (cv (qh (!decide (m.Letter=0)) 1 a7)) (ac (gw f) (ac (cv (qh false 3 a8)) (ac (gw c32) (ac (cv (qh (decide (m.At>(w64 ((w.length:Int)-2)))) 3 e_r35)) (ac (hs (.call 62 [.slice 2 0 4 4 1] (kG m.Kind m.At m.Letter (.cells [.i 2,.func (.func 226) [] [],.func (.func 227) [] []]::(kP v x y d3 []))) [2] [vl encI ([v,x,y,d3]:List Int)] (.i r36)) (vL (FzL.cons (Fz.lit rfl rfl (Uh (AllST.cons tI (AllST.cons tI (AllST.cons tI (AllST.cons tI AllST.nil)))))) FzL.nil) (zm N ([v,x,y,d3]:List Int) e_r36) tI rfl)) az))))))))
  try dsimp only at h
  refine sh fol (kN w [(11,.i a5),(59,.bool (!decide (a5=0)))]) ?_;refine ihB h (fun c43 h=>?_) (fun c43 h=>?_)
  ·refine sh fol (kAw a5) ?_;refine Goes.ret ?_;obtain rfl:=si h;exact(gw2 [.nilslice,.i a5] (FzW.tuple (ql.cons (FzW.nilv (E:=encI)) (ql.cons (Ua tI) ql.nil))))
  refine Goes.skip ?_;obtain⟨a0,e_s44,h⟩:=bnd h;refine sq (gr fol [8] (kN w [(12,vl encI a0)]) (ac (hs (.done (.opt (qaO ZT 22 (vl encI w) (some (.i m.At)) (some (.i (w64 (m.At+2)))) none)) (vl encI a0)) (qlh vo (E:=encI) rfl (some m.At) (some (w64 (m.At+2))) e_s44)) az) ?_);refine sq ?_;obtain⟨r45,e_r45,h⟩:=bnd h;refine sq (gr fol [3] (kN w [(12,vl encI a0),(74,.bool (!r45))]) (ac (cv (qgf a0 e_r45)) az) ?_);refine ihB h (fun c46 h=>?_) (fun c46 h=>?_)
  ·refine sh fol kBK ?_;refine Goes.ret ?_;obtain rfl:=si h;exact(gw2 [.nilslice,.i 18] (FzW.tuple (ql.cons (FzW.nilv (E:=encI)) (ql.cons (Ua tI) ql.nil))))
  refine Goes.skip ?_;obtain⟨_,e_r47,h⟩:=bnd h;obtain⟨_,e_r48,h⟩:=bnd h;obtain⟨a9,e_r49,h⟩:=bnd h;refine sq (gq fol [1,13,14] ((6,.oslice 4 a9.length 1)::kBG) (kG m.Kind m.At m.Letter (.cells [.i 2,.func (.func 226) [] [],.func (.func 227) [] []]::(kP r s t u (.dead::(kA a9 []))))) (ac (hs (.callH 65 [vl encI w] (kG m.Kind m.At m.Letter (.cells [.i 2,.func (.func 226) [] [],.func (.func 227) [] []]::(kP r s t u []))) [] (.gslice 3 w.length 1) (kG m.Kind m.At m.Letter (.cells [.i 2,.func (.func 226) [] [],.func (.func 227) [] []]::(kP r s t u (kA w []))))) (zG [] [none,none,none,some 0] (qcB w e_r47) .nil rfl rfl (.old rfl rfl (.old rfl rfl (.old rfl rfl (.new rfl rfl (.same fa) rfl .nil)))) (rc (.same (qf encI _)) rn) (.gslice rfl) rfl)) (ac (hs (.callH 227 (vl encI a0::(kAX m.Kind m.At m.Letter)) (kG m.Kind m.At m.Letter (.cells [.i 2,.func (.func 226) [] [],.func (.func 227) [] []]::(kP r s t u (kA w [])))) [] .nilslice (kG m.Kind m.At m.Letter (.cells [.i 2,.func (.func 226) [] [],.func (.func 227) [] []]::(kP r s t u (kA w []))))) (zG [] [none,none,none,none] (qen a0 m.Kind m.At m.Letter e_r48) .nil rfl rfl (.old rfl rfl (.old rfl rfl (.old rfl rfl (.old rfl rfl .nil)))) (rc (.same (qf encI _)) (rc (.same (qA.agg sn)) rn)) (.same (qA.nilslice)) rfl)) (ac (hs (.callH 173 [.gslice 3 w.length 1,.i m.At,.i (w64 (m.At+2)),.nilslice] (kG m.Kind m.At m.Letter (.cells [.i 2,.func (.func 226) [] [],.func (.func 227) [] []]::(kP r s t u (kA w [])))) [3] (.oslice 4 a9.length 1) (kG m.Kind m.At m.Letter (.cells [.i 2,.func (.func 226) [] [],.func (.func 227) [] []]::(kP r s t u (.dead::(kA a9 [])))))) (zG [some 3] [none,none,none,none,some 1] (qqt w m.At (w64 (m.At+2)) e_r49) (.ks .nil) rfl rfl (.old rfl rfl (.old rfl rfl (.old rfl rfl (.dead (.new rfl rfl (.same fa) rfl .nil))))) (rc (.gslice rfl) (rc (.same nI) (rc (.same nI) (rc (.same (qA.nilslice)) rn)))) (.oslice rfl) rfl)) az))) ?_);refine Goes.ret ?_;obtain rfl:=si h;exact(gw2 [.oslice 4 a9.length 1,.i 0] (FzW.tuple (ql.cons (Ut (Fz.os (E:=encI) rfl rfl (nl rfl))) (ql.cons (Ua tI) ql.nil))))
 rcases wyB h with⟨c4,h⟩|⟨c4,h⟩
 ·refine gq fol [0,3] (kE n w (kAM [])) (kG m.Kind m.At m.Letter [.cells [.i 2,.func (.func 228) [] [],.func (.func 229) [] []]]) (ac (cv (qaq j)) (ac (hs (.done (qaW ZT 205 (fm1) (.str m.Kind) true) (.tuple [.agg [.i 2,.func (.func 228) [] [],.func (.func 229) [] []],.bool true])) (qkt qlD [[105,110,115,101,114,116],[99,97,110,99,101,108],[115,119,97,112],[116,117,114,110]] (yY f (yY c3 (qeY c4))) rfl)) az)) ?_;refine sh fol (kE n w (kAM (kA9 (m.Kind==[105,110,115,101,114,116])))) ?_;refine sq ?_;refine sq ?_;obtain⟨⟨z,A,B,C,b0⟩,d,h⟩:=bnd h;refine Goes.cut (s':=(ofG 90 (kN w (kBA b0)),(kG m.Kind m.At m.Letter (.cells [.i 2,.func (.func 228) [] [],.func (.func 229) [] []]::(kP z A B C []))))) ?_ ?_
  ·obtain⟨D,b1,d⟩:=bnd d;obtain⟨F,b2,d⟩:=bnd d;obtain⟨G,b3,d⟩:=bnd d;rcases wyD d with⟨c54,d⟩|⟨c54,d⟩
   ·obtain⟨d4,e_r55,d⟩:=bnd d;obtain⟨r56,e_r56,d⟩:=bnd d;simp only[ZI,ZP]at d;obtain⟨rfl,rfl,rfl,rfl,rfl⟩:=d;exact vV.rq fol [2,5,10,12,18,22,32,34] (kN w (kBA r56)) (kG m.Kind m.At m.Letter (.cells [.i 2,.func (.func 228) [] [],.func (.func 229) [] []]::(kP D F G d4 []))) (ac (cv (qh false 13 b1)) (ac (gw (congrArg not f)) (ac (cv (qh (!decide (m.Letter=0)) 1 b2)) (ac (gw f) (ac (cv (qh false 3 b3)) (ac (gw c54) (ac (cv (qh true 3 e_r55)) (ac (hs (.call 62 [.slice 2 0 4 4 1] (kG m.Kind m.At m.Letter (.cells [.i 2,.func (.func 228) [] [],.func (.func 229) [] []]::(kP D F G d4 []))) [2] [vl encI ([D,F,G,d4]:List Int)] (.i r56)) (vL (FzL.cons (Fz.lit rfl rfl (Uh (AllST.cons tI (AllST.cons tI (AllST.cons tI (AllST.cons tI AllST.nil)))))) FzL.nil) (zm N ([D,F,G,d4]:List Int) e_r56) tI rfl)) az))))))))
   obtain⟨d5,e_r57,d⟩:=bnd d;obtain⟨r58,e_r58,d⟩:=bnd d;simp only[ZI,ZP]at d;obtain⟨rfl,rfl,rfl,rfl,rfl⟩:=d;exact vV.rq fol [2,5,10,12,18,22,32,34] (kN w (kBA r58)) (kG m.Kind m.At m.Letter (.cells [.i 2,.func (.func 228) [] [],.func (.func 229) [] []]::(kP D F G d5 []))) (ac (cv (qh false 13 b1)) (ac (gw (congrArg not f)) (ac (cv (qh (!decide (m.Letter=0)) 1 b2)) (ac (gw f) (ac (cv (qh false 3 b3)) (ac (gw c54) (ac (cv (qh (decide (m.At>(w64 ((w.length:Int)-2)))) 3 e_r57)) (ac (hs (.call 62 [.slice 2 0 4 4 1] (kG m.Kind m.At m.Letter (.cells [.i 2,.func (.func 228) [] [],.func (.func 229) [] []]::(kP D F G d5 []))) [2] [vl encI ([D,F,G,d5]:List Int)] (.i r58)) (vL (FzL.cons (Fz.lit rfl rfl (Uh (AllST.cons tI (AllST.cons tI (AllST.cons tI (AllST.cons tI AllST.nil)))))) FzL.nil) (zm N ([D,F,G,d5]:List Int) e_r58) tI rfl)) az))))))))
  try dsimp only at h
  refine sh fol (kN w [(11,.i b0),(59,.bool (!decide (b0=0)))]) ?_;refine ihB h (fun c65 h=>?_) (fun c65 h=>?_)
  ·refine sh fol (kAw b0) ?_;refine Goes.ret ?_;obtain rfl:=si h;exact(gw2 [.nilslice,.i b0] (FzW.tuple (ql.cons (FzW.nilv (E:=encI)) (ql.cons (Ua tI) ql.nil))))
  refine Goes.skip ?_;obtain⟨a1,e_s66,h⟩:=bnd h;refine sq (gr fol [8] (kN w [(12,vl encI a1)]) (ac (hs (.done (.opt (qaO ZT 22 (vl encI w) (some (.i m.At)) (some (.i (w64 (m.At+2)))) none)) (vl encI a1)) (qlh vo (E:=encI) rfl (some m.At) (some (w64 (m.At+2))) e_s66)) az) ?_);refine sq ?_;obtain⟨r67,e_r67,h⟩:=bnd h;refine sq (gr fol [3] (kN w [(12,vl encI a1),(74,.bool (!r67))]) (ac (cv (qfY a1 e_r67)) az) ?_);refine ihB h (fun c68 h=>?_) (fun c68 h=>?_)
  ·refine sh fol kBK ?_;refine Goes.ret ?_;obtain rfl:=si h;exact(gw2 [.nilslice,.i 18] (FzW.tuple (ql.cons (FzW.nilv (E:=encI)) (ql.cons (Ua tI) ql.nil))))
  refine Goes.skip ?_;obtain⟨_,e_r69,h⟩:=bnd h;obtain⟨⟨b4,b5⟩,e_r70,h⟩:=bnd h
  try dsimp only at h
  obtain⟨b6,e_r73,h⟩:=bnd h;refine sq (gq fol [1,13,14] ((6,.oslice 5 b6.length 1)::kBG) (kG m.Kind m.At m.Letter (.cells [.i 2,.func (.func 228) [] [],.func (.func 229) [] []]::(kP z A B C (.dead::(kW b4 b5 (kA b6 [])))))) (ac (hs (.callH 65 [vl encI w] (kG m.Kind m.At m.Letter (.cells [.i 2,.func (.func 228) [] [],.func (.func 229) [] []]::(kP z A B C []))) [] (.gslice 3 w.length 1) (kG m.Kind m.At m.Letter (.cells [.i 2,.func (.func 228) [] [],.func (.func 229) [] []]::(kP z A B C (kA w []))))) (zG [] [none,none,none,some 0] (qcB w e_r69) .nil rfl rfl (.old rfl rfl (.old rfl rfl (.old rfl rfl (.new rfl rfl (.same fa) rfl .nil)))) (rc (.same (qf encI _)) rn) (.gslice rfl) rfl)) (ac (hs (.callH 229 (vl encI a1::(kAX m.Kind m.At m.Letter)) (kG m.Kind m.At m.Letter (.cells [.i 2,.func (.func 228) [] [],.func (.func 229) [] []]::(kP z A B C (kA w [])))) [] (.slice 4 0 2 2 1) (kG m.Kind m.At m.Letter (.cells [.i 2,.func (.func 228) [] [],.func (.func 229) [] []]::(kP z A B C (kA w (kW b4 b5 [])))))) (zG [] [none,none,none,none,some 0] (qej a1 m.Kind m.At m.Letter e_r70) .nil rfl rfl (.old rfl rfl (.old rfl rfl (.old rfl rfl (.old rfl rfl (.new rfl rfl (.cells (rc (.same nI) (rc (.same nI) rn))) rfl .nil))))) (rc (.same (qf encI _)) (rc (.same (qA.agg sn)) rn)) (.slice rfl) rfl)) (ac (hs (.callH 173 [.gslice 3 w.length 1,.i m.At,.i (w64 (m.At+2)),.slice 4 0 2 2 1] (kG m.Kind m.At m.Letter (.cells [.i 2,.func (.func 228) [] [],.func (.func 229) [] []]::(kP z A B C (kA w (kW b4 b5 []))))) [3,4] (.oslice 5 b6.length 1) (kG m.Kind m.At m.Letter (.cells [.i 2,.func (.func 228) [] [],.func (.func 229) [] []]::(kP z A B C (.dead::(kW b4 b5 (kA b6 []))))))) (zG [some 3,some 4] [none,none,none,none,some 1,some 2] (qmd w m.At (w64 (m.At+2)) b4 b5 e_r73) (.ks (.kb rfl (.cells (rc (.same nI) (rc (.same nI) rn))) .nil)) rfl rfl (.old rfl rfl (.old rfl rfl (.old rfl rfl (.dead (.back rfl rfl (.cells (rc (.same nI) (rc (.same nI) rn))) rfl (.new rfl rfl (.same fa) rfl .nil)))))) (rc (.gslice rfl) (rc (.same nI) (rc (.same nI) (rc (.slice rfl) rn)))) (.oslice rfl) rfl)) az))) ?_);refine Goes.ret ?_;obtain rfl:=si h;exact(gw2 [.oslice 5 b6.length 1,.i 0] (FzW.tuple (ql.cons (Ut (Fz.os (E:=encI) rfl rfl (nl rfl))) (ql.cons (Ua tI) ql.nil))))
 rcases wyB h with⟨c5,h⟩|⟨c5,h⟩
 ·refine gq fol [0,3] (kE n w (kAM [])) (kG m.Kind m.At m.Letter [.cells [.i 3,.func (.func 230) [] [],.func (.func 231) [] []]]) (ac (cv (qaq j)) (ac (hs (.done (qaW ZT 205 (fm1) (.str m.Kind) true) (.tuple [.agg [.i 3,.func (.func 230) [] [],.func (.func 231) [] []],.bool true])) (qkt qlD [[105,110,115,101,114,116],[99,97,110,99,101,108],[115,119,97,112],[116,117,114,110]] (yY f (yY c3 (yY c4 (qeY c5)))) rfl)) az)) ?_;refine sh fol (kE n w (kAM (kA9 (m.Kind==[105,110,115,101,114,116])))) ?_;refine sq ?_;refine sq ?_;obtain⟨⟨H,I,J,K,b7⟩,e,h⟩:=bnd h;refine Goes.cut (s':=(ofG 90 (kN w (kBA b7)),(kG m.Kind m.At m.Letter (.cells [.i 3,.func (.func 230) [] [],.func (.func 231) [] []]::(kP H I J K []))))) ?_ ?_
  ·obtain⟨L,b8,e⟩:=bnd e;obtain⟨M,b9,e⟩:=bnd e;obtain⟨O,c0,e⟩:=bnd e;rcases wyD e with⟨c78,e⟩|⟨c78,e⟩
   ·obtain⟨d6,e_r79,e⟩:=bnd e;obtain⟨r80,e_r80,e⟩:=bnd e;simp only[ZI,ZP]at e;obtain⟨rfl,rfl,rfl,rfl,rfl⟩:=e;exact vV.rq fol [2,5,10,12,18,22,32,34] (kN w (kBA r80)) (kG m.Kind m.At m.Letter (.cells [.i 3,.func (.func 230) [] [],.func (.func 231) [] []]::(kP L M O d6 []))) (ac (cv (qh false 13 b8)) (ac (gw (congrArg not f)) (ac (cv (qh (!decide (m.Letter=0)) 1 b9)) (ac (gw f) (ac (cv (qh false 3 c0)) (ac (gw c78) (ac (cv (qh true 3 e_r79)) (ac (hs (.call 62 [.slice 2 0 4 4 1] (kG m.Kind m.At m.Letter (.cells [.i 3,.func (.func 230) [] [],.func (.func 231) [] []]::(kP L M O d6 []))) [2] [vl encI ([L,M,O,d6]:List Int)] (.i r80)) (vL (FzL.cons (Fz.lit rfl rfl (Uh (AllST.cons tI (AllST.cons tI (AllST.cons tI (AllST.cons tI AllST.nil)))))) FzL.nil) (zm N ([L,M,O,d6]:List Int) e_r80) tI rfl)) az))))))))
   obtain⟨d7,e_r81,e⟩:=bnd e;obtain⟨r82,e_r82,e⟩:=bnd e;simp only[ZI,ZP]at e;obtain⟨rfl,rfl,rfl,rfl,rfl⟩:=e;exact vV.rq fol [2,5,10,12,18,22,32,34] (kN w (kBA r82)) (kG m.Kind m.At m.Letter (.cells [.i 3,.func (.func 230) [] [],.func (.func 231) [] []]::(kP L M O d7 []))) (ac (cv (qh false 13 b8)) (ac (gw (congrArg not f)) (ac (cv (qh (!decide (m.Letter=0)) 1 b9)) (ac (gw f) (ac (cv (qh false 3 c0)) (ac (gw c78) (ac (cv (qh (decide (m.At>(w64 ((w.length:Int)-3)))) 3 e_r81)) (ac (hs (.call 62 [.slice 2 0 4 4 1] (kG m.Kind m.At m.Letter (.cells [.i 3,.func (.func 230) [] [],.func (.func 231) [] []]::(kP L M O d7 []))) [2] [vl encI ([L,M,O,d7]:List Int)] (.i r82)) (vL (FzL.cons (Fz.lit rfl rfl (Uh (AllST.cons tI (AllST.cons tI (AllST.cons tI (AllST.cons tI AllST.nil)))))) FzL.nil) (zm N ([L,M,O,d7]:List Int) e_r82) tI rfl)) az))))))))
  try dsimp only at h
  refine sh fol (kN w [(11,.i b7),(59,.bool (!decide (b7=0)))]) ?_;refine ihB h (fun c89 h=>?_) (fun c89 h=>?_)
  ·refine sh fol (kAw b7) ?_;refine Goes.ret ?_;obtain rfl:=si h;exact(gw2 [.nilslice,.i b7] (FzW.tuple (ql.cons (FzW.nilv (E:=encI)) (ql.cons (Ua tI) ql.nil))))
  refine Goes.skip ?_;obtain⟨a2,e_s90,h⟩:=bnd h;refine sq (gr fol [8] (kN w [(12,vl encI a2)]) (ac (hs (.done (.opt (qaO ZT 22 (vl encI w) (some (.i m.At)) (some (.i (w64 (m.At+3)))) none)) (vl encI a2)) (qlh vo (E:=encI) rfl (some m.At) (some (w64 (m.At+3))) e_s90)) az) ?_);refine sq ?_;obtain⟨r91,e_r91,h⟩:=bnd h;refine sq (gr fol [3] (kN w [(12,vl encI a2),(74,.bool (!r91))]) (ac (cv (qhK a2 e_r91)) az) ?_);refine ihB h (fun c92 h=>?_) (fun c92 h=>?_)
  ·refine sh fol kBK ?_;refine Goes.ret ?_;obtain rfl:=si h;exact(gw2 [.nilslice,.i 18] (FzW.tuple (ql.cons (FzW.nilv (E:=encI)) (ql.cons (Ua tI) ql.nil))))
  refine Goes.skip ?_;obtain⟨_,e_r93,h⟩:=bnd h;obtain⟨l95,e_r94,h⟩:=bnd h;obtain⟨c1,e_r96,h⟩:=bnd h;refine sq (gq fol [1,13,14] ((6,.oslice 4 c1.length 1)::kBG) (kG m.Kind m.At m.Letter (.cells [.i 3,.func (.func 230) [] [],.func (.func 231) [] []]::(kP H I J K (.dead::(kA c1 []))))) (ac (hs (.callH 65 [vl encI w] (kG m.Kind m.At m.Letter (.cells [.i 3,.func (.func 230) [] [],.func (.func 231) [] []]::(kP H I J K []))) [] (.gslice 3 w.length 1) (kG m.Kind m.At m.Letter (.cells [.i 3,.func (.func 230) [] [],.func (.func 231) [] []]::(kP H I J K (kA w []))))) (zG [] [none,none,none,some 0] (qcB w e_r93) .nil rfl rfl (.old rfl rfl (.old rfl rfl (.old rfl rfl (.new rfl rfl (.same fa) rfl .nil)))) (rc (.same (qf encI _)) rn) (.gslice rfl) rfl)) (ac (hs (.callH 231 (vl encI a2::(kAX m.Kind m.At m.Letter)) (kG m.Kind m.At m.Letter (.cells [.i 3,.func (.func 230) [] [],.func (.func 231) [] []]::(kP H I J K (kA w [])))) [] (vl encI l95) (kG m.Kind m.At m.Letter (.cells [.i 3,.func (.func 230) [] [],.func (.func 231) [] []]::(kP H I J K (kA w []))))) (zG [] [none,none,none,none] (qfx a2 m.Kind m.At m.Letter e_r94) .nil rfl rfl (.old rfl rfl (.old rfl rfl (.old rfl rfl (.old rfl rfl .nil)))) (rc (.same (qf encI _)) (rc (.same (qA.agg sn)) rn)) (.same (qf encI _)) rfl)) (ac (hs (.callH 173 [.gslice 3 w.length 1,.i m.At,.i (w64 (m.At+3)),vl encI l95] (kG m.Kind m.At m.Letter (.cells [.i 3,.func (.func 230) [] [],.func (.func 231) [] []]::(kP H I J K (kA w [])))) [3] (.oslice 4 c1.length 1) (kG m.Kind m.At m.Letter (.cells [.i 3,.func (.func 230) [] [],.func (.func 231) [] []]::(kP H I J K (.dead::(kA c1 [])))))) (zG [some 3] [none,none,none,none,some 1] (qrS w m.At (w64 (m.At+3)) l95 e_r96) (.ks .nil) rfl rfl (.old rfl rfl (.old rfl rfl (.old rfl rfl (.dead (.new rfl rfl (.same fa) rfl .nil))))) (rc (.gslice rfl) (rc (.same nI) (rc (.same nI) (rc (.same (qf encI _)) rn)))) (.oslice rfl) rfl)) az))) ?_);refine Goes.ret ?_;obtain rfl:=si h;exact(gw2 [.oslice 4 c1.length 1,.i 0] (FzW.tuple (ql.cons (Ut (Fz.os (E:=encI) rfl rfl (nl rfl))) (ql.cons (Ua tI) ql.nil))))
 refine gq fol [0,3] (kE n w (kAr [(8,.ptr 1 0),(9,.bool false)])) (kG m.Kind m.At m.Letter (kAn [])) (ac (cv (qaq j)) (ac (hs (.done (qaW ZT 205 (fm1) (.str m.Kind) true) (.tuple [.agg [.i 0,.nilfunc,.nilfunc],.bool false])) (qsH qlD [[105,110,115,101,114,116],[99,97,110,99,101,108],[115,119,97,112],[116,117,114,110]] (yY f (yY c3 (yY c4 (yY c5 (rfl))))))) az)) ?_;refine sh fol (kE n w (kAr ((8,.ptr 1 0)::(9,.bool false)::(kA9 (m.Kind==[105,110,115,101,114,116]))))) ?_;refine sq ?_;refine sq ?_;obtain⟨⟨n106,n107,n108,n109,P⟩,a,h⟩:=bnd h;refine Goes.cut (s':=(ofG 90 (kN w (kBA P)),(kG m.Kind m.At m.Letter (kAn (kP n106 n107 n108 n109 []))))) ?_ ?_
 ·obtain⟨Q,c7,a⟩:=bnd a;obtain⟨U,c8,a⟩:=bnd a;obtain⟨g,V,a⟩:=bnd a;rcases wyD a with⟨c9,a⟩|⟨c9,a⟩
  ·obtain⟨X,d8,a⟩:=bnd a;obtain⟨r103,d9,a⟩:=bnd a;simp only[ZI,ZP]at a;obtain⟨rfl,rfl,rfl,rfl,rfl⟩:=a;exact vV.rq fol [2,5,10,12,18,22,32,34] (kN w (kBA r103)) (kG m.Kind m.At m.Letter (kAn (kP Q U g X []))) (ac (cv (qh true 13 c7)) (ac (gw (congrArg not f)) (ac (cv (qh (!decide (m.Letter=0)) 1 c8)) (ac (gw f) (ac (cv (qh false 3 V)) (ac (gw c9) (ac (cv (qh true 3 d8)) (ac (hs (.call 62 [.slice 2 0 4 4 1] (kG m.Kind m.At m.Letter (kAn (kP Q U g X []))) [2] [vl encI ([Q,U,g,X]:List Int)] (.i r103)) (vL (FzL.cons (Fz.lit rfl rfl (Uh (AllST.cons tI (AllST.cons tI (AllST.cons tI (AllST.cons tI AllST.nil)))))) FzL.nil) (zm N ([Q,U,g,X]:List Int) d9) tI rfl)) az))))))))
  obtain⟨Y,e0,a⟩:=bnd a;obtain⟨r105,e1,a⟩:=bnd a;simp only[ZI,ZP]at a;obtain⟨rfl,rfl,rfl,rfl,rfl⟩:=a;exact vV.rq fol [2,5,10,12,18,22,32,34] (kN w (kBA r105)) (kG m.Kind m.At m.Letter (kAn (kP Q U g Y []))) (ac (cv (qh true 13 c7)) (ac (gw (congrArg not f)) (ac (cv (qh (!decide (m.Letter=0)) 1 c8)) (ac (gw f) (ac (cv (qh false 3 V)) (ac (gw c9) (ac (cv (qh (decide (m.At>(w64 ((w.length:Int)-0)))) 3 e0)) (ac (hs (.call 62 [.slice 2 0 4 4 1] (kG m.Kind m.At m.Letter (kAn (kP Q U g Y []))) [2] [vl encI ([Q,U,g,Y]:List Int)] (.i r105)) (vL (FzL.cons (Fz.lit rfl rfl (Uh (AllST.cons tI (AllST.cons tI (AllST.cons tI (AllST.cons tI AllST.nil)))))) FzL.nil) (zm N ([Q,U,g,Y]:List Int) e1) tI rfl)) az))))))))
 try dsimp only at h
 refine sh fol (kN w [(11,.i P),(59,.bool (!decide (P=0)))]) ?_;refine ihB h (fun c112 h=>?_) (fun c112 h=>?_)
 ·refine sh fol (kAw P) ?_;refine Goes.ret ?_;obtain rfl:=si h;exact(gw2 [.nilslice,.i P] (FzW.tuple (ql.cons (FzW.nilv (E:=encI)) (ql.cons (Ua tI) ql.nil))))
 refine Goes.skip ?_;obtain⟨s113,e2,h⟩:=bnd h;refine sq (gr fol [8] (kN w [(12,vl encI s113)]) (ac (hs (.done (.opt (qaO ZT 22 (vl encI w) (some (.i m.At)) (some (.i (w64 (m.At+0)))) none)) (vl encI s113)) (qlh vo (E:=encI) rfl (some m.At) (some (w64 (m.At+0))) e2)) az) ?_);refine sq ?_;refine sq ?_;cases h
def yF (N:Nat) (n:Int) (l:List qG):Nat->(List Int)->Int->Option ((List Int)⊕((List Int)×Int))
 |0,_,_=>none
 |K+1,c,b=>
  if b<(l.length:Int)then
  (idx l b).bind fun d=>
  (zK N n c d).bind fun a=>
  if(!decide (a.2=0))=true then
  some (.inr ([],a.2))
  else
  yF N n l K a.1 (w64 (b+1))
  else
  some (.inl c)
def qdc (N:Nat) (n:Int) (w:List Int) (l:List qG):Option ((List Int)×Int):=
 if(l.length:Int)>100000 then
 some ([],5)
 else
 (qdh w).bind fun _=>
 (yF N n l N w 0).bind (fun
 |(.inl b)=>
 some (b,0)
 |(.inr a)=>
 some a)
theorem qh0 (N:Nat) (n:Int) (w:List Int) (l:List qG) {res:(List Int)×Int} (h:qdc N n w l=some res):qb ZT (.fn 44) [.i n,vl encI w,vl qO l] [] (.tuple [vl encI res.1,.i res.2]) []:=by
 unfold qdc at h;refine Ub Tryz.func44 rfl rfl (m:=36) rfl (rs:=[.tmp 6,.tmp 7]) rfl (l:=(kE n w [(2,vl qO l)])) rfl ?_;refine sh fol (kE n w [(2,vl qO l)]) ?_;refine sq ?_;refine sh fol (kE n w [(2,vl qO l),(14,.bool (decide ((l.length:Int)>100000)))]) ?_;refine ihD h (fun q h=>?_) (fun q h=>?_)
 ·refine sh fol [(6,.nilslice),(7,.i 5)] ?_;refine Goes.ret ?_;obtain rfl:=si h;exact(gw2 [.nilslice,.i 5] (FzW.tuple (ql.cons (FzW.nilv (E:=encI)) (ql.cons (Ua tI) ql.nil))))
 refine Goes.skip ?_;obtain⟨_,f,h⟩:=bnd h;refine sq (gq fol [1] [(0,.i n),(1,.gslice 0 w.length 1),(2,vl qO l)] (kA w []) (ac (hs (.callH 65 [vl encI w] [] [] (.gslice 0 w.length 1) (kA w [])) (zG [] [some 0] (qcB w f) .nil rfl rfl (.new rfl rfl (.same fa) rfl .nil) (rc (.same (qf encI _)) rn) (.gslice rfl) rfl)) az) ?_);refine sq ?_;refine sh fol [(0,.i n),(1,.gslice 0 w.length 1),(17,vl qO l),(18,.i (l.length:Int)),(19,.i 0)] ?_;refine Goes.block ?_;obtain⟨k,g6,h⟩:=bnd h;refine Goes.imp (Q:=fun x s'=>(x= .exit 0/\ ∃g,(.inl g)=k/\Sub s' (ofG 36 [(1,vl encI g)],[]))\/(x= .ret/\ ∃o,(.inr o)=k/\jM ZT [.tmp 6,.tmp 7] (.tuple [vl encI o.1,.i o.2]) .ret s')) ?_ ?_
 ·refine Goes.sub (s':=(ofG 36 (kE n w [(17,vl qO l),(18,.i (l.length:Int)),(19,.i 0)]),[])) (Sub.norm [0] [] rfl rfl (.keep (.same nI) (.keep (.frz (Fz.gs (E:=encI) rfl rfl (nl rfl)) (qf encI _)) (.keep (.same (qf qO _)) (.keep (.same nI) (.keep (.same nI) .nil))))) .nil) ?_;refine Ud (fun M s=> ∃(e:List Int) (b:Int),s=(ofG 36 (kE n e (kAg l (l.length:Int) b [])),[])/\yF N n l M e b=some k) ?_ (m:=N) ⟨_,_,rfl,g6⟩;rintro M s ⟨e,b,rfl,g6⟩
  cases M with
  |zero=>simp only[yF]at g6;cases g6
  |succ M=>
   rw[yF]at g6;refine sh fol (kE n e (kAg l (l.length:Int) b [(20,.bool (decide (b<(l.length:Int))))])) ?_;refine sq ?_;refine ihD g6 (fun r g6=>?_) (fun r g6=>?_)
   ·refine Goes.skip ?_;refine sq (Goes.block ?_);obtain⟨j,c,g6⟩:=bnd g6;refine sq (gq fol [0,1] (kE n e ((9,.ptr 0 0)::(kAg l (l.length:Int) b []))) (kG j.Kind j.At j.Letter []) (ac (iv sl23 qO c) (ac (la ag79 qO c) az)) ?_);obtain⟨a,d,g6⟩:=bnd g6;refine sq (gr fol [3] ((0,.i n)::(10,vl encI a.1)::(11,.i a.2)::(kAg l (l.length:Int) b [])) (ac (cv (qcS N n e j d)) az) ?_);refine sq ?_;refine sh fol ((0,.i n)::(10,vl encI a.1)::(11,.i a.2)::(kAg l (l.length:Int) b [(31,.bool (!decide (a.2=0)))])) ?_;refine ihB g6 (fun p g6=>?_) (fun p g6=>?_)
    ·refine sh fol (kAw a.2) ?_;refine Goes.ret ?_;obtain rfl:=si g6;exact Or.inr (⟨rfl,_,rfl,(gw2 [.nilslice,.i a.2] (FzW.tuple (ql.cons (FzW.nilv (E:=encI)) (ql.cons (Ua tI) ql.nil))))⟩)
    refine Goes.skip ?_;refine gh fol (kE n a.1 (kAg l (l.length:Int) b [])) ?_;refine gh fol (kE n a.1 (kAg l (l.length:Int) (w64 (b+1)) [])) ?_;exact⟨M,(ofG 36 (kE n a.1 (kAg l (l.length:Int) (w64 (b+1)) [])),[]),Nat.lt_succ_self _,(Sub.norm [] [] rfl rfl (.keep (.same nI) (.keep (.same (qf encI _)) (.keep (.same (qf qO _)) (.keep (.same nI) (.keep (.same nI) .nil))))) .nil),_,_,rfl,g6⟩
   refine Goes.exit ?_;obtain rfl:=si g6;exact Or.inl (⟨rfl,_,rfl,(Sub.keep [1] rfl rfl)⟩)
 rintro x s' (⟨rfl,g,rfl,hsub⟩|⟨rfl,t,rfl,hret⟩)
 ·try dsimp only at h
  refine Goes.sub hsub ?_;refine sh fol ((6,vl encI g)::kBG) ?_;refine Goes.ret ?_;obtain rfl:=si h;exact(gw2 [vl encI g,.i 0] (FzW.tuple (ql.cons (Ua (qy encI _ (nl rfl))) (ql.cons (Ua tI) ql.nil))))
 try dsimp only at h
 obtain rfl:=si h;exact hret
def xq (N:Nat) (n:Int) (a:List Int) (b:List Int) (l:List qG):Option Int:=
 (jG N n a b).bind fun c=>
 if(!decide (c=0))=true then
 some c
 else
 (qdc N n a l).bind fun d=>
 (slices_Equal_int N d.1 b).bind fun e=>
 (qx (!e) 21).bind fun f=>
 (ky N ([d.2,f]:List Int)).bind fun g=>
 some g
theorem qck (N:Nat) (n:Int) (a:List Int) (b:List Int) (l:List qG) {res:Int} (h:xq N n a b l=some res):qb ZT (.fn 20) [.i n,vl encI a,vl encI b,vl qO l] [] (.i res) []:=by
 unfold xq at h;refine Ub Tryz.func20 rfl rfl (m:=34) rfl (rs:=[.tmp 8]) rfl (l:=(kE n a (kAS b [(3,vl qO l)]))) rfl ?_;refine sh fol (kE n a (kAS b [(3,vl qO l)])) ?_;refine sq ?_;obtain⟨d,e,h⟩:=bnd h;refine sq (gr fol [3] (kE n a (kAS b [(3,vl qO l),(9,.i d)])) (ac (cv (yx N n a b e)) az) ?_);refine sh fol (kE n a (kAS b [(3,vl qO l),(9,.i d),(17,.bool (!decide (d=0)))])) ?_;refine ihB h (fun q h=>?_) (fun q h=>?_)
 ·refine sh fol (kAp d) ?_;refine Goes.ret ?_;obtain rfl:=si h;exact(gw2 [.i d] (Ua tI))
 refine Goes.skip ?_;obtain⟨c,f,h⟩:=bnd h;refine sq (gr fol [3] (kAS b ((10,vl encI c.1)::(kBA c.2))) (ac (cv (qh0 N n a l f)) az) ?_);obtain⟨r,g,h⟩:=bnd h;obtain⟨o,j,h⟩:=bnd h;obtain⟨p,k,h⟩:=bnd h;refine sq (gq fol [3,5,7] (kAp p) (kW c.2 o []) (ac (cv (qaP N c.1 b g)) (ac (cv (qh (!r) 21 j)) (ac (hs (.call 62 [.slice 0 0 2 2 1] (kW c.2 o []) [0] [vl encI ([c.2,o]:List Int)] (.i p)) (vL (FzL.cons (Fz.lit rfl rfl (Uh (AllST.cons tI (AllST.cons tI AllST.nil)))) FzL.nil) (zm N ([c.2,o]:List Int) k) tI rfl)) az))) ?_);refine Goes.ret ?_;obtain rfl:=si h;exact(gw2 [.i p] (Ua tI))
def qbR (N:Nat) (n:Int) (a:List Int) (b:List Int):Option (Bool×Int):=
 (jG N n a b).bind fun c=>
 if(!decide (c=0))=true then
 some (false,c)
 else
 (jZ N n a b).bind fun d=>
 some (d,0)
theorem qif (N:Nat) (n:Int) (a:List Int) (b:List Int) {res:Bool×Int} (h:qbR N n a b=some res):qb ZT (.fn 21) (.i n::(kAs a b)) [] (.tuple [.bool res.1,.i res.2]) []:=by
 unfold qbR at h;refine Ub Tryz.func21 rfl rfl (m:=20) rfl (rs:=[.tmp 6,.tmp 7]) rfl (l:=(kE n a (kAS b []))) rfl ?_;refine sh fol (kE n a (kAS b [])) ?_;refine sq ?_;obtain⟨c,d,h⟩:=bnd h;refine sq (gr fol [3] (kE n a (kAS b (kAp c))) (ac (cv (yx N n a b d)) az) ?_);refine sh fol (kE n a (kAS b [(8,.i c),(14,.bool (!decide (c=0)))])) ?_;refine ihB h (fun g h=>?_) (fun g h=>?_)
 ·refine sh fol [(6,.bool false),(7,.i c)] ?_;refine Goes.ret ?_;obtain rfl:=si h;exact(gw2 [.bool false,.i c] (FzW.tuple (ql.cons (Ua tB) (ql.cons (Ua tI) ql.nil))))
 refine Goes.skip ?_;obtain⟨f,e,h⟩:=bnd h;refine sq (gr fol [3] ((6,.bool f)::kBG) (ac (cv (qcH N n a b e)) az) ?_);refine Goes.ret ?_;obtain rfl:=si h;exact(gw2 [.bool f,.i 0] (FzW.tuple (ql.cons (Ua tB) (ql.cons (Ua tI) ql.nil))))
end Go.Av
