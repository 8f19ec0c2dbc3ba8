/-
  Walks of functions: what each computes, as a plain function.
-/
import Derived.Test.YtjflombnfhlkaaaGreatDoorQGenG2
noncomputable section
namespace Go.Av
open Go.Proofs Go.RowKit
set_option linter.unusedSectionVars false
set_option linter.unusedVariables false
set_option linter.unusedSimpArgs false
set_option maxRecDepth 100000
def qO (a:List Str) (b:List Str):Nat→Int→Option (Unit⊕Bool)
 |0,_=>none
 |K+1,i_2=>
  if i_2<(a.length:Int)then
  (idx a i_2).bind fun x6=>
  (idx b i_2).bind fun x7=>
  if(!(x6==x7))=true then
  some (.inr false)
  else
  qO a b K (w64 (i_2+1))
  else
  some (.inl ())
def vw (N:Nat) (a:List Str) (b:List Str):Option Bool:=
 if(!decide ((a.length:Int)=(b.length:Int)))=true then
 some false
 else
 (qO a b N 0).bind (fun
 |(.inl ())=>
 some true
 |(.inr q9)=>
 some q9)
theorem yj (N:Nat) (a:List Str) (b:List Str) {res:Bool} (h:vw N a b=some res):qf Tryz.prog (.fn 41) [vl encS a,vl encS b] [] (.bool res) []:=by
 unfold vw at h
 refine Goes.fnW Tryz.func41 rfl rfl (m:=26) rfl (rs:=[.tmp 4]) rfl (l:=(kAd a b [])) rfl ?_
 refine sh fol (kAd a b []) ?_
 refine sq ?_
 refine sh fol (kAd a b [(10,.bool (!decide ((a.length:Int)=(b.length:Int))))]) ?_
 refine ihB h (fun c1 h=>?_) (fun c1 h=>?_)
 ·refine sh fol kAG ?_
  refine Goes.ret ?_
  obtain rfl:=si h
  exact(Goes.retW (xs:=[.bool false]) (by kernel_rfl) (FzW.still tB))
 ·refine Goes.skip ?_
  refine sq ?_
  refine sh fol (kAd a b [(5,.i 0)]) ?_
  refine Goes.block ?_
  obtain⟨r3,g3,h⟩:=bnd h
  refine Goes.imp (Q:=fun x s'=>(x= .exit 0∧(.inl ())=r3∧Sub s' (ofG 26 [],[]))∨(x= .ret∧ ∃q4,(.inr q4)=r3∧ku Tryz.prog [.tmp 4] (.bool q4) .ret s')) ?_ ?_
  ·refine Goes.loopS (fun M s=> ∃(i_2:Int),s=(ofG 26 (kAd a b [(5,.i i_2)]),[])∧qO a b M i_2=some r3) ?_ (m:=N) ⟨_,rfl,g3⟩
   rintro M s ⟨i_2,rfl,g3⟩
   cases M with
   |zero=>simp only[qO]at g3;cases g3
   |succ M=>
    rw[qO]at g3
    refine sq ?_
    refine sh fol (kAd a b [(5,.i i_2),(14,.bool (decide (i_2<(a.length:Int))))]) ?_
    refine ihD g3 (fun c5 g3=>?_) (fun c5 g3=>?_)
    ·refine Goes.skip ?_
     refine sq (Goes.block ?_)
     refine sq ?_
     obtain⟨x6,e_x6,g3⟩:=bnd g3
     obtain⟨x7,e_x7,g3⟩:=bnd g3
     refine gr fol [2,3,6,7] (kAd a b [(5,.i i_2),(25,.bool (!(x6==x7)))]) (ac (iv jQ encS e_x6) (ac (lv 0 ce9 encS e_x6 rfl) (ac (iv jQ encS e_x7) (ac (lv 0 ce9 encS e_x7 rfl) az)))) ?_
     refine ihB g3 (fun c8 g3=>?_) (fun c8 g3=>?_)
     ·refine sh fol kAG ?_
      refine Goes.ret ?_
      obtain rfl:=si g3
      exact Or.inr (⟨rfl,_,rfl,(Goes.retW (xs:=[.bool false]) (by kernel_rfl) (FzW.still tB))⟩)
     ·refine Goes.skip ?_
      refine gh fol (kAd a b [(5,.i (w64 (i_2+1)))]) ?_
      exact⟨M,(ofG 26 (kAd a b [(5,.i (w64 (i_2+1)))]),[]),Nat.lt_succ_self _,(Sub.refl _),_,rfl,g3⟩
    ·refine Goes.exit ?_
     obtain rfl:=si g3
     exact Or.inl (⟨rfl,rfl,(Sub.keep [] rfl rfl)⟩)
  rintro x s' (⟨rfl,rfl,hsub⟩|⟨rfl,q9,rfl,hret⟩)
  ·try dsimp only at h
   refine Goes.sub hsub ?_
   refine sh fol kAO ?_
   refine Goes.ret ?_
   obtain rfl:=si h
   exact(Goes.retW (xs:=[.bool true]) (by kernel_rfl) (FzW.still tB))
  ·try dsimp only at h
   obtain rfl:=si h
   exact hret
def qK (N:Nat) (a:List qb) (b:List qb):Nat→Int→Option (Unit⊕Bool)
 |0,_=>none
 |K+1,i_2=>
  if i_2<(a.length:Int)then
  ((idx a i_2).bind fun x6=>
  (idx b i_2).bind fun x7=>
  if(!decide (x6.Number=x7.Number))=true then
  some true
  else
  if(!(x6.Kind==x7.Kind))=true then
  some true
  else
  (vw N x6.Names x7.Names).bind fun r10=>
  if(!r10)=true then
  some true
  else
  (vK N x6.Values x7.Values).bind fun r12=>
  if(!r12)=true then
  some true
  else
  some (!(x6.Text==x7.Text)):Option Bool).bind fun b14=>
  if b14=true then
  some (.inr false)
  else
  qK N a b K (w64 (i_2+1))
  else
  some (.inl ())
def jh (N:Nat) (a:List qb) (b:List qb):Option Bool:=
 if(!decide ((a.length:Int)=(b.length:Int)))=true then
 some false
 else
 (qK N a b N 0).bind (fun
 |(.inl ())=>
 some true
 |(.inr q17)=>
 some q17)
theorem jK (N:Nat) (a:List qb) (b:List qb) {res:Bool} (h:jh N a b=some res):qf Tryz.prog (.fn 46) [vl qa a,vl qa b] [] (.bool res) []:=by
 unfold jh at h
 refine Goes.fnW Tryz.func46 rfl rfl (m:=82) rfl (rs:=[.tmp 4]) rfl (l:=(kR a [(1,vl qa b)])) rfl ?_
 refine sh fol (kR a [(1,vl qa b)]) ?_
 refine sq ?_
 refine sh fol (kR a [(1,vl qa b),(10,.bool (!decide ((a.length:Int)=(b.length:Int))))]) ?_
 refine ihB h (fun c1 h=>?_) (fun c1 h=>?_)
 ·refine sh fol kAG ?_
  refine Goes.ret ?_
  obtain rfl:=si h
  exact(Goes.retW (xs:=[.bool false]) (by kernel_rfl) (FzW.still tB))
 ·refine Goes.skip ?_
  refine sq ?_
  refine sh fol (kR a [(1,vl qa b),(5,.i 0)]) ?_
  refine Goes.block ?_
  obtain⟨r3,g3,h⟩:=bnd h
  refine Goes.imp (Q:=fun x s'=>(x= .exit 0∧(.inl ())=r3∧Sub s' (ofG 82 [],[]))∨(x= .ret∧ ∃q4,(.inr q4)=r3∧ku Tryz.prog [.tmp 4] (.bool q4) .ret s')) ?_ ?_
  ·refine Goes.loopS (fun M s=> ∃(i_2:Int),s=(ofG 82 (kR a (kAV b i_2 [])),[])∧qK N a b M i_2=some r3) ?_ (m:=N) ⟨_,rfl,g3⟩
   rintro M s ⟨i_2,rfl,g3⟩
   cases M with
   |zero=>simp only[qK]at g3;cases g3
   |succ M=>
    rw[qK]at g3
    refine sq ?_
    refine sh fol (kR a (kAV b i_2 [(14,.bool (decide (i_2<(a.length:Int))))])) ?_
    refine ihD g3 (fun c5 g3=>?_) (fun c5 g3=>?_)
    ·refine Goes.skip ?_
     refine sq (Goes.block ?_)
     refine sq ?_
     obtain⟨b14,g_v15,g3⟩:=bnd g3
     refine Goes.cut (s':=(ofG 82 (kR a (kAV b i_2 [(81,.bool b14)])),[])) ?_ ?_
     ·obtain⟨x6,e_x6,g_v15⟩:=bnd g_v15
      obtain⟨x7,e_x7,g_v15⟩:=bnd g_v15
      rcases wyB g_v15 with⟨c8,g_v15⟩|⟨c8,g_v15⟩
      ·obtain rfl:=si g_v15
       exact tr fol [2,4,7,9,11] (kR a (kAV b i_2 [(81,.bool true)])) (ac (iv jd qa e_x6) (ac (lv 0 ce3 qa e_x6 rfl) (ac (iv jd qa e_x7) (ac (lv 0 ce3 qa e_x7 rfl) (ac (gw c8) az)))))
      ·rcases wyB g_v15 with⟨c9,g_v15⟩|⟨c9,g_v15⟩
       ·obtain rfl:=si g_v15
        exact tr fol [2,4,7,9,11,14,16,19,21,24] (kR a (kAV b i_2 [(81,.bool true)])) (ac (iv jd qa e_x6) (ac (lv 0 ce3 qa e_x6 rfl) (ac (iv jd qa e_x7) (ac (lv 0 ce3 qa e_x7 rfl) (ac (gw c8) (ac (iv jd qa e_x6) (ac (lv 1 ce9 qa e_x6 rfl) (ac (iv jd qa e_x7) (ac (lv 1 ce9 qa e_x7 rfl) (ac (gw c9) az))))))))))
       ·obtain⟨r10,e_r10,g_v15⟩:=bnd g_v15
        rcases wyB g_v15 with⟨c11,g_v15⟩|⟨c11,g_v15⟩
        ·obtain rfl:=si g_v15
         exact tr fol [2,4,7,9,11,14,16,19,21,24,27,29,32,34,35,38] (kR a (kAV b i_2 [(81,.bool true)])) (ac (iv jd qa e_x6) (ac (lv 0 ce3 qa e_x6 rfl) (ac (iv jd qa e_x7) (ac (lv 0 ce3 qa e_x7 rfl) (ac (gw c8) (ac (iv jd qa e_x6) (ac (lv 1 ce9 qa e_x6 rfl) (ac (iv jd qa e_x7) (ac (lv 1 ce9 qa e_x7 rfl) (ac (gw c9) (ac (iv jd qa e_x6) (ac (lv 2 qcL qa e_x6 rfl) (ac (iv jd qa e_x7) (ac (lv 2 qcL qa e_x7 rfl) (ac (cv (yj N x6.Names x7.Names e_r10)) (ac (gw c11) az))))))))))))))))
        ·obtain⟨r12,e_r12,g_v15⟩:=bnd g_v15
         rcases wyB g_v15 with⟨c13,g_v15⟩|⟨c13,g_v15⟩
         ·obtain rfl:=si g_v15
          exact tr fol [2,4,7,9,11,14,16,19,21,24,27,29,32,34,35,38,41,43,46,48,49,52] (kR a (kAV b i_2 [(81,.bool true)])) (ac (iv jd qa e_x6) (ac (lv 0 ce3 qa e_x6 rfl) (ac (iv jd qa e_x7) (ac (lv 0 ce3 qa e_x7 rfl) (ac (gw c8) (ac (iv jd qa e_x6) (ac (lv 1 ce9 qa e_x6 rfl) (ac (iv jd qa e_x7) (ac (lv 1 ce9 qa e_x7 rfl) (ac (gw c9) (ac (iv jd qa e_x6) (ac (lv 2 qcL qa e_x6 rfl) (ac (iv jd qa e_x7) (ac (lv 2 qcL qa e_x7 rfl) (ac (cv (yj N x6.Names x7.Names e_r10)) (ac (gw c11) (ac (iv jd qa e_x6) (ac (lv 3 qh6 qa e_x6 rfl) (ac (iv jd qa e_x7) (ac (lv 3 qh6 qa e_x7 rfl) (ac (cv (qaf N x6.Values x7.Values e_r12)) (ac (gw c13) az))))))))))))))))))))))
         ·obtain rfl:=si g_v15
          exact tr fol [2,4,7,9,11,14,16,19,21,24,27,29,32,34,35,38,41,43,46,48,49,52,55,57,60,62] (kR a (kAV b i_2 [(81,.bool (!(x6.Text==x7.Text)))])) (ac (iv jd qa e_x6) (ac (lv 0 ce3 qa e_x6 rfl) (ac (iv jd qa e_x7) (ac (lv 0 ce3 qa e_x7 rfl) (ac (gw c8) (ac (iv jd qa e_x6) (ac (lv 1 ce9 qa e_x6 rfl) (ac (iv jd qa e_x7) (ac (lv 1 ce9 qa e_x7 rfl) (ac (gw c9) (ac (iv jd qa e_x6) (ac (lv 2 qcL qa e_x6 rfl) (ac (iv jd qa e_x7) (ac (lv 2 qcL qa e_x7 rfl) (ac (cv (yj N x6.Names x7.Names e_r10)) (ac (gw c11) (ac (iv jd qa e_x6) (ac (lv 3 qh6 qa e_x6 rfl) (ac (iv jd qa e_x7) (ac (lv 3 qh6 qa e_x7 rfl) (ac (cv (qaf N x6.Values x7.Values e_r12)) (ac (gw c13) (ac (iv jd qa e_x6) (ac (lv 4 ce9 qa e_x6 rfl) (ac (iv jd qa e_x7) (ac (lv 4 ce9 qa e_x7 rfl) az))))))))))))))))))))))))))
     refine ihB g3 (fun c16 g3=>?_) (fun c16 g3=>?_)
     ·refine sh fol kAG ?_
      refine Goes.ret ?_
      obtain rfl:=si g3
      exact Or.inr (⟨rfl,_,rfl,(Goes.retW (xs:=[.bool false]) (by kernel_rfl) (FzW.still tB))⟩)
     ·refine Goes.skip ?_
      refine gh fol (kR a (kAV b (w64 (i_2+1)) [])) ?_
      exact⟨M,(ofG 82 (kR a (kAV b (w64 (i_2+1)) [])),[]),Nat.lt_succ_self _,(Sub.refl _),_,rfl,g3⟩
    ·refine Goes.exit ?_
     obtain rfl:=si g3
     exact Or.inl (⟨rfl,rfl,(Sub.keep [] rfl rfl)⟩)
  rintro x s' (⟨rfl,rfl,hsub⟩|⟨rfl,q17,rfl,hret⟩)
  ·try dsimp only at h
   refine Goes.sub hsub ?_
   refine sh fol kAO ?_
   refine Goes.ret ?_
   obtain rfl:=si h
   exact(Goes.retW (xs:=[.bool true]) (by kernel_rfl) (FzW.still tB))
  ·try dsimp only at h
   obtain rfl:=si h
   exact hret
end Go.Av
