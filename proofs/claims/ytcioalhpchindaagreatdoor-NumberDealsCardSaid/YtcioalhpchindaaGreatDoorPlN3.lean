/-
  Chapter 1: lists that are permutations, that are the same; what is left of an order.
-/
import Derived.Test.YtcioalhpchindaaGreatDoorPlN2
noncomputable section
namespace Go.Av
set_option linter.unusedSimpArgs false
set_option linter.unusedVariables false
theorem zT {α:Type} {l:List α} {i:Nat} (h:i<l.length):l[i]? =some l[i]:=List.getElem?_eq_getElem h
theorem qcT {p:List Int} (hl:p.length≤256) (hd:p.Nodup) {i:Nat} (hi:i<p.length): ∀(K k:Nat),k≤i→i<K+k→kD p (i:Int) K (k:Int)=some (.inl ())
 |0,k,h1,h2=>by omega
 |K+1,k,h1,h2=>by
  unfold kD
  by_cases hk:k<i
  ·have hne: ¬(p[k]'(by omega)=p[i]):=List.pairwise_iff_getElem.1 hd k i (by omega) hi hk
   rw[if_pos (by omega),kL,kL,zT (show k<p.length by omega),zT hi]
   simp only[Option.bind_some]
   rw[if_neg hne,zQ (by omega),qcT hl hd hi K (k+1) (by omega) (by omega)]
  ·rw[if_neg (by omega)]
theorem qcQ {N:Nat} (hN:300<N) {p:List Int} (hl:p.length≤256) (hd:p.Nodup) (hr: ∀x∈p,0≤x∧x<p.length): ∀(K i:Nat),i≤p.length→p.length<K+i→qZ N p K (i:Int)=some (.inl ())
 |0,i,h1,h2=>by omega
 |K+1,i,h1,h2=>by
  unfold qZ
  by_cases hi:i<p.length
  ·have hx:=hr p[i] (List.getElem_mem hi)
   rw[if_pos (by omega),kL,zT hi]
   simp only[Option.bind_some]
   rw[if_neg (by omega),decide_eq_false (by omega),Option.bind_some,if_neg (by decide),show(0:Int)=((0:Nat):Int)from rfl,qcT hl hd hi N 0 (by omega) (by omega)]
   simp only[Option.bind_some]
   rw[zQ (by omega),qcQ hN hl hd hr K (i+1) (by omega) (by omega)]
  ·rw[if_neg (by omega)]
theorem qbm {N:Nat} (hN:300<N) {p:List Int} (hl:p.length≤256) (hd:p.Nodup) (hr: ∀x∈p,0≤x∧x<p.length):zF N p=some 0:=by
 unfold zF
 have:=qcQ hN hl hd hr N 0 (by omega) (by omega)
 rw[if_neg (by omega),show qZ N p N 0=_ from this]
 rfl
theorem qc7 {a:List Int} (hl:a.length≤1000): ∀(K i:Nat),i≤a.length→a.length<K+i→ko a a K (i:Int)=some (.inl ())
 |0,i,h1,h2=>by omega
 |K+1,i,h1,h2=>by
  unfold ko
  by_cases hi:i<a.length
  ·rw[if_pos (by omega),kL,zT hi]
   simp only[Option.bind_some]
   rw[if_neg (by simp),zQ (by omega),qc7 hl K (i+1) (by omega) (by omega)]
  ·rw[if_neg (by omega)]
theorem qfc {N:Nat} (hN:2000<N) {a:List Int} (hl:a.length≤1000):zN N a a=some true:=by
 unfold zN
 have:=qc7 hl N 0 (by omega) (by omega)
 rw[if_neg (by simp),show ko a a N 0=_ from this]
 rfl
theorem qbc {t:Int} {r:List Int×Int} {n:Int} (hn:w64 ((t.tmod 41)-1)=n) (hl:r.1.length≤256): ∀(K i:Nat) (o:List Int),o.length≤i→i≤r.1.length→r.1.length<K+i→
 qI t r K o (i:Int)=some (o++(r.1.drop i).filter fun x=>!decide (x=n))
 |0,i,o,h0,h1,h2=>by omega
 |K+1,i,o,h0,h1,h2=>by
  unfold qI
  by_cases hi:i<r.1.length
  ·rw[if_pos (by omega),kL,zT hi,hn,List.drop_eq_getElem_cons hi]
   simp only[Option.bind_some]
   by_cases he:r.1[i]=n
   ·rw[if_neg (by simp[he]),Option.bind_some,zQ (by omega),qbc hn hl K (i+1) o (by omega) (by omega) (by omega),List.filter_cons_of_neg (by simp[he])]
   ·rw[if_pos (by simp[he]),qcd (by simp;omega) (by simp;omega),Option.bind_some,Option.bind_some,zQ (by omega),qbc hn hl K (i+1) _ (by simp;omega) (by omega) (by omega),List.filter_cons_of_pos (by simp[he]),List.append_assoc]
    rfl
  ·rw[if_neg (by omega),List.drop_eq_nil_of_le (by omega)]
   simp
end Go.Av
