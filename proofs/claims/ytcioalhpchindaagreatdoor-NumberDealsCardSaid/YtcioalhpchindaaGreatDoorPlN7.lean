/-
  Chapter 1: the law on shares and drawn orders.
-/
import Derived.Test.YtcioalhpchindaaGreatDoorPlN6
noncomputable section
namespace Go.Av
set_option linter.unusedSimpArgs false
set_option linter.unusedVariables false
theorem qfD {w:List Int} (hl:w.length≤12): ∀(K i:Nat) (a:Int),i≤w.length→w.length<K+i→a=sm (w.take i)→(∀x∈w.take i,0≤x∧x≤999999999)→
 qw w K a (i:Int)=some (.inr 3)∨(qw w K a (i:Int)=some (.inl (sm w))∧ ∀x∈w,0≤x∧x≤999999999)
 |0,i,a,h1,h2,_,_=>by omega
 |K+1,i,a,h1,h2,ha,hr=>by
  unfold qw
  by_cases hi:i<w.length
  ·have e:sm (w.take (i+1))=sm (w.take i)+w[i]:=by rw[List.take_succ_eq_append_getElem hi,yg];simp[sm]
   have hs:sm (w.take i)≤(w.take i).length*999999999:=yD (by decide) fun x hx=>(hr x hx).2
   have hn:0≤sm (w.take i):=yC fun x hx=>(hr x hx).1
   simp only[List.length_take]at hs
   rw[if_pos (by omega),kL,zT hi]
   simp only[Option.bind_some]
   by_cases hb:0≤w[i]∧w[i]≤999999999
   ·rw[if_neg (by omega),decide_eq_false (by omega),Option.bind_some,if_neg (by decide),zQ (by omega),zA (by omega) (by omega)]
    refine qfD hl K (i+1) _ (by omega) (by omega) (by omega) fun x hx=>?_
    rw[List.take_succ_eq_append_getElem hi]at hx
    rcases List.mem_append.1 hx with hx|hx
    ·exact hr x hx
    ·obtain rfl:=List.mem_singleton.1 hx
     exact hb
   ·left
    by_cases h0:w[i]<0
    ·rw[if_pos h0,Option.bind_some,if_pos rfl]
    ·rw[if_neg h0,decide_eq_true (by omega),Option.bind_some,if_pos rfl]
  ·rw[if_neg (by omega),ha,List.take_of_length_le (by omega)]
   rw[List.take_of_length_le (by omega)]at hr
   exact .inr ⟨rfl,hr⟩
theorem cw_eq {N:Nat} (hN:400<N) {w:List Int} (hl:w.length≤12): ∃r,zh N w=some r∧(r=0→1≤w.length∧(∀x∈w,0≤x∧x≤999999999)∧sm w≠0):=by
 unfold zh
 by_cases h0:w.length=0
 ·rw[if_pos (by omega)]
  exact⟨12,rfl,fun e=>absurd e (by decide)⟩
 ·rw[if_neg (by omega),if_neg (by omega)]
  rcases qfD hl N 0 0 (by omega) (by omega) rfl (by simp)with h|⟨h,hr⟩
  ·rw[show qw w N 0 0=_ from h]
   exact⟨3,rfl,fun e=>absurd e (by decide)⟩
  ·rw[show qw w N 0 0=_ from h]
   simp only[Option.bind_some]
   by_cases hz:sm w=0
   ·rw[if_pos hz];exact⟨6,rfl,fun e=>absurd e (by decide)⟩
   ·rw[if_neg hz];exact⟨0,rfl,fun _=>⟨by omega,hr,hz⟩⟩
theorem qej {w:List Int} (hl:w.length≤12) (hw: ∀x∈w,0≤x∧x≤999999999): ∀(K i:Nat) (a:Int),i≤w.length→w.length<K+i→a=sm (w.take i)→(∀x∈w.take i,0≤x∧x≤100000)→
 qz w K (i:Int) a=some (.inr true)∨(qz w K (i:Int) a=some (.inl (sm w))∧ ∀x∈w,0≤x∧x≤100000)
 |0,i,a,h1,h2,_,_=>by omega
 |K+1,i,a,h1,h2,ha,hr=>by
  unfold qz
  by_cases hi:i<w.length
  ·have e:sm (w.take (i+1))=sm (w.take i)+w[i]:=by rw[List.take_succ_eq_append_getElem hi,yg];simp[sm]
   have hs:sm (w.take i)≤(w.take i).length*100000:=yD (by decide) fun x hx=>(hr x hx).2
   have hn:0≤sm (w.take i):=yC fun x hx=>(hr x hx).1
   have hx0:=hw w[i] (List.getElem_mem hi)
   simp only[List.length_take]at hs
   rw[if_pos (by omega),kL,zT hi]
   simp only[Option.bind_some]
   by_cases hb:w[i]≤100000
   ·rw[if_neg (by omega),zQ (by omega),zA (by omega) (by omega)]
    refine qej hl hw K (i+1) _ (by omega) (by omega) (by omega) fun x hx=>?_
    rw[List.take_succ_eq_append_getElem hi]at hx
    rcases List.mem_append.1 hx with hx|hx
    ·exact hr x hx
    ·obtain rfl:=List.mem_singleton.1 hx
     omega
   ·rw[if_pos (by omega)]
    exact .inl rfl
  ·rw[if_neg (by omega),ha,List.take_of_length_le (by omega)]
   rw[List.take_of_length_le (by omega)]at hr
   exact .inr ⟨rfl,hr⟩
theorem qcP {t:Int} {w:List Int} {r:List Int×Int} (hf:Fair t w r.1) (hl:w.length≤12) {i:Nat} (hi:i<w.length): ∀(K k:Nat),k≤w.length→w.length<K+k→qH w r (i:Int) K (k:Int)=some (.inl ())
 |0,k,h1,h2=>by omega
 |K+1,k,h1,h2=>by
  have hlen:=hf.len
  unfold qH
  by_cases hk:k<w.length
  ·rw[if_pos (by omega),kL,kL,zT hi,zT hk]
   simp only[Option.bind_some,kL]
   have ih:=qcP hf hl hi K (k+1) (by omega) (by omega)
   by_cases hw:w[k]<w[i]
   ·have hm:=hf.mono i k (by omega) (by omega) hi hk hw
    rw[if_pos (by omega),zT (show i<r.1.length by omega),zT (show k<r.1.length by omega),Option.bind_some,Option.bind_some,decide_eq_false (by omega),Option.bind_some,if_neg (by decide),zQ (by omega),ih]
   ·rw[if_neg (by omega),Option.bind_some,if_neg (by decide),zQ (by omega),ih]
  ·rw[if_neg (by omega)]
theorem qcH {N:Nat} (hN:400<N) {t:Int} {w:List Int} {r:List Int×Int} (ht:0≤t∧t≤100000) (h:WOK w) (hf:Fair t w r.1): ∀(K i:Nat) (a:Int),i≤w.length→w.length<K+i→a=t-sm (r.1.take i)→
 qG N t w (sm w) r K a (i:Int)=some (.inl 0)
 |0,i,a,h1,h2,_=>by omega
 |K+1,i,a,h1,h2,ha=>by
  have h12:=h.few
  have hlen:=hf.len
  have hsm:=h.le
  have hs0:=h.sum
  unfold qG
  by_cases hi:i<w.length
  ·have hi2:i<r.1.length:=by omega
   obtain⟨a1,a2⟩:=hf.nn i hi2
   obtain⟨b1,b2⟩:=hf.near i hi2 hi
   obtain⟨c1,c2,c3,c4⟩:=vV ht h.sum (h.rng _ (List.getElem_mem hi))
   have hpos:0≤r.1[i]*sm w:=Int.mul_nonneg a1 (by omega)
   have e:sm (r.1.take (i+1))=sm (r.1.take i)+r.1[i]:=by rw[List.take_succ_eq_append_getElem hi2,yg];simp[sm]
   have hnn: ∀x∈r.1,0≤x:=fun x hx=>by
    obtain⟨j,hj,rfl⟩:=List.mem_iff_getElem.1 hx
    exact(hf.nn j hj).1
   have hn:0≤sm (r.1.take i):=yC fun x hx=>hnn x (List.mem_of_mem_take hx)
   have hle:sm (r.1.take i)≤t:=by
    have h1:=hf.sum
    rw[←List.take_append_drop i r.1,yg]at h1
    have:=yC (l:=r.1.drop i) fun x hx=>hnn x (List.mem_of_mem_drop hx)
    omega
   rw[if_pos (by omega),kL,zT hi2]
   simp only[Option.bind_some]
   rw[if_neg (by omega),if_neg (by omega),kL,zT hi,Option.bind_some]
   rw[zA (n:=r.1[i]*sm w) (by omega) (by omega),zA (n:=t*w[i]) (by omega) (by omega),zA (n:=t*w[i]-sm w) (by omega) (by omega),zA (n:=t*w[i]+sm w) (by omega) (by omega)]
   rw[if_neg (by omega),decide_eq_false (by omega),Option.bind_some,if_neg (by decide)]
   rw[show qH w r (i:Int) N 0=_ from qcP hf h12 hi N 0 (by omega) (by omega)]
   simp only[Option.bind_some,kL,zT hi2]
   rw[zQ (by omega),zA (by omega) (by omega)]
   exact qcH hN ht h hf K (i+1) _ (by omega) (by omega) (by omega)
  ·rw[if_neg (by omega),ha,List.take_of_length_le (by omega),hf.sum,Int.sub_self]
theorem xg {N:Nat} (hN:2500<N) (t:Int) (w:List Int) (key:Int):zK N t w key=some true:=by
 unfold zK
 have ea:awk=some true:=rfl
 rw[ea]
 simp only[Option.bind_some,Bool.not_true,Bool.false_eq_true,if_false]
 by_cases h1:t<0
 ·rw[if_pos h1];rfl
 rw[if_neg h1]
 by_cases h2:t>100000
 ·rw[if_pos h2];rfl
 rw[if_neg h2]
 by_cases h3:(w.length:Int)>12
 ·rw[if_pos h3];rfl
 rw[if_neg h3]
 have h12:w.length≤12:=by omega
 have ht:0≤t∧t≤100000:=by omega
 obtain⟨r,er,hr⟩:=cw_eq (show 400<N by omega) h12
 rw[er,Option.bind_some]
 by_cases h4:r=0
 ·rw[if_neg (by simp[h4])]
  obtain⟨w1,w2,w3⟩:=hr h4
  unfold zW
  by_cases h5:1≤key∧key≤2147483646
  ·rw[if_neg (by omega),if_neg (by omega),if_neg (by omega)]
   simp only[Option.bind_some,show decide ((0:Int)>256)=false by decide,Bool.false_eq_true,if_false,decide_true,Bool.not_true]
   rcases qej h12 w2 N 0 0 (by omega) (by omega) rfl (by simp)with hb|⟨hb,hrg⟩
   ·rw[show qz w N 0 0=_ from hb];rfl
   ·rw[show qz w N 0 0=_ from hb]
    have hW:WOK w:=⟨w1,h12,hrg,by have:=yC (l:=w) fun x hx=>(hrg x hx).1;omega⟩
    obtain⟨o,left,hd,hp,hl,hlt,hk,hS⟩:=qdx (show 2000<N by omega) ht hW
    have hF:=qfx ht hW hd hp hl hlt hk
    generalize hs:yw (w.map (ze t (sm w))) (o.take left)=s at hS hF
    simp only[Option.bind_some,hS]
    have hlen:=hF.len
    rw[decide_eq_true (show(s.length:Int)=(w.length:Int)by omega)]
    simp only[decide_true,Bool.not_true,Bool.false_eq_true,if_false,Option.bind_some]
    rw[show qG N t w (sm w) (s,0) N t 0=_ from qcH (r:=(s,0)) (show 400<N by omega) ht hW hF N 0 t (by omega) (by omega) (by simp[sm])]
    obtain⟨n,hn⟩: ∃n:Nat,t.tmod 41=(n:Int):=⟨(t.tmod 41).toNat,by rw[Int.tmod_eq_emod_of_nonneg ht.1];have:=Int.emod_nonneg t (show(41:Int)≠0 by decide);omega⟩
    have hn40:n≤40:=by
     rw[Int.tmod_eq_emod_of_nonneg ht.1]at hn
     have:=Int.emod_lt_of_pos t (show(0:Int)<41 by decide)
     omega
    have eD:=qcJ (show 300<N by omega) h5 (show n≤256 by omega)
    have eL:=y8 key n
    simp only[Option.bind_some,hn,eD]
    rw[qbm (show 300<N by omega) (by omega) (qaC key n) (fun x hx=>by rw[eL];exact xu key n x hx)]
    simp only[eL,decide_true,Bool.not_true,Bool.false_eq_true,if_false,Option.bind_some]
    by_cases h0:n=0
    ·subst h0;rfl
    ·obtain⟨m,rfl⟩: ∃m,n=m+1:=⟨n-1,by omega⟩
     rw[if_neg (by omega)]
     have e1:w64 (((m+1:Nat):Int)-1)=(m:Int):=by rw[qed (by omega) (by omega),Nat.add_sub_cancel]
     have e3:=qbc (t:=t) (r:=((ku key (m+1)).1,0)) (n:=(m:Int)) (by rw[hn];exact e1) (by simp only[eL];omega) N 0 [] (by simp) (by simp) (by simp only[eL];omega)
     rw[e1,qcJ (show 300<N by omega) h5 (show m≤256 by omega),Option.bind_some]
     rw[show qI t ((ku key (m+1)).1,0) N [] 0=_ from e3]
     simp only[List.nil_append,List.drop_zero,qbI,Option.bind_some,if_true,qfc (show 2000<N by omega) (a:=(ku key m).1) (by rw[y8];omega)]
  ·have e:((if key<1 then some true else if key>2147483646 then some true else if(0:Int)<0 then some true else some (decide ((0:Int)>256)):Option Bool))=some true:=by
    by_cases h6:key<1
    ·rw[if_pos h6]
    ·rw[if_neg h6,if_pos (by omega)]
   rw[e]
   rfl
 ·rw[if_pos (by simp[h4])];rfl
end Go.Av
