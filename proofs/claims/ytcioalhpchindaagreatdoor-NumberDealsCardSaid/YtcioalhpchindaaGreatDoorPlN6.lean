/-
  Chapter 1: what holds of the shares.
-/
import Derived.Test.YtcioalhpchindaaGreatDoorPlN5
noncomputable section
namespace Go.Av
set_option linter.unusedSimpArgs false
set_option linter.unusedVariables false
theorem qfB: ∀{l:List Int},(∀x∈l,0≤x)→ ∀x∈l,x≤sm l
 |[],_,x,hx=>by cases hx
 |y::l,h,x,hx=>by
  have hn:=yC (l:=l) fun z hz=>h z (by simp[hz])
  have hy:=h y (by simp)
  simp only[sm]
  rcases List.mem_cons.1 hx with rfl|hx
  ·omega
  ·have:=qfB (l:=l) (fun z hz=>h z (by simp[hz])) x hx;omega
structure Fair (t:Int) (w s:List Int):Prop where
 len:s.length=w.length
 sum:sm s=t
 nn: ∀i (h:i<s.length),0≤s[i]∧s[i]≤t
 near: ∀i (h:i<s.length) (h':i<w.length),t*w[i]-sm w<s[i]*sm w∧s[i]*sm w<t*w[i]+sm w
 mono: ∀i k (hi:i<s.length) (hk:k<s.length) (hi':i<w.length) (hk':k<w.length),w[k]<w[i]→s[k]≤s[i]
theorem qfx {t:Int} {w o:List Int} {left:Nat} (ht:0≤t∧t≤100000) (h:WOK w) (hd:yz (jf t w) o) (hp:o.Perm (rng w.length)) (hl:(left:Int)=t-sm (w.map (ze t (sm w)))) (hlt:left<w.length) (hk:(left:Int)*sm w=sm (o.map (jf t w))):
 Fair t w (yw (w.map (ze t (sm w))) (o.take left)):=by
 have hs:=h.sum
 have hol:o.length=w.length:=by rw[hp.length_eq,jT]
 have hnd:o.Nodup:=hp.symm.nodup (qaV _)
 have htd:(o.take left).Nodup:=hnd.sublist (List.take_sublist _ _)
 have htr: ∀x∈o.take left,0≤x∧x<(w.map (ze t (sm w))).length:=fun x hx=>by
  have:=yn.1 (hp.mem_iff.1 (List.mem_of_mem_take hx))
  rw[List.length_map];exact this
 have hlen:(yw (w.map (ze t (sm w))) (o.take left)).length=w.length:=by rw[qcL,List.length_map]
 have hsum:sm (yw (w.map (ze t (sm w))) (o.take left))=t:=by
  rw[qcU _ _ htr,List.length_take,Nat.min_eq_left (by omega)];omega
 have hget: ∀i (hi:i<w.length) (hi2:i<(yw (w.map (ze t (sm w))) (o.take left)).length),(yw (w.map (ze t (sm w))) (o.take left))[i]=ze t (sm w) w[i]+if(i:Int)∈o.take left then 1 else 0:=fun i hi hi2=>by
  have:=qc0 _ _ htd htr i
  rw[zT hi2,List.getElem?_map,zT hi]at this
  simpa using this
 have hkey: ∀i (hi:i<w.length),jf t w (i:Int)=t*w[i]%sm w:=fun i hi=>by simp only[jf,Int.toNat_natCast,zT hi,Option.getD_some]
 have hdm: ∀i (hi:i<w.length),ze t (sm w) w[i]*sm w+jf t w (i:Int)=t*w[i]:=fun i hi=>by
  rw[hkey i hi]
  have:=Int.mul_ediv_add_emod (t*w[i]) (sm w)
  unfold ze
  rw[Int.mul_comm (t*w[i]/sm w)]
  exact this
 have hk0: ∀j,0≤jf t w j:=fun j=>Int.emod_nonneg _ (by omega)
 have hk1: ∀j,jf t w j<sm w:=fun j=>Int.emod_lt_of_pos _ hs
 have hsplit:sm (o.map (jf t w))=sm ((o.take left).map (jf t w))+sm ((o.drop left).map (jf t w)):=by
  rw[←yg,←List.map_append,List.take_append_drop]
 have hcut: ∀a∈o.take left,∀b∈o.drop left,jf t w b≤jf t w a:=by
  have:=hd
  unfold yz at this
  rw[←List.take_append_drop left o]at this
  exact(List.pairwise_append.1 this).2.2
 have hpos: ∀a∈o.take left,0<jf t w a:=fun a ha=>by
  refine Int.not_le.1 fun hle=>?_
  have h1:sm ((o.take left).map (jf t w))≤((o.take left).map (jf t w)).length*(sm w-1):=yD (by omega) fun y hy=>by
   obtain⟨x,_,rfl⟩:=List.mem_map.1 hy
   have:=hk1 x;omega
  have h2:sm ((o.drop left).map (jf t w))≤((o.drop left).map (jf t w)).length*0:=yD (by omega) fun y hy=>by
   obtain⟨x,hx,rfl⟩:=List.mem_map.1 hy
   have:=hcut a ha x hx;omega
  rw[List.length_map,List.length_take,Nat.min_eq_left (by omega)]at h1
  have h3:(left:Int)*(sm w-1)=left*sm w-left:=by rw[Int.mul_sub,Int.mul_one]
  have h4:0<left:=by
   have:=List.length_pos_of_mem ha
   rw[List.length_take]at this
   omega
  omega
 have hmem: ∀i,i<w.length→(i:Int)∈o.take left∨(i:Int)∈o.drop left:=fun i hi=>by
  have:(i:Int)∈o:=hp.mem_iff.2 (yn.2 (by omega))
  rw[←List.take_append_drop left o]at this
  exact List.mem_append.1 this
 have hbd: ∀i (hi:i<w.length),0≤ze t (sm w) w[i]:=fun i hi=>(vV ht hs (h.rng _ (List.getElem_mem hi))).2.2.1
 have hnn: ∀x∈yw (w.map (ze t (sm w))) (o.take left),0≤x:=fun x hx=>by
  obtain⟨i,hi,rfl⟩:=List.mem_iff_getElem.1 hx
  rw[hget i (by omega) hi]
  have:=hbd i (by omega)
  split<;>omega
 refine⟨hlen,hsum,fun i hi=>⟨hnn _ (List.getElem_mem hi),Int.le_trans (qfB hnn _ (List.getElem_mem hi)) (Int.le_of_eq hsum)⟩,fun i hi hi'=>?_,fun i k hi hk' hi' hkw hw=>?_⟩
 ·rw[hget i hi' hi]
  have h1:=hdm i hi'
  have h2:=hk0 i
  have h3:=hk1 i
  split
  ·rename_i hm
   have h4:=hpos _ hm
   rw[Int.add_mul,Int.one_mul]
   omega
  ·rw[Int.add_zero]
   omega
 ·rw[hget i hi' hi,hget k hkw hk']
  have h1:=hdm i hi'
  have h2:=hdm k hkw
  have h3:t*w[k]≤t*w[i]:=Int.mul_le_mul_of_nonneg_left (by omega) ht.1
  have h4:ze t (sm w) w[k]≤ze t (sm w) w[i]:=Int.ediv_le_ediv hs h3
  by_cases he:ze t (sm w) w[k]=ze t (sm w) w[i]
  ·rw[he]at h2⊢
   by_cases hm:(k:Int)∈o.take left
   ·have h5:=hpos _ hm
    have h6:(i:Int)∈o.take left:=by
     rcases hmem i hi' with h|h
     ·exact h
     ·exfalso
      have h7:=hcut _ hm _ h
      have h8:t*w[k]=t*w[i]:=by omega
      have h9:0<t:=by
       refine Int.not_le.1 fun hle=>?_
       obtain rfl:t=0:=by omega
       have:=hkey k hkw
       rw[Int.zero_mul,Int.zero_emod]at this
       omega
      have:=Int.eq_of_mul_eq_mul_left (show t≠0 by omega) h8
      omega
    rw[if_pos hm,if_pos h6]
    exact Int.le_refl _
   ·rw[if_neg hm]
    split<;>omega
  ·split<;>split<;>omega
end Go.Av
