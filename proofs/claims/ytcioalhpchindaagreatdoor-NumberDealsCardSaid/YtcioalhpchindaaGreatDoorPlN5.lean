/-
  Chapter 1: shares: what they are.
-/
import Derived.Test.YtcioalhpchindaaGreatDoorPlN4
noncomputable section
namespace Go.Av
set_option linter.unusedSimpArgs false
set_option linter.unusedVariables false
def yw (l s:List Int):List Int:=s.foldl (fun l x=>l.set x.toNat ((l[x.toNat]?).getD 0+1)) l
theorem yZ (l:List Int) (x:Int) (s:List Int):yw l (x::s)=yw (l.set x.toNat ((l[x.toNat]?).getD 0+1)) s:=rfl
theorem qcL: ∀(s l:List Int),(yw l s).length=l.length
 |[],l=>rfl
 |x::s,l=>by rw[yZ,qcL s,List.length_set]
theorem qek: ∀(l:List Int) (i:Nat),i<l.length→sm (l.set i ((l[i]?).getD 0+1))=sm l+1
 |[],i,h=>by simp at h
 |x::l,0,h=>by simp[sm];omega
 |x::l,i+1,h=>by
  have:=qek l i (by simpa using h)
  simp only[List.set_cons_succ,List.getElem?_cons_succ,sm,this]
  omega
theorem qcU: ∀(s l:List Int),(∀x∈s,0≤x∧x<l.length)→sm (yw l s)=sm l+s.length
 |[],l,h=>by simp[yw]
 |x::s,l,h=>by
  have hx:=h x (by simp)
  rw[yZ,qcU s _ (fun y hy=>by rw[List.length_set];exact h y (by simp[hy])),qek l _ (by omega)]
  simp;omega
theorem qc0: ∀(s l:List Int),s.Nodup→(∀x∈s,0≤x∧x<l.length)→ ∀j:Nat,(yw l s)[j]? =(l[j]?).map fun v=>v+if(j:Int)∈s then 1 else 0
 |[],l,_,h,j=>by cases e:l[j]? <;>simp[yw,e]
 |x::s,l,hd,h,j=>by
  have hx:=h x (by simp)
  obtain⟨hd1,hd2⟩:=List.nodup_cons.1 hd
  rw[yZ,qc0 s _ hd2 (fun y hy=>by rw[List.length_set];exact h y (by simp[hy])) j]
  by_cases hj:j=x.toNat
  ·subst hj
   rw[List.getElem?_set_self (by omega),zT (show x.toNat<l.length by omega)]
   have e:((x.toNat:Nat):Int)=x:=by omega
   simp only[Option.map_some,Option.getD_some,e,if_neg hd1,List.mem_cons,true_or,if_true]
   simp
  ·rw[List.getElem?_set_ne (fun e=>hj e.symm)]
   have e:((j:Int)∈x::s)↔(j:Int)∈s:=by
    rw[List.mem_cons]
    constructor
    ·rintro(h|h)
     ·omega
     ·exact h
    ·exact .inr
   simp only[e]
theorem qeZ {s:List Int} (hs:s.length≤1000): ∀(K n:Nat) (l:List Int),n≤s.length→s.length<K+n→(∀x∈s,0≤x∧x<l.length)→(∀y∈l,0≤y∧y≤10000000000+n)→
 kG s K l (n:Int)=some (yw l (s.drop n))
 |0,n,l,h1,h2,_,_=>by omega
 |K+1,n,l,h1,h2,h3,h4=>by
  unfold kG
  by_cases hn:n<s.length
  ·have hx:=h3 s[n] (List.getElem_mem hn)
   obtain⟨j,hj⟩: ∃j:Nat,s[n]=(j:Int):=⟨s[n].toNat,by omega⟩
   have hjl:j<l.length:=by omega
   have hy:=h4 l[j] (List.getElem_mem hjl)
   rw[if_pos (by omega),kL,zT hn,Option.bind_some,hj,kL,zT hjl,Option.bind_some,zA (by omega) (by omega),qa9 hjl,Option.bind_some,zQ (by omega)]
   rw[qeZ hs K (n+1) _ (by omega) (by omega) (by rw[List.length_set];exact h3) (fun y hy2=>by
    rcases List.mem_or_eq_of_mem_set hy2 with hy2|rfl
    ·have:=h4 y hy2;omega
    ·omega)]
   rw[List.drop_eq_getElem_cons hn,yZ,hj]
   simp only[Int.toNat_natCast,zT hjl,Option.getD_some]
  ·rw[if_neg (by omega),List.drop_eq_nil_of_le (by omega)]
   rfl
def jf (t:Int) (w:List Int) (j:Int):Int:=t*((w[j.toNat]?).getD 0)%sm w
theorem yn {n:Nat} {x:Int}:x∈rng n↔0≤x∧x<n:=by
 unfold rng
 rw[List.mem_map]
 constructor
 ·rintro⟨a,ha,rfl⟩
  have:=List.mem_range.1 ha
  simp only[Int.ofNat_eq_natCast]
  omega
 ·rintro⟨h1,h2⟩
  exact⟨x.toNat,List.mem_range.2 (by omega),by simp only[Int.ofNat_eq_natCast];omega⟩
theorem qaV: ∀n:Nat,(rng n).Nodup
 |0=>List.nodup_nil
 |n+1=>by
  rw[qb0]
  refine List.nodup_append.2 ⟨qaV n,by simp,fun a ha b hb=>?_⟩
  obtain rfl:=List.mem_singleton.1 hb
  have:=yn.1 ha
  omega
theorem qfg {n j:Nat} (h:j<n):(rng n)[j]? =some (j:Int):=by simp[rng,h]
theorem qfk (t:Int) (w:List Int):(rng w.length).map (jf t w)=w.map fun x=>t*x%sm w:=by
 refine List.ext_getElem? fun j=>?_
 rw[List.getElem?_map,List.getElem?_map]
 by_cases hj:j<w.length
 ·rw[qfg hj,zT hj]
  simp only[Option.map_some,jf,Int.toNat_natCast,zT hj,Option.getD_some]
 ·rw[List.getElem?_eq_none (by rw[jT];omega),List.getElem?_eq_none (by omega)]
  rfl
theorem qcK (t s:Int): ∀l:List Int,t*sm l=s*sm (l.map (ze t s))+sm (l.map fun x=>t*x%s)
 |[]=>by simp[sm]
 |x::l=>by
  have:=qcK t s l
  have h:=Int.mul_ediv_add_emod (t*x) s
  simp only[sm,List.map_cons,Int.mul_add,ze]at this⊢
  omega
theorem qfP {t:Int} {w:List Int} (ht:0≤t∧t≤100000) (h:WOK w):qan t (sm w) w (jf t w) (rng w.length):=by
 intro x hx n hn
 obtain⟨x1,x2⟩:=yn.1 hx
 obtain⟨n1,n2⟩:=yn.1 hn
 obtain⟨a,rfl⟩: ∃a:Nat,x=(a:Int):=⟨x.toNat,by omega⟩
 obtain⟨b,rfl⟩: ∃b:Nat,n=(b:Int):=⟨n.toNat,by omega⟩
 have ha:a<w.length:=by omega
 have hb:b<w.length:=by omega
 have k1:jf t w (a:Int)=t*w[a]%sm w:=by simp only[jf,Int.toNat_natCast,zT ha,Option.getD_some]
 have k2:jf t w (b:Int)=t*w[b]%sm w:=by simp only[jf,Int.toNat_natCast,zT hb,Option.getD_some]
 have hs:=h.sum
 have hle:=h.le
 have m1:=Int.emod_nonneg (t*w[a]) (show sm w≠0 by omega)
 have m2:=Int.emod_lt_of_pos (t*w[a]) hs
 have m3:=Int.emod_nonneg (t*w[b]) (show sm w≠0 by omega)
 have m4:=Int.emod_lt_of_pos (t*w[b]) hs
 refine⟨t*w[a]%sm w-t*w[b]%sm w,?_,?_⟩
 ·unfold zb
  rw[kL,kL,zT ha,zT hb,Option.bind_some,qeP ht hs (h.rng _ (List.getElem_mem ha)),Option.bind_some,Option.bind_some,qeP ht hs (h.rng _ (List.getElem_mem hb)),Option.bind_some,zA (by omega) (by omega)]
 ·rw[k1,k2];omega
theorem qdx {N:Nat} (hN:2000<N) {t:Int} {w:List Int} (ht:0≤t∧t≤100000) (h:WOK w):
 ∃(o:List Int) (left:Nat),yz (jf t w) o∧o.Perm (rng w.length)∧(left:Int)=t-sm (w.map (ze t (sm w)))∧left<w.length∧(left:Int)*sm w=sm (o.map (jf t w))∧
  zR N t w=some (yw (w.map (ze t (sm w))) (o.take left),0):=by
 have hs:=h.sum
 have h1:=h.one
 have h12:=h.few
 obtain⟨o,e,hd,hp⟩:=qe7 (t:=t) (s:=sm w) (w:=w) (k:=jf t w) hN (l:=rng w.length) (by rw[jT];omega) (by rw[jT];omega) (qfP ht h)
 have hk:sm (o.map (jf t w))=sm (w.map fun x=>t*x%sm w):=by rw[←qfk];exact qfw (hp.map _)
 have hdiv:=qcK t (sm w) w
 have hr0:0≤sm (w.map fun x=>t*x%sm w):=yC fun y hy=>by
  obtain⟨x,_,rfl⟩:=List.mem_map.1 hy
  exact Int.emod_nonneg _ (by omega)
 have hr1:sm (w.map fun x=>t*x%sm w)≤(w.map fun x=>t*x%sm w).length*(sm w-1):=yD (by omega) fun y hy=>by
  obtain⟨x,_,rfl⟩:=List.mem_map.1 hy
  have:=Int.emod_lt_of_pos (t*x) hs
  omega
 rw[List.length_map]at hr1
 have hmul:(t-sm (w.map (ze t (sm w))))*sm w=sm (w.map fun x=>t*x%sm w):=by
  rw[Int.sub_mul,Int.mul_comm (sm (w.map _)) (sm w)]
  omega
 have hL0:0≤t-sm (w.map (ze t (sm w))):=by
  refine Int.not_lt.1 fun hlt=>?_
  have:=Int.mul_neg_of_neg_of_pos hlt hs
  omega
 obtain⟨left,hl⟩: ∃left:Nat,(left:Int)=t-sm (w.map (ze t (sm w))):=⟨(t-sm (w.map (ze t (sm w)))).toNat,by omega⟩
 rw[←hl]at hmul
 have hlt:left<w.length:=by
  refine Nat.not_le.1 fun hge=>?_
  have h2:(w.length:Int)*sm w≤left*sm w:=Int.mul_le_mul_of_nonneg_right (by omega) (by omega)
  have h3:(w.length:Int)*(sm w-1)=w.length*sm w-w.length:=by rw[Int.mul_sub,Int.mul_one]
  omega
 refine⟨o,left,hd,hp,hl,hlt,by rw[hk];exact hmul,?_⟩
 have hol:o.length=w.length:=by rw[hp.length_eq,jT]
 have e1:=qeQ h N 0 0 (by omega) (by omega) rfl
 have e2:=qca ht h N 0 (by omega) (by omega)
 have e3:=qeZ (s:=o.take left) (by simp;omega) N 0 (w.map (ze t (sm w))) (by omega) (by simp;omega) (fun x hx=>by
  have:=yn.1 (hp.mem_iff.1 (List.mem_of_mem_take hx))
  rw[List.length_map]
  exact this) (fun y hy=>by
  obtain⟨x,hx,rfl⟩:=List.mem_map.1 hy
  have:=vV ht hs (h.rng x hx)
  omega)
 unfold zR zg
 rw[if_neg (by omega),decide_eq_false (by omega)]
 simp only[Bool.false_eq_true,if_false,Option.bind_some,cw_ok (show 400<N by omega) h,qbf (show 5<N by omega)]
 rw[show kF w N 0 0=_ from e1]
 simp only[decide_true,Bool.not_true,Bool.false_eq_true,if_false,Option.bind_some]
 have e2':kE t w (sm w) N [] [] t 0=some (w.map (ze t (sm w)),rng w.length,t-sm (w.map (ze t (sm w)))):=by
  have:t-sm ((w.take 0).map (ze t (sm w)))=t:=by simp[sm]
  rw[this]at e2
  exact e2
 rw[e2']
 simp only[Option.bind_some,e]
 rw[if_pos (by rw[jT,hol]),←hl,qdP (by omega)]
 simp only[Option.bind_some]
 rw[show kG (o.take left) N (w.map (ze t (sm w))) 0=_ from e3]
 rfl
end Go.Av
