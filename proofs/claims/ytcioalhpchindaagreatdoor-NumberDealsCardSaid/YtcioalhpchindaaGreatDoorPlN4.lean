/-
  Chapter 1: the checks of weights, and the walks of shares.
-/
import Derived.Test.YtcioalhpchindaaGreatDoorPlN3
noncomputable section
namespace Go.Av
set_option linter.unusedSimpArgs false
set_option linter.unusedVariables false
def sm:List Int→Int
 |[]=>0
 |x::xs=>x+sm xs
theorem yg: ∀a b:List Int,sm (a++b)=sm a+sm b
 |[],b=>by simp[sm]
 |x::a,b=>by simp only[List.cons_append,sm,yg a b];omega
theorem qfw {a b:List Int} (h:a.Perm b):sm a=sm b:=by
 induction h with
 |nil=>rfl
 |cons x _ ih=>simp only[sm,ih]
 |swap x y l=>simp only[sm];omega
 |trans _ _ h1 h2=>exact h1.trans h2
theorem yD {B:Int} (hB:0≤B): ∀{l:List Int},(∀x∈l,x≤B)→sm l≤l.length*B
 |[],_=>by simp[sm]
 |x::l,h=>by
  have h1:=h x (by simp)
  have h2:=yD hB (l:=l) (fun y hy=>h y (by simp[hy]))
  simp only[sm,List.length_cons]
  have e:((l.length+1:Nat):Int)*B=l.length*B+B:=by rw[Int.natCast_add,Int.add_mul];simp
  omega
theorem yC: ∀{l:List Int},(∀x∈l,0≤x)→0≤sm l
 |[],_=>by simp[sm]
 |x::l,h=>by
  have h1:=h x (by simp)
  have h2:=yC (l:=l) (fun y hy=>h y (by simp[hy]))
  simp only[sm];omega
structure WOK (w:List Int):Prop where
 one:1≤w.length
 few:w.length≤12
 rng: ∀x∈w,0≤x∧x≤100000
 sum:0<sm w
theorem WOK.le {w:List Int} (h:WOK w):sm w≤1200000:=by
 have:=yD (by decide) (fun x hx=>(h.rng x hx).2)
 have:=h.few
 omega
theorem qbf {N:Nat} (hN:5<N):zn N [0,0]=some 0:=by
 obtain⟨K,rfl⟩: ∃K,N=K+3:=⟨N-3,by omega⟩
 simp[zn,zm,idx,zA]
theorem index_none {w:List Int} (hl:w.length≤300) (h: ∀x∈w,0≤x∧x≤999999999): ∀(K i:Nat),i≤w.length→w.length<K+i→qo w K (i:Int)=some (.inl ())
 |0,i,h1,h2=>by omega
 |K+1,i,h1,h2=>by
  unfold qo
  by_cases hi:i<w.length
  ·have hx:=h w[i] (List.getElem_mem hi)
   rw[if_pos (by omega),kL,zT hi]
   simp only[Option.bind_some,zf]
   rw[if_neg (by omega),decide_eq_false (by omega)]
   simp only[Option.bind_some,Bool.false_eq_true,if_false]
   rw[zQ (by omega),index_none hl h K (i+1) (by omega) (by omega)]
  ·rw[if_neg (by omega)]
theorem qem {w:List Int} (hl:w.length≤300): ∀(K i:Nat) (m:Int),i≤w.length→w.length<K+i→ ∃r,kr w K m (i:Int)=some r∧m≤r∧ ∀x∈w.drop i,x≤r
 |0,i,m,h1,h2=>by omega
 |K+1,i,m,h1,h2=>by
  unfold kr
  by_cases hi:i<w.length
  ·obtain⟨r,e,h3,h4⟩:=qem hl K (i+1) (if w[i]>m then w[i]else m) (by omega) (by omega)
   rw[if_pos (by omega),kL,zT hi,Option.bind_some,zQ (by omega),e]
   refine⟨r,rfl,by split at h3<;>omega,fun x hx=>?_⟩
   rw[List.drop_eq_getElem_cons hi]at hx
   rcases List.mem_cons.1 hx with rfl|hx
   ·split at h3<;>omega
   ·exact h4 x hx
  ·rw[if_neg (by omega),List.drop_eq_nil_of_le (by omega)]
   exact⟨m,rfl,Int.le_refl _,by simp⟩
theorem qgh {N:Nat} (hN:400<N) {w:List Int} (h:WOK w): ∃r,slices_Max_int N w=some r∧r≠0:=by
 have h1:=h.one
 have h12:=h.few
 obtain⟨r,e,g1,g2⟩:=qem (w:=w) (by omega) N 1 w[0] (by omega) (by omega)
 unfold slices_Max_int
 rw[if_neg (by omega),Option.bind_some,idx_0,zT (show 0<w.length by omega),Option.bind_some]
 refine⟨r,by rw[show kr w N w[0] 1=_ from e];rfl,fun h0=>?_⟩
 have:sm w≤w.length*0:=yD (Int.le_refl 0) fun x hx=>by
  rw[←List.take_append_drop 1 w]at hx
  rcases List.mem_append.1 hx with hx|hx
  ·obtain⟨j,hj,rfl⟩:=List.mem_iff_getElem.1 hx
   simp only[List.length_take]at hj
   obtain rfl:j=0:=by omega
   simp only[List.getElem_take]
   omega
  ·have:=g2 x hx;omega
 have:=h.sum
 omega
theorem cw_ok {N:Nat} (hN:400<N) {w:List Int} (h:WOK w):kN N w=some 0:=by
 have h1:=h.one
 have h12:=h.few
 obtain⟨r,e,hr⟩:=qgh hN h
 have hi:=index_none (w:=w) (by omega) (fun x hx=>by have:=h.rng x hx;omega) N 0 (by omega) (by omega)
 unfold kN zg kM kY
 rw[decide_eq_false (by omega),decide_eq_false (by omega)]
 simp only[Bool.false_eq_true,if_false,Option.bind_some,qbf (show 5<N by omega)]
 rw[show qo w N 0=_ from hi]
 simp only[Option.bind_some,e]
 rw[decide_eq_false hr]
 simp[qbf (show 5<N by omega)]
theorem qeQ {w:List Int} (h:WOK w): ∀(K i:Nat) (a:Int),i≤w.length→w.length<K+i→a=sm (w.take i)→kF w K a (i:Int)=some (sm w)
 |0,i,a,h1,h2,_=>by omega
 |K+1,i,a,h1,h2,ha=>by
  have h12:=h.few
  unfold kF
  by_cases hi:i<w.length
  ·have hx:=h.rng w[i] (List.getElem_mem hi)
   have e:sm (w.take (i+1))=sm (w.take i)+w[i]:=by rw[List.take_succ_eq_append_getElem hi,yg];simp[sm]
   have hs:sm (w.take i)≤(w.take i).length*100000:=yD (by decide) fun x hx=>(h.rng x (List.mem_of_mem_take hx)).2
   have hn:0≤sm (w.take i):=yC fun x hx=>(h.rng x (List.mem_of_mem_take hx)).1
   simp only[List.length_take]at hs
   rw[if_pos (by omega),kL,zT hi,Option.bind_some,zQ (by omega),zA (by omega) (by omega),qeQ h K (i+1) _ (by omega) (by omega) (by omega)]
  ·rw[if_neg (by omega),ha,List.take_of_length_le (by omega)]
def ze (t s x:Int):Int:=t*x/s
theorem vV {t s x:Int} (ht:0≤t∧t≤100000) (hs:0<s) (hx:0≤x∧x≤100000):0≤t*x∧t*x≤10000000000∧0≤ze t s x∧ze t s x≤10000000000:=by
 have h1:0≤t*x:=Int.mul_nonneg ht.1 hx.1
 have h2:t*x≤100000*100000:=Int.mul_le_mul ht.2 hx.2 hx.1 (by decide)
 refine⟨h1,h2,Int.ediv_nonneg h1 (by omega),?_⟩
 have:t*x/s≤t*x:=Int.ediv_le_self s h1
 unfold ze
 omega
theorem qfL {t s x:Int} (ht:0≤t∧t≤100000) (hs:0<s) (hx:0≤x∧x≤100000):qdX .i64 (w64 (t*x)) s=some (ze t s x):=by
 obtain⟨h1,h2,h3,h4⟩:=vV ht hs hx
 rw[zA (by omega) (by omega)]
 unfold qdX
 rw[if_neg (by omega),Int.tdiv_eq_ediv_of_nonneg h1]
 show some (w64 _)=_
 unfold ze at h3 h4⊢
 rw[zA (by omega) (by omega)]
theorem qeP {t s x:Int} (ht:0≤t∧t≤100000) (hs:0<s) (hx:0≤x∧x≤100000):qbt .i64 (w64 (t*x)) s=some (t*x%s):=by
 obtain⟨h1,h2,h3,h4⟩:=vV ht hs hx
 rw[zA (by omega) (by omega)]
 unfold qbt
 rw[if_neg (by omega),Int.tmod_eq_emod_of_nonneg h1]
def rng (n:Nat):List Int:=(List.range n).map Int.ofNat
theorem qb0 (n:Nat):rng (n+1)=rng n++[(n:Int)]:=by unfold rng;rw[List.range_succ,List.map_append];rfl
theorem jT (n:Nat):(rng n).length=n:=by simp[rng]
theorem qca {t:Int} {w:List Int} (ht:0≤t∧t≤100000) (h:WOK w): ∀(K i:Nat),i≤w.length→w.length<K+i→
 kE t w (sm w) K ((w.take i).map (ze t (sm w))) (rng i) (t-sm ((w.take i).map (ze t (sm w)))) (i:Int)=some (w.map (ze t (sm w)),rng w.length,t-sm (w.map (ze t (sm w))))
 |0,i,h1,h2=>by omega
 |K+1,i,h1,h2=>by
  have h12:=h.few
  unfold kE
  by_cases hi:i<w.length
  ·have hx:=h.rng w[i] (List.getElem_mem hi)
   obtain⟨b1,b2,b3,b4⟩:=vV ht h.sum hx
   have e:(w.take (i+1)).map (ze t (sm w))=(w.take i).map (ze t (sm w))++[ze t (sm w) w[i]]:=by rw[List.take_succ_eq_append_getElem hi,List.map_append];rfl
   have hs:sm ((w.take i).map (ze t (sm w)))≤((w.take i).map (ze t (sm w))).length*10000000000:=yD (by decide) fun y hy=>by
    obtain⟨x,hx,rfl⟩:=List.mem_map.1 hy
    exact(vV ht h.sum (h.rng x (List.mem_of_mem_take hx))).2.2.2
   have hn:0≤sm ((w.take i).map (ze t (sm w))):=yC fun y hy=>by
    obtain⟨x,hx,rfl⟩:=List.mem_map.1 hy
    exact(vV ht h.sum (h.rng x (List.mem_of_mem_take hx))).2.2.1
   have hl:((w.take i).map (ze t (sm w))).length=i:=by simp;omega
   rw[hl]at hs
   rw[if_pos (by omega),kL,zT hi,Option.bind_some,qfL ht h.sum hx,Option.bind_some,qcd (by simp;omega) (by simp;omega),Option.bind_some,qcd (by simp[jT];omega) (by simp[jT];omega),Option.bind_some,kL,List.getElem?_append_right (by omega),hl,Nat.sub_self]
   simp only[List.getElem?_cons_zero,Option.bind_some]
   have ih:=qca ht h K (i+1) (by omega) (by omega)
   rw[e,yg,qb0]at ih
   rw[zQ (by omega),zA (by omega) (by omega)]
   rw[show t-sm ((w.take i).map (ze t (sm w)))-ze t (sm w) w[i]=t-(sm ((w.take i).map (ze t (sm w)))+sm [ze t (sm w) w[i]])by simp only[sm];omega]
   exact ih
  ·rw[if_neg (by omega),List.take_of_length_le (by omega),show i=w.length by omega]
end Go.Av
