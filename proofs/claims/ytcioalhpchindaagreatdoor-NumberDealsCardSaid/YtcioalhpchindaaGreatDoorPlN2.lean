/-
  Chapter 1: drawn orders.
-/
import Derived.Test.YtcioalhpchindaaGreatDoorPlN1
noncomputable section
namespace Go.Av
set_option linter.unusedSimpArgs false
set_option linter.unusedVariables false
def vO (x:Int):Int:=(39373*x)%2147483647
def ku (key:Int):Nat→List Int×Int
 |0=>([],key)
 |i+1=>((ku key i).1.take (vO (ku key i).2%(i+1:Int)).toNat++[(i:Int)]++(ku key i).1.drop (vO (ku key i).2%(i+1:Int)).toNat,vO (ku key i).2)
theorem qfJ {key:Int} (h:0≤key∧key<2147483647): ∀i,0≤(ku key i).2∧(ku key i).2<2147483647
 |0=>h
 |i+1=>⟨Int.emod_nonneg _ (by decide),Int.emod_lt_of_pos _ (by decide)⟩
theorem qd9 (x:Int) (i:Nat):0≤x%(i+1:Int)∧x%(i+1:Int)≤i:=⟨Int.emod_nonneg _ (by omega),by have:=Int.emod_lt_of_pos x (show(0:Int)<i+1 by omega);omega⟩
theorem y8 (key:Int): ∀i,(ku key i).1.length=i
 |0=>rfl
 |i+1=>by
  have h:=qd9 (vO (ku key i).2) i
  simp only[ku,List.length_append,List.length_take,List.length_drop,List.length_cons,List.length_nil,y8 key i]
  omega
def oD (key:Int) (i:Nat):Option (List Int):=if i=0 then none else some (ku key i).1
theorem qcV {key:Int} (h:0≤key∧key<2147483647) (n:Nat) (hn:n≤256): ∀(K i:Nat),i≤n→n<K+i→kW (n:Int) K (oD key i) (i:Int) (ku key i).2=some (oD key n)
 |0,i,h1,h2=>by omega
 |K+1,i,h1,h2=>by
  unfold kW
  by_cases hi:i=n
  ·subst hi
   rw[if_neg (by omega)]
  ·have hx:=qfJ h i
   have e1:w64 (39373*(ku key i).2)=39373*(ku key i).2:=zA (by omega) (by omega)
   have e2:(39373*(ku key i).2).tmod 2147483647=vO (ku key i).2:=Int.tmod_eq_emod_of_nonneg (by omega)
   have hp:=qd9 (vO (ku key i).2) i
   have hx2:0≤vO (ku key i).2:=Int.emod_nonneg _ (by decide)
   have e3:qbt .i64 (vO (ku key i).2) ((i:Int)+1)=some (vO (ku key i).2%(i+1:Int)):=by
    unfold qbt
    rw[if_neg (by omega),Int.tmod_eq_emod_of_nonneg hx2]
   rw[if_pos (by omega),e1,e2,zA (n:=(i:Int)+1) (by omega) (by omega),e3,Option.bind_some]
   have ih:=qcV h n hn K (i+1) (by omega) (by omega)
   have eo:oD key (i+1)=some (ku key (i+1)).1:=rfl
   rw[eo]at ih
   have el:=y8 key i
   generalize hq:vO (ku key i).2%(i+1:Int)=q at hp⊢
   have ed:(ku key (i+1)).1=(ku key i).1.take q.toNat++[(i:Int)]++(ku key i).1.drop q.toNat:=by rw[←hq];rfl
   have ex:(ku key (i+1)).2=vO (ku key i).2:=rfl
   by_cases h0:i=0
   ·subst h0
    have hq0:q=0:=by omega
    subst hq0
    simp only[oD,if_true,qd4,Option.bind_some,Int.lt_irrefl,if_false]
    rw[ed,ex]at ih
    exact ih
   ·simp only[oD,if_neg h0]
    rw[el,if_neg (by omega)]
    simp only[qdV]
    rw[if_pos ⟨by omega,by omega,by omega⟩]
    simp only[Option.bind_some]
    rw[ed,ex]at ih
    exact ih
theorem qf5 (key:Int) (n:Nat):hof (oD key n)=(ku key n).1:=by
 unfold oD
 split
 ·rename_i h;subst h;rfl
 ·rfl
theorem qcJ {N:Nat} (hN:300<N) {key:Int} (h:1≤key∧key≤2147483646) {n:Nat} (hn:n≤256):z8 N key (n:Int)=some ((ku key n).1,0):=by
 unfold z8
 have:=qcV (key:=key) (by omega) n hn N 0 (by omega) (by omega)
 rw[if_neg (by omega),if_neg (by omega),if_neg (by omega),decide_eq_false (by omega),Option.bind_some,if_neg (by decide)]
 rw[show kW (n:Int) N (none:Option (List Int)) 0 key=_ from this,Option.bind_some,qf5]
theorem qft {α:Type} {l:List α} {p:Nat} {x y:α}:y∈l.take p++[x]++l.drop p↔y=x∨y∈l:=by
 simp only[List.mem_append,List.mem_singleton]
 constructor
 ·rintro((h|h)|h)
  ·exact .inr (List.mem_of_mem_take h)
  ·exact .inl h
  ·exact .inr (List.mem_of_mem_drop h)
 ·rintro(h|h)
  ·exact .inl (.inr h)
  ·rw[←List.take_append_drop p l]at h
   rcases List.mem_append.1 h with h|h
   ·exact .inl (.inl h)
   ·exact .inr h
theorem xu (key:Int): ∀(i:Nat) (x:Int),x∈(ku key i).1→0≤x∧x<i
 |0,x,h=>by cases h
 |i+1,x,h=>by
  rcases qft.1 h with rfl|h
  ·omega
  ·have:=xu key i x h;omega
theorem qaC (key:Int): ∀i,(ku key i).1.Nodup
 |0=>List.nodup_nil
 |i+1=>by
  have h:((i:Int)::(ku key i).1).Nodup:=List.nodup_cons.2 ⟨fun h=>by have:=xu key i _ h;omega,qaC key i⟩
  refine List.Perm.nodup ?_ h
  show((i:Int)::(ku key i).1).Perm ((ku key i).1.take _++[(i:Int)]++(ku key i).1.drop _)
  rw[List.append_assoc,List.singleton_append]
  refine .trans ?_ List.perm_middle.symm
  rw[List.take_append_drop]
theorem qbI (key:Int) (i:Nat):(ku key (i+1)).1.filter (fun x=>!decide (x=(i:Int)))=(ku key i).1:=by
 show((ku key i).1.take _++[(i:Int)]++(ku key i).1.drop _).filter _=_
 rw[List.filter_append,List.filter_append]
 have h: ∀l:List Int,(∀x∈l,x∈(ku key i).1)→l.filter (fun x=>!decide (x=(i:Int)))=l:=fun l hl=>List.filter_eq_self.2 fun x hx=>by
  have:=xu key i x (hl x hx)
  simp only[Bool.not_eq_true',decide_eq_false_iff_not]
  omega
 rw[h _ fun x hx=>List.mem_of_mem_take hx,h _ fun x hx=>List.mem_of_mem_drop hx]
 simp
end Go.Av
