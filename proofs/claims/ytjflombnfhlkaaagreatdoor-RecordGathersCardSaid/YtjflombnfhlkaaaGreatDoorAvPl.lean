/-
  Plain facts on what the shadows are made of.
-/
import Derived.Test.YtjflombnfhlkaaaGreatDoorAvOpt
noncomputable section
namespace Go.Av
variable {α:Type}
theorem qaq {n:Int} (h1: -9223372036854775808≤n) (h2:n≤9223372036854775807):w64 n=n:=by
 show IntKind.wrap .i64 n=n
 unfold IntKind.wrap
 have e:(2:Int)^IntKind.i64.bits=18446744073709551616:=by decide
 have e2:(2:Int)^(IntKind.i64.bits-1)=9223372036854775808:=by decide
 have e3:IntKind.i64.signed=true:=by decide
 simp only[e,e2,e3,Bool.true_and,ge_iff_le,decide_eq_true_eq]
 split<;>omega
theorem kg {k:Nat} (h:k<4611686018427387904):w64 ((k:Int)+1)=((k+1:Nat):Int):=by
 rw[qaq (by omega) (by omega)];rfl
theorem qeB {k:Nat} (h:k<4611686018427387904) (h0:0<k):w64 ((k:Int)-1)=((k-1:Nat):Int):=by
 rw[qaq (by omega) (by omega)];omega
theorem qJ (l:List α) (k:Nat):idx l (k:Int)=l[k]? :=by simp[idx]
theorem xE (l:List α):idx l 0=l[0]? :=by simp[idx]
theorem qeb (l:List α):idx l 1=l[1]? :=by simp[idx]
theorem qmj (l:List α):idx l 2=l[2]? :=by simp[idx]
theorem jQ {b:Nat} {l xs:List α} (h:(l.length+xs.length)*b≤140737488355328) (h2:l.length+xs.length≤140737488355328):app b l xs=some (l++xs):=by
 unfold app;rw[if_pos ⟨h,h2⟩]
theorem xD {l:List α} {k:Nat} (h:k<l.length) (x:α):put l (k:Int) x=some (l.set k x):=by
 unfold put;rw[if_pos ⟨by omega,by omega⟩];simp
theorem qeV {l:List α} {k:Nat} (h:k≤l.length):cut l 0 (k:Int)=some (l.take k):=by
 unfold cut;rw[if_pos ⟨by omega,by omega,by omega⟩];simp
theorem qhj {l:List α} {k:Nat} (h:k≤l.length):cut l (k:Int) (l.length:Int)=some (l.drop k):=by
 unfold cut;rw[if_pos ⟨by omega,by omega,by omega⟩]
 simp only[Int.toNat_natCast,Option.some.injEq]
 rw[List.take_of_length_le (by simp)]
theorem qju {l ys:List α} (h:l.length=ys.length):cpy l ys=ys:=by
 simp[cpy,h]
theorem qkA {l:List α} {k:Nat} (h:k≤l.length):at' l (k:Int)=some k:=by
 unfold at';rw[if_pos ⟨by omega,by omega⟩];simp
theorem xH: ∀a:List UInt8,ltL a a=false
 |[]=>rfl
 |x::a=>by
  simp only[ltL,xH a,Bool.and_false,Bool.or_false,decide_eq_false_iff_not]
  exact UInt8.lt_irrefl x
theorem qa0: ∀{a b c:List UInt8},ltL a b=true→ltL b c=true→ltL a c=true
 |_,[],_,h,_=>by cases ‹List UInt8›<;>simp[ltL]at h
 |_,_::_,[],_,h=>by simp[ltL]at h
 |[],_::_,_::_,_,_=>rfl
 |x::a,y::b,z::c,h,k=>by
  simp only[ltL,Bool.or_eq_true,Bool.and_eq_true,decide_eq_true_eq,beq_iff_eq]at h k⊢
  rcases h with h|⟨rfl,h⟩
  ·rcases k with k|⟨rfl,_⟩
   ·exact .inl (UInt8.lt_trans h k)
   ·exact .inl h
  ·rcases k with k|⟨rfl,k⟩
   ·exact .inl k
   ·exact .inr ⟨rfl,qa0 h k⟩
theorem qbu: ∀(a b:List UInt8),ltL a b=false→ltL b a=false→a=b
 |[],[],_,_=>rfl
 |[],_::_,h,_=>by simp[ltL]at h
 |_::_,[],_,h=>by simp[ltL]at h
 |x::a,y::b,h,k=>by
  simp only[ltL,Bool.or_eq_false_iff,Bool.and_eq_false_iff,decide_eq_false_iff_not,beq_eq_false_iff_ne]at h k
  have e:x=y:=by
   rcases UInt8.lt_or_lt_of_ne (a:=x) (b:=y)|>fun f=>Classical.em (x=y)with e|e
   ·exact e
   ·rcases UInt8.lt_or_lt_of_ne e with h1|h1
    ·exact absurd h1 h.1
    ·exact absurd h1 k.1
  subst e
  have h2:ltL a b=false:=by rcases h.2 with h|h;exact absurd rfl h;exact h
  have k2:ltL b a=false:=by rcases k.2 with h|h;exact absurd rfl h;exact h
  rw[qbu a b h2 k2]
theorem qhV {a b:List UInt8} (h:ltL a b=true):ltL b a=false:=by
 cases k:ltL b a with
 |false=>rfl
 |true=>have:=qa0 h k;rw[xH]at this;cases this
theorem qes {a b:List UInt8} (h:ltL a b=true):a≠b:=by
 rintro rfl;rw[xH]at h;cases h
end Go.Av
