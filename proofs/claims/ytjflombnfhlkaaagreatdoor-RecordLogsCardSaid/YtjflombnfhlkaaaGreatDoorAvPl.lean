/-
  Plain facts on what the shadows are made of.
-/
import Derived.Test.YtjflombnfhlkaaaGreatDoorAvOpt
noncomputable section
namespace Go.Av
variable {α:Type}
theorem zJ {n:Int} (h1: -9223372036854775808≤n) (h2:n≤9223372036854775807):w64 n=n:=by
 show IntKind.wrap .i64 n=n
 unfold IntKind.wrap
 have e:(2:Int)^IntKind.i64.bits=18446744073709551616:=by decide
 have e2:(2:Int)^(IntKind.i64.bits-1)=9223372036854775808:=by decide
 have e3:IntKind.i64.signed=true:=by decide
 simp only[e,e2,e3,Bool.true_and,ge_iff_le,decide_eq_true_eq]
 split<;>omega
theorem qI {k:Nat} (h:k<4611686018427387904):w64 ((k:Int)+1)=((k+1:Nat):Int):=by
 rw[zJ (by omega) (by omega)];rfl
theorem qdR {k:Nat} (h:k<4611686018427387904) (h0:0<k):w64 ((k:Int)-1)=((k-1:Nat):Int):=by
 rw[zJ (by omega) (by omega)];omega
theorem qJ (l:List α) (k:Nat):idx l (k:Int)=l[k]? :=by simp[idx]
theorem qea (l:List α):idx l 0=l[0]? :=by simp[idx]
theorem yB {b:Nat} {l xs:List α} (h:(l.length+xs.length)*b≤140737488355328) (h2:l.length+xs.length≤140737488355328):app b l xs=some (l++xs):=by
 unfold app;rw[if_pos ⟨h,h2⟩]
theorem qhv {l:List α} {k:Nat} (h:k<l.length) (x:α):put l (k:Int) x=some (l.set k x):=by
 unfold put;rw[if_pos ⟨by omega,by omega⟩];simp
theorem qaD {l:List α} {k:Nat} (h:k≤l.length):cut l 0 (k:Int)=some (l.take k):=by
 unfold cut;rw[if_pos ⟨by omega,by omega,by omega⟩];simp
theorem vM {l:List α} {k:Nat} (h:k≤l.length):cut l (k:Int) (l.length:Int)=some (l.drop k):=by
 unfold cut;rw[if_pos ⟨by omega,by omega,by omega⟩]
 simp only[Int.toNat_natCast,Option.some.injEq]
 rw[List.take_of_length_le (by simp)]
end Go.Av
