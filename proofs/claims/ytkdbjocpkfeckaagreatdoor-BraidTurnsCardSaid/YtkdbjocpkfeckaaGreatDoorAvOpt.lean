/-
  Values that may be nil: a slice that grows, shrinks and grows again; a pointer.
-/
import Derived.Test.YtkdbjocpkfeckaaGreatDoorAvHp
import Derived.KernelRfl
noncomputable section
namespace Go.Av
open Go.RowKit
set_option linter.unusedSectionVars false
set_option linter.unusedVariables false
variable [Glob] {α:Type} {P:Program} {A:Heap} {S:List Nat} {m:List (Option Nat)}
abbrev AV.i (n:Int):AV:= .int .i64 n
theorem fa {E:Enc α} {l:List α}:qcK (l.flatMap E.c):=E.flat_allN l
theorem ot {p:Prop} [Decidable p] (h:decide p=true):p:=of_decide_eq_true h
theorem bnd {α β:Type} {o:Option α} {f:α->Option β} {b:β} (h:o.bind f=some b): ∃a,o=some a/\f a=some b:=Option.bind_eq_some_iff.1 h
theorem sq [Base] {c1 c2:Code} {s:St} {Q:XA->St->Prop} (h:Goes P c1 s (andThen (fun s'=>Goes P c2 s' Q) Q)):Goes P (.seq c1 c2) s Q:=Goes.seq h
theorem Goes.rg [Base] (hm:P.follows .mixedOrders=true) {id m:Nat} {ops:Array Oper} {draw:Bool} {l0:List (Nat×AV)} {Q:XA->St->Prop} (l:List (Nat×AV)) (A':Heap) (hq:Q .normal (ofG m l,A')) (h:qif P ops draw [] (l.map (·.1)) (ofG m l0,A)=some (ofG m l,A',[]):=by kernel_rfl):
 Goes P (.region id ops draw) (ofG m l0,A) Q:=Goes.reg hm [] _ h trivial hq
def hsl (b k:Nat) (o:Option (List α)):AV:=match o with
 |none=> .nilslice
 |some l=> .oslice b l.length k
abbrev hof (o:Option (List α)):List α:=o.getD []
theorem jN.hs0 {i k:Nat}:jN A S m (hsl i k (none:Option (List α))) .nilslice:= .same .nilslice
theorem jN.hs1 {i b k:Nat} {l:List α} (h:m[i]? =some (some b)):jN A S m (hsl i k (some l)) (.oslice b l.length k):= .oslice h
theorem jN.hsL {E:Enc α} {b:Nat} {o:Option (List α)} (hS:S.contains b=true) (hA:A[b]? =some (.cells ((hof o).flatMap E.c))) (hd:E.dep<=11):jN A S m (vl E (hof o)) (hsl b E.k o):=by
 cases o with
 |none=>exact .nilv
 |some l=>exact .frz (Fz.os (E:=E) hS hA hd) (qg E l)
theorem jm.cut {E:Enc α} {l r:List α} {hi:Int} (h:cut l 0 hi=some r):jm A S m (.cells (r.flatMap E.c)) (.cells (l.flatMap E.c)):=by
 obtain⟨⟨_,h1,h2⟩,rfl⟩:=qeh h
 have e:l.take hi.toNat=(l.drop (0:Int).toNat).take (hi.toNat-(0:Int).toNat):=by simp
 rw[<-e]
 have hl:(l.take hi.toNat).length=hi.toNat:=by rw[Ym];omega
 refine .pre (E.flat_allN _) ?_ ?_
 ·rw[E.flat_len,E.flat_len,hl];exact Nat.mul_le_mul_right _ (by omega)
 rw[E.flat_len,hl,qda]
theorem qtc {l r:List α} {hi:Int} (h:cut l 0 hi=some r):hi.toNat=r.length:=by
 obtain⟨⟨_,h1,h2⟩,rfl⟩:=qeh h;simp;omega
theorem sh_os {t e:TypeId} {k b:Nat} (T:SlT P t e k b) {l r:List α} {o:Nat} {hi:Int} (h:cut l 0 hi=some r):(Obl.done (.opt (zD P t (.oslice o l.length k) none (some (.int .i64 hi)) none)) (.oslice o r.length k)).Holds P:=by
 obtain⟨inf,z,g1,g2,_⟩:=T.info;have hc:=(qeh h).1;have hb:=qeI (n:=l.length) (lo:=none) (hi:=some hi) rfl rfl hc;show Pg.opt _=_;simp only[opI,Option.getD_none,YN]at hb;simp only[zD,T.und,g1,hb,g2,Pg.opt,Int.toNat_zero,and_self,if_true,<-qtc h]
def qgW (b k n i:Nat):AV:= .slice b (if n-i=0 then 0 else 0+i*k) (n-i) (n-i) k
def qia (l:List α) (i:Nat) (ys:List α):List α:=l.take i++cpy (l.drop i) ys
theorem qom {n cap:Nat} {lo hi:Option Int} {l h:Int} (hl:l=lo.getD 0) (hh:h=hi.getD n) (hn:n<=cap) (hc:0<=l/\l<=h/\h<=cap):qaE (opI lo) (opI hi) none n cap=some (l.toNat,h.toNat,cap):=by
 obtain⟨h1,h2,h3⟩:=hc
 have e1:vH (opI hi) n cap=some h.toNat:=by
  cases hi with
  |none=>simp only[opI,vH,Option.getD_none]at hh⊢;rw[hh];simp
  |some v=>simp only[opI,vH,YN]at hh⊢;subst hh;rw[if_pos ⟨by omega,h3⟩]
 have e2:vH (opI lo) 0 h.toNat=some l.toNat:=by
  cases lo with
  |none=>simp only[opI,vH,Option.getD_none]at hl⊢;rw[hl];simp
  |some v=>simp only[opI,vH,YN]at hl⊢;subst hl;rw[if_pos ⟨h1,by omega⟩]
 have e0:vH none cap cap=some cap:=rfl;simp only[qaE,Option.isSome_none,ZF,false_and,if_false,e0,e1,e2]
def at' (l:List α) (i:Int):Option Nat:=if 0<=i/\i<=l.length then some i.toNat else none
theorem qkV {l:List α} {i:Int} {j:Nat} (h:at' l i=some j):0<=i/\i<=l.length/\j=i.toNat:=by
 unfold at' at h;split at h
 ·rename_i h0;injection h with h;exact⟨h0.1,h0.2,h.symm⟩
 cases h
theorem qqx {t e:TypeId} {k b:Nat} (T:SlT P t e k b) {l:List α} {o j:Nat} {i:Int} (h:at' l i=some j):(Obl.done (.opt (zD P t (.slice o 0 l.length l.length k) (some (.int .i64 i)) none none)) (qgW o k l.length j)).Holds P:=by
 obtain⟨inf,z,g1,g2,_⟩:=T.info;obtain⟨h1,h2,rfl⟩:=qkV h;have hb:=qom (n:=l.length) (cap:=l.length) (lo:=some i) (hi:=none) rfl rfl (Nat.le_refl _) ⟨h1,by simpa using h2,by simp⟩;show Pg.opt _=_;simp only[opI,Option.getD_none,YN,Int.toNat_natCast]at hb;simp only[zD,T.und,g1,hb,g2,Pg.opt,if_true,qgW];congr 1;by_cases e0:l.length=i.toNat
 ·simp[e0]
 have: ¬l.length-i.toNat=0:=by omega
 rw[if_neg e0,if_neg this]
theorem quu {t e:TypeId} {k b:Nat} (T:SlT P t e k b) {l:List α} {o j:Nat} {i:Int} (h:at' l i=some j):(Obl.done (.opt (zD P t (.slice o 0 l.length l.length k) none (some (.int .i64 i)) none)) (.slice o 0 j l.length k)).Holds P:=by
 obtain⟨inf,z,g1,g2,_⟩:=T.info;obtain⟨h1,h2,rfl⟩:=qkV h;have hb:=qom (n:=l.length) (cap:=l.length) (lo:=none) (hi:=some i) rfl rfl (Nat.le_refl _) ⟨by simp,by simpa using h1,by simpa using h2⟩;show Pg.opt _=_;simp only[opI,Option.getD_none,YN,Int.toNat_zero]at hb;simp only[zD,T.und,g1,hb,g2,Pg.opt,if_true,Nat.zero_mul,Nat.add_zero,ite_self,Nat.sub_zero]
variable {E:Enc α} {k:Nat}
theorem qsH {t e:TypeId} {b:Nat} (T:SlT P t e k b) (hk:E.k=k) {A':Heap} {Y:AV} {ys l r:List α} {o j:Nat} (hs:qnA E k S A Y ys) (hj:j<=l.length)
 (hb:A[o]? =some (.cells (l.flatMap E.c))) (hS:S.contains o=true) (h:some (qia l j ys)=some r) (hA:A'=A.set o (.cells (r.flatMap E.c))):(Obl.run S (qcz P [t,t] (.wslice o (j*k) (l.length-j) k) Y) A (.int .i64 ((Nat.min ys.length (l.length-j):Nat):Int)) A' true).Holds P:=by
 injection h with h;subst hA h hk;obtain⟨inf,z,h1,h2,_⟩:=T.info
 have key:qcz P [t,t] (.wslice o (j*E.k) (l.length-j) E.k) Y=kr E.k Y fun n cs=>qbf E.k o (j*E.k) (l.length-j) n cs:=by
  simp only[qcz,T.und,h1,h2,if_true]
 rw[Obl.Holds,key];obtain⟨f1,e1⟩:=hs.run (fun n cs=>qbf E.k o (j*E.k) (l.length-j) n cs) A.length [];refine⟨(o,true)::(o,false)::f1,e1.trans ?_,by simp⟩;have e2:(ys.flatMap E.c).take (Nat.min ys.length (l.length-j)*E.k)=(ys.take (Nat.min ys.length (l.length-j))).flatMap E.c:=qda E ys _
 have e3:((ys.take (Nat.min ys.length (l.length-j))).flatMap E.c).length=Nat.min ys.length (l.length-j)*E.k:=by
  rw[E.flat_len,Ym];congr 1;simp only[Nat.min_def];split<;>split<;>omega
 have e4:(l.flatMap E.c).drop (j*E.k+Nat.min ys.length (l.length-j)*E.k)=(l.drop (j+Nat.min ys.length (l.length-j))).flatMap E.c:=by
  rw[<-Nat.add_mul];exact qf6 E l _
 have e5:j*E.k+Nat.min ys.length (l.length-j)*E.k<=(l.flatMap E.c).length:=by
  rw[E.flat_len,<-Nat.add_mul];refine Nat.mul_le_mul_right _ ?_;have:=Nat.min_le_right ys.length (l.length-j);exact Nat.le_trans (Nat.add_le_add_left this j) (by omega)
 have e6:(l.flatMap E.c).take (j*E.k)=(l.take j).flatMap E.c:=qda E l _;simp only[qbf];rw[qaX hS hb];simp only[e2,e3,e5,if_true];rw[qdd hS (qdh hb)];simp only[splice,e3,e4,e6,qia,cpy,YJ,List.drop_drop,List.flatMap_append,Yz];rfl
theorem qqI {l:List α} {i:Int} {j:Nat} (h:at' l i=some j):j<=l.length:=by
 obtain⟨h1,h2,rfl⟩:=qkV h;omega
theorem qps {l ys r:List α} {j:Nat} (hj:j<=l.length) (h:some (qia l j ys)=some r):l.length=r.length:=by
 injection h with h;subst h;have:=qow (l:=l.drop j) (ys:=ys) rfl;rw[qia,Yq,<-this,Ym,YJ,Nat.min_eq_left hj];omega
end Go.Av
