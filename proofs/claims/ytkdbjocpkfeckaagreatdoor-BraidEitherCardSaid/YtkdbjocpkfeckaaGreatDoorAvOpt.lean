/-
  Values that may be nil: a slice that grows, shrinks and grows again; a pointer.
-/
import Derived.Test.YtkdbjocpkfeckaaGreatDoorAvHp
import Derived.KernelRfl
noncomputable section
namespace Go.Av
open Go.RowKit
set_option linter.unusedSectionVars false
set_option linter.unusedVariables false
variable [Glob] {α:Type} {P:Program} {A:Heap} {S:List Nat} {m:List (Option Nat)}
abbrev AV.i (n:Int):AV:= .int .i64 n
theorem fa {E:Enc α} {l:List α}:qcf (l.flatMap E.c):=E.flat_allN l
theorem ot {p:Prop} [Decidable p] (h:decide p=true):p:=of_decide_eq_true h
theorem bnd {α β:Type} {o:Option α} {f:α->Option β} {b:β} (h:o.bind f=some b): ∃a,o=some a/\f a=some b:=Option.bind_eq_some_iff.1 h
theorem sq [Base] {c1 c2:Code} {s:St} {Q:XA->St->Prop} (h:Goes P c1 s (andThen (fun s'=>Goes P c2 s' Q) Q)):Goes P (.seq c1 c2) s Q:=Goes.seq h
theorem Goes.rg [Base] (hm:P.follows .mixedOrders=true) {id m:Nat} {ops:Array Oper} {draw:Bool} {l0:List (Nat×AV)} {Q:XA->St->Prop} (l:List (Nat×AV)) (A':Heap) (hq:Q .normal (ofG m l,A')) (h:qex P ops draw [] (l.map (·.1)) (ofG m l0,A)=some (ofG m l,A',[]):=by kernel_rfl):
 Goes P (.region id ops draw) (ofG m l0,A) Q:=Goes.reg hm [] _ h trivial hq
theorem Goes.ro [Base] (hm:P.follows .mixedOrders=true) {id m:Nat} {ops:Array Oper} {draw:Bool} {l0:List (Nat×AV)} {Q:XA->St->Prop} (orc:List (Nat×Orc)) (l:List (Nat×AV)) (A':Heap) (obls:List Obl) (ho:qch P obls) (hq:Q .normal (ofG m l,A'))
 (h:qex P ops draw orc (l.map (·.1)) (ofG m l0,A)=some (ofG m l,A',obls):=by kernel_rfl):Goes P (.region id ops draw) (ofG m l0,A) Q:=Goes.reg hm orc _ h ho hq
theorem vV.rg [Base] (hm:P.follows .mixedOrders=true) {id m:Nat} {ops:Array Oper} {draw:Bool} {l0:List (Nat×AV)} (l:List (Nat×AV)) (A':Heap) (h:qex P ops draw [] (l.map (·.1)) (ofG m l0,A)=some (ofG m l,A',[]):=by kernel_rfl):
 vV P id ops draw (ofG m l0,A) (ofG m l,A'):=vV.reg hm [] _ h trivial
theorem vV.ro [Base] (hm:P.follows .mixedOrders=true) {id m:Nat} {ops:Array Oper} {draw:Bool} {l0:List (Nat×AV)} (orc:List (Nat×Orc)) (l:List (Nat×AV)) (A':Heap) (obls:List Obl) (ho:qch P obls)
 (h:qex P ops draw orc (l.map (·.1)) (ofG m l0,A)=some (ofG m l,A',obls):=by kernel_rfl):vV P id ops draw (ofG m l0,A) (ofG m l,A'):=vV.reg hm orc _ h ho
def hsl (b k:Nat) (o:Option (List α)):AV:=match o with
 |none=> .nilslice
 |some l=> .oslice b l.length k
abbrev hof (o:Option (List α)):List α:=o.getD []
def pz (c:Bool) (b off:Nat):AV:=match c with
 |true=> .ptr b off
 |false=> .nilptr
theorem jL.hs {i b k:Nat} {o:Option (List α)} (h:m[i]? =some (some b)):jL A S m (hsl i k o) (hsl b k o):=by
 cases o with
 |none=>exact .same .nilslice
 |some l=>exact .oslice h
theorem jL.hs0 {i k:Nat}:jL A S m (hsl i k (none:Option (List α))) .nilslice:= .same .nilslice
theorem jL.hs1 {i b k:Nat} {l:List α} (h:m[i]? =some (some b)):jL A S m (hsl i k (some l)) (.oslice b l.length k):= .oslice h
theorem jL.pz {i b off:Nat} {c:Bool} (h:m[i]? =some (some b)):jL A S m (Go.Av.pz c i off) (Go.Av.pz c b off):=by
 cases c with
 |false=>exact .same .nilptr
 |true=>exact .ptr h
theorem FzW.hs {E:Enc α} {b d:Nat} {o:Option (List α)} (hS:S.contains b=true) (hA:A[b]? =some (.cells ((hof o).flatMap E.c))) (hd:E.dep<=d):FzW A S (d+1) (hsl b E.k o) (vl E (hof o)):=by
 cases o with
 |none=>exact FzW.nilv (E:=E)
 |some l=>exact Ut (Fz.os (E:=E) hS hA hd)
theorem yh.cut {E:Enc α} {l r:List α} {hi:Int} (h:cut l 0 hi=some r):yh A S m (.cells (r.flatMap E.c)) (.cells (l.flatMap E.c)):=by
 obtain⟨⟨_,h1,h2⟩,rfl⟩:=qla h
 have e:l.take hi.toNat=(l.drop (0:Int).toNat).take (hi.toNat-(0:Int).toNat):=by simp
 rw[<-e]
 have hl:(l.take hi.toNat).length=hi.toNat:=by rw[Ym];omega
 refine .pre (E.flat_allN _) ?_ ?_
 ·rw[E.flat_len,E.flat_len,hl];exact Nat.mul_le_mul_right _ (by omega)
 rw[E.flat_len,hl,qcA]
def qfZ (b k n i:Nat):AV:= .slice b (if n-i=0 then 0 else 0+i*k) (n-i) (n-i) k
def qg4 (l:List α) (i:Nat) (ys:List α):List α:=l.take i++cpy (l.drop i) ys
theorem qn1 {n cap:Nat} {lo hi:Option Int} {l h:Int} (hl:l=lo.getD 0) (hh:h=hi.getD n) (hn:n<=cap) (hc:0<=l/\l<=h/\h<=cap):qai (opI lo) (opI hi) none n cap=some (l.toNat,h.toNat,cap):=by
 obtain⟨h1,h2,h3⟩:=hc
 have e1:vK (opI hi) n cap=some h.toNat:=by
  cases hi with
  |none=>simp only[opI,vK,Option.getD_none]at hh⊢;rw[hh];simp
  |some v=>simp only[opI,vK,YN]at hh⊢;subst hh;rw[if_pos ⟨by omega,h3⟩]
 have e2:vK (opI lo) 0 h.toNat=some l.toNat:=by
  cases lo with
  |none=>simp only[opI,vK,Option.getD_none]at hl⊢;rw[hl];simp
  |some v=>simp only[opI,vK,YN]at hl⊢;subst hl;rw[if_pos ⟨h1,by omega⟩]
 have e0:vK none cap cap=some cap:=rfl;simp only[qai,Option.isSome_none,ZF,false_and,if_false,e0,e1,e2]
def at' (l:List α) (i:Int):Option Nat:=if 0<=i/\i<=l.length then some i.toNat else none
theorem qka {l:List α} {i:Int} {j:Nat} (h:at' l i=some j):0<=i/\i<=l.length/\j=i.toNat:=by
 unfold at' at h;split at h
 ·rename_i h0;injection h with h;exact⟨h0.1,h0.2,h.symm⟩
 cases h
theorem qqy {t e:TypeId} {k b:Nat} (T:SlT P t e k b) {l:List α} {o j:Nat} {i:Int} (h:at' l i=some j):(Obl.done (.opt (qaO P t (.slice o 0 l.length l.length k) (some (.int .i64 i)) none none)) (qfZ o k l.length j)).Holds P:=by
 obtain⟨inf,z,g1,g2,_⟩:=T.info;obtain⟨h1,h2,rfl⟩:=qka h;have hb:=qn1 (n:=l.length) (cap:=l.length) (lo:=some i) (hi:=none) rfl rfl (Nat.le_refl _) ⟨h1,by simpa using h2,by simp⟩;show Pg.opt _=_;simp only[opI,Option.getD_none,YN,Int.toNat_natCast]at hb;simp only[qaO,T.und,g1,hb,g2,Pg.opt,if_true,qfZ];congr 1;by_cases e0:l.length=i.toNat
 ·simp[e0]
 have: ¬l.length-i.toNat=0:=by omega
 rw[if_neg e0,if_neg this]
theorem qu4 {t e:TypeId} {k b:Nat} (T:SlT P t e k b) {l:List α} {o j:Nat} {i:Int} (h:at' l i=some j):(Obl.done (.opt (qaO P t (.slice o 0 l.length l.length k) none (some (.int .i64 i)) none)) (.slice o 0 j l.length k)).Holds P:=by
 obtain⟨inf,z,g1,g2,_⟩:=T.info;obtain⟨h1,h2,rfl⟩:=qka h;have hb:=qn1 (n:=l.length) (cap:=l.length) (lo:=none) (hi:=some i) rfl rfl (Nat.le_refl _) ⟨by simp,by simpa using h1,by simpa using h2⟩;show Pg.opt _=_;simp only[opI,Option.getD_none,YN,Int.toNat_zero]at hb;simp only[qaO,T.und,g1,hb,g2,Pg.opt,if_true,Nat.zero_mul,Nat.add_zero,ite_self,Nat.sub_zero]
variable {E:Enc α} {k:Nat}
theorem qsU {t e:TypeId} {b:Nat} (T:SlT P t e k b) (hk:E.k=k) {A':Heap} {Y:AV} {ys l r:List α} {o j:Nat} (hs:qpw E k S A Y ys) (hj:j<=l.length)
 (hb:A[o]? =some (.cells (l.flatMap E.c))) (hS:S.contains o=true) (h:some (qg4 l j ys)=some r) (hA:A'=A.set o (.cells (r.flatMap E.c))):(Obl.run S (qb2 P [t,t] (.wslice o (j*k) (l.length-j) k) Y) A (.int .i64 ((Nat.min ys.length (l.length-j):Nat):Int)) A' true).Holds P:=by
 injection h with h;subst hA h hk;obtain⟨inf,z,h1,h2,_⟩:=T.info
 have key:qb2 P [t,t] (.wslice o (j*E.k) (l.length-j) E.k) Y=zD E.k Y fun n cs=>qaN E.k o (j*E.k) (l.length-j) n cs:=by
  simp only[qb2,T.und,h1,h2,if_true]
 rw[Obl.Holds,key];obtain⟨f1,e1⟩:=hs.run (fun n cs=>qaN E.k o (j*E.k) (l.length-j) n cs) A.length [];refine⟨(o,true)::(o,false)::f1,e1.trans ?_,by simp⟩;have e2:(ys.flatMap E.c).take (Nat.min ys.length (l.length-j)*E.k)=(ys.take (Nat.min ys.length (l.length-j))).flatMap E.c:=qcA E ys _
 have e3:((ys.take (Nat.min ys.length (l.length-j))).flatMap E.c).length=Nat.min ys.length (l.length-j)*E.k:=by
  rw[E.flat_len,Ym];congr 1;simp only[Nat.min_def];split<;>split<;>omega
 have e4:(l.flatMap E.c).drop (j*E.k+Nat.min ys.length (l.length-j)*E.k)=(l.drop (j+Nat.min ys.length (l.length-j))).flatMap E.c:=by
  rw[<-Nat.add_mul];exact qeO E l _
 have e5:j*E.k+Nat.min ys.length (l.length-j)*E.k<=(l.flatMap E.c).length:=by
  rw[E.flat_len,<-Nat.add_mul];refine Nat.mul_le_mul_right _ ?_;have:=Nat.min_le_right ys.length (l.length-j);exact Nat.le_trans (Nat.add_le_add_left this j) (by omega)
 have e6:(l.flatMap E.c).take (j*E.k)=(l.take j).flatMap E.c:=qcA E l _;simp only[qaN];rw[qca hS hb];simp only[e2,e3,e5,if_true];rw[qep hS (qem hb)];simp only[splice,e3,e4,e6,qg4,cpy,YJ,List.drop_drop,List.flatMap_append,Yz];rfl
theorem qqs {l:List α} {i:Int} {j:Nat} (h:at' l i=some j):j<=l.length:=by
 obtain⟨h1,h2,rfl⟩:=qka h;omega
theorem qpq {l ys r:List α} {j:Nat} (hj:j<=l.length) (h:some (qg4 l j ys)=some r):l.length=r.length:=by
 injection h with h;subst h;have:=qou (l:=l.drop j) (ys:=ys) rfl;rw[qg4,Yq,<-this,Ym,YJ,Nat.min_eq_left hj];omega
end Go.Av
