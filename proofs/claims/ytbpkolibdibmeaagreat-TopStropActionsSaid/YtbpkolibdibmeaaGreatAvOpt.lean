/-
  Values that may be nil: a slice that grows, shrinks and grows again; a pointer.
-/
import Derived.Test.YtbpkolibdibmeaaGreatAvHp
import Derived.KernelRfl
noncomputable section
namespace Go.Av
open Go.RowKit
set_option linter.unusedSectionVars false
set_option linter.unusedVariables false
variable [Glob] {α:Type} {P:Program} {A:Heap} {S:List Nat} {m:List (Option Nat)}
abbrev AV.i (n:Int):AV:= .int .i64 n
theorem fa {E:Enc α} {l:List α}:qcI (l.flatMap E.c):=E.flat_allN l
theorem ot {p:Prop} [Decidable p] (h:decide p=true):p:=of_decide_eq_true h
theorem bnd {α β:Type} {o:Option α} {f:α->Option β} {b:β} (h:o.bind f=some b): ∃a,o=some a/\f a=some b:=Option.bind_eq_some_iff.1 h
theorem sq [Base] {c1 c2:Code} {s:St} {Q:XA->St->Prop} (h:Goes P c1 s (andThen (fun s'=>Goes P c2 s' Q) Q)):Goes P (.seq c1 c2) s Q:=Goes.seq h
theorem Goes.rg [Base] (hm:P.follows .mixedOrders=true) {id m:Nat} {ops:Array Oper} {draw:Bool} {l0:List (Nat×AV)} {Q:XA->St->Prop} (l:List (Nat×AV)) (A':Heap) (hq:Q .normal (ofG m l,A')) (h:qhQ P ops draw [] (l.map (·.1)) (ofG m l0,A)=some (ofG m l,A',[]):=by kernel_rfl):
 Goes P (.region id ops draw) (ofG m l0,A) Q:=Goes.reg hm [] _ h trivial hq
theorem jf.rg [Base] (hm:P.follows .mixedOrders=true) {id m:Nat} {ops:Array Oper} {draw:Bool} {l0:List (Nat×AV)} (l:List (Nat×AV)) (A':Heap) (h:qhQ P ops draw [] (l.map (·.1)) (ofG m l0,A)=some (ofG m l,A',[]):=by kernel_rfl):
 jf P id ops draw (ofG m l0,A) (ofG m l,A'):=jf.reg hm [] _ h trivial
def hsl (b k:Nat) (o:Option (List α)):AV:=match o with
 |none=> .nilslice
 |some l=> .oslice b l.length k
abbrev hof (o:Option (List α)):List α:=o.getD []
def pz (c:Bool) (b off:Nat):AV:=match c with
 |true=> .ptr b off
 |false=> .nilptr
theorem jD.hs {i b k:Nat} {o:Option (List α)} (h:m[i]? =some (some b)):jD A S m (hsl i k o) (hsl b k o):=by
 cases o with
 |none=>exact .same .nilslice
 |some l=>exact .oslice h
theorem jD.hs0 {i k:Nat}:jD A S m (hsl i k (none:Option (List α))) .nilslice:= .same .nilslice
theorem jD.hs1 {i b k:Nat} {l:List α} (h:m[i]? =some (some b)):jD A S m (hsl i k (some l)) (.oslice b l.length k):= .oslice h
theorem jD.hsL {E:Enc α} {b:Nat} {o:Option (List α)} (hS:S.contains b=true) (hA:A[b]? =some (.cells ((hof o).flatMap E.c))) (hd:E.dep<=11):jD A S m (vl E (hof o)) (hsl b E.k o):=by
 cases o with
 |none=>exact .nilv
 |some l=>exact .frz (Fz.os (E:=E) hS hA hd) (qa E l)
theorem FzW.hs {E:Enc α} {b d:Nat} {o:Option (List α)} (hS:S.contains b=true) (hA:A[b]? =some (.cells ((hof o).flatMap E.c))) (hd:E.dep<=d):FzW A S (d+1) (hsl b E.k o) (vl E (hof o)):=by
 cases o with
 |none=>exact FzW.nilv (E:=E)
 |some l=>exact Us (Fz.os (E:=E) hS hA hd)
theorem yj.cut {E:Enc α} {l r:List α} {hi:Int} (h:cut l 0 hi=some r):yj A S m (.cells (r.flatMap E.c)) (.cells (l.flatMap E.c)):=by
 obtain⟨⟨_,h1,h2⟩,rfl⟩:=qfq h
 have e:l.take hi.toNat=(l.drop (0:Int).toNat).take (hi.toNat-(0:Int).toNat):=by simp
 rw[<-e]
 have hl:(l.take hi.toNat).length=hi.toNat:=by rw[Ym];omega
 refine .pre (E.flat_allN _) ?_ ?_
 ·rw[E.flat_len,E.flat_len,hl];exact Nat.mul_le_mul_right _ (by omega)
 rw[E.flat_len,hl,qc8]
theorem qtu {l r:List α} {hi:Int} (h:cut l 0 hi=some r):hi.toNat=r.length:=by
 obtain⟨⟨_,h1,h2⟩,rfl⟩:=qfq h;simp;omega
theorem sh_os {t e:TypeId} {k b:Nat} (T:SlT P t e k b) {l r:List α} {o:Nat} {hi:Int} (h:cut l 0 hi=some r):(Obl.done (.opt (yM P t (.oslice o l.length k) none (some (.int .i64 hi)) none)) (.oslice o r.length k)).Holds P:=by
 obtain⟨inf,z,g1,g2,_⟩:=T.info;have hc:=(qfq h).1;have hb:=qgq (n:=l.length) (lo:=none) (hi:=some hi) rfl rfl hc;show Pg.opt _=_;simp only[opI,Option.getD_none,YN]at hb;simp only[yM,T.und,g1,hb,g2,Pg.opt,Int.toNat_zero,and_self,if_true,<-qtu h]
def qhe (b k n i:Nat):AV:= .slice b (if n-i=0 then 0 else 0+i*k) (n-i) (n-i) k
def qh4 (l:List α) (i:Nat) (ys:List α):List α:=l.take i++cpy (l.drop i) ys
theorem qoR {n cap:Nat} {lo hi:Option Int} {l h:Int} (hl:l=lo.getD 0) (hh:h=hi.getD n) (hn:n<=cap) (hc:0<=l/\l<=h/\h<=cap):qaV (opI lo) (opI hi) none n cap=some (l.toNat,h.toNat,cap):=by
 obtain⟨h1,h2,h3⟩:=hc
 have e1:vX (opI hi) n cap=some h.toNat:=by
  cases hi with
  |none=>simp only[opI,vX,Option.getD_none]at hh⊢;rw[hh];simp
  |some v=>simp only[opI,vX,YN]at hh⊢;subst hh;rw[if_pos ⟨by omega,h3⟩]
 have e2:vX (opI lo) 0 h.toNat=some l.toNat:=by
  cases lo with
  |none=>simp only[opI,vX,Option.getD_none]at hl⊢;rw[hl];simp
  |some v=>simp only[opI,vX,YN]at hl⊢;subst hl;rw[if_pos ⟨h1,by omega⟩]
 have e0:vX none cap cap=some cap:=rfl;simp only[qaV,Option.isSome_none,ZF,false_and,if_false,e0,e1,e2]
def at' (l:List α) (i:Int):Option Nat:=if 0<=i/\i<=l.length then some i.toNat else none
theorem qkQ {l:List α} {i:Int} {j:Nat} (h:at' l i=some j):0<=i/\i<=l.length/\j=i.toNat:=by
 unfold at' at h;split at h
 ·rename_i h0;injection h with h;exact⟨h0.1,h0.2,h.symm⟩
 cases h
theorem qsk {t e:TypeId} {k b:Nat} (T:SlT P t e k b) {l:List α} {o j:Nat} {i:Int} (h:at' l i=some j):(Obl.done (.opt (yM P t (.slice o 0 l.length l.length k) (some (.int .i64 i)) none none)) (qhe o k l.length j)).Holds P:=by
 obtain⟨inf,z,g1,g2,_⟩:=T.info;obtain⟨h1,h2,rfl⟩:=qkQ h;have hb:=qoR (n:=l.length) (cap:=l.length) (lo:=some i) (hi:=none) rfl rfl (Nat.le_refl _) ⟨h1,by simpa using h2,by simp⟩;show Pg.opt _=_;simp only[opI,Option.getD_none,YN,Int.toNat_natCast]at hb;simp only[yM,T.und,g1,hb,g2,Pg.opt,if_true,qhe];congr 1;by_cases e0:l.length=i.toNat
 ·simp[e0]
 have: ¬l.length-i.toNat=0:=by omega
 rw[if_neg e0,if_neg this]
theorem qv1 {t e:TypeId} {k b:Nat} (T:SlT P t e k b) {l:List α} {o j:Nat} {i:Int} (h:at' l i=some j):(Obl.done (.opt (yM P t (.slice o 0 l.length l.length k) none (some (.int .i64 i)) none)) (.slice o 0 j l.length k)).Holds P:=by
 obtain⟨inf,z,g1,g2,_⟩:=T.info;obtain⟨h1,h2,rfl⟩:=qkQ h;have hb:=qoR (n:=l.length) (cap:=l.length) (lo:=none) (hi:=some i) rfl rfl (Nat.le_refl _) ⟨by simp,by simpa using h1,by simpa using h2⟩;show Pg.opt _=_;simp only[opI,Option.getD_none,YN,Int.toNat_zero]at hb;simp only[yM,T.und,g1,hb,g2,Pg.opt,if_true,Nat.zero_mul,Nat.add_zero,ite_self,Nat.sub_zero]
variable {E:Enc α} {k:Nat}
theorem qtF {t e:TypeId} {b:Nat} (T:SlT P t e k b) (hk:E.k=k) {A':Heap} {Y:AV} {ys l r:List α} {o j:Nat} (hs:qnN E k S A Y ys) (hj:j<=l.length)
 (hb:A[o]? =some (.cells (l.flatMap E.c))) (hS:S.contains o=true) (h:some (qh4 l j ys)=some r) (hA:A'=A.set o (.cells (r.flatMap E.c))):(Obl.run S (qcr P [t,t] (.wslice o (j*k) (l.length-j) k) Y) A (.int .i64 ((Nat.min ys.length (l.length-j):Nat):Int)) A' true).Holds P:=by
 injection h with h;subst hA h hk;obtain⟨inf,z,h1,h2,_⟩:=T.info
 have key:qcr P [t,t] (.wslice o (j*E.k) (l.length-j) E.k) Y=zq E.k Y fun n cs=>qbu E.k o (j*E.k) (l.length-j) n cs:=by
  simp only[qcr,T.und,h1,h2,if_true]
 rw[Obl.Holds,key];obtain⟨f1,e1⟩:=hs.run (fun n cs=>qbu E.k o (j*E.k) (l.length-j) n cs) A.length [];refine⟨(o,true)::(o,false)::f1,e1.trans ?_,by simp⟩;have e2:(ys.flatMap E.c).take (Nat.min ys.length (l.length-j)*E.k)=(ys.take (Nat.min ys.length (l.length-j))).flatMap E.c:=qc8 E ys _
 have e3:((ys.take (Nat.min ys.length (l.length-j))).flatMap E.c).length=Nat.min ys.length (l.length-j)*E.k:=by
  rw[E.flat_len,Ym];congr 1;simp only[Nat.min_def];split<;>split<;>omega
 have e4:(l.flatMap E.c).drop (j*E.k+Nat.min ys.length (l.length-j)*E.k)=(l.drop (j+Nat.min ys.length (l.length-j))).flatMap E.c:=by
  rw[<-Nat.add_mul];exact qfK E l _
 have e5:j*E.k+Nat.min ys.length (l.length-j)*E.k<=(l.flatMap E.c).length:=by
  rw[E.flat_len,<-Nat.add_mul];refine Nat.mul_le_mul_right _ ?_;have:=Nat.min_le_right ys.length (l.length-j);exact Nat.le_trans (Nat.add_le_add_left this j) (by omega)
 have e6:(l.flatMap E.c).take (j*E.k)=(l.take j).flatMap E.c:=qc8 E l _;simp only[qbu];rw[qbc hS hb];simp only[e2,e3,e5,if_true];rw[qdu hS (qdl hb)];simp only[splice,e3,e4,e6,qh4,cpy,YJ,List.drop_drop,List.flatMap_append,Yz];rfl
theorem qsA {l:List α} {i:Int} {j:Nat} (h:at' l i=some j):j<=l.length:=by
 obtain⟨h1,h2,rfl⟩:=qkQ h;omega
theorem qqs {l ys r:List α} {j:Nat} (hj:j<=l.length) (h:some (qh4 l j ys)=some r):l.length=r.length:=by
 injection h with h;subst h;have:=qoG (l:=l.drop j) (ys:=ys) rfl;rw[qh4,Yq,<-this,Ym,YJ,Nat.min_eq_left hj];omega
theorem quh {t e:TypeId} {b:Nat} (T:SlT P t e k b) (hk:E.k=k) {A':Heap} {l ys r:List α} {o:Nat}
 (hb:A[o]? =some (.cells (l.flatMap E.c))) (hS:S.contains o=true) (h0:Nat.blt 0 l.length=true) (hy:0<ys.length) (h:app b l ys=some r) (hA:A'=A++[.cells (r.flatMap E.c)]):
 (Obl.run S (vM P [t,t] (.slice o 0 l.length l.length k) (vl E ys)) A (.oslice A.length r.length k) A' false).Holds P:=by
 subst hk hA;have h0:0<l.length:=Ys h0;unfold app at h;split at h
 ·rename_i hc;injection h with h;subst h;rw[Obl.Holds,T.append E.pos _ _ (by intro s h;cases h)];refine⟨[(o,false)],?_,rfl⟩;have e1:(ys.flatMap E.c).length=ys.length*E.k:=E.flat_len ys
  have e2:(0+l.length*E.k<=(l.flatMap E.c).length):=by rw[E.flat_len];omega
  simp only[vl,zq,e1,E.flat_cell ys,and_self,if_true];simp only[xK];rw[if_neg (by rintro⟨h,_⟩;omega),if_neg (by omega)];simp only[qay];rw[qbc hS hb];simp only[vR,if_pos e2,YR,qfh];rw[if_pos hc,qhn,qeD,Yq,List.flatMap_append]
 cases h
end Go.Av
