/-
  Values that may be nil: a slice that grows, shrinks and grows again; a pointer.
-/
import Derived.Test.YtjflombnfhlkaaaGreatDoorAvHeap
import Derived.KernelRfl
noncomputable section
namespace Go.Av
open Go.RowKit
set_option linter.unusedSectionVars false
set_option linter.unusedVariables false
variable [Glob] {α:Type} {P:Program} {A:Heap} {S:List Nat} {m:List (Option Nat)}
abbrev AV.i (n:Int):AV:= .int .i64 n
theorem fa {E:Enc α} {l:List α}:qbk (l.flatMap E.c):=E.flat_allN l
theorem ot {p:Prop} [Decidable p] (h:decide p=true):p:=of_decide_eq_true h
theorem bnd {α β:Type} {o:Option α} {f:α→Option β} {b:β} (h:o.bind f=some b): ∃a,o=some a∧f a=some b:=Option.bind_eq_some_iff.1 h
theorem sq [Base] {c1 c2:Code} {s:St} {Q:XA→St→Prop} (h:Goes P c1 s (andThen (fun s'=>Goes P c2 s' Q) Q)):Goes P (.seq c1 c2) s Q:=Goes.seq h
theorem Goes.rg [Base] (hm:P.follows .mixedOrders=true) {id m:Nat} {ops:Array Oper} {draw:Bool} {l0:List (Nat×AV)} {Q:XA→St→Prop} (l:List (Nat×AV)) (A':Heap) (hq:Q .normal (ofG m l,A')) (h:qdw P ops draw [] (l.map (·.1)) (ofG m l0,A)=some (ofG m l,A',[]):=by kernel_rfl):
 Goes P (.region id ops draw) (ofG m l0,A) Q:=Goes.reg hm [] _ h trivial hq
theorem Goes.ro [Base] (hm:P.follows .mixedOrders=true) {id m:Nat} {ops:Array Oper} {draw:Bool} {l0:List (Nat×AV)} {Q:XA→St→Prop} (orc:List (Nat×Orc)) (l:List (Nat×AV)) (A':Heap) (obls:List Obl) (ho:qbj P obls) (hq:Q .normal (ofG m l,A'))
 (h:qdw P ops draw orc (l.map (·.1)) (ofG m l0,A)=some (ofG m l,A',obls):=by kernel_rfl):Goes P (.region id ops draw) (ofG m l0,A) Q:=Goes.reg hm orc _ h ho hq
theorem qm.rg [Base] (hm:P.follows .mixedOrders=true) {id m:Nat} {ops:Array Oper} {draw:Bool} {l0:List (Nat×AV)} (l:List (Nat×AV)) (A':Heap) (h:qdw P ops draw [] (l.map (·.1)) (ofG m l0,A)=some (ofG m l,A',[]):=by kernel_rfl):
 qm P id ops draw (ofG m l0,A) (ofG m l,A'):=qm.reg hm [] _ h trivial
theorem qm.ro [Base] (hm:P.follows .mixedOrders=true) {id m:Nat} {ops:Array Oper} {draw:Bool} {l0:List (Nat×AV)} (orc:List (Nat×Orc)) (l:List (Nat×AV)) (A':Heap) (obls:List Obl) (ho:qbj P obls)
 (h:qdw P ops draw orc (l.map (·.1)) (ofG m l0,A)=some (ofG m l,A',obls):=by kernel_rfl):qm P id ops draw (ofG m l0,A) (ofG m l,A'):=qm.reg hm orc _ h ho
def hsl (b k:Nat) (o:Option (List α)):AV:=match o with
 |none=> .nilslice
 |some l=> .oslice b l.length k
abbrev hof (o:Option (List α)):List α:=o.getD []
def pz (c:Bool) (b off:Nat):AV:=match c with
 |true=> .ptr b off
 |false=> .nilptr
theorem zG.hs {i b k:Nat} {o:Option (List α)} (h:m[i]? =some (some b)):zG A S m (hsl i k o) (hsl b k o):=by
 cases o with
 |none=>exact .same .nilslice
 |some l=>exact .oslice h
theorem zG.hs0 {i k:Nat}:zG A S m (hsl i k (none:Option (List α))) .nilslice:= .same .nilslice
theorem zG.hs1 {i b k:Nat} {l:List α} (h:m[i]? =some (some b)):zG A S m (hsl i k (some l)) (.oslice b l.length k):= .oslice h
theorem zG.hsE {i b k n:Nat} {l:List α} (h:m[i]? =some (some b)) (e:n=l.length):zG A S m (hsl i k (some l)) (.oslice b n k):= .osliceE h e
theorem zG.pz {i b off:Nat} {c:Bool} (h:m[i]? =some (some b)):zG A S m (Go.Av.pz c i off) (Go.Av.pz c b off):=by
 cases c with
 |false=>exact .same .nilptr
 |true=>exact .ptr h
theorem zG.pz0 {i off:Nat}:zG A S m (Go.Av.pz false i off) .nilptr:= .same .nilptr
theorem zG.pz1 {i b off:Nat} (h:m[i]? =some (some b)):zG A S m (Go.Av.pz true i off) (.ptr b off):= .ptr h
theorem FzW.hs {E:Enc α} {b d:Nat} {o:Option (List α)} (hS:S.contains b=true) (hA:A[b]? =some (.cells ((hof o).flatMap E.c))) (hd:E.dep≤d):FzW A S (d+1) (hsl b E.k o) (vl E (hof o)):=by
 cases o with
 |none=>exact FzW.nilv (E:=E)
 |some l=>exact FzW.fz (Fz.os (E:=E) hS hA hd)
theorem qbA.cut {E:Enc α} {l r:List α} {hi:Int} (h:cut l 0 hi=some r):qbA A S m (.cells (r.flatMap E.c)) (.cells (l.flatMap E.c)):=by
 obtain⟨⟨_,h1,h2⟩,rfl⟩:=qce h
 have e:l.take hi.toNat=(l.drop (0:Int).toNat).take (hi.toNat-(0:Int).toNat):=by simp
 rw[←e]
 have hl:(l.take hi.toNat).length=hi.toNat:=by rw[List.length_take];omega
 refine .pre (E.flat_allN _) ?_ ?_
 ·rw[E.flat_len,E.flat_len,hl]
  exact Nat.mul_le_mul_right _ (by omega)
 ·rw[E.flat_len,hl,qa2]
theorem qoE {l r:List α} {hi:Int} (h:cut l 0 hi=some r):hi.toNat=r.length:=by
 obtain⟨⟨_,h1,h2⟩,rfl⟩:=qce h
 simp
 omega
theorem sh_os {t e:TypeId} {k b:Nat} (T:SlT P t e k b) {l r:List α} {o:Nat} {hi:Int} (h:cut l 0 hi=some r):(Obl.done (.opt (zW P t (.oslice o l.length k) none (some (.int .i64 hi)) none)) (.oslice o r.length k)).Holds P:=by
 obtain⟨inf,z,g1,g2,_⟩:=T.info
 have hc:=(qce h).1
 have hb:=qcK (n:=l.length) (lo:=none) (hi:=some hi) rfl rfl hc
 show Pg.opt _=_
 simp only[opI,Option.getD_none,Option.getD_some]at hb
 simp only[zW,T.und,g1,hb,g2,Pg.opt,Int.toNat_zero,and_self,if_true,←qoE h]
theorem qhF (E:Enc α) {l:List α} {i:Nat} {x:α} (h:l[i]? =some x) {off n:Nat} (ho:off+n≤E.k):((l.flatMap E.c).drop (i*E.k+off)).take n=((E.c x).drop off).take n∧i*E.k+off+n≤(l.flatMap E.c).length:=by
 have hlt:=(List.getElem?_eq_some_iff.1 h).1
 constructor
 ·rw[←List.drop_drop,qbC,List.drop_eq_getElem_cons hlt,List.flatMap_cons]
  rw[List.getElem?_eq_getElem hlt]at h
  injection h with h
  rw[h,List.drop_append,E.len,List.take_append]
  rw[show off-E.k=0 by omega,List.length_drop,E.len,show n-(E.k-off)=0 by omega,List.take_zero,List.append_nil]
 ·rw[E.flat_len]
  have:=Nat.mul_le_mul_right E.k hlt
  rw[Nat.succ_mul]at this
  omega
theorem ld_pp {t:TypeId} {k n:Nat} (T:AgT P t n) {E:Enc α} (hk:E.k=k) {A:Heap} {o:Nat} {l:List α} (hb:A[o]? =some (.cells (l.flatMap E.c))) {i:Int} {x:α} (h:idx l i=some x) {off:Nat} {cs:List AV} (ho:Nat.ble (off+n) k=true) (hc:((E.c x).drop off).take n=cs):(Obl.run [o] (vz P t (.ptr o (i.toNat*k+off))) A (.agg cs) A false).Holds P:=by
 subst hk hc
 obtain⟨_,g2,g3⟩:=xq h
 obtain⟨h1,h2⟩:=qhF E g3 (Nat.le_of_ble_eq_true ho)
 refine⟨[(o,false)],?_,rfl⟩
 rw[T.load]
 simp only[vM]
 rw[qg5 (by simp) hb h2,h1]
 rfl
theorem ld_vp {t:TypeId} {k n:Nat} (T:AgT P t n) {E:Enc α} (hk:E.k=k) {l:List α} {i:Int} {x:α} (h:idx l i=some x) {off:Nat} {cs:List AV} (ho:Nat.ble (off+n) k=true) (hc:((E.c x).drop off).take n=cs):(Obl.done (vz P t (.fptr (l.flatMap E.c) (i.toNat*k+off))) (.agg cs)).Holds P:=by
 subst hk hc
 obtain⟨_,_,g3⟩:=xq h
 obtain⟨h1,h2⟩:=qhF E g3 (Nat.le_of_ble_eq_true ho)
 show vz _ _ _=_
 rw[T.load]
 simp only[vM,if_pos h2,h1]
def qe1 (b k n i:Nat):AV:= .slice b (if n-i=0 then 0 else 0+i*k) (n-i) (n-i) k
def qe4 (l:List α) (i:Nat) (ys:List α):List α:=l.take i++cpy (l.drop i) ys
theorem qf8 {n cap:Nat} {lo hi:Option Int} {l h:Int} (hl:l=lo.getD 0) (hh:h=hi.getD n) (hn:n≤cap) (hc:0≤l∧l≤h∧h≤cap):xy (opI lo) (opI hi) none n cap=some (l.toNat,h.toNat,cap):=by
 obtain⟨h1,h2,h3⟩:=hc
 have e1:vF (opI hi) n cap=some h.toNat:=by
  cases hi with
  |none=>simp only[opI,vF,Option.getD_none]at hh⊢;rw[hh];simp
  |some v=>simp only[opI,vF,Option.getD_some]at hh⊢;subst hh;rw[if_pos ⟨by omega,h3⟩]
 have e2:vF (opI lo) 0 h.toNat=some l.toNat:=by
  cases lo with
  |none=>simp only[opI,vF,Option.getD_none]at hl⊢;rw[hl];simp
  |some v=>simp only[opI,vF,Option.getD_some]at hl⊢;subst hl;rw[if_pos ⟨h1,by omega⟩]
 have e0:vF none cap cap=some cap:=rfl
 simp only[xy,Option.isSome_none,Bool.false_eq_true,false_and,if_false,e0,e1,e2]
def at' (l:List α) (i:Int):Option Nat:=if 0≤i∧i≤l.length then some i.toNat else none
theorem qf9 {l:List α} {i:Int} {j:Nat} (h:at' l i=some j):0≤i∧i≤l.length∧j=i.toNat:=by
 unfold at' at h
 split at h
 ·rename_i h0;injection h with h;exact⟨h0.1,h0.2,h.symm⟩
 ·cases h
theorem qg4 {t e:TypeId} {k b:Nat} (T:SlT P t e k b) {l:List α} {o j:Nat} {i:Int} (h:at' l i=some j):(Obl.done (.opt (zW P t (.slice o 0 l.length l.length k) (some (.int .i64 i)) none none)) (qe1 o k l.length j)).Holds P:=by
 obtain⟨inf,z,g1,g2,_⟩:=T.info
 obtain⟨h1,h2,rfl⟩:=qf9 h
 have hb:=qf8 (n:=l.length) (cap:=l.length) (lo:=some i) (hi:=none) rfl rfl (Nat.le_refl _) ⟨h1,by simpa using h2,by simp⟩
 show Pg.opt _=_
 simp only[opI,Option.getD_none,Option.getD_some,Int.toNat_natCast]at hb
 simp only[zW,T.und,g1,hb,g2,Pg.opt,if_true,qe1]
 congr 1
 by_cases e0:l.length=i.toNat
 ·simp[e0]
 ·have: ¬l.length-i.toNat=0:=by omega
  rw[if_neg e0,if_neg this]
theorem qpG {t e:TypeId} {k b:Nat} (T:SlT P t e k b) {l:List α} {o j:Nat} {i:Int} (h:at' l i=some j):(Obl.done (.opt (zW P t (.slice o 0 l.length l.length k) none (some (.int .i64 i)) none)) (.slice o 0 j l.length k)).Holds P:=by
 obtain⟨inf,z,g1,g2,_⟩:=T.info
 obtain⟨h1,h2,rfl⟩:=qf9 h
 have hb:=qf8 (n:=l.length) (cap:=l.length) (lo:=none) (hi:=some i) rfl rfl (Nat.le_refl _) ⟨by simp,by simpa using h1,by simpa using h2⟩
 show Pg.opt _=_
 simp only[opI,Option.getD_none,Option.getD_some,Int.toNat_zero]at hb
 simp only[zW,T.und,g1,hb,g2,Pg.opt,if_true,Nat.zero_mul,Nat.add_zero,ite_self,Nat.sub_zero]
theorem qkK {t e:TypeId} {k b:Nat} (T:SlT P t e k b) {l:List α} {o:Nat} {i:Int} (h:i=0):(Obl.done (.opt (zW P t (.oslice o l.length k) (some (.int .i64 i)) none none)) (.oslice o l.length k)).Holds P:=by
 subst h
 obtain⟨inf,z,g1,g2,_⟩:=T.info
 have hb:=qf8 (n:=l.length) (cap:=l.length) (lo:=some 0) (hi:=none) rfl rfl (Nat.le_refl _) ⟨by simp,by simp,by simp⟩
 show Pg.opt _=_
 simp only[opI,Option.getD_none,Option.getD_some,Int.toNat_natCast,Int.toNat_zero]at hb
 simp only[zW,T.und,g1,hb,g2,Pg.opt,and_self,if_true]
theorem qi0 {t e:TypeId} {k b:Nat} (T:SlT P t e k b) {l:List α} {o j:Nat} {i:Int} (h0: ¬i=0) (h:at' l i=some j) (hlt:j<l.length):(Obl.done (.opt (zW P t (.oslice o l.length k) (some (.int .i64 i)) none none)) (.wslice o (j*k) (l.length-j) k)).Holds P:=by
 obtain⟨inf,z,g1,g2,_⟩:=T.info
 obtain⟨h1,h2,rfl⟩:=qf9 h
 have hb:=qf8 (n:=l.length) (cap:=l.length) (lo:=some i) (hi:=none) rfl rfl (Nat.le_refl _) ⟨h1,by simpa using h2,by simp⟩
 show Pg.opt _=_
 simp only[opI,Option.getD_none,Option.getD_some,Int.toNat_natCast]at hb
 simp only[zW,T.und,g1,hb,g2,Pg.opt,and_true]
 have e0: ¬i.toNat=0:=by omega
 rw[if_neg e0,if_neg (show¬i.toNat=l.length by omega)]
 simp
variable {E:Enc α} {k:Nat}
theorem qhJ (hk:E.k=k) {q j:Nat} {ys:List α} (hq:A[q]? =some (.cells (ys.flatMap E.c))) (hS:S.contains q=true) (hj:j≤ys.length):qlI E k S A (qe1 q k ys.length j) (ys.drop j):=by
 subst hk
 refine⟨(by intro s h;cases h),fun K lo f=>⟨(q,false)::f,?_⟩⟩
 have e0:(if ys.length-j=0 then 0 else 0+j*E.k)+(ys.length-j)*E.k≤(ys.flatMap E.c).length:=by
  rw[E.flat_len]
  split
  ·rename_i h;rw[h];omega
  ·have:=Nat.mul_le_mul_right E.k (show j+(ys.length-j)≤ys.length by omega)
   rw[Nat.add_mul]at this
   omega
 have e1:((ys.flatMap E.c).drop (if ys.length-j=0 then 0 else 0+j*E.k)).take ((ys.length-j)*E.k)=(ys.drop j).flatMap E.c:=by
  split
  ·rename_i h
   rw[h,Nat.zero_mul,List.take_zero,List.drop_of_length_le (by omega)]
   rfl
  ·rw[Nat.zero_add,qbC,qa2,List.take_of_length_le (by simp)]
 simp only[zn,yZ,qe1]
 rw[xK hS hq]
 simp only[vw,if_pos e0,e1,E.flat_cell (ys.drop j),if_true,List.length_drop]
theorem qkW {t e:TypeId} {b:Nat} (T:SlT P t e k b) (hk:E.k=k) {A':Heap} {Y:AV} {ys l r:List α} {o j:Nat} (hs:qlI E k S A Y ys) (hj:j≤l.length)
 (hb:A[o]? =some (.cells (l.flatMap E.c))) (hS:S.contains o=true) (h:some (qe4 l j ys)=some r) (hA:A'=A.set o (.cells (r.flatMap E.c))):(Obl.run S (qb2 P [t,t] (.wslice o (j*k) (l.length-j) k) Y) A (.int .i64 ((Nat.min ys.length (l.length-j):Nat):Int)) A' true).Holds P:=by
 injection h with h
 subst hA h hk
 obtain⟨inf,z,h1,h2,_⟩:=T.info
 have key:qb2 P [t,t] (.wslice o (j*E.k) (l.length-j) E.k) Y=zn E.k Y fun n cs=>qaY E.k o (j*E.k) (l.length-j) n cs:=by
  simp only[qb2,T.und,h1,h2,if_true]
 rw[Obl.Holds,key]
 obtain⟨f1,e1⟩:=hs.run (fun n cs=>qaY E.k o (j*E.k) (l.length-j) n cs) A.length []
 refine⟨(o,true)::(o,false)::f1,e1.trans ?_,by simp⟩
 have e2:(ys.flatMap E.c).take (Nat.min ys.length (l.length-j)*E.k)=(ys.take (Nat.min ys.length (l.length-j))).flatMap E.c:=qa2 E ys _
 have e3:((ys.take (Nat.min ys.length (l.length-j))).flatMap E.c).length=Nat.min ys.length (l.length-j)*E.k:=by
  rw[E.flat_len,List.length_take]
  congr 1
  simp only[Nat.min_def]
  split<;>split<;>omega
 have e4:(l.flatMap E.c).drop (j*E.k+Nat.min ys.length (l.length-j)*E.k)=(l.drop (j+Nat.min ys.length (l.length-j))).flatMap E.c:=by
  rw[←Nat.add_mul];exact qbC E l _
 have e5:j*E.k+Nat.min ys.length (l.length-j)*E.k≤(l.flatMap E.c).length:=by
  rw[E.flat_len,←Nat.add_mul]
  refine Nat.mul_le_mul_right _ ?_
  have:=Nat.min_le_right ys.length (l.length-j)
  exact Nat.le_trans (Nat.add_le_add_left this j) (by omega)
 have e6:(l.flatMap E.c).take (j*E.k)=(l.take j).flatMap E.c:=qa2 E l _
 simp only[qaY]
 rw[xK hS hb]
 simp only[e2,e3,e5,if_true]
 rw[qcJ hS (qcv hb)]
 simp only[splice,e3,e4,e6,qe4,cpy,List.length_drop,List.drop_drop,List.flatMap_append,List.append_assoc]
 rfl
def ql6 (b:Nat) (l:List α) (j:Nat) (c:Int) (z:α):Option (List α):=
 if 0≤c∧c≤140737488355328∧c*b≤140737488355328∧0<l.length∧j≤l.length∧l.length<j+c.toNat∧(j+c.toNat)*b≤140737488355328∧j+c.toNat≤140737488355328 then some (l.take j++List.replicate c.toNat z)else none
theorem qlK {b:Nat} {l:List α} {j:Nat} {c:Int} {z:α} {r:List α} (h:ql6 b l j c z=some r):(0≤c∧c≤140737488355328∧c*b≤140737488355328∧0<l.length∧j≤l.length∧l.length<j+c.toNat∧(j+c.toNat)*b≤140737488355328∧j+c.toNat≤140737488355328)∧r=l.take j++List.replicate c.toNat z:=by
 unfold ql6 at h
 split at h
 ·rename_i h0;injection h with h;exact⟨h0,h.symm⟩
 ·cases h
theorem qou {t e ti:TypeId} {b:Nat} (T:SlT P t e k b) (hti:P.underlying ti=some (.int .i64)) (hk:E.k=k) {z:α} (hz:qe8 P e=some (E.c z)) {A':Heap} {l r:List α} {o j:Nat} {c:Int}
 (hb:A[o]? =some (.cells (l.flatMap E.c))) (hS:S.contains o=true) (h:ql6 b l j c z=some r) (hA:A'=A++[.cells (r.flatMap E.c)]):(Obl.run S (zh P [t,ti] (.slice o 0 j l.length k) (.int .i64 c)) A (.oslice A.length r.length k) A' false).Holds P:=by
 subst hk hA
 obtain⟨inf,z0,h1,h2,h3,h4,h5⟩:=T.info
 obtain⟨⟨c1,c2,c3,c4,c5,c6,c7,c8⟩,rfl⟩:=qlK h
 have hz':cellsOf (qaV 3 z0)=some (E.c z):=by
  unfold qe8 at hz
  rw[h1]at hz
  simp only[h4]at hz
  exact hz
 have e1:z0.cells.size=inf.size∧0<inf.size:=⟨by rw[h5,h2],by rw[h2];exact E.pos⟩
 have e2:(E.c z).all xO=true:=by have:=E.flat_cell [z];simpa using this
 have e3:0≤c∧c≤140737488355328∧c*inf.bytes≤140737488355328∧(E.c z).all xO=true:=⟨c1,c2,by rw[h3];exact c3,e2⟩
 refine⟨[(o,false)],?_,rfl⟩
 simp only[zh,T.und,hti,h1,h4]
 rw[if_pos e1]
 simp only[hz']
 rw[if_pos e3,h2,qgv]
 have e4: ¬(l.length=0∧True):=by rintro⟨h,_⟩;omega
 have e5: ¬(j+c.toNat≤l.length):=by omega
 have e6:0+j*E.k≤(l.flatMap E.c).length:=by
  rw[E.flat_len,Nat.zero_add];exact Nat.mul_le_mul_right _ c5
 simp only[yQ]
 rw[if_neg e4,if_neg e5]
 simp only[yZ]
 rw[xK hS hb]
 simp only[vw,if_pos e6,List.drop_zero,qa2]
 rw[if_pos ⟨by rw[h3];exact c7,c8⟩,qfF,qdY]
 have e7:(l.take j++List.replicate c.toNat z).length=j+c.toNat:=by
  rw[List.length_append,List.length_take,List.length_replicate,Nat.min_eq_left c5]
 rw[e7,List.flatMap_append]
theorem qhX {l:List α} {i:Int} {j:Nat} (h:at' l i=some j):j≤l.length:=by
 obtain⟨h1,h2,rfl⟩:=qf9 h
 omega
theorem qld {p:Prop} [Decidable p] {u:Unit} (h:(if p then some ()else none:Option Unit)=some u):p:=by
 split at h
 ·rename_i h0;exact h0
 ·cases h
theorem qhR {l ys r:List α} {j:Nat} (hj:j≤l.length) (h:some (qe4 l j ys)=some r):l.length=r.length:=by
 injection h with h
 subst h
 have:=qgl (l:=l.drop j) (ys:=ys) rfl
 rw[qe4,List.length_append,←this,List.length_take,List.length_drop,Nat.min_eq_left hj]
 omega
theorem qpu {t e:TypeId} {b:Nat} (T:SlT P t e k b) (hk:E.k=k) {A':Heap} {l ys r:List α} {o q n:Nat} (hq:A[q]? =some (.cells (ys.flatMap E.c))) (hSq:S.contains q=true) (hn:n=ys.length)
 (hb:A[o]? =some (.cells (l.flatMap E.c))) (hS:S.contains o=true) (h0:Nat.blt 0 l.length=true) (hy:Nat.blt 0 ys.length=true) (h:app b l ys=some r) (hA:A'=A++[.cells (r.flatMap E.c)]):
 (Obl.run S (zh P [t,t] (.slice o 0 l.length l.length k) (.slice q 0 n n k)) A (.oslice A.length r.length k) A' false).Holds P:=by
 subst hk hA hn
 have h0:0<l.length:=Nat.le_of_ble_eq_true h0
 have hy:0<ys.length:=Nat.le_of_ble_eq_true hy
 unfold app at h
 split at h
 ·rename_i hc
  injection h with h
  subst h
  rw[Obl.Holds,T.append E.pos _ _ (by intro s h;cases h)]
  refine⟨[(o,false),(q,false)],?_,rfl⟩
  have e1:(0+ys.length*E.k≤(ys.flatMap E.c).length):=by rw[E.flat_len];omega
  have e2:(0+l.length*E.k≤(l.flatMap E.c).length):=by rw[E.flat_len];omega
  simp only[zn,yZ]
  rw[xK hSq hq]
  simp only[vw,if_pos e1,List.drop_zero,qdh,E.flat_cell ys,if_true]
  simp only[yQ]
  rw[if_neg (by rintro⟨h,_⟩;omega),if_neg (by omega)]
  simp only[yZ]
  rw[xK hS hb]
  simp only[vw,if_pos e2,List.drop_zero,qdh]
  rw[if_pos hc,qfF,qdY,List.length_append,List.flatMap_append]
 ·cases h
end Go.Av
