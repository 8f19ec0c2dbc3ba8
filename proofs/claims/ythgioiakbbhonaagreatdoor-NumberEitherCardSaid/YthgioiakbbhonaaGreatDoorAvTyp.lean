/-
  Values of types, as abstract values; what operations do with them.
-/
import Derived.Test.YthgioiakbbhonaaGreatDoorAvNorm
noncomputable section
namespace Go.Av
set_option linter.unusedSectionVars false
variable [Glob]
open Go.RowKit
abbrev Str:=List UInt8
structure Enc (α:Type) where
 c:α->List AV
 k:Nat
 dep:Nat
 len: ∀x,(c x).length=k
 pos:0<k
 cell: ∀x,∀a∈c x,vo a=true
 still: ∀x d,dep<=d-> ∀a∈c x,Still d a
 noRef: ∀x,qcL (c x)
 refs: ∀x d,∀a∈c x,yP d a=[]
def one {α:Type} (f:α->AV) (dep:Nat) (h1: ∀x,vo (f x)=true) (h2: ∀x d,dep<=d->Still d (f x)) (h3: ∀x,qO (f x)) (h4: ∀x d,yP d (f x)=[]):Enc α where
 c x:=[f x]
 k:=1
 dep:=dep
 len _:=rfl
 pos:=Nat.one_pos
 cell x a h:=by simp at h;subst h;exact h1 x
 still x d hd a h:=by simp at h;subst h;exact h2 x d hd
 noRef x a h:=by simp at h;subst h;exact h3 x
 refs x d a h:=by simp at h;subst h;exact h4 x d
def qbk (q:IntKind):Enc Int:=one (.int q) 1 (λ_=>rfl) (λx d hd=>by obtain⟨d,rfl⟩:=ci hd;exact Still.int d q x) (λ_=>qO.int _ _) (λ_ d=>by cases d<;>rfl)
def encI:Enc Int:=qbk .i64
def encB:Enc Bool:=one .bool 1 (λ_=>rfl) (λx d hd=>by obtain⟨d,rfl⟩:=ci hd;exact Still.bool d x) (λ_=>qO.bool _) (λ_ d=>by cases d<;>rfl)
def encS:Enc Str:=one .str 1 (λ_=>rfl) (λx d hd=>by obtain⟨d,rfl⟩:=ci hd;exact Still.str d x) (λ_=>qO.str _) (λ_ d=>by cases d<;>rfl)
variable {α β:Type}
def vl (E:Enc α) (l:List α):AV:= .fslice l.length (l.flatMap E.c)
theorem Enc.flat_len (E:Enc α) (l:List α):(l.flatMap E.c).length=l.length*E.k:=by
 induction l with
 |nil=>simp
 |cons x l ih=>simp only[bz,Yq,E.len,ih,Yr];rw[Nat.add_mul,de,Nat.add_comm]
theorem Enc.flat_mem (E:Enc α) {l:List α} {a:AV} (h:a∈l.flatMap E.c): ∃x,x∈l/\a∈E.c x:=by simpa using h
theorem Enc.flat_cell (E:Enc α) (l:List α):(l.flatMap E.c).all vo=true:=Yp.2 λa h=>by obtain⟨x,_,h⟩:=E.flat_mem h;exact E.cell x a h
theorem Enc.flat_allN (E:Enc α) (l:List α):qcL (l.flatMap E.c):=λa h=>by obtain⟨x,_,h⟩:=E.flat_mem h;exact E.noRef x a h
theorem Enc.flat_still (E:Enc α) (l:List α) {d:Nat} (hd:E.dep<=d): ∀a∈l.flatMap E.c,Still d a:=λa h=>by obtain⟨x,_,h⟩:=E.flat_mem h;exact E.still x d hd a h
theorem qw (E:Enc α) (l:List α) {d:Nat} (hd:E.dep+1<=d):Still d (vl E l):=by
 obtain⟨d,rfl⟩:=ci (show 1<=d by omega);exact Still.fslice (E.flat_still l (by omega))
theorem qc (E:Enc α) (l:List α):qO (vl E l):=qO.fslice (E.flat_allN l)
def qaG (E:Enc α):Enc (List α):=one (vl E) (E.dep+1) (λ_=>rfl) (λx d hd=>qw E x hd) (λx=>qc E x) (λ_ d=>by cases d<;>rfl)
def Enc.prod (E:Enc α) (G:Enc β):Enc (α×β) where
 c p:=E.c p.1++G.c p.2
 k:=E.k+G.k
 dep:=max E.dep G.dep
 len p:=by simp[E.len,G.len]
 pos:=by have:=E.pos;omega
 cell p a h:=by rcases cz.1 h with h|h;exact E.cell _ a h;exact G.cell _ a h
 still p d hd a h:=by rcases cz.1 h with h|h;exact E.still _ d (by omega) a h;exact G.still _ d (by omega) a h
 noRef p:=(E.noRef _).append (G.noRef _)
 refs p d a h:=by rcases cz.1 h with h|h;exact E.refs _ d a h;exact G.refs _ d a h
def Enc.comap (E:Enc β) (f:α->β):Enc α where
 c x:=E.c (f x)
 k:=E.k
 dep:=E.dep
 len _:=E.len _
 pos:=E.pos
 cell _:=E.cell _
 still _:=E.still _
 noRef _:=E.noRef _
 refs _:=E.refs _
theorem flat_get (E:Enc α): ∀{l:List α} {i:Nat} {x:α},l[i]? =some x-> ∀{off:Nat},off<E.k->(l.flatMap E.c)[i*E.k+off]? =(E.c x)[off]? :=by
 intro l
 induction l with
 |nil=>intro i x h;simp at h
 |cons y l ih=>
  intro i x h off ho;rw[bz]
  cases i with
  |zero=>
   simp at h;subst h;rw[bf,az,Yf (by rw[E.len];exact ho)]
  |succ i=>
   have h:l[i]? =some x:=by simpa using h
   have e:(i+1)*E.k+off=E.k+(i*E.k+off):=by rw[Nat.add_mul,de];omega
   rw[Yo (by rw[E.len,e];omega),E.len,e,dH];exact ih h ho
theorem qcQ (E:Enc α): ∀(l:List α) (n:Nat),(l.flatMap E.c).take (n*E.k)=(l.take n).flatMap E.c:=by
 intro l
 induction l with
 |nil=>intro n;simp
 |cons y l ih=>
  intro n
  cases n with
  |zero=>simp
  |succ n=>
   rw[bz,dn,bz,eF,E.len,aj (by rw[E.len,Nat.add_mul];omega)];rw[show(n+1)*E.k-E.k=n*E.k by rw[Nat.add_mul];omega,ih]
theorem qfz (E:Enc α): ∀(l:List α) (n:Nat),(l.flatMap E.c).drop (n*E.k)=(l.drop n).flatMap E.c:=by
 intro l
 induction l with
 |nil=>intro n;simp
 |cons y l ih=>
  intro n
  cases n with
  |zero=>simp
  |succ n=>
   rw[bz,dp,db,E.len,aA (by rw[E.len,Nat.add_mul];omega),bn];rw[show(n+1)*E.k-E.k=n*E.k by rw[Nat.add_mul];omega,ih]
theorem qjz (E:Enc α) {l:List α} {i:Nat} {x:α} (h:l[i]? =some x):((l.flatMap E.c).drop (i*E.k)).take E.k=E.c x:=by
 rw[qfz];have hlt:=(Yb.1 h).1;rw[YG hlt,bz,eF,E.len,bR,bh,YQ,aj (by rw[E.len];exact ag _)];rw[Ya hlt]at h;injection h with h;rw[h]
def idx (l:List α) (i:Int):Option α:=if 0<=i then l[i.toNat]? else none
def cut (l:List α) (lo hi:Int):Option (List α):=if 0<=lo/\lo<=hi/\hi<=l.length then some ((l.drop lo.toNat).take (hi.toNat-lo.toNat))else none
def cat (a b:Str):Option Str:=if a.length+b.length<=9223372036854775807 then some (a++b)else none
def app (bytes:Nat) (l xs:List α):Option (List α):=if(l.length+xs.length)*bytes<=140737488355328/\l.length+xs.length<=140737488355328 then some (l++xs)else none
def put (l:List α) (i:Int) (x:α):Option (List α):=if 0<=i/\i<l.length then some (l.set i.toNat x)else none
abbrev w64 (n:Int):Int:=IntKind.wrap .i64 n
theorem xI {l:List α} {i:Int} {x:α} (h:idx l i=some x):0<=i/\i<l.length/\l[i.toNat]? =some x:=by
 unfold idx at h;split at h
 ·rename_i h0;have:=(Yb.1 h).1;exact⟨h0,by omega,h⟩
 cases h
theorem qp8 {a b c:Str} (h:cat a b=some c):a.length+b.length<=9223372036854775807/\c=a++b:=by
 unfold cat at h;split at h
 ·rename_i h0;injection h with h;exact⟨h0,h.symm⟩
 cases h
structure SlT (P:Program) (t e:TypeId) (k b:Nat):Prop where
 und:P.underlying t=some (.slice e)
 size:(P.info? e).map (·.size)=some k
 bytes:(P.info? e).map (·.bytes)=some b
 zero:((P.info? e).bind (·.zero)).map (·.cells.size)=some k
theorem SlT.info {P:Program} {t e:TypeId} {k b:Nat} (h:SlT P t e k b): ∃i z,P.info? e=some i/\i.size=k/\i.bytes=b/\i.zero=some z/\z.cells.size=k:=by
 have h1:=h.size;have h2:=h.bytes;have h3:=h.zero
 cases hi:P.info? e with
 |none=>rw[hi]at h1;cases h1
 |some i=>
  rw[hi]at h1 h2 h3;simp only[ZM,ZI,ZB]at h1 h2 h3
  cases hz:i.zero with
  |none=>rw[hz]at h3;cases h3
  |some z=>
   rw[hz]at h3;simp only[ZM,ZI]at h3;exact⟨i,z,rfl,h1,h2,hz,h3⟩
variable {P:Program}
theorem ix_vl {t e:TypeId} {k b:Nat} {E:Enc α} (T:SlT P t e k b) (hk:E.k=k) {l:List α} {i:Int} {x:α} {q:IntKind} (h:idx l i=some x):(Obl.done (.opt (qd P t (vl E l) (.int q i))) (.fptr (l.flatMap E.c) (i.toNat*k))).Holds P:=by
 obtain⟨inf,z,h1,h2,_⟩:=T.info;obtain⟨g1,g2,_⟩:=xI h;subst h2;show Pg.opt _=_;simp only[qd,T.und,h1,vl,g1,g2,bY,aJ,Pg.opt]
theorem xG {t e:TypeId} {k b:Nat} (T:SlT P t e k b) {l:List α} {i:Int} {x:α} {q:IntKind} {o:Nat} (h:idx l i=some x):(Obl.done (.opt (qd P t (.gslice o l.length k) (.int q i))) (.ptr o (i.toNat*k+0))).Holds P:=by
 obtain⟨inf,z,h1,h2,_⟩:=T.info;obtain⟨g1,g2,_⟩:=xI h;subst h2;show Pg.opt _=_;simp only[qd,T.und,h1,g1,g2,bY,aJ,Pg.opt,aY]
structure CeT (P:Program) (t:TypeId):Prop where
 und:(P.underlying t).map qi5=some false
 inf:(P.info? t).isSome=true
structure AgT (P:Program) (t:TypeId) (k:Nat):Prop where
 und:(P.underlying t).map qi5=some true
 inf:(P.info? t).map (·.size)=some k
theorem CeT.load {t:TypeId} (T:CeT P t) (p:AV):qX P t p=yY p 1 λcs=>match cs with|[c]=> .done c|_=> .fail:=by
 have h1:=T.und;have h2:=T.inf;unfold qX
 cases hu:P.underlying t with
 |none=>rw[hu]at h1;cases h1
 |some d=>
  rw[hu]at h1;simp only[ZM,ZI]at h1
  cases hi:P.info? t with
  |none=>rw[hi]at h2;cases h2
  |some i=>simp only[h1,ZF,aU];rfl
theorem AgT.load {t:TypeId} {k:Nat} (T:AgT P t k) (p:AV):qX P t p=yY p k λcs=> .done (.agg cs):=by
 have h1:=T.und;have h2:=T.inf;unfold qX
 cases hu:P.underlying t with
 |none=>rw[hu]at h1;cases h1
 |some d=>
  rw[hu]at h1;simp only[ZM,ZI]at h1
  cases hi:P.info? t with
  |none=>rw[hi]at h2;cases h2
  |some i=>
   rw[hi]at h2;simp only[ZM,ZI]at h2;simp only[h1,aJ,h2]
theorem qjM {cs:List AV} {o:Nat} {c:AV} (h:cs[o]? =some c):(cs.drop o).take 1=[c]/\o+1<=cs.length:=by
 have hlt:=(Yb.1 h).1;refine⟨?_,hlt⟩;rw[YG hlt,dn,bh];rw[Ya hlt]at h;injection h with h;rw[h]
theorem ld_vl {t:TypeId} (T:CeT P t) {E:Enc α} {k:Nat} (hk:E.k=k) {l:List α} {i:Int} {x:α} (h:idx l i=some x) {off:Nat} {c:AV} (ho:off<k) (hc:(E.c x)[off]? =some c):(Obl.done (qX P t (.fptr (l.flatMap E.c) (i.toNat*k+off))) c).Holds P:=by
 subst hk;obtain⟨_,_,g3⟩:=xI h;have:=flat_get E g3 ho;rw[hc]at this;obtain⟨h1,h2⟩:=qjM this;show qX _ _ _=_;rw[T.load];simp only[yY,ae h2,h1]
theorem ld_ag {t:TypeId} {k:Nat} (T:AgT P t k) {E:Enc α} (hk:E.k=k) {l:List α} {i:Int} {x:α} (h:idx l i=some x):(Obl.done (qX P t (.fptr (l.flatMap E.c) (i.toNat*k))) (.agg (E.c x))).Holds P:=by
 subst hk;obtain⟨_,g2,g3⟩:=xI h;show qX _ _ _=_;rw[T.load];have hlt:=(Yb.1 g3).1
 have h2:i.toNat*E.k+E.k<=(l.flatMap E.c).length:=by
  rw[E.flat_len];have:=aN E.k hlt;rw[dI]at this;exact this
 simp only[yY,ae h2,qjz E g3]
theorem qbm {t:TypeId} (T:P.underlying t=some .string) {s:Str} {i:Int} {c:UInt8} {q:IntKind} (h:idx s i=some c):(Obl.done (.opt (xw P t (.str s) (.int q i))) (.int .u8 c.toNat)).Holds P:=by
 obtain⟨g1,g2,g3⟩:=xI h;show Pg.opt _=_;simp only[xw,T,ae g1,g3,Pg.opt]
theorem qbV {t:TypeId} {ox oy:Operand} {a b c:Str} (h:cat a b=some c):(Obl.done (.opt (zt P .add t ox oy (.str a) (.str b))) (.str c)).Holds P:=by
 obtain⟨h1,rfl⟩:=qp8 h;show Pg.opt _=_;simp only[zt,qja,ae h1,Pg.opt]
def opI:Option Int->Option AV
 |none=>none
 |some n=>some (.int .i64 n)
theorem qeu {n:Nat} {lo hi:Option Int} {l h:Int} (hl:l=lo.getD 0) (hh:h=hi.getD n) (hc:0<=l/\l<=h/\h<=n):qaL (opI lo) (opI hi) none n n=some (l.toNat,h.toNat,n):=by
 obtain⟨h1,h2,h3⟩:=hc
 have e1:ym (opI hi) n n=some h.toNat:=by
  cases hi with
  |none=>simp only[opI,ym,bO]at hh⊢;rw[hh];simp
  |some v=>simp only[opI,ym,YN]at hh⊢;subst hh;rw[ae ⟨by omega,h3⟩]
 have e2:ym (opI lo) 0 h.toNat=some l.toNat:=by
  cases lo with
  |none=>simp only[opI,ym,bO]at hl⊢;rw[hl];simp
  |some v=>simp only[opI,ym,YN]at hl⊢;subst hl;rw[ae ⟨h1,by omega⟩]
 have e0:ym none n n=some n:=rfl;simp only[qaL,aW,ZF,false_and,aU,e0,e1,e2]
theorem qdT {l:List α} {lo hi:Int} {r:List α} (h:cut l lo hi=some r):(0<=lo/\lo<=hi/\hi<=l.length)/\r=(l.drop lo.toNat).take (hi.toNat-lo.toNat):=by
 unfold cut at h;split at h
 ·rename_i h0;injection h with h;exact⟨h0,h.symm⟩
 cases h
theorem jN {t:TypeId} (T:P.underlying t=some .string) {s r:Str} (lo hi:Option Int) (h:cut s (lo.getD 0) (hi.getD s.length)=some r):(Obl.done (.opt (qC P t (.str s) (opI lo) (opI hi) none)) (.str r)).Holds P:=by
 obtain⟨h1,rfl⟩:=qdT h;have hb:=qeu (lo:=lo) (hi:=hi) rfl rfl h1;show Pg.opt _=_;simp only[qC,T,aW,ZF,aU,hb,Pg.opt]
theorem qjL {t e:TypeId} {k b:Nat} (T:SlT P t e k b) {E:Enc α} (hk:E.k=k) {l r:List α} (lo hi:Option Int) (h:cut l (lo.getD 0) (hi.getD l.length)=some r):(Obl.done (.opt (qC P t (vl E l) (opI lo) (opI hi) none)) (vl E r)).Holds P:=by
 obtain⟨inf,z,g1,g2,_⟩:=T.info;obtain⟨h1,rfl⟩:=qdT h;have hb:=qeu (lo:=lo) (hi:=hi) rfl rfl h1;show Pg.opt _=_
 have hlen:(l.flatMap E.c).length=l.length*inf.size:=by rw[E.flat_len,hk,g2]
 have e1:(((l.drop (lo.getD 0).toNat).take ((hi.getD l.length).toNat-(lo.getD 0).toNat)).length)=(hi.getD l.length).toNat-(lo.getD 0).toNat:=by
  rw[Ym,YJ];omega
 simp only[qC,T.und,g1,vl,aW,ZF,aU,hb,ae hlen,Pg.opt];rw[e1,g2,<-hk,qfz,qcQ]
theorem qso {t e:TypeId} {k b:Nat} (T:SlT P t e k b) {r:List α} (lo hi:Option Int) (h:cut ([]:List α) (lo.getD 0) (hi.getD (([]:List α).length))=some r):(Obl.done (.opt (qC P t .nilslice (opI lo) (opI hi) none)) .nilslice).Holds P:=by
 obtain⟨inf,z,g1,g2,_⟩:=T.info;obtain⟨h1,rfl⟩:=qdT h;have hb:=qeu (lo:=lo) (hi:=hi) rfl rfl h1;show Pg.opt _=_;simp only[be]at hb;simp only[qC,T.und,g1,hb,Pg.opt]
structure MapT (P:Program) (t kt et:TypeId) (z:AV):Prop where
 und:P.underlying t=some (.map kt et)
 key:P.underlying kt=some .string
 zero:((P.info? et).bind (·.zero)).map (qb4 3)=some z
theorem qo4 {g:FuncId} {args:List AV} {A:Heap} {v:AV} (ha: ∀a∈args,Still 12 a) (hc:qf P (.fn g) args [] v []) (hv:Still 12 v):(Obl.call g args A [] args v).Holds P:=
 ⟨zX ha,hc,hv,.inr rfl⟩
theorem AllST.nil {d:Nat}: ∀a∈([]:List AV),Still d a:=by intro a h;cases h
theorem AllST.cons {d:Nat} {a:AV} {as:List AV} (h:Still d a) (hs: ∀a∈as,Still d a): ∀b∈a::as,Still d b:=by
 intro b hb;rcases bK.1 hb with rfl|hb
 ·exact h
 exact hs b hb
theorem qgT {g:FuncId} {args args':List AV} {A:Heap} {S:List Nat} {v:AV} (ha:args.mapM (frz A S 12)=some args') (hc:qf P (.fn g) args' [] v []) (hv:Still 12 v) (hf:flat 6 v=true):(Obl.call g args A S args' v).Holds P:=
 ⟨ha,hc,hv,.inl hf⟩
theorem qa0 {g:FuncId} {args args':List AV} {A:Heap} {S:List Nat} {v:AV} (ha:args.mapM (frz A S 12)=some args') (hc:qf P (.fn g) args' [] v []) (hv:Still 12 v):(Obl.callF g args A S args' v).Holds P:=
 ⟨ha,hc,hv⟩
theorem Still.fptr {d:Nat} {cs:List AV} {off:Nat} (h: ∀c∈cs,Still d c):Still (d+1) (.fptr cs off):=λA S=>by
 simp only[frz,zX h,ZM]
theorem Still.func {d:Nat} {fn:Fn} {fs cs:List AV} (h1: ∀c∈fs,Still d c) (h2: ∀c∈cs,Still d c):Still (d+1) (.func fn fs cs):=λA S=>by
 simp only[frz,zX h1,zX h2]
theorem qkq {g:FuncId} {args args':List AV} {A:Heap} {v:AV} (ha:args.mapM (frz A [] 12)=some args') (hc:qf P (.fn g) args' [] v []) (hv:Still 12 v):(Obl.call g args A [] args' v).Holds P:=
 ⟨ha,hc,hv,.inr rfl⟩
theorem Still.fmap {d:Nat} {ks vs:List AV} (h1: ∀c∈ks,Still d c) (h2: ∀c∈vs,Still d c):Still (d+1) (.fmap ks vs):=λA S=>by
 simp only[frz,zX h1,zX h2]
theorem Still.nilfunc (d:Nat):Still (d+1) .nilfunc:=λ_ _=>rfl
theorem Still.nilptr (d:Nat):Still (d+1) .nilptr:=λ_ _=>rfl
theorem Still.nilmap (d:Nat):Still (d+1) .nilmap:=λ_ _=>rfl
def Fz (A:Heap) (S:List Nat) (d:Nat) (a a':AV):Prop:=frz A S d a=some a'
def FzL (A:Heap) (S:List Nat) (d:Nat) (cs cs':List AV):Prop:=cs.mapM (frz A S d)=some cs'
section
variable {A:Heap} {S:List Nat} {d:Nat}
theorem Un {a:AV} (h:Still d a):Fz A S d a a:=h A S
theorem FzL.nil:FzL A S d [] []:=rfl
theorem FzL.cons {a a':AV} {cs cs':List AV} (h:Fz A S d a a') (hs:FzL A S d cs cs'):FzL A S d (a::cs) (a'::cs'):=by
 unfold FzL Fz at*;rw[bV,h,hs];rfl
theorem Uf {cs:List AV} (h: ∀c∈cs,Still d c):FzL A S d cs cs:=zX h
theorem Fz.gs {E:Enc α} {l:List α} {b:Nat} (hS:S.contains b=true) (hA:A[b]? =some (.cells (l.flatMap E.c))) (hd:E.dep<=d):Fz A S (d+1) (.gslice b l.length E.k) (vl E l):=by
 unfold Fz
 have e:(l.flatMap E.c).take (l.length*E.k)=l.flatMap E.c:=by rw[<-E.flat_len,bJ]
 conv=>lhs;unfold frz
 simp only[hS,aJ,hA,e,zX (E.flat_still l hd),ZM];rfl
theorem Fz.sl {E:Enc α} {l:List α} {b cap:Nat} (hS:S.contains b=true) (hA:A[b]? =some (.cells (l.flatMap E.c))) (hd:E.dep<=d):Fz A S (d+1) (.slice b 0 l.length cap E.k) (vl E l):=by
 unfold Fz
 have e:(l.flatMap E.c).take (l.length*E.k)=l.flatMap E.c:=by rw[<-E.flat_len,bJ]
 conv=>lhs;unfold frz
 simp only[hS,aJ,hA,YR,e,zX (E.flat_still l hd),ZM];rfl
theorem Fz.os {E:Enc α} {l:List α} {b:Nat} (hS:S.contains b=true) (hA:A[b]? =some (.cells (l.flatMap E.c))) (hd:E.dep<=d):Fz A S (d+1) (.oslice b l.length E.k) (vl E l):=by
 unfold Fz
 have e:(l.flatMap E.c).take (l.length*E.k)=l.flatMap E.c:=by rw[<-E.flat_len,bJ]
 conv=>lhs;unfold frz
 simp only[hS,aJ,hA,e,zX (E.flat_still l hd),ZM];rfl
theorem Fz.lit {b n cap k:Nat} {cs cs':List AV} (hS:S.contains b=true) (hA:A[b]? =some (.cells cs)) (h:FzL A S d (cs.take (n*k)) cs'):Fz A S (d+1) (.slice b 0 n cap k) (.fslice n cs'):=by
 unfold Fz FzL at*
 conv=>lhs;unfold frz
 simp only[hS,aJ,hA,YR,h,ZM]
theorem Fz.gsF {E:Enc α} {l:List α} {b:Nat} (hS:S.contains b=true) (hA:A[b]? =some (.frozen (l.flatMap E.c))) (hd:E.dep<=d):Fz A S (d+1) (.gslice b l.length E.k) (vl E l):=by
 unfold Fz
 have e:(l.flatMap E.c).take (l.length*E.k)=l.flatMap E.c:=by rw[<-E.flat_len,bJ]
 conv=>lhs;unfold frz
 simp only[hS,aJ,hA,e,zX (E.flat_still l hd),ZM];rfl
theorem Fz.osF {E:Enc α} {l:List α} {b:Nat} (hS:S.contains b=true) (hA:A[b]? =some (.frozen (l.flatMap E.c))) (hd:E.dep<=d):Fz A S (d+1) (.oslice b l.length E.k) (vl E l):=by
 unfold Fz
 have e:(l.flatMap E.c).take (l.length*E.k)=l.flatMap E.c:=by rw[<-E.flat_len,bJ]
 conv=>lhs;unfold frz
 simp only[hS,aJ,hA,e,zX (E.flat_still l hd),ZM];rfl
theorem Fz.litF {b n cap k:Nat} {cs cs':List AV} (hS:S.contains b=true) (hA:A[b]? =some (.frozen cs)) (h:FzL A S d (cs.take (n*k)) cs'):Fz A S (d+1) (.slice b 0 n cap k) (.fslice n cs'):=by
 unfold Fz FzL at*
 conv=>lhs;unfold frz
 simp only[hS,aJ,hA,YR,h,ZM]
theorem Fz.func {fn:Fn} {fs fs' cs cs':List AV} (h1:FzL A S d fs fs') (h2:FzL A S d cs cs'):Fz A S (d+1) (.func fn fs cs) (.func fn fs' cs'):=by
 unfold Fz FzL at*;simp only[frz,h1,h2]
end
theorem qe7 {b:Nat} {l xs r:List α} (h:app b l xs=some r):(l.length+xs.length)*b<=140737488355328/\l.length+xs.length<=140737488355328/\r=l++xs:=by
 unfold app at h;split at h
 ·rename_i h0;injection h with h;exact⟨h0.1,h0.2,h.symm⟩
 cases h
theorem SlT.append {t e:TypeId} {k b:Nat} (T:SlT P t e k b) (hk:0<k) (X Y:AV) (hY: ∀s,Y≠ .str s):zO P [t,t] X Y=kz k Y λn news=>xD k b X n news:=by
 obtain⟨inf,z,h1,h2,h3,h4,h5⟩:=T.info;subst h2 h3;simp only[zO,T.und,h1,h4,h5,hk,bY,aJ]
theorem qde {A:Heap} {b:Nat} {x:Blk} (h:A[b]? =some x):b<A.length:=(Yb.1 h).1
section
variable {S:List Nat} {lo b:Nat} {A:Heap} {f:zG}
theorem qbx {k:Blk->Pg} {x:Blk} (hS:S.contains b=true) (hx:A[b]? =some x):qac S lo (.get b k) A f=qac S lo (k x) A ((b,false)::f):=by
 show jf (S.contains b||Nat.ble lo b) (ob (hget A b) λx=>qac S lo (k x) A ((b,false)::f)) none=_;rw[hS,qhX,hx];rfl
theorem qdG {k:Pg} {x:Blk} (hS:S.contains b=true) (hb:b<A.length):qac S lo (.set b x k) A f=qac S lo k (A.set b x) ((b,true)::f):=by
 show jf (S.contains b||Nat.ble lo b) (jf (Nat.blt b (hlen A)) (qac S lo k (hset A b x) ((b,true)::f)) none) none=_;rw[hS,yI,qhV,show Nat.blt b A.length=true from bH hb];rfl
theorem qgR {k:Nat->Pg} {x:Blk}:qac S lo (.new x k) A f=qac S lo (k A.length) (A++[x]) f:=by
 show qac S lo (k (hlen A)) (happ A x) f=_;rw[yI,qhL]
theorem qfo {v:AV}:qac S lo (.done v) A f=some (v,A,f):=rfl
end
structure qmg (E:Enc α) (k:Nat) (S:List Nat) (A:Heap) (Y:AV) (ys:List α):Prop where
 ns: ∀s,Y≠ .str s
 run: ∀(K:Nat->List AV->Pg) (lo:Nat) (f:zG),∃f',qac S lo (kz k Y K) A f=qac S lo (K ys.length (ys.flatMap E.c)) A f'
def DstR (E:Enc α) (k b:Nat) (S:List Nat) (A:Heap) (X:AV) (ys:List α) (V:AV) (A':Heap):Prop:=
 ∀(f:zG),∃f',qac S A.length (xD k b X ys.length (ys.flatMap E.c)) A f=some (V,A',f')/\f'.any (·.2)=true
theorem qaq {t e:TypeId} {k b:Nat} (T:SlT P t e k b) {E:Enc α} (hk:E.k=k) {S:List Nat} {A A':Heap} {X Y V:AV} {ys:List α} (hs:qmg E k S A Y ys) (hd:DstR E k b S A X ys V A'):(Obl.run S (zO P [t,t] X Y) A V A' true).Holds P:=by
 rw[Obl.Holds,T.append (hk▸E.pos) _ _ hs.ns];obtain⟨f1,h1⟩:=hs.run (λn news=>xD k b X n news) A.length [];obtain⟨f2,h2,h3⟩:=hd f1;exact⟨f2,h1.trans h2,h3⟩
section
variable {E:Enc α} {k b:Nat} {S:List Nat} {A A':Heap}
theorem qib (E:Enc α) (l:List α):(l.flatMap E.c).take (l.length*E.k)=l.flatMap E.c:=by rw[<-E.flat_len,bJ]
theorem qrP (hk:E.k=k) (ys:List α):qmg E k S A (vl E ys) ys:=by
 refine⟨(by intro s h;cases h),λK lo f=>⟨f,?_⟩⟩
 have:(ys.flatMap E.c).length=ys.length*k:=by rw[E.flat_len,hk]
 simp only[vl,kz,this,E.flat_cell ys,bY,aJ]
theorem qdy (hk:E.k=k) {q n:Nat} {ys:List α} (hq:A[q]? =some (.cells (ys.flatMap E.c))) (hS:S.contains q=true) (hn:n=ys.length):qmg E k S A (.slice q 0 n n k) ys:=by
 subst hk hn;refine⟨(by intro s h;cases h),λK lo f=>⟨(q,false)::f,?_⟩⟩
 have e1:(0+ys.length*E.k<=(ys.flatMap E.c).length):=by rw[E.flat_len];omega
 simp only[kz,qaI];rw[qbx hS hq];simp only[yN,ae e1,YR,qib,E.flat_cell ys,aJ]
theorem qex (hk:E.k=k) {o:Nat} {l ys r:List α} (hb:A[o]? =some (.cells (l.flatMap E.c))) (hS:S.contains o=true) (h:app b l ys=some r) (hA:A'=A.set o .dead++[.cells (r.flatMap E.c)]):DstR E k b S A (.gslice o l.length k) ys (.gslice A.length r.length k) A':=by
 obtain⟨h1,h2,rfl⟩:=qe7 h;subst hk hA;intro f
 have e2:l.length*E.k<=(l.flatMap E.c).length:=by rw[E.flat_len];exact ag _
 have e4:(l++ys).flatMap E.c=l.flatMap E.c++ys.flatMap E.c:=List.flatMap_append;refine⟨(o,true)::(o,false)::f,?_,by simp⟩;simp only[xD];rw[qbx hS hb];simp only[e2,h1,h2,bY,aJ];rw[qdG hS (qde hb),qgR,qfo,qib,e4,Yk,Yq]
theorem qrB (hk:E.k=k) {o:Nat} {l ys r:List α} (hb:A[o]? =some (.cells (l.flatMap E.c))) (hS:S.contains o=true) (h:app b l ys=some r) (hA:A'=A.set o .dead++[.cells (r.flatMap E.c)]):DstR E k b S A (.oslice o l.length k) ys (.oslice A.length r.length k) A':=by
 obtain⟨h1,h2,rfl⟩:=qe7 h;subst hk hA;intro f
 have e2:l.length*E.k<=(l.flatMap E.c).length:=by rw[E.flat_len];exact ag _
 have e4:(l++ys).flatMap E.c=l.flatMap E.c++ys.flatMap E.c:=List.flatMap_append;refine⟨(o,true)::(o,false)::f,?_,by simp⟩;simp only[xD];rw[qbx hS hb];simp only[e2,h1,h2,bY,aJ];rw[qdG hS (qde hb),qgR,qfo,qib,e4,Yk,Yq]
theorem dst_z (hk:E.k=k) {o:Nat} {ys r:List α} {cs:List AV} (hb:A[o]? =some (.cells cs)) (hS:S.contains o=true) (h:app b ([]:List α) ys=some r) (hA:A'=A.set o .dead++[.cells (r.flatMap E.c)]):DstR E k b S A (.slice o 0 0 0 k) ys (.oslice A.length r.length k) A':=by
 obtain⟨h1,h2,rfl⟩:=qe7 h;subst hk hA;intro f;simp only[be,az]at h1 h2;refine⟨(o,true)::(o,false)::f,?_,by simp⟩;simp only[xD,bY,aJ];rw[qbx hS hb];simp only[h1,h2,bY,aJ];rw[qdG hS (qde hb),qgR,qfo,Yk]
end
theorem qjF {l r:List α} {i:Int} {x:α} (h:put l i x=some r):0<=i/\i<l.length/\r=l.set i.toNat x:=by
 unfold put at h;split at h
 ·rename_i h0;injection h with h;exact⟨h0.1,h0.2,h.symm⟩
 cases h
theorem jv {l r:List α} {i:Int} {x:α} (h:put l i x=some r):l.length=r.length:=by
 obtain⟨_,_,rfl⟩:=qjF h;simp
theorem qgl {t e:TypeId} {k b:Nat} (T:SlT P t e k b) {l:List α} {i:Int} {x:α} {q:IntKind} {o:Nat} (h:idx l i=some x):(Obl.done (.opt (qd P t (.oslice o l.length k) (.int q i))) (.ptr o (i.toNat*k+0))).Holds P:=by
 obtain⟨inf,z,h1,h2,_⟩:=T.info;obtain⟨g1,g2,_⟩:=xI h;subst h2;show Pg.opt _=_;simp only[qd,T.und,h1,g1,g2,bY,aJ,Pg.opt,aY]
theorem qad {t e:TypeId} {k b:Nat} (T:SlT P t e k b) {l:List α} {i:Int} {x:α} {q:IntKind} {o c:Nat} (h:idx l i=some x):(Obl.done (.opt (qd P t (.slice o 0 l.length c k) (.int q i))) (.ptr o (i.toNat*k+0))).Holds P:=by
 obtain⟨inf,z,h1,h2,_⟩:=T.info;obtain⟨g1,g2,_⟩:=xI h;subst h2;show Pg.opt _=_;simp only[qd,T.und,h1,g1,g2,bY,aJ,Pg.opt,aY,az]
theorem qlo {S:List Nat} {lo o off n:Nat} {A:Heap} {f:zG} {cs:List AV} {K:List AV->Pg} (hS:S.contains o=true) (hb:A[o]? =some (.cells cs)) (hn:off+n<=cs.length):qac S lo (qaI o off n K) A f=qac S lo (K ((cs.drop off).take n)) A ((o,false)::f):=by
 simp only[qaI];rw[qbx hS hb];simp only[yN,ae hn]
theorem qdh {t:TypeId} (T:CeT P t) {E:Enc α} {k:Nat} (hk:E.k=k) {A:Heap} {o:Nat} {l:List α} (hb:A[o]? =some (.cells (l.flatMap E.c))) {i:Int} {x:α} (h:idx l i=some x) {off:Nat} {c:AV} (ho:off<k) (hc:(E.c x)[off]? =some c):(Obl.run [o] (qX P t (.ptr o (i.toNat*k+off))) A c A false).Holds P:=by
 subst hk;obtain⟨_,_,g3⟩:=xI h;have:=flat_get E g3 ho;rw[hc]at this;obtain⟨h1,h2⟩:=qjM this;refine⟨[(o,false)],?_,rfl⟩;rw[T.load];simp only[yY];rw[qlo (by simp) hb h2,h1];rfl
theorem qeQ {t:TypeId} {k:Nat} (T:AgT P t k) {E:Enc α} (hk:E.k=k) {A:Heap} {o:Nat} {l:List α} (hb:A[o]? =some (.cells (l.flatMap E.c))) {i:Int} {x:α} (h:idx l i=some x):(Obl.run [o] (qX P t (.ptr o (i.toNat*k+0))) A (.agg (E.c x)) A false).Holds P:=by
 subst hk;obtain⟨_,g2,g3⟩:=xI h;have hlt:=(Yb.1 g3).1
 have h2:i.toNat*E.k+E.k<=(l.flatMap E.c).length:=by
  rw[E.flat_len];have:=aN E.k hlt;rw[dI]at this;exact this
 refine⟨[(o,false)],?_,rfl⟩;rw[T.load];simp only[yY,aY];rw[qlo (by simp) hb h2,qjz E g3];rfl
theorem qoe (E:Enc α): ∀{l:List α} {i:Nat} {x y:α},l[i]? =some x-> ∀{off:Nat} {xs:List AV},off+xs.length<=E.k->E.c y=(E.c x).take off++xs++(E.c x).drop (off+xs.length)->
 splice (l.flatMap E.c) (i*E.k+off) xs=(l.set i y).flatMap E.c:=by
 intro l
 induction l with
 |nil=>intro i x y h;simp at h
 |cons z l ih=>
  intro i x y h off xs ho hy
  cases i with
  |zero=>
   simp at h;subst h;simp only[splice,bz,bf,az,List.set_cons_zero,hy];rw[dj (by rw[E.len];omega),cx (by rw[E.len];omega)];simp only[Yz]
  |succ i=>
   have h:l[i]? =some x:=by simpa using h
   have e:(i+1)*E.k+off=E.k+(i*E.k+off):=by rw[Nat.add_mul,de];omega
   have:=ih h ho hy;simp only[splice]at this⊢
   rw[bz,List.set_cons_succ,bz,<-this,e,eF,E.len,aj (by rw[E.len];omega),show E.k+(i*E.k+off)-E.k=i*E.k+off by omega,
    show E.k+(i*E.k+off)+xs.length=E.k+(i*E.k+off+xs.length)by omega,db,E.len,aA (by rw[E.len];omega),bn,show E.k+(i*E.k+off+xs.length)-E.k=i*E.k+off+xs.length by omega]
   simp only[Yz]
theorem xS {t:TypeId} {E:Enc α} {k n:Nat} (hk:E.k=k) {A A':Heap} {o:Nat} {l r:List α} (ht:(P.info? t).map (·.size)=some n) (hb:A[o]? =some (.cells (l.flatMap E.c))) {i:Int} {x y:α} (h:idx l i=some x) {off:Nat} {v:AV} {xs:List AV} (hv:cellsOf v=some xs) (hn:xs.length=n)
 (ho:Nat.ble (off+n) k=true) (hx:xs.all vo=true) (hy:E.c y=(E.c x).take off++xs++(E.c x).drop (off+xs.length)) (hp:put l i y=some r) (hA:A'=A.set o (.cells (r.flatMap E.c))):(Obl.run [o] (qx P t (.ptr o (i.toNat*k+off)) v) A .undef A' true).Holds P:=by
 subst hk hn hA;obtain⟨_,g2,g3⟩:=xI h;obtain⟨_,_,rfl⟩:=qjF hp;have ho:=Ys ho;have hlt:=(Yb.1 g3).1
 cases hi:P.info? t with
 |none=>rw[hi]at ht;cases ht
 |some inf=>
  rw[hi]at ht;simp only[ZM,ZI]at ht
  have h2:i.toNat*E.k+off+xs.length<=(l.flatMap E.c).length:=by
   rw[E.flat_len];have:=aN E.k hlt;rw[dI]at this;omega
  refine⟨[(o,true),(o,false)],?_,rfl⟩;simp only[qx,hi,hv];rw[qbx (by simp) hb];simp only[ht,h2,hx,bY,aJ];rw[qdG (by simp) (qde hb),qoe E g3 ho hy];rfl
def mk (b:Nat) (n:Int) (z:α):Option (List α):=if 0<=n/\n<=140737488355328/\n*b<=140737488355328 then some (List.replicate n.toNat z)else none
theorem qiy (E:Enc α) (z:α) (n:Nat):zeros (E.c z) (n*E.k)=(List.replicate n z).flatMap E.c:=by
 refine List.ext_getElem? λj=>?_
 have hp:=E.pos;rcases ak j (n*E.k)with hj|hj
 ·have h1:(List.replicate n z)[j/E.k]? =some z:=by
   rw[List.getElem?_replicate,ae (Nat.div_lt_of_lt_mul (by rw[cd];exact hj))]
  have h2:=flat_get E h1 (dT j hp);rw[cd,Nat.div_add_mod]at h2;rw[h2]
  have h3:j%E.k<(E.c z).length:=by rw[E.len];exact dT j hp
  simp only[zeros,YA,List.getElem?_range hj,ZM,E.len,Yy,Ya h3,YN]
 rw[Yg (by simp[zeros];exact hj),Yg (by rw[E.flat_len,bX];exact hj)]
theorem qdf {t e:TypeId} {k b:Nat} (T:SlT P t e k b) {E:Enc α} (hk:E.k=k) {z:α} (hz:qfj P e=some (E.c z)) {n:Int} {l:List α} (h:mk b n z=some l) {A A':Heap} (hA:A'=A++[.cells (l.flatMap E.c)]):
 (Obl.run [] (jd P t (.int .i64 n) (.int .i64 n)) A (.slice A.length 0 l.length l.length k) A' false).Holds P:=by
 subst hk hA;obtain⟨inf,_,h1,h2,h3,_⟩:=T.info;unfold mk at h;split at h
 ·rename_i hc;injection h with h;subst h;obtain⟨c1,c2,c3⟩:=hc;refine⟨[],?_,rfl⟩
  have e1:(E.c z).length=inf.size:=by rw[E.len,h2]
  simp only[jd,T.und,h1,hz];rw[ae ⟨c1,bU _,c2,by rw[h3];exact c3,e1⟩,qgR,qfo,h2,qiy,bX]
 cases h
def cpy (l ys:List α):List α:=ys.take (Nat.min ys.length l.length)++l.drop (Nat.min ys.length l.length)
theorem qmP {l ys r:List α} (h:some (cpy l ys)=some r):l.length=r.length:=by
 injection h with h;subst h;simp only[cpy,Yq,Ym,YJ,Nat.min_def];split<;>split<;>omega
theorem qsx {t e:TypeId} {k b:Nat} (T:SlT P t e k b) {E:Enc α} (hk:E.k=k) {S:List Nat} {A A':Heap} {X Y:AV} {ys l r:List α} {o:Nat} (hs:qmg E k S A Y ys) (hX:X= .slice o 0 l.length l.length k\/X= .oslice o l.length k)
 (hb:A[o]? =some (.cells (l.flatMap E.c))) (hS:S.contains o=true) (h:some (cpy l ys)=some r) (hA:A'=A.set o (.cells (r.flatMap E.c))):(Obl.run S (qcu P [t,t] X Y) A (.int .i64 ((Nat.min ys.length l.length:Nat):Int)) A' true).Holds P:=by
 injection h with h;subst hA h hk;obtain⟨inf,z,h1,h2,_⟩:=T.info
 have key:qcu P [t,t] X Y=kz E.k Y λn cs=>qbl E.k o 0 l.length n cs:=by
  rcases hX with rfl|rfl<;>simp only[qcu,T.und,h1,h2,aJ]
 rw[Obl.Holds,key];obtain⟨f1,e1⟩:=hs.run (λn cs=>qbl E.k o 0 l.length n cs) A.length [];refine⟨(o,true)::(o,false)::f1,e1.trans ?_,by simp⟩;have e2:(ys.flatMap E.c).take (Nat.min ys.length l.length*E.k)=(ys.take (Nat.min ys.length l.length)).flatMap E.c:=qcQ E ys _
 have e3:((ys.take (Nat.min ys.length l.length)).flatMap E.c).length=Nat.min ys.length l.length*E.k:=by
  rw[E.flat_len,Ym];congr 1;simp only[Nat.min_def];split<;>split<;>omega
 have e4:(l.flatMap E.c).drop (Nat.min ys.length l.length*E.k)=(l.drop (Nat.min ys.length l.length)).flatMap E.c:=qfz E l _
 have e5:0+Nat.min ys.length l.length*E.k<=(l.flatMap E.c).length:=by
  rw[E.flat_len,az];exact aN _ (eC _ _)
 simp only[qbl];rw[qbx hS hb];simp only[e2,e3,e5,aJ];rw[qdG hS (qde hb)];simp only[splice,e3,az,e4,bh,bn,cpy,List.flatMap_append];rfl
inductive EqFs (P:Program) (xs ys:List AV):List Field->Bool->Prop
 |nil:EqFs P xs ys [] true
 |cons {f:Field} {fs:List Field} {a b:AV} {c d:Bool} (hn:decide (f.name= "_")=false) (hp:qfH P f.type xs f.offset=some a) (hq:qfH P f.type ys f.offset=some b) (he:eqA P 99 f.type a b=some c) (hr:EqFs P xs ys fs d):EqFs P xs ys (f::fs) (c&&d)
structure EqT (P:Program) (t:TypeId) (fs:Array Field):Prop where
 und:P.underlying t=some (.struct fs)
 guard:P.eqGuardType P.depth t=false
 held:P.stoodInHeld t=false
theorem Ua {A:Heap} {S:List Nat} {d:Nat} {a:AV} (h:Still d a):FzW A S d a a:= .of (h A S)
theorem FzW.fz {A:Heap} {S:List Nat} {d:Nat} {a b:AV} (h:Fz A S d a b):FzW A S d a b:= .of h
theorem FzW.nilv {A:Heap} {S:List Nat} {d:Nat} {E:Enc α}:FzW A S (d+1) .nilslice (vl E []):=FzW.nil
end Go.Av
