/-
  Regions, run by the kernel, with what it can't reckon told ahead; calls by value on some blocks; blocks renamed, frozen, forgotten.
-/
import Derived.Test.YthgioiakbbhonaaGreatDoorAvFk
noncomputable section
namespace Go.Av
set_option linter.unusedSectionVars false
variable [Glob]
open Go.RowKit
section
variable {P:Program}
theorem qf.byS {f:FuncId} {args args':List AV} {A Al:Heap} {S:List Nat} {v v0:AV} (hargs':args.mapM (frz A S 12)=some args') (hok:qf P (.fn f) args' [] v Al) (hv0:frz Al (List.range Al.length) 12 v=some v0):
 qf P (.fn f) args A v0 (if flat 6 v0=true then A else qW S A):=by
 refine λF nu w vs i hargs=>?_
 obtain⟨m1,m2⟩:=mapM_some hargs'
 have hR':RL (FS F nu A S) (λ_=>none) w args' vs:=by
  refine⟨by rw[hargs.1,m1],λj a v ha hv=>?_⟩;obtain⟨x,hx1,hx2⟩:=m2 j a ha;exact qhg i 12 hx2 (hargs.2 j x v hx1 hv)
 have hlt1: ∀rb,FS F nu A S rb->rb<w.heap.size:=by
  rintro rb (h|⟨b,x,_,h,_⟩)
  ·exact i.ltF rb h
  exact i.ltN b rb h
 have i1:Inv (FS F nu A S) (λ_=>none) [] w:=⟨by simp,by simp,λ_ _=>rfl,hlt1,by simp,Glob.mono i.glob (λ_ h=> .inl h) λ_ _=>rfl⟩
 have core: ∀x F2 nu2 w',Stp (FS F nu A S) (λ_=>none) [] w F2 nu2 Al w'->R F2 nu2 w' v x-> ∃F' nu',Stp F nu A w F' nu' (if flat 6 v0=true then A else qW S A) w'/\R F' nu' w' v0 x:=by
  intro x F2 nu2 w' st hRv
  have noOwn: ∀rb,¬qaO (λ_=>none) [] w rb:=by
   rintro rb ⟨b,x,r,hb,_⟩;cases hb
  have hkeep: ∀rb,rb<w.heap.size->w'.heap[rb]? =w.heap[rb]? :=λrb hlt=>st.keep rb hlt (noOwn rb)
  have hF3: ∀rb,rb<w.heap.size->FS F2 nu2 Al (List.range Al.length) rb->FS F nu A S rb:=by
   rintro rb hlt (h1|⟨b,x,_,h1,h2,h3⟩)
   ·rcases st.newF rb h1 with h2|h2|h2
    ·exact h2
    ·omega
    exact absurd h2 (noOwn rb)
   exact absurd (st.own rb hlt (.of h1 h2 h3)) (noOwn rb)
  have ftO: ∀{b rb:Nat} {y:Blk} {r:Nat},nu b=some rb->Ft w' rb y r->Ft w rb y r:=λhb hf=>hf.same (hkeep _ (i.ltN _ _ hb))
  have hv3:=qhg st.inv 12 hv0 hRv;by_cases hflat:flat 6 v0=true
  ·rw[ae hflat];have x1:Ext F nu w F nu w':=⟨λ_ h=>h,λ_ _ h=>h,λrb h=>hkeep rb (i.ltF rb h),st.shape⟩;refine⟨F,nu,⟨λ_ h=>h,λ_ _ h=>h,st.shape,⟨λb rb y hb hy=>i.keepB x1 hb hy λho r hr=>⟨hkeep r (i.ftF hb hy ho hr).2,id⟩,λb b' rb rb' y y' r hb hb' hy hy' ho ho' hr hr'=>i.injF b b' rb rb' y y' r hb hb' hy hy' ho ho' (ftO hb hr) (ftO hb' hr'),i.fresh,λrb h=>?_,λb rb h=>?_,Glob.ext i.glob x1⟩,λrb hlt _=>hkeep rb hlt,λr _ ⟨b,y,rb,h1,h2,h3,h4⟩=>⟨b,y,rb,h1,h2,h3,ftO h1 h4⟩,st.size,st.os,st.tape,st.output,λ_ _=>rfl,ag _,λ_ h=> .inl h⟩,qqy 6 hflat hv3⟩
   ·have:=i.ltF rb h;have:=st.size;omega
   have:=i.ltN b rb h;have:=st.size;omega
  rw[aa hflat]
  have fF: ∀rb,F rb->FS F2 nu2 Al (List.range Al.length) rb:=λrb h=> .inl (st.f rb (.inl h))
  have x1:Ext F nu w (FS F2 nu2 Al (List.range Al.length)) nu w':=⟨fF,λ_ _ h=>h,λrb h=>hkeep rb (i.ltF rb h),st.shape⟩;refine⟨FS F2 nu2 Al (List.range Al.length),nu,⟨fF,λ_ _ h=>h,st.shape,⟨λb rb y hb hy=>?_,λb b' rb rb' y y' r hb hb' hy hy' ho ho' hr hr'=>?_,λb hb=>i.fresh b (by rwa [zH]at hb),λrb h=>?_,λb rb h=>?_,Glob.ext i.glob x1⟩,λrb hlt _=>hkeep rb hlt,?_,st.size,st.os,st.tape,st.output,λ_ _=>rfl,by rw[zH];exact ag _,λrb h=>?_⟩,hv3.mono ⟨λ_ h=>h,by simp,λ_ _=>rfl,λ_ _ h=>h⟩⟩
  ·have hlt:=i.ltN b rb hb;rcases vW S A b y hy with rfl|⟨hnS,hA⟩|⟨hS2,cs,rfl,hA⟩
   ·trivial
   ·refine i.keepB x1 hb hA λhyo r hr=>⟨hkeep r (i.ftF hb hA hyo hr).2,λhf=>?_⟩
    rcases hF3 r (i.ftF hb hA hyo hr).2 hf with h1|⟨b',x',h1,h2,h3,h4⟩
    ·exact h1
    exact absurd (i.injF b b' rb r y x' r hb h2 hA h3 hyo h4 hr (.inl rfl)▸h1) hnS
   rcases hA with hA|hA
   ·obtain⟨h0,vs2,e,h1,h2,h3⟩:=i.blk b rb _ hb hA;exact⟨.inl (st.f rb (.inr ⟨b,_,hS2,hb,hA,rfl⟩)),vs2,e,_,(hkeep rb hlt).trans h1,h2,λj a v ha hv=>(h3 j a v ha hv).mono x1⟩
   obtain⟨h0,vs2,e,fr,h1,h2,h3⟩:=i.blk b rb _ hb hA;exact⟨fF rb h0,vs2,e,fr,(hkeep rb hlt).trans h1,h2,λj a v ha hv=>(h3 j a v ha hv).mono x1⟩
  ·have old: ∀(b:Nat) (y:Blk),(qW S A)[b]? =some y->y.owned=true->A[b]? =some y:=by
    intro b y hy ho;rcases vW S A b y hy with rfl|⟨_,hA⟩|⟨_,cs,rfl,_⟩
    ·cases ho
    ·exact hA
    cases ho
   exact i.injF b b' rb rb' y y' r hb hb' (old b y hy ho) (old b' y' hy' ho') ho ho' (ftO hb hr) (ftO hb' hr')
  ·rcases h with h|⟨b,x,_,h,_⟩
   ·exact st.inv.ltF rb h
   exact st.inv.ltN b rb h
  ·have:=i.ltN b rb h;have:=st.size;omega
  ·rintro r hlt ⟨b,y,rb,hb,hy,ho,hf⟩;rcases vW S A b y hy with rfl|⟨_,hA⟩|⟨_,cs,rfl,_⟩
   ·cases ho
   ·exact⟨b,y,rb,hb,hA,ho,ftO hb hf⟩
   cases ho
  rcases ak rb w.heap.size with hlt|hge
  ·rcases hF3 rb hlt h with h1|⟨b,x,_,h1,h2,h3⟩
   ·exact .inl h1
   exact .inr (.inr (.of h1 h2 h3))
  exact .inr (.inl hge)
 rcases hok _ _ w vs i1 hR' with⟨hent,hcalls⟩|⟨x,w',F2,nu2,hrun,st,hRv⟩
 ·refine .inl ⟨hent,hcalls.mono ?_⟩;rintro e w' ⟨x,F2,nu2,rfl,st,hRv⟩;obtain⟨F',nu',h1,h2⟩:=core x F2 nu2 w' st hRv;exact⟨x,F',nu',rfl,h1,h2⟩
 obtain⟨F',nu',h1,h2⟩:=core x F2 nu2 w' st hRv;exact .inr ⟨x,w',F',nu',hrun,h1,h2⟩
theorem qf.byF {f:FuncId} {args args':List AV} {A Al:Heap} {S:List Nat} {v v0:AV} (hargs':args.mapM (frz A S 12)=some args') (hok:qf P (.fn f) args' [] v Al) (hv0:frz Al (List.range Al.length) 12 v=some v0):
 qf P (.fn f) args A v0 (qW S A):=by
 refine λF nu w vs i hargs=>?_
 obtain⟨m1,m2⟩:=mapM_some hargs'
 have hR':RL (FS F nu A S) (λ_=>none) w args' vs:=by
  refine⟨by rw[hargs.1,m1],λj a v ha hv=>?_⟩;obtain⟨x,hx1,hx2⟩:=m2 j a ha;exact qhg i 12 hx2 (hargs.2 j x v hx1 hv)
 have hlt1: ∀rb,FS F nu A S rb->rb<w.heap.size:=by
  rintro rb (h|⟨b,x,_,h,_⟩)
  ·exact i.ltF rb h
  exact i.ltN b rb h
 have i1:Inv (FS F nu A S) (λ_=>none) [] w:=⟨by simp,by simp,λ_ _=>rfl,hlt1,by simp,Glob.mono i.glob (λ_ h=> .inl h) λ_ _=>rfl⟩
 have core: ∀x F2 nu2 w',Stp (FS F nu A S) (λ_=>none) [] w F2 nu2 Al w'->R F2 nu2 w' v x-> ∃F' nu',Stp F nu A w F' nu' (qW S A) w'/\R F' nu' w' v0 x:=by
  intro x F2 nu2 w' st hRv
  have noOwn: ∀rb,¬qaO (λ_=>none) [] w rb:=by
   rintro rb ⟨b,x,r,hb,_⟩;cases hb
  have hkeep: ∀rb,rb<w.heap.size->w'.heap[rb]? =w.heap[rb]? :=λrb hlt=>st.keep rb hlt (noOwn rb)
  have hF3: ∀rb,rb<w.heap.size->FS F2 nu2 Al (List.range Al.length) rb->FS F nu A S rb:=by
   rintro rb hlt (h1|⟨b,x,_,h1,h2,h3⟩)
   ·rcases st.newF rb h1 with h2|h2|h2
    ·exact h2
    ·omega
    exact absurd h2 (noOwn rb)
   exact absurd (st.own rb hlt (.of h1 h2 h3)) (noOwn rb)
  have ftO: ∀{b rb:Nat} {y:Blk} {r:Nat},nu b=some rb->Ft w' rb y r->Ft w rb y r:=λhb hf=>hf.same (hkeep _ (i.ltN _ _ hb))
  have hv3:=qhg st.inv 12 hv0 hRv
  have fF: ∀rb,F rb->FS F2 nu2 Al (List.range Al.length) rb:=λrb h=> .inl (st.f rb (.inl h))
  have x1:Ext F nu w (FS F2 nu2 Al (List.range Al.length)) nu w':=⟨fF,λ_ _ h=>h,λrb h=>hkeep rb (i.ltF rb h),st.shape⟩;refine⟨FS F2 nu2 Al (List.range Al.length),nu,⟨fF,λ_ _ h=>h,st.shape,⟨λb rb y hb hy=>?_,λb b' rb rb' y y' r hb hb' hy hy' ho ho' hr hr'=>?_,λb hb=>i.fresh b (by rwa [zH]at hb),λrb h=>?_,λb rb h=>?_,Glob.ext i.glob x1⟩,λrb hlt _=>hkeep rb hlt,?_,st.size,st.os,st.tape,st.output,λ_ _=>rfl,by rw[zH];exact ag _,λrb h=>?_⟩,hv3.mono ⟨λ_ h=>h,by simp,λ_ _=>rfl,λ_ _ h=>h⟩⟩
  ·have hlt:=i.ltN b rb hb;rcases vW S A b y hy with rfl|⟨hnS,hA⟩|⟨hS2,cs,rfl,hA⟩
   ·trivial
   ·refine i.keepB x1 hb hA λhyo r hr=>⟨hkeep r (i.ftF hb hA hyo hr).2,λhf=>?_⟩
    rcases hF3 r (i.ftF hb hA hyo hr).2 hf with h1|⟨b',x',h1,h2,h3,h4⟩
    ·exact h1
    exact absurd (i.injF b b' rb r y x' r hb h2 hA h3 hyo h4 hr (.inl rfl)▸h1) hnS
   rcases hA with hA|hA
   ·obtain⟨h0,vs2,e,h1,h2,h3⟩:=i.blk b rb _ hb hA;exact⟨.inl (st.f rb (.inr ⟨b,_,hS2,hb,hA,rfl⟩)),vs2,e,_,(hkeep rb hlt).trans h1,h2,λj a v ha hv=>(h3 j a v ha hv).mono x1⟩
   obtain⟨h0,vs2,e,fr,h1,h2,h3⟩:=i.blk b rb _ hb hA;exact⟨fF rb h0,vs2,e,fr,(hkeep rb hlt).trans h1,h2,λj a v ha hv=>(h3 j a v ha hv).mono x1⟩
  ·have old: ∀(b:Nat) (y:Blk),(qW S A)[b]? =some y->y.owned=true->A[b]? =some y:=by
    intro b y hy ho;rcases vW S A b y hy with rfl|⟨_,hA⟩|⟨_,cs,rfl,_⟩
    ·cases ho
    ·exact hA
    cases ho
   exact i.injF b b' rb rb' y y' r hb hb' (old b y hy ho) (old b' y' hy' ho') ho ho' (ftO hb hr) (ftO hb' hr')
  ·rcases h with h|⟨b,x,_,h,_⟩
   ·exact st.inv.ltF rb h
   exact st.inv.ltN b rb h
  ·have:=i.ltN b rb h;have:=st.size;omega
  ·rintro r hlt ⟨b,y,rb,hb,hy,ho,hf⟩;rcases vW S A b y hy with rfl|⟨_,hA⟩|⟨_,cs,rfl,_⟩
   ·cases ho
   ·exact⟨b,y,rb,hb,hA,ho,ftO hb hf⟩
   cases ho
  rcases ak rb w.heap.size with hlt|hge
  ·rcases hF3 rb hlt h with h1|⟨b,x,_,h1,h2,h3⟩
   ·exact .inl h1
   exact .inr (.inr (.of h1 h2 h3))
  exact .inr (.inl hge)
 rcases hok _ _ w vs i1 hR' with⟨hent,hcalls⟩|⟨x,w',F2,nu2,hrun,st,hRv⟩
 ·refine .inl ⟨hent,hcalls.mono ?_⟩;rintro e w' ⟨x,F2,nu2,rfl,st,hRv⟩;obtain⟨F',nu',h1,h2⟩:=core x F2 nu2 w' st hRv;exact⟨x,F',nu',rfl,h1,h2⟩
 obtain⟨F',nu',h1,h2⟩:=core x F2 nu2 w' st hRv;exact .inr ⟨x,w',F',nu',hrun,h1,h2⟩
theorem qeO {f g:AV->Option AV} {xs:List AV} (h: ∀x∈xs,f x=g x):xs.mapM f=xs.mapM g:=by
 induction xs with
 |nil=>rfl
 |cons x xs ih=>
  rw[bV,bV,h x (by simp),ih λy hy=>h y (by simp[hy])]
theorem qix {A B:Heap} {S:List Nat} (h: ∀b,b∈S->A[b]? =B[b]?): ∀(d:Nat) (a:AV),frz A S d a=frz B S d a:=by
 intro d
 induction d with
 |zero=>intro a;rfl
 |succ d ih=>
  intro a
  have hm: ∀xs:List AV,xs.mapM (frz A S d)=xs.mapM (frz B S d):=λxs=>qeO λx _=>ih x
  have hb: ∀b,S.contains b=true->A[b]? =B[b]? :=λb hb=>h b (by simpa using hb)
  cases a<;>simp only[frz,hm,ih]
  all_goals
   split
   ·rename_i hc;rw[hb _ hc]
   rfl
inductive Orc where
 |no
 |done (v:AV)
 |run (v:AV) (A':Heap) (wr:Bool)
 |call (S:List Nat) (args':List AV) (v:AV)
 |callF (S:List Nat) (args':List AV) (v:AV)
 |callH (S:List Nat) (v:AV) (A':Heap)
inductive Obl where
 |triv
 |done (p:Pg) (v:AV)
 |run (S:List Nat) (p:Pg) (A:Heap) (v:AV) (A':Heap) (wr:Bool)
 |call (g:FuncId) (args:List AV) (A:Heap) (S:List Nat) (args':List AV) (v:AV)
 |callF (g:FuncId) (args:List AV) (A:Heap) (S:List Nat) (args':List AV) (v:AV)
 |callH (g:Cl) (args:List AV) (A:Heap) (S:List Nat) (v:AV) (A':Heap)
instance {n:Nat}:OfNat Cl n:=⟨.fn n⟩
def Obl.Holds (P:Program):Obl->Prop
 | .triv=>True
 | .done p v=>p= .done v
 | .run S p A v A' wr=> ∃f,qac S A.length p A []=some (v,A',f)/\f.any (·.2)=wr
 | .call g args A S args' v=>args.mapM (frz A S 12)=some args'/\qf P (.fn g) args' [] v []/\Still 12 v/\(flat 6 v=true\/S=[])
 | .callF g args A S args' v=>args.mapM (frz A S 12)=some args'/\qf P (.fn g) args' [] v []/\Still 12 v
 | .callH g args A S v A'=>A.length<=A'.length/\merge S A A'=A'/\ ∀M:Heap,M.length=A.length->(∀b,b∈S->M[b]? =A[b]?)->qf P g args M v (merge S M A')
def qb2 (P:Program):List Obl->Prop
 |[]=>True
 |o::l=>o.Holds P/\qb2 P l
def qiJ:Obl->Bool
 | .triv=>true
 |_=>false
variable (P)in
def qk1 (ops:Array Oper) (f:Fr) (o:Oper) (q:Orc) (fr:Fr) (A:Heap):Option ((Fr×Heap)×Rec×Obl):=
 ob (qdV ops o f) λw=>jf w
  (Orc.rec (motive:=λ_=>Option ((Fr×Heap)×Rec×Obl))
   (jf (qes o.op&&(jM o (vK f)).isSome) none
    (jf ((qat o (vK f) A).all λb=>Nat.blt b (hlen A))
     (ob (qac (qat o (vK f) A) (hlen A) (aop P o (vK f)) A []) λr=>some ((qb3 fr o.dst r.1,r.2.1),⟨qat o (vK f) A,r.2.2.any (·.2),hlen A,hlen r.2.1⟩,.triv)) none))
   (λv=>jf (qes o.op&&(jM o (vK f)).isSome) none
    (jf (qat o (vK f) A).isEmpty (some ((qb3 fr o.dst v,A),⟨[],false,hlen A,hlen A⟩,.done (aop P o (vK f)) v)) none))
   (λv A' wr=>jf (qes o.op&&(jM o (vK f)).isSome) none
    (jf ((qat o (vK f) A).all λb=>Nat.blt b (hlen A)) (some ((qb3 fr o.dst v,A'),⟨qat o (vK f) A,wr,hlen A,hlen A'⟩,.run (qat o (vK f) A) (aop P o (vK f)) A v A' wr)) none))
   (λS args' v=>ob (jM o (vK f)) λc=>Cl.rec (motive:=λ_=>Option ((Fr×Heap)×Rec×Obl))
    (λg=>jf (S.all λb=>Nat.blt b (hlen A)) (some ((qb3 fr o.dst v,A),⟨S,false,hlen A,hlen A⟩,.call g c.2 A S args' v)) none) (λ_=>none) (λ_ _=>none) c.1)
   (λS args' v=>ob (jM o (vK f)) λc=>Cl.rec (motive:=λ_=>Option ((Fr×Heap)×Rec×Obl))
    (λg=>jf (S.all λb=>Nat.blt b (hlen A)) (some ((qb3 fr o.dst v,qW S A),⟨S,true,hlen A,hlen A⟩,.callF g c.2 A S args' v)) none) (λ_=>none) (λ_ _=>none) c.1)
   (λS v A'=>ob (jM o (vK f)) λc=>jf (S.all λb=>Nat.blt b (hlen A)) (some ((qb3 fr o.dst v,A'),⟨S,true,hlen A,hlen A'⟩,.callH c.1 c.2 A S v A')) none)
   q)
  (some ((qb3 fr o.dst (.tuple []),A),⟨[],false,hlen A,hlen A⟩,.triv))
def qqt (orc:List (Nat×Orc)) (j:Nat):Orc:=match orc with
 |[]=> .no
 |p::_=>jf (Nat.beq p.1 j) p.2 .no
def qpx (orc:List (Nat×Orc)) (j:Nat):List (Nat×Orc):=match orc with
 |[]=>[]
 |p::l=>jf (Nat.beq p.1 j) l (p::l)
variable (P)in
def qoZ (ops:Array Oper) (draw:Bool) (l:List Oper):Nat->List (Nat×Orc)->Fr->Heap->Option ((Fr×Heap)×List Rec×List Obl):=
 List.rec (motive:=λ_=>Nat->List (Nat×Orc)->Fr->Heap->Option ((Fr×Heap)×List Rec×List Obl)) (λ_ _ fr A=>some ((fr,A),[],[]))
  (λo _ ih j orc fr A=>ob (qk1 P ops (jf draw (maskF (yh ops o) fr) fr) o (qqt orc j) fr A) λr=>ob (ih (j+1) (qpx orc j) r.1.1 r.1.2) λt=>
   some (t.1,r.2.1::t.2.1,jf (qiJ r.2.2) t.2.2 (r.2.2::t.2.2))) l
variable (P)in
def qhA (ops:Array Oper) (draw:Bool) (orc:List (Nat×Orc)) (live:List Tmp) (s:St):Option (Fr×Heap×List Obl):=
 ob (qoZ P ops draw ops.toList 0 orc s.1 s.2) λr=>jf (jf draw (qgb ops r.2.1) true) (some (maskF live r.1.1,r.1.2,r.2.2)) none
theorem qqR {S:List Nat} {A:Heap} {b:Nat} (h:b∈S):(mask S A)[b]? =A[b]? :=by
 rw[qc9]
 cases A[b]? with
 |none=>rfl
 |some x=>simp[h]
open Classical in
def qeh (c:Cl) (args:List AV) (A:Heap) (v:AV) (A':Heap):zP:=λc' args' B=>if c'=c/\args'=args/\B=A then some (v,A')else none
theorem qf2 {c:Cl} {args:List AV} {A:Heap} {v:AV} {A':Heap} (h:qf P c args A v A'):zg P (qeh c args A v A'):=by
 intro c' args' B x B' he;unfold qeh at he;split at he
 ·rename_i hc;obtain⟨rfl,rfl,rfl⟩:=hc;simp only[ZI,ZP]at he;obtain⟨rfl,rfl⟩:=he;exact h
 cases he
theorem qf5 {c:Cl} {args:List AV} {A:Heap} {v:AV} {A':Heap}:qeh c args A v A' c args A=some (v,A'):=by
 unfold qeh;rw[ae ⟨rfl,rfl,rfl⟩]
theorem qdb (c:Nat) (S:List Nat) (A:Heap):qW (c::S) A=qW S (qW [c] A):=rfl
theorem qgd (c:Nat) (A:Heap) (b:Nat):(qW [c] A)[b]? =if b=c then A[c]?.map qfB else A[b]? :=by
 unfold qW;simp only[bp,eT]
 cases h:A[c]? with
 |none=>
  by_cases e:b=c
  ·subst e;simp[h]
  simp[e]
 |some k=>
  have hlt:=(Yb.1 h).1;by_cases e:b=c
  ·subst e;simp[hlt]
  simp only[aa e];rw[Yw (λe'=>e e'.symm)]
theorem qkM {S:List Nat}: ∀{A B:Heap},(∀b,b∈S->A[b]? =B[b]?)-> ∀b,b∈S->(qW S A)[b]? =(qW S B)[b]? :=by
 have key: ∀(S T:List Nat) (A B:Heap),(∀b,b∈T->A[b]? =B[b]?)->(∀b,b∈S->b∈T)-> ∀b,b∈T->(qW S A)[b]? =(qW S B)[b]? :=by
  intro S
  induction S with
  |nil=>intro T A B h _ b hb;exact h b hb
  |cons c S ih=>
   intro T A B h hs b hb;rw[qdb c S A,qdb c S B];refine ih T _ _ (λd hd=>?_) (λd hd=>hs d (by simp[hd])) b hb;rw[qgd,qgd,h c (hs c (by simp)),h d hd]
 intro A B h b hb;exact key S S A B h (λ_ h=>h) b hb
theorem qdL {S:List Nat}: ∀{A:Heap} {b:Nat},b∉S->(qW S A)[b]? =A[b]? :=by
 induction S with
 |nil=>intro A b _;rfl
 |cons c S ih=>
  intro A b hb;rw[qdb,ih (λe=>hb (by simp[e])),qgd,aa λe=>hb (by simp[e])]
theorem ql7 (S:List Nat) (lo:Nat): ∀(p:Pg) (A:Heap) (f:zG) (r:AV×Heap×zG),qac S lo p A f=some r->exec p A f=some r:=by
 intro p
 induction p with
 |fail=>intro A f r h;cases h
 |done v=>intro A f r h;exact h
 |get b k ih=>
  intro A f r h;have h:jf (S.contains b||Nat.ble lo b) (ob (hget A b) λx=>qac S lo (k x) A ((b,false)::f)) none=some r:=h;rw[zn]at h;split at h
  ·obtain⟨x,hx,h⟩:=zQ h;rw[qhX]at hx;simp only[exec,hx];exact ih x _ _ _ h
  cases h
 |set b x k ih=>
  intro A f r h;have h:jf (S.contains b||Nat.ble lo b) (jf (Nat.blt b (hlen A)) (qac S lo k (hset A b x) ((b,true)::f)) none) none=some r:=h;rw[zn]at h;split at h
  ·rw[zn]at h;split at h
   ·rename_i hb;rw[yI]at hb;rw[qhV]at h;simp only[exec,ae (show b<A.length from Ys hb)];exact ih _ _ _ h
   cases h
  cases h
 |new x k ih=>
  intro A f r h;have h:qac S lo (k (hlen A)) (happ A x) f=some r:=h;rw[yI,qhL]at h;simp only[exec];exact ih _ _ _ _ h
theorem qh7 {ops:Array Oper} {f fr:Fr} {o:Oper} {q:Orc} {A:Heap} {s':Fr×Heap} {r:Rec} {ob:Obl} (h:qk1 P ops f o q fr A=some (s',r,ob)) (ho:ob.Holds P):
 (qaK ops o f=some false/\s'=(qdF fr o.dst (.tuple []),A)/\r=⟨[],false,A.length,A.length⟩)\/
 (qaK ops o f=some true/\ ∃v A',s'=(qdF fr o.dst v,A')/\r.lo=A.length/\r.hi=A'.length/\A.length<=A'.length/\(∀b∈r.fp,b<A.length)/\
  (∀b,b<A.length->(b∈r.fp->r.wr=false)->A'[b]? =A[b]?)/\
  (∀M:Heap,M.length=A.length->(∀b,(b∈r.fp\/A.length<=b)->M[b]? =A[b]?)-> ∃B,(∃call g,zg P call/\qbi P call o f M=some (v,B,g))/\B.length=A'.length/\(∀b,(b∈r.fp\/A.length<=b)->A'[b]? =B[b]?)/\(M=A->B=A'))):=by
 unfold qk1 at h;obtain⟨w,hw,h⟩:=zQ h;rw[qe5]at hw;rw[zn]at h;rw[qft]at h
 cases w with
 |false=>
  simp only[ZF,aU,ZI,ZP,yI,qaW]at h;obtain⟨rfl,rfl,rfl⟩:=h;exact .inl ⟨hw,rfl,rfl⟩
 |true=>
  right;refine⟨hw,?_⟩;simp only[aJ]at h;have plain: ∀{v A' wr} {g:zG},(qes o.op&&(jM o (yJ f)).isSome)=false->qac (qat o (yJ f) A) A.length (aop P o (yJ f)) A []=some (v,A',g)->g.any (·.2)=wr->
   A.length<=A'.length/\(∀b,b<A.length->(b∈qat o (yJ f) A->wr=false)->A'[b]? =A[b]?)/\
   (∀M:Heap,M.length=A.length->(∀b,(b∈qat o (yJ f) A\/A.length<=b)->M[b]? =A[b]?)-> ∃B,(∃call g,zg P call/\qbi P call o f M=some (v,B,g))/\B.length=A'.length/\(∀b,(b∈qat o (yJ f) A\/A.length<=b)->A'[b]? =B[b]?)/\(M=A->B=A')):=by
   intro v A' wr g hc he hg
   have hcn:jM o (yJ f)=none:=by
    cases hx:jM o (yJ f)with
    |none=>rfl
    |some x=>
     obtain⟨cl,hop,_⟩:=qhm hx;rw[hx,hop]at hc;simp[qes]at hc
   have hex:=ql7 _ _ _ _ _ _ he;obtain⟨M',h1,h2,h3,h4,h5⟩:=qf9 _ A.length _ A A [] v A' g rfl (ag _) (λ_ _=>rfl) he;refine⟨h5,λb hb hq=>?_,λM hM hMA=>?_⟩
   ·by_cases hbS:b∈qat o (yJ f) A
    ·obtain⟨_,k2,_⟩:=qjU _ _ _ _ _ _ hex;have:=hq hbS;rw[<-hg]at this;exact k2 this b hb
    exact h4 b hb hbS
   obtain⟨B,g1,g2,g3,g4,g5⟩:=qf9 _ A.length _ A M [] v A' g hM (ag _) hMA he;refine⟨B,⟨qnd,g,ql2,?_⟩,g2,λb hb=>(g3 b hb).symm,λe=>?_⟩
   ·unfold qbi;rw[hcn];exact g1
   subst e;rw[hex]at g1;simp only[ZI,ZP]at g1;exact g1.2.1.symm
  have hall: ∀{S:List Nat},(S.all λb=>Nat.blt b (hlen A))=true-> ∀b∈S,b<A.length:=by
   intro S hS b hb;have:=Yp.1 hS b hb;rw[yI]at this;exact Ys this
  cases q with
  |no=>
   simp only[zn]at h;split at h
   ·cases h
   rename_i hc;simp only[dc]at hc;split at h
   ·rename_i hS;obtain⟨⟨v,A',g⟩,hx,h⟩:=zQ h;simp only[ZI,ZP,yI,qaW]at h;obtain⟨rfl,rfl,rfl⟩:=h;rw[yI]at hx;obtain⟨p1,p2,p3⟩:=plain hc hx rfl;exact⟨v,A',rfl,rfl,rfl,p1,hall hS,p2,p3⟩
   cases h
  |done v=>
   simp only[zn]at h;split at h
   ·cases h
   rename_i hc;simp only[dc]at hc;split at h
   ·rename_i hS;simp only[ZI,ZP,yI,qaW]at h;obtain⟨rfl,rfl,rfl⟩:=h
    have hnil:qat o (yJ f) A=[]:=by simpa using hS
    have ho:aop P o (yJ f)= .done v:=ho;have:=plain (v:=v) (A':=A) (wr:=false) (g:=[]) hc (by rw[ho];rfl) rfl;rw[hnil]at this;obtain⟨p1,p2,p3⟩:=this;exact⟨v,A,rfl,rfl,rfl,p1,by simp,p2,p3⟩
   cases h
  |run v A' wr=>
   simp only[zn]at h;split at h
   ·cases h
   rename_i hc;simp only[dc]at hc;split at h
   ·rename_i hS;simp only[ZI,ZP,yI,qaW]at h;obtain⟨rfl,rfl,rfl⟩:=h;obtain⟨g,h1,h2⟩:=ho;obtain⟨p1,p2,p3⟩:=plain hc h1 h2;exact⟨v,A',rfl,rfl,rfl,p1,hall hS,p2,p3⟩
   cases h
  |call S args' v=>
   obtain⟨⟨c,args⟩,hc,h⟩:=zQ h
   cases c with
   |rd b=>cases h
   |mt t m=>cases h
   |fn g=>
    simp only[zn]at h;split at h
    ·rename_i hS;simp only[ZI,ZP,yI,qaW]at h;obtain⟨rfl,rfl,rfl⟩:=h;obtain⟨h1,h2,h3,h4⟩:=ho;refine⟨v,A,rfl,rfl,rfl,ag _,hall hS,λ_ _ _=>rfl,λM hM hMA=>?_⟩
     have hfz:args.mapM (frz M S 12)=some args':=by
      rw[<-h1]
      exact qeO λa _=>qix (λb hb=>hMA b (.inl hb)) 12 a
     have hk:(if flat 6 v=true then M else qW S M)=M:=by
      rcases h4 with h4|h4
      ·rw[ae h4]
      subst h4;split<;>rfl
     have hok:=qf.byS hfz h2 (h3 [] (List.range ([]:Heap).length));rw[hk]at hok;refine⟨M,⟨qeh (.fn g) args M v M,[],qf2 hok,?_⟩,hM,λb hb=>(hMA b hb).symm,id⟩;unfold qbi;rw[hc];simp only[qf5,ZM]
    cases h
  |callF S args' v=>
   obtain⟨⟨c,args⟩,hc,h⟩:=zQ h
   cases c with
   |rd b=>cases h
   |mt t m=>cases h
   |fn g=>
    simp only[zn]at h;split at h
    ·rename_i hS;simp only[ZI,ZP,yI,qaW]at h;obtain⟨rfl,rfl,rfl⟩:=h;obtain⟨h1,h2,h3⟩:=ho;refine⟨v,qW S A,rfl,rfl,by rw[zH],by rw[zH];exact ag _,hall hS,λb hb hq=>?_,λM hM hMA=>?_⟩
     ·have:b∉S:=λhbS=>by have:=hq hbS;cases this
      exact qdL this
     have hfz:args.mapM (frz M S 12)=some args':=by
      rw[<-h1]
      exact qeO λa _=>qix (λb hb=>hMA b (.inl hb)) 12 a
     have hok:=qf.byF hfz h2 (h3 [] (List.range ([]:Heap).length));refine⟨qW S M,⟨qeh (.fn g) args M v (qW S M),[],qf2 hok,?_⟩,by rw[zH,zH];exact hM,λb hb=>?_,λe=>by rw[e]⟩
     ·unfold qbi;rw[hc];simp only[qf5,ZM]
     by_cases hbS:b∈S
     ·exact qkM (λc hcS=>(hMA c (.inl hcS)).symm) b hbS
     rw[qdL hbS,qdL hbS];exact(hMA b hb).symm
    cases h
  |callH S v A'=>
   obtain⟨⟨c,args⟩,hc,h⟩:=zQ h;simp only[zn]at h;split at h
   ·rename_i hS;simp only[ZI,ZP,yI,qaW]at h;obtain⟨rfl,rfl,rfl⟩:=h;obtain⟨h1,h2,h3⟩:=ho;refine⟨v,A',rfl,rfl,rfl,h1,hall hS,λb hb hq=>?_,λM hM hMA=>?_⟩
    ·have hbS:b∉S:=λhbS=>by have:=hq hbS;cases this
     rw[<-h2,qcg,Ya (show b<A'.length by omega),Ya hb];simp[hb,hbS]
    refine⟨merge S M A',⟨qeh c args M v (merge S M A'),[],qf2 (h3 M hM (λb hb=>hMA b (.inl hb))),?_⟩,qap _ _ _,λb hb=>?_,λe=>by rw[e,h2]⟩
    ·unfold qbi;rw[hc];simp only[qf5,ZM]
    rw[qcg]
    have hf:(decide (b<M.length)&&!S.contains b)=false:=by
     rcases hb with hb|hb
     ·simp[hb]
     simp[hM,Nat.not_lt.2 hb]
    simp only[hf,ZF,aU];cases A'[b]? <;>rfl
   cases h
theorem qrl {ops:Array Oper} {rr:Option Nat} {n:Nat} {Q:Exit->Act->World->Prop}: ∀(l pre:List Oper),ops.toList=pre++l-> ∀{orc:List (Nat×Orc)} {F:Nat->Prop} {nu:Nat->Option Nat} {A:Heap} {w:World} (_:Inv F nu A w) {fr:Fr} {a:Act} (_:RF F nu w fr a.tmps) {fr':Fr} {A':Heap} {rs:List Rec} {obls:List Obl}
 (_:qoZ P ops false l pre.length orc fr A=some ((fr',A'),rs,obls)) (_:qb2 P obls) (_: ∀F' nu' w' a',a'.defers=a.defers->Stp F nu A w F' nu' A' w'->RF F' nu' w' fr' a'.tmps->Q .normal a' w'),wpOpsIn (fz rr) n P ops Q (List.range' pre.length l.length) a w:=by
 intro l
 induction l with
 |nil=>
  intro pre hp orc F nu A w i fr a h fr' A' rs obls he _ hq;have he:some ((fr,A),([]:List Rec),([]:List Obl))=some ((fr',A'),rs,obls):=he;simp only[ZI,ZP]at he;obtain⟨⟨rfl,rfl⟩,_⟩:=he;exact hq F nu w a rfl (.refl i) h
 |cons o l ih=>
  intro pre hp orc F nu A w i fr a h fr' A' rs obls he hh hq
  have ho:ops[pre.length]? =some o:=by
   rw[<-YT,hp];simp
  have hp':ops.toList=(pre++[o])++l:=by simp[hp]
  have he:(ob (qk1 P ops fr o (qqt orc pre.length) fr A) λr=>ob (qoZ P ops false l (pre.length+1) (qpx orc pre.length) r.1.1 r.1.2) λt=>some (t.1,r.2.1::t.2.1,jf (qiJ r.2.2) t.2.2 (r.2.2::t.2.2)))=some ((fr',A'),rs,obls):=he;obtain⟨⟨⟨fr1,A1⟩,r1,o1⟩,hs,he⟩:=zQ he;obtain⟨⟨⟨fr2,A2⟩,rs2,obls2⟩,ht,he⟩:=zQ he;simp only[ZI,ZP]at he;obtain⟨⟨rfl,rfl⟩,rfl,rfl⟩:=he
  have hh2:o1.Holds P/\qb2 P obls2:=by
   rw[zn]at hh;split at hh
   ·rename_i e;cases o1<;>simp[qiJ]at e
    exact⟨trivial,hh⟩
   exact hh
  have hl:(pre++[o]).length=pre.length+1:=by simp
  rw[<-hl]at ht;simp only[Yr,List.range'_succ,wpOpsIn,ho];rcases qh7 hs hh2.1 with⟨hw,he,_⟩|⟨hw,v,A3,he,_,_,_,_,_,hrun⟩
  ·simp only[ZP]at he;obtain⟨rfl,rfl⟩:=he;have:=qce h hw;rw[aa (by rw[this];simp)];refine⟨λ_ _=>trivial,?_⟩;have:=ih (pre++[o]) hp' i (h.setDst o.dst qhO) ht hh2.2 (λF2 nu2 w2 a2 hd st hfr=>hq F2 nu2 w2 a2 (by rw[hd];cases o.dst<;>rfl) st hfr);rw[hl]at this;exact this
  simp only[ZP]at he;obtain⟨rfl,rfl⟩:=he;obtain⟨B,⟨call,g,hc,hst⟩,_,_,hB⟩:=hrun A rfl (λ_ _=>rfl);rw[hB rfl]at hst;rw[ae (qce h hw)];refine qjg hc i h hst (λx F' nu' w' st hR hfr=>?_);have:=ih (pre++[o]) hp' st.inv hfr ht hh2.2 (λF2 nu2 w2 a2 hd st2 hfr2=>hq F2 nu2 w2 a2 (by rw[hd];cases o.dst<;>rfl) (st.trans st2) hfr2);rw[hl]at this;exact this
theorem qn5 {ops:Array Oper}: ∀(l pre:List Oper),ops.toList=pre++l-> ∀{orc:List (Nat×Orc)} {fr:Fr} {A:Heap} {t:Fr×Heap} {rs:List Rec} {obls:List Obl},
 qoZ P ops true l pre.length orc fr A=some (t,rs,obls)->qb2 P obls-> ∃(S:Nat->Fr×Heap) (rk:Nat->Rec),S 0=(fr,A)/\S l.length=t/\(∀k,k<l.length-> ∃o v,SF P ops (pre.length+k) (S k) (S (k+1)) (rk k) o v)/\ ∀k,k<l.length->rs[k]? =some (rk k):=by
 intro l
 induction l with
 |nil=>
  intro pre hp orc fr A t rs obls he _;have he:some ((fr,A),([]:List Rec),([]:List Obl))=some (t,rs,obls):=he;simp only[ZI,ZP]at he;obtain⟨rfl,rfl,_⟩:=he;exact⟨λ_=>(fr,A),λ_=>⟨[],false,0,0⟩,rfl,rfl,by simp,by simp⟩
 |cons o l ih=>
  intro pre hp orc fr A t rs obls he hh
  have ho:ops[pre.length]? =some o:=by
   rw[<-YT,hp];simp
  have hp':ops.toList=(pre++[o])++l:=by simp[hp]
  have he:(ob (qk1 P ops (maskF (yh ops o) fr) o (qqt orc pre.length) fr A) λr=>ob (qoZ P ops true l (pre.length+1) (qpx orc pre.length) r.1.1 r.1.2) λt=>some (t.1,r.2.1::t.2.1,jf (qiJ r.2.2) t.2.2 (r.2.2::t.2.2)))=some (t,rs,obls):=he;obtain⟨⟨⟨fr1,A1⟩,r1,o1⟩,hs,he⟩:=zQ he;obtain⟨⟨⟨fr2,A2⟩,rs2,obls2⟩,ht,he⟩:=zQ he;simp only[ZI,ZP]at he;obtain⟨rfl,rfl,rfl⟩:=he
  have hh2:o1.Holds P/\qb2 P obls2:=by
   rw[zn]at hh;split at hh
   ·rename_i e;cases o1<;>simp[qiJ]at e
    exact⟨trivial,hh⟩
   exact hh
  have hl:(pre++[o]).length=pre.length+1:=by simp
  rw[<-hl]at ht;obtain⟨S,rk,h0,h1,h2,h3⟩:=ih (pre++[o]) hp' ht hh2.2;refine⟨λk=>match k with|0=>(fr,A)|k+1=>S k,λk=>match k with|0=>r1|k+1=>rk k,rfl,h1,λk hk=>?_,λk hk=>?_⟩
  ·cases k with
   |succ k=>
    obtain⟨o',v',sf⟩:=h2 k (by simpa using hk);refine⟨o',v',?_⟩;rw[hl]at sf;rw[show pre.length+(k+1)=pre.length+1+k by omega];exact sf
   |zero=>
    simp only[aY,h0];rcases qh7 hs hh2.1 with⟨hw,he1,he2⟩|⟨hw,v,A3,he1,hlo,hhi,hle,hfp,hq,hrun⟩
    ·simp only[ZP]at he1;obtain⟨rfl,rfl⟩:=he1;subst he2;exact⟨o,.tuple [],ho,rfl,rfl,rfl,ag _,by simp,λ_ _ _=>rfl,.inl ⟨hw,rfl,rfl,rfl,rfl⟩⟩
    simp only[ZP]at he1;obtain⟨rfl,rfl⟩:=he1
    have hm: ∀b,(b∈r1.fp\/A.length<=b)->(mask r1.fp A)[b]? =A[b]? :=by
     intro b hb;rcases hb with hb|hb
     ·exact qqR hb
     rw[Yg (by rw[xE];exact hb),Yg hb]
    obtain⟨B,hst,hBl,hBs,_⟩:=hrun (mask r1.fp A) (xE _ _) hm;exact⟨o,v,ho,rfl,hlo,hhi,hle,hfp,hq,.inr ⟨hw,B,hst,hBl,hBs⟩⟩
  cases k with
  |zero=>rfl
  |succ k=>simpa using h3 k (by simpa using hk)
theorem Goes.reg [Base] (hm:P.follows .mixedOrders=true) {id:Nat} {ops:Array Oper} {draw:Bool} {s:St} {Q:XA->St->Prop} (orc:List (Nat×Orc)) (live:List Tmp) {fr':Fr} {A':Heap} {obls:List Obl}
 (h:qhA P ops draw orc live s=some (fr',A',obls)) (ho:qb2 P obls) (hq:Q .normal (fr',A')):Goes P (.region id ops draw) s Q:=by
 intro F0 w0 n F nu a w st hf hd K hK;unfold qhA at h;obtain⟨⟨⟨fr1,A1⟩,rs,obls1⟩,hr,h⟩:=zQ h;rw[zn]at h;split at h
 ·rename_i hdr;simp only[ZI,ZP]at h;obtain⟨rfl,rfl,rfl⟩:=h
  have fin: ∀F' nu' w' a',a'.defers=a.defers->Stp F nu s.2 w F' nu' A1 w'->RF F' nu' w' fr1 a'.tmps->K .normal a' w':=λF' nu' w' a' hde st' hf'=>hK .normal (maskF live fr1,A1) F' nu' a' w' hq (st.trans st') (hf'.maskF live) (by rw[hde];exact hd.step st')
  cases draw with
  |false=>
   refine wpIn_region ?_;have:=qrl (rr:=Base.rr) (n:=n) (Q:=K) ops.toList [] rfl st.inv hf hr ho fin;rw[List.range_eq_range'];simpa using this
  |true=>
   have sd:=Stp.drew (w:=w) st.inv;refine wpIn_region_any hm ?_;obtain⟨S,rk,h0,h1,h2,h3⟩:=qn5 ops.toList [] rfl hr ho
   have hl:ops.toList.length=ops.size:=by simp
   rw[hl]at h1 h2 h3;refine qk9 sd.inv (hf.mono (sd.ext st.inv)) h0 h1 (λk=>?_) hdr h3 (λF' nu' w' a' hde st' hf'=>fin F' nu' w' a' hde (sd.trans st') hf');by_cases hk:k<ops.size
   ·obtain⟨o,v,sf⟩:=h2 k hk;rw[show([]:List Oper).length+k=k by simp]at sf;exact⟨o,v,λ_=>sf⟩
   exact⟨default,default,λh=>absurd h hk⟩
 cases h
end
end Go.Av
