/-
  Regions, run by the kernel, with what it can't reckon told ahead; calls by value on some blocks; blocks renamed, frozen, forgotten.
-/
import Derived.Test.YtbpkolibdibmeaaGreatAvFk
noncomputable section
namespace Go.Av
set_option linter.unusedSectionVars false
variable [Glob]
open Go.RowKit
section
variable {P:Program}
theorem qc.byS {f:FuncId} {args args':List AV} {A Al:Heap} {S:List Nat} {v v0:AV} (hargs':args.mapM (frz A S 12)=some args') (hok:qc P (.fn f) args' [] v Al) (hv0:frz Al (List.range Al.length) 12 v=some v0):
 qc P (.fn f) args A v0 (if flat 6 v0=true then A else zt S A):=by
 refine fun F nu w vs i hargs=>?_
 obtain⟨m1,m2⟩:=mapM_some hargs'
 have hR':RL (FS F nu A S) (fun _=>none) w args' vs:=by
  refine⟨by rw[hargs.1,m1],fun j a v ha hv=>?_⟩;obtain⟨x,hx1,hx2⟩:=m2 j a ha;exact qhV i 12 hx2 (hargs.2 j x v hx1 hv)
 have hlt1: ∀rb,FS F nu A S rb->rb<w.heap.size:=by
  rintro rb (h|⟨b,x,_,h,_⟩)
  ·exact i.ltF rb h
  exact i.ltN b rb h
 have i1:Inv (FS F nu A S) (fun _=>none) [] w:=⟨by simp,by simp,fun _ _=>rfl,hlt1,by simp,Glob.mono i.glob (fun _ h=> .inl h) fun _ _=>rfl⟩
 have core: ∀x F2 nu2 w',Stp (FS F nu A S) (fun _=>none) [] w F2 nu2 Al w'->R F2 nu2 w' v x-> ∃F' nu',Stp F nu A w F' nu' (if flat 6 v0=true then A else zt S A) w'/\R F' nu' w' v0 x:=by
  intro x F2 nu2 w' st hRv
  have noOwn: ∀rb,¬qaZ (fun _=>none) [] w rb:=by
   rintro rb ⟨b,x,r,hb,_⟩;cases hb
  have hkeep: ∀rb,rb<w.heap.size->w'.heap[rb]? =w.heap[rb]? :=fun rb hlt=>st.keep rb hlt (noOwn rb)
  have hF3: ∀rb,rb<w.heap.size->FS F2 nu2 Al (List.range Al.length) rb->FS F nu A S rb:=by
   rintro rb hlt (h1|⟨b,x,_,h1,h2,h3⟩)
   ·rcases st.newF rb h1 with h2|h2|h2
    ·exact h2
    ·omega
    exact absurd h2 (noOwn rb)
   exact absurd (st.own rb hlt (.of h1 h2 h3)) (noOwn rb)
  have ftO: ∀{b rb:Nat} {y:Blk} {r:Nat},nu b=some rb->Ft w' rb y r->Ft w rb y r:=fun hb hf=>hf.same (hkeep _ (i.ltN _ _ hb))
  have hv3:=qhV st.inv 12 hv0 hRv;by_cases hflat:flat 6 v0=true
  ·rw[if_pos hflat];have x1:Ext F nu w F nu w':=⟨fun _ h=>h,fun _ _ h=>h,fun rb h=>hkeep rb (i.ltF rb h),st.shape⟩;refine⟨F,nu,⟨fun _ h=>h,fun _ _ h=>h,st.shape,⟨fun b rb y hb hy=>i.keepB x1 hb hy fun ho r hr=>⟨hkeep r (i.ftF hb hy ho hr).2,id⟩,fun b b' rb rb' y y' r hb hb' hy hy' ho ho' hr hr'=>i.injF b b' rb rb' y y' r hb hb' hy hy' ho ho' (ftO hb hr) (ftO hb' hr'),i.fresh,fun rb h=>?_,fun b rb h=>?_,Glob.ext i.glob x1⟩,fun rb hlt _=>hkeep rb hlt,fun r _ ⟨b,y,rb,h1,h2,h3,h4⟩=>⟨b,y,rb,h1,h2,h3,ftO h1 h4⟩,st.size,st.os,st.tape,st.output,fun _ _=>rfl,Nat.le_refl _,fun _ h=> .inl h⟩,qrm 6 hflat hv3⟩
   ·have:=i.ltF rb h;have:=st.size;omega
   have:=i.ltN b rb h;have:=st.size;omega
  rw[if_neg hflat]
  have fF: ∀rb,F rb->FS F2 nu2 Al (List.range Al.length) rb:=fun rb h=> .inl (st.f rb (.inl h))
  have x1:Ext F nu w (FS F2 nu2 Al (List.range Al.length)) nu w':=⟨fF,fun _ _ h=>h,fun rb h=>hkeep rb (i.ltF rb h),st.shape⟩;refine⟨FS F2 nu2 Al (List.range Al.length),nu,⟨fF,fun _ _ h=>h,st.shape,⟨fun b rb y hb hy=>?_,fun b b' rb rb' y y' r hb hb' hy hy' ho ho' hr hr'=>?_,fun b hb=>i.fresh b (by rwa [zY]at hb),fun rb h=>?_,fun b rb h=>?_,Glob.ext i.glob x1⟩,fun rb hlt _=>hkeep rb hlt,?_,st.size,st.os,st.tape,st.output,fun _ _=>rfl,by rw[zY];exact Nat.le_refl _,fun rb h=>?_⟩,hv3.mono ⟨fun _ h=>h,by simp,fun _ _=>rfl,fun _ _ h=>h⟩⟩
  ·have hlt:=i.ltN b rb hb;rcases vW S A b y hy with rfl|⟨hnS,hA⟩|⟨hS2,cs,rfl,hA⟩
   ·trivial
   ·refine i.keepB x1 hb hA fun hyo r hr=>⟨hkeep r (i.ftF hb hA hyo hr).2,fun hf=>?_⟩
    rcases hF3 r (i.ftF hb hA hyo hr).2 hf with h1|⟨b',x',h1,h2,h3,h4⟩
    ·exact h1
    exact absurd (i.injF b b' rb r y x' r hb h2 hA h3 hyo h4 hr (.inl rfl)▸h1) hnS
   rcases hA with hA|hA
   ·obtain⟨h0,vs2,e,h1,h2,h3⟩:=i.blk b rb _ hb hA;exact⟨.inl (st.f rb (.inr ⟨b,_,hS2,hb,hA,rfl⟩)),vs2,e,_,(hkeep rb hlt).trans h1,h2,fun j a v ha hv=>(h3 j a v ha hv).mono x1⟩
   obtain⟨h0,vs2,e,fr,h1,h2,h3⟩:=i.blk b rb _ hb hA;exact⟨fF rb h0,vs2,e,fr,(hkeep rb hlt).trans h1,h2,fun j a v ha hv=>(h3 j a v ha hv).mono x1⟩
  ·have old: ∀(b:Nat) (y:Blk),(zt S A)[b]? =some y->y.owned=true->A[b]? =some y:=by
    intro b y hy ho;rcases vW S A b y hy with rfl|⟨_,hA⟩|⟨_,cs,rfl,_⟩
    ·cases ho
    ·exact hA
    cases ho
   exact i.injF b b' rb rb' y y' r hb hb' (old b y hy ho) (old b' y' hy' ho') ho ho' (ftO hb hr) (ftO hb' hr')
  ·rcases h with h|⟨b,x,_,h,_⟩
   ·exact st.inv.ltF rb h
   exact st.inv.ltN b rb h
  ·have:=i.ltN b rb h;have:=st.size;omega
  ·rintro r hlt ⟨b,y,rb,hb,hy,ho,hf⟩;rcases vW S A b y hy with rfl|⟨_,hA⟩|⟨_,cs,rfl,_⟩
   ·cases ho
   ·exact⟨b,y,rb,hb,hA,ho,ftO hb hf⟩
   cases ho
  rcases Nat.lt_or_ge rb w.heap.size with hlt|hge
  ·rcases hF3 rb hlt h with h1|⟨b,x,_,h1,h2,h3⟩
   ·exact .inl h1
   exact .inr (.inr (.of h1 h2 h3))
  exact .inr (.inl hge)
 rcases hok _ _ w vs i1 hR' with⟨hent,hcalls⟩|⟨x,w',F2,nu2,hrun,st,hRv⟩
 ·refine .inl ⟨hent,hcalls.mono ?_⟩;rintro e w' ⟨x,F2,nu2,rfl,st,hRv⟩;obtain⟨F',nu',h1,h2⟩:=core x F2 nu2 w' st hRv;exact⟨x,F',nu',rfl,h1,h2⟩
 obtain⟨F',nu',h1,h2⟩:=core x F2 nu2 w' st hRv;exact .inr ⟨x,w',F',nu',hrun,h1,h2⟩
theorem qc.byF {f:FuncId} {args args':List AV} {A Al:Heap} {S:List Nat} {v v0:AV} (hargs':args.mapM (frz A S 12)=some args') (hok:qc P (.fn f) args' [] v Al) (hv0:frz Al (List.range Al.length) 12 v=some v0):
 qc P (.fn f) args A v0 (zt S A):=by
 refine fun F nu w vs i hargs=>?_
 obtain⟨m1,m2⟩:=mapM_some hargs'
 have hR':RL (FS F nu A S) (fun _=>none) w args' vs:=by
  refine⟨by rw[hargs.1,m1],fun j a v ha hv=>?_⟩;obtain⟨x,hx1,hx2⟩:=m2 j a ha;exact qhV i 12 hx2 (hargs.2 j x v hx1 hv)
 have hlt1: ∀rb,FS F nu A S rb->rb<w.heap.size:=by
  rintro rb (h|⟨b,x,_,h,_⟩)
  ·exact i.ltF rb h
  exact i.ltN b rb h
 have i1:Inv (FS F nu A S) (fun _=>none) [] w:=⟨by simp,by simp,fun _ _=>rfl,hlt1,by simp,Glob.mono i.glob (fun _ h=> .inl h) fun _ _=>rfl⟩
 have core: ∀x F2 nu2 w',Stp (FS F nu A S) (fun _=>none) [] w F2 nu2 Al w'->R F2 nu2 w' v x-> ∃F' nu',Stp F nu A w F' nu' (zt S A) w'/\R F' nu' w' v0 x:=by
  intro x F2 nu2 w' st hRv
  have noOwn: ∀rb,¬qaZ (fun _=>none) [] w rb:=by
   rintro rb ⟨b,x,r,hb,_⟩;cases hb
  have hkeep: ∀rb,rb<w.heap.size->w'.heap[rb]? =w.heap[rb]? :=fun rb hlt=>st.keep rb hlt (noOwn rb)
  have hF3: ∀rb,rb<w.heap.size->FS F2 nu2 Al (List.range Al.length) rb->FS F nu A S rb:=by
   rintro rb hlt (h1|⟨b,x,_,h1,h2,h3⟩)
   ·rcases st.newF rb h1 with h2|h2|h2
    ·exact h2
    ·omega
    exact absurd h2 (noOwn rb)
   exact absurd (st.own rb hlt (.of h1 h2 h3)) (noOwn rb)
  have ftO: ∀{b rb:Nat} {y:Blk} {r:Nat},nu b=some rb->Ft w' rb y r->Ft w rb y r:=fun hb hf=>hf.same (hkeep _ (i.ltN _ _ hb))
  have hv3:=qhV st.inv 12 hv0 hRv
  have fF: ∀rb,F rb->FS F2 nu2 Al (List.range Al.length) rb:=fun rb h=> .inl (st.f rb (.inl h))
  have x1:Ext F nu w (FS F2 nu2 Al (List.range Al.length)) nu w':=⟨fF,fun _ _ h=>h,fun rb h=>hkeep rb (i.ltF rb h),st.shape⟩;refine⟨FS F2 nu2 Al (List.range Al.length),nu,⟨fF,fun _ _ h=>h,st.shape,⟨fun b rb y hb hy=>?_,fun b b' rb rb' y y' r hb hb' hy hy' ho ho' hr hr'=>?_,fun b hb=>i.fresh b (by rwa [zY]at hb),fun rb h=>?_,fun b rb h=>?_,Glob.ext i.glob x1⟩,fun rb hlt _=>hkeep rb hlt,?_,st.size,st.os,st.tape,st.output,fun _ _=>rfl,by rw[zY];exact Nat.le_refl _,fun rb h=>?_⟩,hv3.mono ⟨fun _ h=>h,by simp,fun _ _=>rfl,fun _ _ h=>h⟩⟩
  ·have hlt:=i.ltN b rb hb;rcases vW S A b y hy with rfl|⟨hnS,hA⟩|⟨hS2,cs,rfl,hA⟩
   ·trivial
   ·refine i.keepB x1 hb hA fun hyo r hr=>⟨hkeep r (i.ftF hb hA hyo hr).2,fun hf=>?_⟩
    rcases hF3 r (i.ftF hb hA hyo hr).2 hf with h1|⟨b',x',h1,h2,h3,h4⟩
    ·exact h1
    exact absurd (i.injF b b' rb r y x' r hb h2 hA h3 hyo h4 hr (.inl rfl)▸h1) hnS
   rcases hA with hA|hA
   ·obtain⟨h0,vs2,e,h1,h2,h3⟩:=i.blk b rb _ hb hA;exact⟨.inl (st.f rb (.inr ⟨b,_,hS2,hb,hA,rfl⟩)),vs2,e,_,(hkeep rb hlt).trans h1,h2,fun j a v ha hv=>(h3 j a v ha hv).mono x1⟩
   obtain⟨h0,vs2,e,fr,h1,h2,h3⟩:=i.blk b rb _ hb hA;exact⟨fF rb h0,vs2,e,fr,(hkeep rb hlt).trans h1,h2,fun j a v ha hv=>(h3 j a v ha hv).mono x1⟩
  ·have old: ∀(b:Nat) (y:Blk),(zt S A)[b]? =some y->y.owned=true->A[b]? =some y:=by
    intro b y hy ho;rcases vW S A b y hy with rfl|⟨_,hA⟩|⟨_,cs,rfl,_⟩
    ·cases ho
    ·exact hA
    cases ho
   exact i.injF b b' rb rb' y y' r hb hb' (old b y hy ho) (old b' y' hy' ho') ho ho' (ftO hb hr) (ftO hb' hr')
  ·rcases h with h|⟨b,x,_,h,_⟩
   ·exact st.inv.ltF rb h
   exact st.inv.ltN b rb h
  ·have:=i.ltN b rb h;have:=st.size;omega
  ·rintro r hlt ⟨b,y,rb,hb,hy,ho,hf⟩;rcases vW S A b y hy with rfl|⟨_,hA⟩|⟨_,cs,rfl,_⟩
   ·cases ho
   ·exact⟨b,y,rb,hb,hA,ho,ftO hb hf⟩
   cases ho
  rcases Nat.lt_or_ge rb w.heap.size with hlt|hge
  ·rcases hF3 rb hlt h with h1|⟨b,x,_,h1,h2,h3⟩
   ·exact .inl h1
   exact .inr (.inr (.of h1 h2 h3))
  exact .inr (.inl hge)
 rcases hok _ _ w vs i1 hR' with⟨hent,hcalls⟩|⟨x,w',F2,nu2,hrun,st,hRv⟩
 ·refine .inl ⟨hent,hcalls.mono ?_⟩;rintro e w' ⟨x,F2,nu2,rfl,st,hRv⟩;obtain⟨F',nu',h1,h2⟩:=core x F2 nu2 w' st hRv;exact⟨x,F',nu',rfl,h1,h2⟩
 obtain⟨F',nu',h1,h2⟩:=core x F2 nu2 w' st hRv;exact .inr ⟨x,w',F',nu',hrun,h1,h2⟩
theorem qfb {f g:AV->Option AV} {xs:List AV} (h: ∀x∈xs,f x=g x):xs.mapM f=xs.mapM g:=by
 induction xs with
 |nil=>rfl
 |cons x xs ih=>
  rw[List.mapM_cons,List.mapM_cons,h x (by simp),ih fun y hy=>h y (by simp[hy])]
theorem qi0 {A B:Heap} {S:List Nat} (h: ∀b,b∈S->A[b]? =B[b]?): ∀(d:Nat) (a:AV),frz A S d a=frz B S d a:=by
 intro d
 induction d with
 |zero=>intro a;rfl
 |succ d ih=>
  intro a
  have hm: ∀xs:List AV,xs.mapM (frz A S d)=xs.mapM (frz B S d):=fun xs=>qfb fun x _=>ih x
  have hb: ∀b,S.contains b=true->A[b]? =B[b]? :=fun b hb=>h b (by simpa using hb)
  cases a<;>simp only[frz,hm,ih]
  all_goals
   split
   ·rename_i hc;rw[hb _ hc]
   rfl
inductive Orc where
 |no
 |done (v:AV)
 |run (v:AV) (A':Heap) (wr:Bool)
 |call (S:List Nat) (args':List AV) (v:AV)
 |callF (S:List Nat) (args':List AV) (v:AV)
 |callH (S:List Nat) (v:AV) (A':Heap)
inductive Obl where
 |triv
 |done (p:Pg) (v:AV)
 |run (S:List Nat) (p:Pg) (A:Heap) (v:AV) (A':Heap) (wr:Bool)
 |call (g:FuncId) (args:List AV) (A:Heap) (S:List Nat) (args':List AV) (v:AV)
 |callF (g:FuncId) (args:List AV) (A:Heap) (S:List Nat) (args':List AV) (v:AV)
 |callH (g:Cl) (args:List AV) (A:Heap) (S:List Nat) (v:AV) (A':Heap)
instance {n:Nat}:OfNat Cl n:=⟨.fn n⟩
def Obl.Holds (P:Program):Obl->Prop
 | .triv=>True
 | .done p v=>p= .done v
 | .run S p A v A' wr=> ∃f,qat S A.length p A []=some (v,A',f)/\f.any (·.2)=wr
 | .call g args A S args' v=>args.mapM (frz A S 12)=some args'/\qc P (.fn g) args' [] v []/\Still 12 v/\(flat 6 v=true\/S=[])
 | .callF g args A S args' v=>args.mapM (frz A S 12)=some args'/\qc P (.fn g) args' [] v []/\Still 12 v
 | .callH g args A S v A'=>A.length<=A'.length/\merge S A A'=A'/\ ∀M:Heap,M.length=A.length->(∀b,b∈S->M[b]? =A[b]?)->qc P g args M v (merge S M A')
def qdT (P:Program):List Obl->Prop
 |[]=>True
 |o::l=>o.Holds P/\qdT P l
def qiZ:Obl->Bool
 | .triv=>true
 |_=>false
variable (P)in
def qml (ops:Array Oper) (f:Fr) (o:Oper) (q:Orc) (fr:Fr) (A:Heap):Option ((Fr×Heap)×Rec×Obl):=
 ob (qdY ops o f) fun w=>vJ w
  (Orc.rec (motive:=fun _=>Option ((Fr×Heap)×Rec×Obl))
   (vJ (qeG o.op&&(jW o (vQ f)).isSome) none
    (vJ ((qaB o (vQ f) A).all fun b=>Nat.blt b (hlen A))
     (ob (qat (qaB o (vQ f) A) (hlen A) (aop P o (vQ f)) A []) fun r=>some ((qb4 fr o.dst r.1,r.2.1),⟨qaB o (vQ f) A,r.2.2.any (·.2),hlen A,hlen r.2.1⟩,.triv)) none))
   (fun v=>vJ (qeG o.op&&(jW o (vQ f)).isSome) none
    (vJ (qaB o (vQ f) A).isEmpty (some ((qb4 fr o.dst v,A),⟨[],false,hlen A,hlen A⟩,.done (aop P o (vQ f)) v)) none))
   (fun v A' wr=>vJ (qeG o.op&&(jW o (vQ f)).isSome) none
    (vJ ((qaB o (vQ f) A).all fun b=>Nat.blt b (hlen A)) (some ((qb4 fr o.dst v,A'),⟨qaB o (vQ f) A,wr,hlen A,hlen A'⟩,.run (qaB o (vQ f) A) (aop P o (vQ f)) A v A' wr)) none))
   (fun S args' v=>ob (jW o (vQ f)) fun c=>Cl.rec (motive:=fun _=>Option ((Fr×Heap)×Rec×Obl))
    (fun g=>vJ (S.all fun b=>Nat.blt b (hlen A)) (some ((qb4 fr o.dst v,A),⟨S,false,hlen A,hlen A⟩,.call g c.2 A S args' v)) none) (fun _=>none) (fun _ _=>none) c.1)
   (fun S args' v=>ob (jW o (vQ f)) fun c=>Cl.rec (motive:=fun _=>Option ((Fr×Heap)×Rec×Obl))
    (fun g=>vJ (S.all fun b=>Nat.blt b (hlen A)) (some ((qb4 fr o.dst v,zt S A),⟨S,true,hlen A,hlen A⟩,.callF g c.2 A S args' v)) none) (fun _=>none) (fun _ _=>none) c.1)
   (fun S v A'=>ob (jW o (vQ f)) fun c=>vJ (S.all fun b=>Nat.blt b (hlen A)) (some ((qb4 fr o.dst v,A'),⟨S,true,hlen A,hlen A'⟩,.callH c.1 c.2 A S v A')) none)
   q)
  (some ((qb4 fr o.dst (.tuple []),A),⟨[],false,hlen A,hlen A⟩,.triv))
def qr0 (orc:List (Nat×Orc)) (j:Nat):Orc:=match orc with
 |[]=> .no
 |p::_=>vJ (Nat.beq p.1 j) p.2 .no
def qs3 (orc:List (Nat×Orc)) (j:Nat):List (Nat×Orc):=match orc with
 |[]=>[]
 |p::l=>vJ (Nat.beq p.1 j) l (p::l)
variable (P)in
def qrA (ops:Array Oper) (draw:Bool) (l:List Oper):Nat->List (Nat×Orc)->Fr->Heap->Option ((Fr×Heap)×List Rec×List Obl):=
 List.rec (motive:=fun _=>Nat->List (Nat×Orc)->Fr->Heap->Option ((Fr×Heap)×List Rec×List Obl)) (fun _ _ fr A=>some ((fr,A),[],[]))
  (fun o _ ih j orc fr A=>ob (qml P ops (vJ draw (maskF (yf ops o) fr) fr) o (qr0 orc j) fr A) fun r=>ob (ih (j+1) (qs3 orc j) r.1.1 r.1.2) fun t=>
   some (t.1,r.2.1::t.2.1,vJ (qiZ r.2.2) t.2.2 (r.2.2::t.2.2))) l
variable (P)in
def qhQ (ops:Array Oper) (draw:Bool) (orc:List (Nat×Orc)) (live:List Tmp) (s:St):Option (Fr×Heap×List Obl):=
 ob (qrA P ops draw ops.toList 0 orc s.1 s.2) fun r=>vJ (vJ draw (qgf ops r.2.1) true) (some (maskF live r.1.1,r.1.2,r.2.2)) none
theorem quf {S:List Nat} {A:Heap} {b:Nat} (h:b∈S):(mask S A)[b]? =A[b]? :=by
 rw[qdi]
 cases A[b]? with
 |none=>rfl
 |some x=>simp[h]
open Classical in
def qeA (c:Cl) (args:List AV) (A:Heap) (v:AV) (A':Heap):jh:=fun c' args' B=>if c'=c/\args'=args/\B=A then some (v,A')else none
theorem qeF {c:Cl} {args:List AV} {A:Heap} {v:AV} {A':Heap} (h:qc P c args A v A'):zI P (qeA c args A v A'):=by
 intro c' args' B x B' he;unfold qeA at he;split at he
 ·rename_i hc;obtain⟨rfl,rfl,rfl⟩:=hc;simp only[ZI,ZP]at he;obtain⟨rfl,rfl⟩:=he;exact h
 cases he
theorem qew {c:Cl} {args:List AV} {A:Heap} {v:AV} {A':Heap}:qeA c args A v A' c args A=some (v,A'):=by
 unfold qeA;rw[if_pos ⟨rfl,rfl,rfl⟩]
theorem qdx (c:Nat) (S:List Nat) (A:Heap):zt (c::S) A=zt S (zt [c] A):=rfl
theorem qgj (c:Nat) (A:Heap) (b:Nat):(zt [c] A)[b]? =if b=c then A[c]?.map qfH else A[b]? :=by
 unfold zt;simp only[List.foldl_cons,List.foldl_nil]
 cases h:A[c]? with
 |none=>
  by_cases e:b=c
  ·subst e;simp[h]
  simp[e]
 |some k=>
  have hlt:=(Yb.1 h).1;by_cases e:b=c
  ·subst e;simp[hlt]
  simp only[if_neg e];rw[Yw (fun e'=>e e'.symm)]
theorem qlo {S:List Nat}: ∀{A B:Heap},(∀b,b∈S->A[b]? =B[b]?)-> ∀b,b∈S->(zt S A)[b]? =(zt S B)[b]? :=by
 have key: ∀(S T:List Nat) (A B:Heap),(∀b,b∈T->A[b]? =B[b]?)->(∀b,b∈S->b∈T)-> ∀b,b∈T->(zt S A)[b]? =(zt S B)[b]? :=by
  intro S
  induction S with
  |nil=>intro T A B h _ b hb;exact h b hb
  |cons c S ih=>
   intro T A B h hs b hb;rw[qdx c S A,qdx c S B];refine ih T _ _ (fun d hd=>?_) (fun d hd=>hs d (by simp[hd])) b hb;rw[qgj,qgj,h c (hs c (by simp)),h d hd]
 intro A B h b hb;exact key S S A B h (fun _ h=>h) b hb
theorem qdQ {S:List Nat}: ∀{A:Heap} {b:Nat},b∉S->(zt S A)[b]? =A[b]? :=by
 induction S with
 |nil=>intro A b _;rfl
 |cons c S ih=>
  intro A b hb;rw[qdx,ih (fun e=>hb (by simp[e])),qgj,if_neg fun e=>hb (by simp[e])]
theorem qn6 (S:List Nat) (lo:Nat): ∀(p:Pg) (A:Heap) (f:zZ) (r:AV×Heap×zZ),qat S lo p A f=some r->exec p A f=some r:=by
 intro p
 induction p with
 |fail=>intro A f r h;cases h
 |done v=>intro A f r h;exact h
 |get b k ih=>
  intro A f r h;have h:vJ (S.contains b||Nat.ble lo b) (ob (hget A b) fun x=>qat S lo (k x) A ((b,false)::f)) none=some r:=h;rw[jB]at h;split at h
  ·obtain⟨x,hx,h⟩:=jo h;rw[qii]at hx;simp only[exec,hx];exact ih x _ _ _ h
  cases h
 |set b x k ih=>
  intro A f r h;have h:vJ (S.contains b||Nat.ble lo b) (vJ (Nat.blt b (hlen A)) (qat S lo k (hset A b x) ((b,true)::f)) none) none=some r:=h;rw[jB]at h;split at h
  ·rw[jB]at h;split at h
   ·rename_i hb;rw[yo]at hb;rw[qil]at h;simp only[exec,if_pos (show b<A.length from Ys hb)];exact ih _ _ _ h
   cases h
  cases h
 |new x k ih=>
  intro A f r h;have h:qat S lo (k (hlen A)) (happ A x) f=some r:=h;rw[yo,qix]at h;simp only[exec];exact ih _ _ _ _ h
theorem qiQ {ops:Array Oper} {f fr:Fr} {o:Oper} {q:Orc} {A:Heap} {s':Fr×Heap} {r:Rec} {ob:Obl} (h:qml P ops f o q fr A=some (s',r,ob)) (ho:ob.Holds P):
 (qaW ops o f=some false/\s'=(qdP fr o.dst (.tuple []),A)/\r=⟨[],false,A.length,A.length⟩)\/
 (qaW ops o f=some true/\ ∃v A',s'=(qdP fr o.dst v,A')/\r.lo=A.length/\r.hi=A'.length/\A.length<=A'.length/\(∀b∈r.fp,b<A.length)/\
  (∀b,b<A.length->(b∈r.fp->r.wr=false)->A'[b]? =A[b]?)/\
  (∀M:Heap,M.length=A.length->(∀b,(b∈r.fp\/A.length<=b)->M[b]? =A[b]?)-> ∃B,(∃call g,zI P call/\qbr P call o f M=some (v,B,g))/\B.length=A'.length/\(∀b,(b∈r.fp\/A.length<=b)->A'[b]? =B[b]?)/\(M=A->B=A'))):=by
 unfold qml at h;obtain⟨w,hw,h⟩:=jo h;rw[qe2]at hw;rw[jB]at h;rw[qfN]at h
 cases w with
 |false=>
  simp only[ZF,if_false,ZI,ZP,yo,qa4]at h;obtain⟨rfl,rfl,rfl⟩:=h;exact .inl ⟨hw,rfl,rfl⟩
 |true=>
  right;refine⟨hw,?_⟩;simp only[if_true]at h;have plain: ∀{v A' wr} {g:zZ},(qeG o.op&&(jW o (yh f)).isSome)=false->qat (qaB o (yh f) A) A.length (aop P o (yh f)) A []=some (v,A',g)->g.any (·.2)=wr->
   A.length<=A'.length/\(∀b,b<A.length->(b∈qaB o (yh f) A->wr=false)->A'[b]? =A[b]?)/\
   (∀M:Heap,M.length=A.length->(∀b,(b∈qaB o (yh f) A\/A.length<=b)->M[b]? =A[b]?)-> ∃B,(∃call g,zI P call/\qbr P call o f M=some (v,B,g))/\B.length=A'.length/\(∀b,(b∈qaB o (yh f) A\/A.length<=b)->A'[b]? =B[b]?)/\(M=A->B=A')):=by
   intro v A' wr g hc he hg
   have hcn:jW o (yh f)=none:=by
    cases hx:jW o (yh f)with
    |none=>rfl
    |some x=>
     obtain⟨cl,hop,_⟩:=qhX hx;rw[hx,hop]at hc;simp[qeG]at hc
   have hex:=qn6 _ _ _ _ _ _ he;obtain⟨M',h1,h2,h3,h4,h5⟩:=qgk _ A.length _ A A [] v A' g rfl (Nat.le_refl _) (fun _ _=>rfl) he;refine⟨h5,fun b hb hq=>?_,fun M hM hMA=>?_⟩
   ·by_cases hbS:b∈qaB o (yh f) A
    ·obtain⟨_,k2,_⟩:=qkw _ _ _ _ _ _ hex;have:=hq hbS;rw[<-hg]at this;exact k2 this b hb
    exact h4 b hb hbS
   obtain⟨B,g1,g2,g3,g4,g5⟩:=qgk _ A.length _ A M [] v A' g hM (Nat.le_refl _) hMA he;refine⟨B,⟨qpg,g,qnG,?_⟩,g2,fun b hb=>(g3 b hb).symm,fun e=>?_⟩
   ·unfold qbr;rw[hcn];exact g1
   subst e;rw[hex]at g1;simp only[ZI,ZP]at g1;exact g1.2.1.symm
  have hall: ∀{S:List Nat},(S.all fun b=>Nat.blt b (hlen A))=true-> ∀b∈S,b<A.length:=by
   intro S hS b hb;have:=Yp.1 hS b hb;rw[yo]at this;exact Ys this
  cases q with
  |no=>
   simp only[jB]at h;split at h
   ·cases h
   rename_i hc;simp only[Bool.not_eq_true]at hc;split at h
   ·rename_i hS;obtain⟨⟨v,A',g⟩,hx,h⟩:=jo h;simp only[ZI,ZP,yo,qa4]at h;obtain⟨rfl,rfl,rfl⟩:=h;rw[yo]at hx;obtain⟨p1,p2,p3⟩:=plain hc hx rfl;exact⟨v,A',rfl,rfl,rfl,p1,hall hS,p2,p3⟩
   cases h
  |done v=>
   simp only[jB]at h;split at h
   ·cases h
   rename_i hc;simp only[Bool.not_eq_true]at hc;split at h
   ·rename_i hS;simp only[ZI,ZP,yo,qa4]at h;obtain⟨rfl,rfl,rfl⟩:=h
    have hnil:qaB o (yh f) A=[]:=by simpa using hS
    have ho:aop P o (yh f)= .done v:=ho;have:=plain (v:=v) (A':=A) (wr:=false) (g:=[]) hc (by rw[ho];rfl) rfl;rw[hnil]at this;obtain⟨p1,p2,p3⟩:=this;exact⟨v,A,rfl,rfl,rfl,p1,by simp,p2,p3⟩
   cases h
  |run v A' wr=>
   simp only[jB]at h;split at h
   ·cases h
   rename_i hc;simp only[Bool.not_eq_true]at hc;split at h
   ·rename_i hS;simp only[ZI,ZP,yo,qa4]at h;obtain⟨rfl,rfl,rfl⟩:=h;obtain⟨g,h1,h2⟩:=ho;obtain⟨p1,p2,p3⟩:=plain hc h1 h2;exact⟨v,A',rfl,rfl,rfl,p1,hall hS,p2,p3⟩
   cases h
  |call S args' v=>
   obtain⟨⟨c,args⟩,hc,h⟩:=jo h
   cases c with
   |rd b=>cases h
   |mt t m=>cases h
   |fn g=>
    simp only[jB]at h;split at h
    ·rename_i hS;simp only[ZI,ZP,yo,qa4]at h;obtain⟨rfl,rfl,rfl⟩:=h;obtain⟨h1,h2,h3,h4⟩:=ho;refine⟨v,A,rfl,rfl,rfl,Nat.le_refl _,hall hS,fun _ _ _=>rfl,fun M hM hMA=>?_⟩
     have hfz:args.mapM (frz M S 12)=some args':=by
      rw[<-h1]
      exact qfb fun a _=>qi0 (fun b hb=>hMA b (.inl hb)) 12 a
     have hk:(if flat 6 v=true then M else zt S M)=M:=by
      rcases h4 with h4|h4
      ·rw[if_pos h4]
      subst h4;split<;>rfl
     have hok:=qc.byS hfz h2 (h3 [] (List.range ([]:Heap).length));rw[hk]at hok;refine⟨M,⟨qeA (.fn g) args M v M,[],qeF hok,?_⟩,hM,fun b hb=>(hMA b hb).symm,id⟩;unfold qbr;rw[hc];simp only[qew,ZM]
    cases h
  |callF S args' v=>
   obtain⟨⟨c,args⟩,hc,h⟩:=jo h
   cases c with
   |rd b=>cases h
   |mt t m=>cases h
   |fn g=>
    simp only[jB]at h;split at h
    ·rename_i hS;simp only[ZI,ZP,yo,qa4]at h;obtain⟨rfl,rfl,rfl⟩:=h;obtain⟨h1,h2,h3⟩:=ho;refine⟨v,zt S A,rfl,rfl,by rw[zY],by rw[zY];exact Nat.le_refl _,hall hS,fun b hb hq=>?_,fun M hM hMA=>?_⟩
     ·have:b∉S:=fun hbS=>by have:=hq hbS;cases this
      exact qdQ this
     have hfz:args.mapM (frz M S 12)=some args':=by
      rw[<-h1]
      exact qfb fun a _=>qi0 (fun b hb=>hMA b (.inl hb)) 12 a
     have hok:=qc.byF hfz h2 (h3 [] (List.range ([]:Heap).length));refine⟨zt S M,⟨qeA (.fn g) args M v (zt S M),[],qeF hok,?_⟩,by rw[zY,zY];exact hM,fun b hb=>?_,fun e=>by rw[e]⟩
     ·unfold qbr;rw[hc];simp only[qew,ZM]
     by_cases hbS:b∈S
     ·exact qlo (fun c hcS=>(hMA c (.inl hcS)).symm) b hbS
     rw[qdQ hbS,qdQ hbS];exact(hMA b hb).symm
    cases h
  |callH S v A'=>
   obtain⟨⟨c,args⟩,hc,h⟩:=jo h;simp only[jB]at h;split at h
   ·rename_i hS;simp only[ZI,ZP,yo,qa4]at h;obtain⟨rfl,rfl,rfl⟩:=h;obtain⟨h1,h2,h3⟩:=ho;refine⟨v,A',rfl,rfl,rfl,h1,hall hS,fun b hb hq=>?_,fun M hM hMA=>?_⟩
    ·have hbS:b∉S:=fun hbS=>by have:=hq hbS;cases this
     rw[<-h2,qce,Ya (show b<A'.length by omega),Ya hb];simp[hb,hbS]
    refine⟨merge S M A',⟨qeA c args M v (merge S M A'),[],qeF (h3 M hM (fun b hb=>hMA b (.inl hb))),?_⟩,qaE _ _ _,fun b hb=>?_,fun e=>by rw[e,h2]⟩
    ·unfold qbr;rw[hc];simp only[qew,ZM]
    rw[qce]
    have hf:(decide (b<M.length)&&!S.contains b)=false:=by
     rcases hb with hb|hb
     ·simp[hb]
     simp[hM,Nat.not_lt.2 hb]
    simp only[hf,ZF,if_false];cases A'[b]? <;>rfl
   cases h
theorem quu {ops:Array Oper} {rr:Option Nat} {n:Nat} {Q:Exit->Act->World->Prop}: ∀(l pre:List Oper),ops.toList=pre++l-> ∀{orc:List (Nat×Orc)} {F:Nat->Prop} {nu:Nat->Option Nat} {A:Heap} {w:World} (_:Inv F nu A w) {fr:Fr} {a:Act} (_:RF F nu w fr a.tmps) {fr':Fr} {A':Heap} {rs:List Rec} {obls:List Obl}
 (_:qrA P ops false l pre.length orc fr A=some ((fr',A'),rs,obls)) (_:qdT P obls) (_: ∀F' nu' w' a',a'.defers=a.defers->Stp F nu A w F' nu' A' w'->RF F' nu' w' fr' a'.tmps->Q .normal a' w'),wpOpsIn (fz rr) n P ops Q (List.range' pre.length l.length) a w:=by
 intro l
 induction l with
 |nil=>
  intro pre hp orc F nu A w i fr a h fr' A' rs obls he _ hq;have he:some ((fr,A),([]:List Rec),([]:List Obl))=some ((fr',A'),rs,obls):=he;simp only[ZI,ZP]at he;obtain⟨⟨rfl,rfl⟩,_⟩:=he;exact hq F nu w a rfl (.refl i) h
 |cons o l ih=>
  intro pre hp orc F nu A w i fr a h fr' A' rs obls he hh hq
  have ho:ops[pre.length]? =some o:=by
   rw[<-YT,hp];simp
  have hp':ops.toList=(pre++[o])++l:=by simp[hp]
  have he:(ob (qml P ops fr o (qr0 orc pre.length) fr A) fun r=>ob (qrA P ops false l (pre.length+1) (qs3 orc pre.length) r.1.1 r.1.2) fun t=>some (t.1,r.2.1::t.2.1,vJ (qiZ r.2.2) t.2.2 (r.2.2::t.2.2)))=some ((fr',A'),rs,obls):=he;obtain⟨⟨⟨fr1,A1⟩,r1,o1⟩,hs,he⟩:=jo he;obtain⟨⟨⟨fr2,A2⟩,rs2,obls2⟩,ht,he⟩:=jo he;simp only[ZI,ZP]at he;obtain⟨⟨rfl,rfl⟩,rfl,rfl⟩:=he
  have hh2:o1.Holds P/\qdT P obls2:=by
   rw[jB]at hh;split at hh
   ·rename_i e;cases o1<;>simp[qiZ]at e
    exact⟨trivial,hh⟩
   exact hh
  have hl:(pre++[o]).length=pre.length+1:=by simp
  rw[<-hl]at ht;simp only[Yr,List.range'_succ,wpOpsIn,ho];rcases qiQ hs hh2.1 with⟨hw,he,_⟩|⟨hw,v,A3,he,_,_,_,_,_,hrun⟩
  ·simp only[ZP]at he;obtain⟨rfl,rfl⟩:=he;have:=qcc h hw;rw[if_neg (by rw[this];simp)];refine⟨fun _ _=>trivial,?_⟩;have:=ih (pre++[o]) hp' i (h.setDst o.dst qiA) ht hh2.2 (fun F2 nu2 w2 a2 hd st hfr=>hq F2 nu2 w2 a2 (by rw[hd];cases o.dst<;>rfl) st hfr);rw[hl]at this;exact this
  simp only[ZP]at he;obtain⟨rfl,rfl⟩:=he;obtain⟨B,⟨call,g,hc,hst⟩,_,_,hB⟩:=hrun A rfl (fun _ _=>rfl);rw[hB rfl]at hst;rw[if_pos (qcc h hw)];refine qju hc i h hst (fun x F' nu' w' st hR hfr=>?_);have:=ih (pre++[o]) hp' st.inv hfr ht hh2.2 (fun F2 nu2 w2 a2 hd st2 hfr2=>hq F2 nu2 w2 a2 (by rw[hd];cases o.dst<;>rfl) (st.trans st2) hfr2);rw[hl]at this;exact this
theorem qpP {ops:Array Oper}: ∀(l pre:List Oper),ops.toList=pre++l-> ∀{orc:List (Nat×Orc)} {fr:Fr} {A:Heap} {t:Fr×Heap} {rs:List Rec} {obls:List Obl},
 qrA P ops true l pre.length orc fr A=some (t,rs,obls)->qdT P obls-> ∃(S:Nat->Fr×Heap) (rk:Nat->Rec),S 0=(fr,A)/\S l.length=t/\(∀k,k<l.length-> ∃o v,SF P ops (pre.length+k) (S k) (S (k+1)) (rk k) o v)/\ ∀k,k<l.length->rs[k]? =some (rk k):=by
 intro l
 induction l with
 |nil=>
  intro pre hp orc fr A t rs obls he _;have he:some ((fr,A),([]:List Rec),([]:List Obl))=some (t,rs,obls):=he;simp only[ZI,ZP]at he;obtain⟨rfl,rfl,_⟩:=he;exact⟨fun _=>(fr,A),fun _=>⟨[],false,0,0⟩,rfl,rfl,by simp,by simp⟩
 |cons o l ih=>
  intro pre hp orc fr A t rs obls he hh
  have ho:ops[pre.length]? =some o:=by
   rw[<-YT,hp];simp
  have hp':ops.toList=(pre++[o])++l:=by simp[hp]
  have he:(ob (qml P ops (maskF (yf ops o) fr) o (qr0 orc pre.length) fr A) fun r=>ob (qrA P ops true l (pre.length+1) (qs3 orc pre.length) r.1.1 r.1.2) fun t=>some (t.1,r.2.1::t.2.1,vJ (qiZ r.2.2) t.2.2 (r.2.2::t.2.2)))=some (t,rs,obls):=he;obtain⟨⟨⟨fr1,A1⟩,r1,o1⟩,hs,he⟩:=jo he;obtain⟨⟨⟨fr2,A2⟩,rs2,obls2⟩,ht,he⟩:=jo he;simp only[ZI,ZP]at he;obtain⟨rfl,rfl,rfl⟩:=he
  have hh2:o1.Holds P/\qdT P obls2:=by
   rw[jB]at hh;split at hh
   ·rename_i e;cases o1<;>simp[qiZ]at e
    exact⟨trivial,hh⟩
   exact hh
  have hl:(pre++[o]).length=pre.length+1:=by simp
  rw[<-hl]at ht;obtain⟨S,rk,h0,h1,h2,h3⟩:=ih (pre++[o]) hp' ht hh2.2;refine⟨fun k=>match k with|0=>(fr,A)|k+1=>S k,fun k=>match k with|0=>r1|k+1=>rk k,rfl,h1,fun k hk=>?_,fun k hk=>?_⟩
  ·cases k with
   |succ k=>
    obtain⟨o',v',sf⟩:=h2 k (by simpa using hk);refine⟨o',v',?_⟩;rw[hl]at sf;rw[show pre.length+(k+1)=pre.length+1+k by omega];exact sf
   |zero=>
    simp only[Nat.add_zero,h0];rcases qiQ hs hh2.1 with⟨hw,he1,he2⟩|⟨hw,v,A3,he1,hlo,hhi,hle,hfp,hq,hrun⟩
    ·simp only[ZP]at he1;obtain⟨rfl,rfl⟩:=he1;subst he2;exact⟨o,.tuple [],ho,rfl,rfl,rfl,Nat.le_refl _,by simp,fun _ _ _=>rfl,.inl ⟨hw,rfl,rfl,rfl,rfl⟩⟩
    simp only[ZP]at he1;obtain⟨rfl,rfl⟩:=he1
    have hm: ∀b,(b∈r1.fp\/A.length<=b)->(mask r1.fp A)[b]? =A[b]? :=by
     intro b hb;rcases hb with hb|hb
     ·exact quf hb
     rw[Yg (by rw[xJ];exact hb),Yg hb]
    obtain⟨B,hst,hBl,hBs,_⟩:=hrun (mask r1.fp A) (xJ _ _) hm;exact⟨o,v,ho,rfl,hlo,hhi,hle,hfp,hq,.inr ⟨hw,B,hst,hBl,hBs⟩⟩
  cases k with
  |zero=>rfl
  |succ k=>simpa using h3 k (by simpa using hk)
theorem Goes.reg [Base] (hm:P.follows .mixedOrders=true) {id:Nat} {ops:Array Oper} {draw:Bool} {s:St} {Q:XA->St->Prop} (orc:List (Nat×Orc)) (live:List Tmp) {fr':Fr} {A':Heap} {obls:List Obl}
 (h:qhQ P ops draw orc live s=some (fr',A',obls)) (ho:qdT P obls) (hq:Q .normal (fr',A')):Goes P (.region id ops draw) s Q:=by
 intro F0 w0 n F nu a w st hf hd K hK;unfold qhQ at h;obtain⟨⟨⟨fr1,A1⟩,rs,obls1⟩,hr,h⟩:=jo h;rw[jB]at h;split at h
 ·rename_i hdr;simp only[ZI,ZP]at h;obtain⟨rfl,rfl,rfl⟩:=h
  have fin: ∀F' nu' w' a',a'.defers=a.defers->Stp F nu s.2 w F' nu' A1 w'->RF F' nu' w' fr1 a'.tmps->K .normal a' w':=fun F' nu' w' a' hde st' hf'=>hK .normal (maskF live fr1,A1) F' nu' a' w' hq (st.trans st') (hf'.maskF live) (by rw[hde];exact hd.step st')
  cases draw with
  |false=>
   refine wpIn_region ?_;have:=quu (rr:=Base.rr) (n:=n) (Q:=K) ops.toList [] rfl st.inv hf hr ho fin;rw[List.range_eq_range'];simpa using this
  |true=>
   have sd:=Stp.drew (w:=w) st.inv;refine wpIn_region_any hm ?_;obtain⟨S,rk,h0,h1,h2,h3⟩:=qpP ops.toList [] rfl hr ho
   have hl:ops.toList.length=ops.size:=by simp
   rw[hl]at h1 h2 h3;refine qmr sd.inv (hf.mono (sd.ext st.inv)) h0 h1 (fun k=>?_) hdr h3 (fun F' nu' w' a' hde st' hf'=>fin F' nu' w' a' hde (sd.trans st') hf');by_cases hk:k<ops.size
   ·obtain⟨o,v,sf⟩:=h2 k hk;rw[show([]:List Oper).length+k=k by simp]at sf;exact⟨o,v,fun _=>sf⟩
   exact⟨default,default,fun h=>absurd h hk⟩
 cases h
end
end Go.Av
