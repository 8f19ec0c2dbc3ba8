/-
  Regions, run by the kernel, with what it can't reckon told ahead; calls by value on some blocks; blocks renamed, frozen, forgotten.
-/
import Derived.Test.YtbiegoecmfgjlaaGreatDoorAvE
import Derived.KernelRfl
import Derived.Test.YtbiegoecmfgjlaaGreatDoorAvB
import Derived.Shelf.Spec.SlicesInsertGrow
import Derived.Shelf.Strings.Builder1
set_option maxRecDepth 100000
set_option linter.all false
noncomputable section
namespace Go.Av
section
variable [Glob]
open Go.RowKit
section
variable {P:Program}
def qc.byS {f:FuncId}{args args':List AV}{A Al:Heap}{S:List Nat}{v v0:AV}(hargs':args.mapM (frz A S 12)=some args') (hok:qc P (.fn f) args' [] v Al) (hv0:frz Al (List.range Al.length) 12 v=some v0):
 qc P (.fn f) args A v0 (if flat 6 v0=true then A else qU S A):=by
 refine λF nu w vs i hargs=>?_
 obtain⟨m1,m2⟩:=mapM_some hargs'
 have hR':RL (FS F nu A S) (λ_=>none) w args' vs:=by
  refine⟨by rw[hargs.1,m1],λj a v ha hv=>?_⟩;obtain⟨x,hx1,hx2⟩:=m2 j a ha;exact qh3 i 12 hx2 (hargs.2 j x v hx1 hv)
 have hlt1:∀rb,FS F nu A S rb->rb<w.heap.size:=by
  rintro rb (h|⟨b,x,_,h,_⟩)
  ·exact i.ltF rb h
  exact i.ltN b rb h
 have i1:Inv (FS F nu A S) (λ_=>none) [] w:=⟨by simp,by simp,λ_ _=>rfl,hlt1,by simp,Glob.mono i.glob (λ_ h=> .inl h) λ_ _=>rfl⟩
 have core:∀x F2 nu2 w',Stp (FS F nu A S) (λ_=>none) [] w F2 nu2 Al w'->R F2 nu2 w' v x->∃F' nu',Stp F nu A w F' nu' (if flat 6 v0=true then A else qU S A) w'/\R F' nu' w' v0 x:=by
  intro x F2 nu2 w' st hRv
  have noOwn:∀rb,¬qa5 (λ_=>none) [] w rb:=by
   rintro rb ⟨b,x,r,hb,_⟩;cases hb
  have hkeep:∀rb,rb<w.heap.size->w'.heap[rb]? =w.heap[rb]? :=λrb hlt=>st.keep rb hlt (noOwn rb)
  have hF3:∀rb,rb<w.heap.size->FS F2 nu2 Al (List.range Al.length) rb->FS F nu A S rb:=by
   rintro rb hlt (h1|⟨b,x,_,h1,h2,h3⟩)
   ·rcases st.newF rb h1 with h2|h2|h2
    ·exact h2
    ·omega
    exact absurd h2 (noOwn rb)
   exact absurd (st.own rb hlt (.of h1 h2 h3)) (noOwn rb)
  have ftO:∀{b rb:Nat}{y:Blk}{r:Nat},nu b=some rb->Ft w' rb y r->Ft w rb y r:=λhb hf=>hf.same (hkeep _ (i.ltN _ _ hb))
  have hv3:=qh3 st.inv 12 hv0 hRv;by_cases hflat:flat 6 v0=true
  ·rw[ae hflat];have x1:Ext F nu w F nu w':=⟨λ_ h=>h,λ_ _ h=>h,λrb h=>hkeep rb (i.ltF rb h),st.shape⟩;refine⟨F,nu,⟨λ_ h=>h,λ_ _ h=>h,st.shape,⟨λb rb y hb hy=>i.keepB x1 hb hy λho r hr=>⟨hkeep r (i.ftF hb hy ho hr).2,id⟩,λb b' rb rb' y y' r hb hb' hy hy' ho ho' hr hr'=>i.injF b b' rb rb' y y' r hb hb' hy hy' ho ho' (ftO hb hr) (ftO hb' hr'),i.fresh,λrb h=>?_,λb rb h=>?_,eh i.glob x1⟩,λrb hlt _=>hkeep rb hlt,λr _ ⟨b,y,rb,h1,h2,h3,h4⟩=>⟨b,y,rb,h1,h2,h3,ftO h1 h4⟩,st.size,st.os,st.tape,st.output,λ_ _=>rfl,ai _,λ_ h=> .inl h⟩,qrO 6 hflat hv3⟩
   ·have:=i.ltF rb h;have:=st.size;omega
   have:=i.ltN b rb h;have:=st.size;omega
  rw[aa hflat]
  have fF:∀rb,F rb->FS F2 nu2 Al (List.range Al.length) rb:=λrb h=> .inl (st.f rb (.inl h))
  have x1:Ext F nu w (FS F2 nu2 Al (List.range Al.length)) nu w':=⟨fF,λ_ _ h=>h,λrb h=>hkeep rb (i.ltF rb h),st.shape⟩;refine⟨FS F2 nu2 Al (List.range Al.length),nu,⟨fF,λ_ _ h=>h,st.shape,⟨λb rb y hb hy=>?_,λb b' rb rb' y y' r hb hb' hy hy' ho ho' hr hr'=>?_,λb hb=>i.fresh b (by rwa [zw]at hb),λrb h=>?_,λb rb h=>?_,eh i.glob x1⟩,λrb hlt _=>hkeep rb hlt,?_,st.size,st.os,st.tape,st.output,λ_ _=>rfl,by rw[zw];exact ai _,λrb h=>?_⟩,hv3.mono ⟨λ_ h=>h,by simp,λ_ _=>rfl,λ_ _ h=>h⟩⟩
  ·have hlt:=i.ltN b rb hb;rcases vL S A b y hy with rfl|⟨hnS,hA⟩|⟨hS2,cs,rfl,hA⟩
   ·trivial
   ·refine i.keepB x1 hb hA λhyo r hr=>⟨hkeep r (i.ftF hb hA hyo hr).2,λhf=>?_⟩
    rcases hF3 r (i.ftF hb hA hyo hr).2 hf with h1|⟨b',x',h1,h2,h3,h4⟩
    ·exact h1
    exact absurd (i.injF b b' rb r y x' r hb h2 hA h3 hyo h4 hr (.inl rfl)▸h1) hnS
   rcases hA with hA|hA
   ·obtain⟨h0,vs2,e,h1,h2,h3⟩:=i.blk b rb _ hb hA;exact⟨.inl (st.f rb (.inr ⟨b,_,hS2,hb,hA,rfl⟩)),vs2,e,_,(hkeep rb hlt).trans h1,h2,λj a v ha hv=>(h3 j a v ha hv).mono x1⟩
   obtain⟨h0,vs2,e,fr,h1,h2,h3⟩:=i.blk b rb _ hb hA;exact⟨fF rb h0,vs2,e,fr,(hkeep rb hlt).trans h1,h2,λj a v ha hv=>(h3 j a v ha hv).mono x1⟩
  ·have old:∀(b:Nat) (y:Blk),(qU S A)[b]? =some y->y.owned=true->A[b]? =some y:=by
    intro b y hy ho;rcases vL S A b y hy with rfl|⟨_,hA⟩|⟨_,cs,rfl,_⟩
    ·cases ho
    ·exact hA
    cases ho
   exact i.injF b b' rb rb' y y' r hb hb' (old b y hy ho) (old b' y' hy' ho') ho ho' (ftO hb hr) (ftO hb' hr')
  ·rcases h with h|⟨b,x,_,h,_⟩
   ·exact st.inv.ltF rb h
   exact st.inv.ltN b rb h
  ·have:=i.ltN b rb h;have:=st.size;omega
  ·rintro r hlt ⟨b,y,rb,hb,hy,ho,hf⟩;rcases vL S A b y hy with rfl|⟨_,hA⟩|⟨_,cs,rfl,_⟩
   ·cases ho
   ·exact⟨b,y,rb,hb,hA,ho,ftO hb hf⟩
   cases ho
  rcases aw rb w.heap.size with hlt|hge
  ·rcases hF3 rb hlt h with h1|⟨b,x,_,h1,h2,h3⟩
   ·exact .inl h1
   exact .inr (.inr (.of h1 h2 h3))
  exact .inr (.inl hge)
 rcases hok _ _ w vs i1 hR' with⟨hent,hcalls⟩|⟨x,w',F2,nu2,hrun,st,hRv⟩
 ·refine .inl ⟨hent,hcalls.mono ?_⟩;rintro e w' ⟨x,F2,nu2,rfl,st,hRv⟩;obtain⟨F',nu',h1,h2⟩:=core x F2 nu2 w' st hRv;exact⟨x,F',nu',rfl,h1,h2⟩
 obtain⟨F',nu',h1,h2⟩:=core x F2 nu2 w' st hRv;exact .inr ⟨x,w',F',nu',hrun,h1,h2⟩
def qc.byF {f:FuncId}{args args':List AV}{A Al:Heap}{S:List Nat}{v v0:AV}(hargs':args.mapM (frz A S 12)=some args') (hok:qc P (.fn f) args' [] v Al) (hv0:frz Al (List.range Al.length) 12 v=some v0):
 qc P (.fn f) args A v0 (qU S A):=by
 refine λF nu w vs i hargs=>?_
 obtain⟨m1,m2⟩:=mapM_some hargs'
 have hR':RL (FS F nu A S) (λ_=>none) w args' vs:=by
  refine⟨by rw[hargs.1,m1],λj a v ha hv=>?_⟩;obtain⟨x,hx1,hx2⟩:=m2 j a ha;exact qh3 i 12 hx2 (hargs.2 j x v hx1 hv)
 have hlt1:∀rb,FS F nu A S rb->rb<w.heap.size:=by
  rintro rb (h|⟨b,x,_,h,_⟩)
  ·exact i.ltF rb h
  exact i.ltN b rb h
 have i1:Inv (FS F nu A S) (λ_=>none) [] w:=⟨by simp,by simp,λ_ _=>rfl,hlt1,by simp,Glob.mono i.glob (λ_ h=> .inl h) λ_ _=>rfl⟩
 have core:∀x F2 nu2 w',Stp (FS F nu A S) (λ_=>none) [] w F2 nu2 Al w'->R F2 nu2 w' v x->∃F' nu',Stp F nu A w F' nu' (qU S A) w'/\R F' nu' w' v0 x:=by
  intro x F2 nu2 w' st hRv
  have noOwn:∀rb,¬qa5 (λ_=>none) [] w rb:=by
   rintro rb ⟨b,x,r,hb,_⟩;cases hb
  have hkeep:∀rb,rb<w.heap.size->w'.heap[rb]? =w.heap[rb]? :=λrb hlt=>st.keep rb hlt (noOwn rb)
  have hF3:∀rb,rb<w.heap.size->FS F2 nu2 Al (List.range Al.length) rb->FS F nu A S rb:=by
   rintro rb hlt (h1|⟨b,x,_,h1,h2,h3⟩)
   ·rcases st.newF rb h1 with h2|h2|h2
    ·exact h2
    ·omega
    exact absurd h2 (noOwn rb)
   exact absurd (st.own rb hlt (.of h1 h2 h3)) (noOwn rb)
  have ftO:∀{b rb:Nat}{y:Blk}{r:Nat},nu b=some rb->Ft w' rb y r->Ft w rb y r:=λhb hf=>hf.same (hkeep _ (i.ltN _ _ hb))
  have hv3:=qh3 st.inv 12 hv0 hRv
  have fF:∀rb,F rb->FS F2 nu2 Al (List.range Al.length) rb:=λrb h=> .inl (st.f rb (.inl h))
  have x1:Ext F nu w (FS F2 nu2 Al (List.range Al.length)) nu w':=⟨fF,λ_ _ h=>h,λrb h=>hkeep rb (i.ltF rb h),st.shape⟩;refine⟨FS F2 nu2 Al (List.range Al.length),nu,⟨fF,λ_ _ h=>h,st.shape,⟨λb rb y hb hy=>?_,λb b' rb rb' y y' r hb hb' hy hy' ho ho' hr hr'=>?_,λb hb=>i.fresh b (by rwa [zw]at hb),λrb h=>?_,λb rb h=>?_,eh i.glob x1⟩,λrb hlt _=>hkeep rb hlt,?_,st.size,st.os,st.tape,st.output,λ_ _=>rfl,by rw[zw];exact ai _,λrb h=>?_⟩,hv3.mono ⟨λ_ h=>h,by simp,λ_ _=>rfl,λ_ _ h=>h⟩⟩
  ·have hlt:=i.ltN b rb hb;rcases vL S A b y hy with rfl|⟨hnS,hA⟩|⟨hS2,cs,rfl,hA⟩
   ·trivial
   ·refine i.keepB x1 hb hA λhyo r hr=>⟨hkeep r (i.ftF hb hA hyo hr).2,λhf=>?_⟩
    rcases hF3 r (i.ftF hb hA hyo hr).2 hf with h1|⟨b',x',h1,h2,h3,h4⟩
    ·exact h1
    exact absurd (i.injF b b' rb r y x' r hb h2 hA h3 hyo h4 hr (.inl rfl)▸h1) hnS
   rcases hA with hA|hA
   ·obtain⟨h0,vs2,e,h1,h2,h3⟩:=i.blk b rb _ hb hA;exact⟨.inl (st.f rb (.inr ⟨b,_,hS2,hb,hA,rfl⟩)),vs2,e,_,(hkeep rb hlt).trans h1,h2,λj a v ha hv=>(h3 j a v ha hv).mono x1⟩
   obtain⟨h0,vs2,e,fr,h1,h2,h3⟩:=i.blk b rb _ hb hA;exact⟨fF rb h0,vs2,e,fr,(hkeep rb hlt).trans h1,h2,λj a v ha hv=>(h3 j a v ha hv).mono x1⟩
  ·have old:∀(b:Nat) (y:Blk),(qU S A)[b]? =some y->y.owned=true->A[b]? =some y:=by
    intro b y hy ho;rcases vL S A b y hy with rfl|⟨_,hA⟩|⟨_,cs,rfl,_⟩
    ·cases ho
    ·exact hA
    cases ho
   exact i.injF b b' rb rb' y y' r hb hb' (old b y hy ho) (old b' y' hy' ho') ho ho' (ftO hb hr) (ftO hb' hr')
  ·rcases h with h|⟨b,x,_,h,_⟩
   ·exact st.inv.ltF rb h
   exact st.inv.ltN b rb h
  ·have:=i.ltN b rb h;have:=st.size;omega
  ·rintro r hlt ⟨b,y,rb,hb,hy,ho,hf⟩;rcases vL S A b y hy with rfl|⟨_,hA⟩|⟨_,cs,rfl,_⟩
   ·cases ho
   ·exact⟨b,y,rb,hb,hA,ho,ftO hb hf⟩
   cases ho
  rcases aw rb w.heap.size with hlt|hge
  ·rcases hF3 rb hlt h with h1|⟨b,x,_,h1,h2,h3⟩
   ·exact .inl h1
   exact .inr (.inr (.of h1 h2 h3))
  exact .inr (.inl hge)
 rcases hok _ _ w vs i1 hR' with⟨hent,hcalls⟩|⟨x,w',F2,nu2,hrun,st,hRv⟩
 ·refine .inl ⟨hent,hcalls.mono ?_⟩;rintro e w' ⟨x,F2,nu2,rfl,st,hRv⟩;obtain⟨F',nu',h1,h2⟩:=core x F2 nu2 w' st hRv;exact⟨x,F',nu',rfl,h1,h2⟩
 obtain⟨F',nu',h1,h2⟩:=core x F2 nu2 w' st hRv;exact .inr ⟨x,w',F',nu',hrun,h1,h2⟩
def qfJ {f g:AV->Option AV}{xs:List AV}(h:∀x∈xs,f x=g x):xs.mapM f=xs.mapM g:=by
 induction xs with
 |nil=>rfl
 |cons x xs ih=>
  rw[cA,cA,h x (by simp),ih λy hy=>h y (by simp[hy])]
def qjc {A B:Heap}{S:List Nat}(h:∀b,b∈S->A[b]? =B[b]?):∀(d:Nat) (a:AV),frz A S d a=frz B S d a:=by
 intro d
 induction d with
 |zero=>intro a;rfl
 |succ d ih=>
  intro a
  have hm:∀xs:List AV,xs.mapM (frz A S d)=xs.mapM (frz B S d):=λxs=>qfJ λx _=>ih x
  have hb:∀b,S.contains b=true->A[b]? =B[b]? :=λb hb=>h b (by simpa using hb)
  cases a<;>simp only[frz,hm,ih]
  all_goals
   split
   ·rename_i hc;rw[hb _ hc]
   rfl
inductive Orc where
 |no
 |done (v:AV)
 |run (v:AV) (A':Heap) (wr:Bool)
 |call (S:List Nat) (args':List AV) (v:AV)
 |callF (S:List Nat) (args':List AV) (v:AV)
 |callH (S:List Nat) (v:AV) (A':Heap)
inductive Obl where
 |triv
 |done (p:Pg) (v:AV)
 |run (S:List Nat) (p:Pg) (A:Heap) (v:AV) (A':Heap) (wr:Bool)
 |call (g:FuncId) (args:List AV) (A:Heap) (S:List Nat) (args':List AV) (v:AV)
 |callF (g:FuncId) (args:List AV) (A:Heap) (S:List Nat) (args':List AV) (v:AV)
 |callH (g:Cl) (args:List AV) (A:Heap) (S:List Nat) (v:AV) (A':Heap)
instance {n:Nat}:OfNat Cl n:=⟨.fn n⟩
def Obl.Holds (P:Program):Obl->Prop
 | .triv=>True
 | .done p v=>p= .done v
 | .run S p A v A' wr=>∃f,qam S A.length p A []=some (v,A',f)/\f.any (·.2)=wr
 | .call g args A S args' v=>args.mapM (frz A S 12)=some args'/\qc P (.fn g) args' [] v []/\Still 12 v/\(flat 6 v=true\/S=[])
 | .callF g args A S args' v=>args.mapM (frz A S 12)=some args'/\qc P (.fn g) args' [] v []/\Still 12 v
 | .callH g args A S v A'=>A.length<=A'.length/\merge S A A'=A'/\∀M:Heap,M.length=A.length->(∀b,b∈S->M[b]? =A[b]?)->qc P g args M v (merge S M A')
def qdL (P:Program):List Obl->Prop
 |[]=>True
 |o::l=>o.Holds P/\qdL P l
def qjt:Obl->Bool
 | .triv=>true
 |_=>false
variable (P)in
def qmD (ops:Array Oper) (f:Fr) (o:Oper) (q:Orc) (fr:Fr) (A:Heap):Option ((Fr×Heap)×Rec×Obl):=
 ob (qeB ops o f) λw=>z8 w
  (Orc.rec (motive:=λ_=>Option ((Fr×Heap)×Rec×Obl))
   (z8 (qfa o.op&&(jL o (vD f)).isSome) none
    (z8 ((qaG o (vD f) A).all λb=>Nat.blt b (hlen A))
     (ob (qam (qaG o (vD f) A) (hlen A) (aop P o (vD f)) A []) λr=>some ((qcy fr o.dst r.1,r.2.1),⟨qaG o (vD f) A,r.2.2.any (·.2),hlen A,hlen r.2.1⟩,.triv)) none))
   (λv=>z8 (qfa o.op&&(jL o (vD f)).isSome) none
    (z8 (qaG o (vD f) A).isEmpty (some ((qcy fr o.dst v,A),⟨[],false,hlen A,hlen A⟩,.done (aop P o (vD f)) v)) none))
   (λv A' wr=>z8 (qfa o.op&&(jL o (vD f)).isSome) none
    (z8 ((qaG o (vD f) A).all λb=>Nat.blt b (hlen A)) (some ((qcy fr o.dst v,A'),⟨qaG o (vD f) A,wr,hlen A,hlen A'⟩,.run (qaG o (vD f) A) (aop P o (vD f)) A v A' wr)) none))
   (λS args' v=>ob (jL o (vD f)) λc=>Cl.rec (motive:=λ_=>Option ((Fr×Heap)×Rec×Obl))
    (λg=>z8 (S.all λb=>Nat.blt b (hlen A)) (some ((qcy fr o.dst v,A),⟨S,false,hlen A,hlen A⟩,.call g c.2 A S args' v)) none) (λ_=>none) (λ_ _=>none) c.1)
   (λS args' v=>ob (jL o (vD f)) λc=>Cl.rec (motive:=λ_=>Option ((Fr×Heap)×Rec×Obl))
    (λg=>z8 (S.all λb=>Nat.blt b (hlen A)) (some ((qcy fr o.dst v,qU S A),⟨S,true,hlen A,hlen A⟩,.callF g c.2 A S args' v)) none) (λ_=>none) (λ_ _=>none) c.1)
   (λS v A'=>ob (jL o (vD f)) λc=>z8 (S.all λb=>Nat.blt b (hlen A)) (some ((qcy fr o.dst v,A'),⟨S,true,hlen A,hlen A'⟩,.callH c.1 c.2 A S v A')) none)
   q)
  (some ((qcy fr o.dst (.tuple []),A),⟨[],false,hlen A,hlen A⟩,.triv))
def qrE (orc:List (Nat×Orc)) (j:Nat):Orc:=match orc with
 |[]=> .no
 |p::_=>z8 (Nat.beq p.1 j) p.2 .no
def qq9 (orc:List (Nat×Orc)) (j:Nat):List (Nat×Orc):=match orc with
 |[]=>[]
 |p::l=>z8 (Nat.beq p.1 j) l (p::l)
variable (P)in
def qrG (ops:Array Oper) (draw:Bool) (l:List Oper):Nat->List (Nat×Orc)->Fr->Heap->Option ((Fr×Heap)×List Rec×List Obl):=
 List.rec (motive:=λ_=>Nat->List (Nat×Orc)->Fr->Heap->Option ((Fr×Heap)×List Rec×List Obl)) (λ_ _ fr A=>some ((fr,A),[],[]))
  (λo _ ih j orc fr A=>ob (qmD P ops (z8 draw (maskF (vX ops o) fr) fr) o (qrE orc j) fr A) λr=>ob (ih (j+1) (qq9 orc j) r.1.1 r.1.2) λt=>
   some (t.1,r.2.1::t.2.1,z8 (qjt r.2.2) t.2.2 (r.2.2::t.2.2))) l
variable (P)in
def qig (ops:Array Oper) (draw:Bool) (orc:List (Nat×Orc)) (live:List Tmp) (s:St):Option (Fr×Heap×List Obl):=
 ob (qrG P ops draw ops.toList 0 orc s.1 s.2) λr=>z8 (z8 draw (qgK ops r.2.1) true) (some (maskF live r.1.1,r.1.2,r.2.2)) none
def qsb {S:List Nat}{A:Heap}{b:Nat}(h:b∈S):(mask S A)[b]? =A[b]? :=by
 rw[qdU]
 cases A[b]? with
 |none=>rfl
 |some x=>simp[h]
open Classical in
def qeM (c:Cl) (args:List AV) (A:Heap) (v:AV) (A':Heap):zB:=λc' args' B=>if c'=c/\args'=args/\B=A then some (v,A')else none
def qgR {c:Cl}{args:List AV}{A:Heap}{v:AV}{A':Heap}(h:qc P c args A v A'):ky P (qeM c args A v A'):=by
 intro c' args' B x B' he;unfold qeM at he;split at he
 ·rename_i hc;obtain⟨rfl,rfl,rfl⟩:=hc;simp only[ZI,ZP]at he;obtain⟨rfl,rfl⟩:=he;exact h
 cases he
def qgO {c:Cl}{args:List AV}{A:Heap}{v:AV}{A':Heap}:qeM c args A v A' c args A=some (v,A'):=by
 unfold qeM;rw[ae ⟨rfl,rfl,rfl⟩]
def qdS (c:Nat) (S:List Nat) (A:Heap):qU (c::S) A=qU S (qU [c] A):=rfl
def qgT (c:Nat) (A:Heap) (b:Nat):(qU [c] A)[b]? =if b=c then A[c]?.map qf5 else A[b]? :=by
 unfold qU;simp only[bI,gn]
 cases h:A[c]? with
 |none=>
  by_cases e:b=c
  ·subst e;simp[h]
  simp[e]
 |some k=>
  have hlt:=(Yb.1 h).1;by_cases e:b=c
  ·subst e;simp[hlt]
  simp only[aa e];rw[Yw (λe'=>e e'.symm)]
def qkU {S:List Nat}:∀{A B:Heap},(∀b,b∈S->A[b]? =B[b]?)->∀b,b∈S->(qU S A)[b]? =(qU S B)[b]? :=by
 have key:∀(S T:List Nat) (A B:Heap),(∀b,b∈T->A[b]? =B[b]?)->(∀b,b∈S->b∈T)->∀b,b∈T->(qU S A)[b]? =(qU S B)[b]? :=by
  intro S
  induction S with
  |nil=>intro T A B h _ b hb;exact h b hb
  |cons c S ih=>
   intro T A B h hs b hb;rw[qdS c S A,qdS c S B];refine ih T _ _ (λd hd=>?_) (λd hd=>hs d (by simp[hd])) b hb;rw[qgT,qgT,h c (hs c (by simp)),h d hd]
 intro A B h b hb;exact key S S A B h (λ_ h=>h) b hb
def qeo {S:List Nat}:∀{A:Heap}{b:Nat},b∉S->(qU S A)[b]? =A[b]? :=by
 induction S with
 |nil=>intro A b _;rfl
 |cons c S ih=>
  intro A b hb;rw[qdS,ih (λe=>hb (by simp[e])),qgT,aa λe=>hb (by simp[e])]
def qnv (S:List Nat) (lo:Nat):∀(p:Pg) (A:Heap) (f:zx) (r:AV×Heap×zx),qam S lo p A f=some r->exec p A f=some r:=by
 intro p
 induction p with
 |fail=>intro A f r h;cases h
 |done v=>intro A f r h;exact h
 |get b k ih=>
  intro A f r h;have h:z8 (S.contains b||Nat.ble lo b) (ob (hget A b) λx=>qam S lo (k x) A ((b,false)::f)) none=some r:=h;rw[zh]at h;split at h
  ·obtain⟨x,hx,h⟩:=zC h;rw[qiD]at hx;simp only[exec,hx];exact ih x _ _ _ h
  cases h
 |set b x k ih=>
  intro A f r h;have h:z8 (S.contains b||Nat.ble lo b) (z8 (Nat.blt b (hlen A)) (qam S lo k (hset A b x) ((b,true)::f)) none) none=some r:=h;rw[zh]at h;split at h
  ·rw[zh]at h;split at h
   ·rename_i hb;rw[yw]at hb;rw[qiy]at h;simp only[exec,ae (show b<A.length from Ys hb)];exact ih _ _ _ h
   cases h
  cases h
 |new x k ih=>
  intro A f r h;have h:qam S lo (k (hlen A)) (happ A x) f=some r:=h;rw[yw,qiz]at h;simp only[exec];exact ih _ _ _ _ h
def qiU {ops:Array Oper}{f fr:Fr}{o:Oper}{q:Orc}{A:Heap}{s':Fr×Heap}{r:Rec}{ob:Obl}(h:qmD P ops f o q fr A=some (s',r,ob)) (ho:ob.Holds P):
 (qa2 ops o f=some false/\s'=(qel fr o.dst (.tuple []),A)/\r=⟨[],false,A.length,A.length⟩)\/
 (qa2 ops o f=some true/\∃v A',s'=(qel fr o.dst v,A')/\r.lo=A.length/\r.hi=A'.length/\A.length<=A'.length/\(∀b∈r.fp,b<A.length)/\
  (∀b,b<A.length->(b∈r.fp->r.wr=false)->A'[b]? =A[b]?)/\
  (∀M:Heap,M.length=A.length->(∀b,(b∈r.fp\/A.length<=b)->M[b]? =A[b]?)->∃B,(∃call g,ky P call/\qbF P call o f M=some (v,B,g))/\B.length=A'.length/\(∀b,(b∈r.fp\/A.length<=b)->A'[b]? =B[b]?)/\(M=A->B=A'))):=by
 unfold qmD at h;obtain⟨w,hw,h⟩:=zC h;rw[qfV]at hw;rw[zh]at h;rw[qf9]at h
 cases w with
 |false=>
  simp only[ZF,bh,ZI,ZP,yw,qbn]at h;obtain⟨rfl,rfl,rfl⟩:=h;exact .inl ⟨hw,rfl,rfl⟩
 |true=>
  right;refine⟨hw,?_⟩;simp only[aT]at h;have plain:∀{v A' wr}{g:zx},(qfa o.op&&(jL o (yj f)).isSome)=false->qam (qaG o (yj f) A) A.length (aop P o (yj f)) A []=some (v,A',g)->g.any (·.2)=wr->
   A.length<=A'.length/\(∀b,b<A.length->(b∈qaG o (yj f) A->wr=false)->A'[b]? =A[b]?)/\
   (∀M:Heap,M.length=A.length->(∀b,(b∈qaG o (yj f) A\/A.length<=b)->M[b]? =A[b]?)->∃B,(∃call g,ky P call/\qbF P call o f M=some (v,B,g))/\B.length=A'.length/\(∀b,(b∈qaG o (yj f) A\/A.length<=b)->A'[b]? =B[b]?)/\(M=A->B=A')):=by
   intro v A' wr g hc he hg
   have hcn:jL o (yj f)=none:=by
    cases hx:jL o (yj f)with
    |none=>rfl
    |some x=>
     obtain⟨cl,hop,_⟩:=qh4 hx;rw[hx,hop]at hc;simp[qfa]at hc
   have hex:=qnv _ _ _ _ _ _ he;obtain⟨M',h1,h2,h3,h4,h5⟩:=qgH _ A.length _ A A [] v A' g rfl (ai _) (λ_ _=>rfl) he;refine⟨h5,λb hb hq=>?_,λM hM hMA=>?_⟩
   ·by_cases hbS:b∈qaG o (yj f) A
    ·obtain⟨_,k2,_⟩:=qkd _ _ _ _ _ _ hex;have:=hq hbS;rw[<-hg]at this;exact k2 this b hb
    exact h4 b hb hbS
   obtain⟨B,g1,g2,g3,g4,g5⟩:=qgH _ A.length _ A M [] v A' g hM (ai _) hMA he;refine⟨B,⟨qod,g,qnI,?_⟩,g2,λb hb=>(g3 b hb).symm,λe=>?_⟩
   ·unfold qbF;rw[hcn];exact g1
   subst e;rw[hex]at g1;simp only[ZI,ZP]at g1;exact g1.2.1.symm
  have hall:∀{S:List Nat},(S.all λb=>Nat.blt b (hlen A))=true->∀b∈S,b<A.length:=by
   intro S hS b hb;have:=Yp.1 hS b hb;rw[yw]at this;exact Ys this
  cases q with
  |no=>
   simp only[zh]at h;split at h
   ·cases h
   rename_i hc;simp only[dJ]at hc;split at h
   ·rename_i hS;obtain⟨⟨v,A',g⟩,hx,h⟩:=zC h;simp only[ZI,ZP,yw,qbn]at h;obtain⟨rfl,rfl,rfl⟩:=h;rw[yw]at hx;obtain⟨p1,p2,p3⟩:=plain hc hx rfl;exact⟨v,A',rfl,rfl,rfl,p1,hall hS,p2,p3⟩
   cases h
  |done v=>
   simp only[zh]at h;split at h
   ·cases h
   rename_i hc;simp only[dJ]at hc;split at h
   ·rename_i hS;simp only[ZI,ZP,yw,qbn]at h;obtain⟨rfl,rfl,rfl⟩:=h
    have hnil:qaG o (yj f) A=[]:=by simpa using hS
    have ho:aop P o (yj f)= .done v:=ho;have:=plain (v:=v) (A':=A) (wr:=false) (g:=[]) hc (by rw[ho];rfl) rfl;rw[hnil]at this;obtain⟨p1,p2,p3⟩:=this;exact⟨v,A,rfl,rfl,rfl,p1,by simp,p2,p3⟩
   cases h
  |run v A' wr=>
   simp only[zh]at h;split at h
   ·cases h
   rename_i hc;simp only[dJ]at hc;split at h
   ·rename_i hS;simp only[ZI,ZP,yw,qbn]at h;obtain⟨rfl,rfl,rfl⟩:=h;obtain⟨g,h1,h2⟩:=ho;obtain⟨p1,p2,p3⟩:=plain hc h1 h2;exact⟨v,A',rfl,rfl,rfl,p1,hall hS,p2,p3⟩
   cases h
  |call S args' v=>
   obtain⟨⟨c,args⟩,hc,h⟩:=zC h
   cases c with
   |rd b=>cases h
   |mt t m=>cases h
   |fn g=>
    simp only[zh]at h;split at h
    ·rename_i hS;simp only[ZI,ZP,yw,qbn]at h;obtain⟨rfl,rfl,rfl⟩:=h;obtain⟨h1,h2,h3,h4⟩:=ho;refine⟨v,A,rfl,rfl,rfl,ai _,hall hS,λ_ _ _=>rfl,λM hM hMA=>?_⟩
     have hfz:args.mapM (frz M S 12)=some args':=by
      rw[<-h1]
      exact qfJ λa _=>qjc (λb hb=>hMA b (.inl hb)) 12 a
     have hk:(if flat 6 v=true then M else qU S M)=M:=by
      rcases h4 with h4|h4
      ·rw[ae h4]
      subst h4;split<;>rfl
     have hok:=qc.byS hfz h2 (h3 [] (List.range ([]:Heap).length));rw[hk]at hok;refine⟨M,⟨qeM (.fn g) args M v M,[],qgR hok,?_⟩,hM,λb hb=>(hMA b hb).symm,id⟩;unfold qbF;rw[hc];simp only[qgO,ZM]
    cases h
  |callF S args' v=>
   obtain⟨⟨c,args⟩,hc,h⟩:=zC h
   cases c with
   |rd b=>cases h
   |mt t m=>cases h
   |fn g=>
    simp only[zh]at h;split at h
    ·rename_i hS;simp only[ZI,ZP,yw,qbn]at h;obtain⟨rfl,rfl,rfl⟩:=h;obtain⟨h1,h2,h3⟩:=ho;refine⟨v,qU S A,rfl,rfl,by rw[zw],by rw[zw];exact ai _,hall hS,λb hb hq=>?_,λM hM hMA=>?_⟩
     ·have:b∉S:=λhbS=>by have:=hq hbS;cases this
      exact qeo this
     have hfz:args.mapM (frz M S 12)=some args':=by
      rw[<-h1]
      exact qfJ λa _=>qjc (λb hb=>hMA b (.inl hb)) 12 a
     have hok:=qc.byF hfz h2 (h3 [] (List.range ([]:Heap).length));refine⟨qU S M,⟨qeM (.fn g) args M v (qU S M),[],qgR hok,?_⟩,by rw[zw,zw];exact hM,λb hb=>?_,λe=>by rw[e]⟩
     ·unfold qbF;rw[hc];simp only[qgO,ZM]
     by_cases hbS:b∈S
     ·exact qkU (λc hcS=>(hMA c (.inl hcS)).symm) b hbS
     rw[qeo hbS,qeo hbS];exact(hMA b hb).symm
    cases h
  |callH S v A'=>
   obtain⟨⟨c,args⟩,hc,h⟩:=zC h;simp only[zh]at h;split at h
   ·rename_i hS;simp only[ZI,ZP,yw,qbn]at h;obtain⟨rfl,rfl,rfl⟩:=h;obtain⟨h1,h2,h3⟩:=ho;refine⟨v,A',rfl,rfl,rfl,h1,hall hS,λb hb hq=>?_,λM hM hMA=>?_⟩
    ·have hbS:b∉S:=λhbS=>by have:=hq hbS;cases this
     rw[<-h2,qcH,Ya (show b<A'.length by omega),Ya hb];simp[hb,hbS]
    refine⟨merge S M A',⟨qeM c args M v (merge S M A'),[],qgR (h3 M hM (λb hb=>hMA b (.inl hb))),?_⟩,qaA _ _ _,λb hb=>?_,λe=>by rw[e,h2]⟩
    ·unfold qbF;rw[hc];simp only[qgO,ZM]
    rw[qcH]
    have hf:(decide (b<M.length)&&!S.contains b)=false:=by
     rcases hb with hb|hb
     ·simp[hb]
     simp[hM,Nat.not_lt.2 hb]
    simp only[hf,ZF,bh];cases A'[b]? <;>rfl
   cases h
def qsU {ops:Array Oper}{rr:Option Nat}{n:Nat}{Q:Exit->Act->World->Prop}:∀(l pre:List Oper),ops.toList=pre++l->∀{orc:List (Nat×Orc)}{F:Nat->Prop}{nu:Nat->Option Nat}{A:Heap}{w:World}(_:Inv F nu A w) {fr:Fr}{a:Act}(_:RF F nu w fr a.tmps) {fr':Fr}{A':Heap}{rs:List Rec}{obls:List Obl}
 (_:qrG P ops false l pre.length orc fr A=some ((fr',A'),rs,obls)) (_:qdL P obls) (_:∀F' nu' w' a',a'.defers=a.defers->Stp F nu A w F' nu' A' w'->RF F' nu' w' fr' a'.tmps->Q .normal a' w'),wpOpsIn (fz rr) n P ops Q (List.range' pre.length l.length) a w:=by
 intro l
 induction l with
 |nil=>
  intro pre hp orc F nu A w i fr a h fr' A' rs obls he _ hq;have he:some ((fr,A),([]:List Rec),([]:List Obl))=some ((fr',A'),rs,obls):=he;simp only[ZI,ZP]at he;obtain⟨⟨rfl,rfl⟩,_⟩:=he;exact hq F nu w a rfl (.refl i) h
 |cons o l ih=>
  intro pre hp orc F nu A w i fr a h fr' A' rs obls he hh hq
  have ho:ops[pre.length]? =some o:=by
   rw[<-YT,hp];simp
  have hp':ops.toList=(pre++[o])++l:=by simp[hp]
  have he:(ob (qmD P ops fr o (qrE orc pre.length) fr A) λr=>ob (qrG P ops false l (pre.length+1) (qq9 orc pre.length) r.1.1 r.1.2) λt=>some (t.1,r.2.1::t.2.1,z8 (qjt r.2.2) t.2.2 (r.2.2::t.2.2)))=some ((fr',A'),rs,obls):=he;obtain⟨⟨⟨fr1,A1⟩,r1,o1⟩,hs,he⟩:=zC he;obtain⟨⟨⟨fr2,A2⟩,rs2,obls2⟩,ht,he⟩:=zC he;simp only[ZI,ZP]at he;obtain⟨⟨rfl,rfl⟩,rfl,rfl⟩:=he
  have hh2:o1.Holds P/\qdL P obls2:=by
   rw[zh]at hh;split at hh
   ·rename_i e;cases o1<;>simp[qjt]at e
    exact⟨trivial,hh⟩
   exact hh
  have hl:(pre++[o]).length=pre.length+1:=by simp
  rw[<-hl]at ht;simp only[Yr,List.range'_succ,wpOpsIn,ho];rcases qiU hs hh2.1 with⟨hw,he,_⟩|⟨hw,v,A3,he,_,_,_,_,_,hrun⟩
  ·simp only[ZP]at he;obtain⟨rfl,rfl⟩:=he;have:=qcI h hw;rw[aa (by rw[this];simp)];refine⟨λ_ _=>trivial,?_⟩;have:=ih (pre++[o]) hp' i (h.setDst o.dst qiA) ht hh2.2 (λF2 nu2 w2 a2 hd st hfr=>hq F2 nu2 w2 a2 (by rw[hd];cases o.dst<;>rfl) st hfr);rw[hl]at this;exact this
  simp only[ZP]at he;obtain⟨rfl,rfl⟩:=he;obtain⟨B,⟨call,g,hc,hst⟩,_,_,hB⟩:=hrun A rfl (λ_ _=>rfl);rw[hB rfl]at hst;rw[ae (qcI h hw)];refine qjh hc i h hst (λx F' nu' w' st hR hfr=>?_);have:=ih (pre++[o]) hp' st.inv hfr ht hh2.2 (λF2 nu2 w2 a2 hd st2 hfr2=>hq F2 nu2 w2 a2 (by rw[hd];cases o.dst<;>rfl) (st.trans st2) hfr2);rw[hl]at this;exact this
def qpq {ops:Array Oper}:∀(l pre:List Oper),ops.toList=pre++l->∀{orc:List (Nat×Orc)}{fr:Fr}{A:Heap}{t:Fr×Heap}{rs:List Rec}{obls:List Obl},
 qrG P ops true l pre.length orc fr A=some (t,rs,obls)->qdL P obls->∃(S:Nat->Fr×Heap) (rk:Nat->Rec),S 0=(fr,A)/\S l.length=t/\(∀k,k<l.length->∃o v,SF P ops (pre.length+k) (S k) (S (k+1)) (rk k) o v)/\∀k,k<l.length->rs[k]? =some (rk k):=by
 intro l
 induction l with
 |nil=>
  intro pre hp orc fr A t rs obls he _;have he:some ((fr,A),([]:List Rec),([]:List Obl))=some (t,rs,obls):=he;simp only[ZI,ZP]at he;obtain⟨rfl,rfl,_⟩:=he;exact⟨λ_=>(fr,A),λ_=>⟨[],false,0,0⟩,rfl,rfl,by simp,by simp⟩
 |cons o l ih=>
  intro pre hp orc fr A t rs obls he hh
  have ho:ops[pre.length]? =some o:=by
   rw[<-YT,hp];simp
  have hp':ops.toList=(pre++[o])++l:=by simp[hp]
  have he:(ob (qmD P ops (maskF (vX ops o) fr) o (qrE orc pre.length) fr A) λr=>ob (qrG P ops true l (pre.length+1) (qq9 orc pre.length) r.1.1 r.1.2) λt=>some (t.1,r.2.1::t.2.1,z8 (qjt r.2.2) t.2.2 (r.2.2::t.2.2)))=some (t,rs,obls):=he;obtain⟨⟨⟨fr1,A1⟩,r1,o1⟩,hs,he⟩:=zC he;obtain⟨⟨⟨fr2,A2⟩,rs2,obls2⟩,ht,he⟩:=zC he;simp only[ZI,ZP]at he;obtain⟨rfl,rfl,rfl⟩:=he
  have hh2:o1.Holds P/\qdL P obls2:=by
   rw[zh]at hh;split at hh
   ·rename_i e;cases o1<;>simp[qjt]at e
    exact⟨trivial,hh⟩
   exact hh
  have hl:(pre++[o]).length=pre.length+1:=by simp
  rw[<-hl]at ht;obtain⟨S,rk,h0,h1,h2,h3⟩:=ih (pre++[o]) hp' ht hh2.2;refine⟨λk=>match k with|0=>(fr,A)|k+1=>S k,λk=>match k with|0=>r1|k+1=>rk k,rfl,h1,λk hk=>?_,λk hk=>?_⟩
  ·cases k with
   |succ k=>
    obtain⟨o',v',sf⟩:=h2 k (by simpa using hk);refine⟨o',v',?_⟩;rw[hl]at sf;rw[show pre.length+(k+1)=pre.length+1+k by omega];exact sf
   |zero=>
    simp only[bz,h0];rcases qiU hs hh2.1 with⟨hw,he1,he2⟩|⟨hw,v,A3,he1,hlo,hhi,hle,hfp,hq,hrun⟩
    ·simp only[ZP]at he1;obtain⟨rfl,rfl⟩:=he1;subst he2;exact⟨o,.tuple [],ho,rfl,rfl,rfl,ai _,by simp,λ_ _ _=>rfl,.inl ⟨hw,rfl,rfl,rfl,rfl⟩⟩
    simp only[ZP]at he1;obtain⟨rfl,rfl⟩:=he1
    have hm:∀b,(b∈r1.fp\/A.length<=b)->(mask r1.fp A)[b]? =A[b]? :=by
     intro b hb;rcases hb with hb|hb
     ·exact qsb hb
     rw[Yg (by rw[xQ];exact hb),Yg hb]
    obtain⟨B,hst,hBl,hBs,_⟩:=hrun (mask r1.fp A) (xQ _ _) hm;exact⟨o,v,ho,rfl,hlo,hhi,hle,hfp,hq,.inr ⟨hw,B,hst,hBl,hBs⟩⟩
  cases k with
  |zero=>rfl
  |succ k=>simpa using h3 k (by simpa using hk)
def Goes.reg [Base] (hm:P.follows .mixedOrders=true) {id:Nat}{ops:Array Oper}{draw:Bool}{s:St}{Q:XA->St->Prop}(orc:List (Nat×Orc)) (live:List Tmp) {fr':Fr}{A':Heap}{obls:List Obl}
 (h:qig P ops draw orc live s=some (fr',A',obls)) (ho:qdL P obls) (hq:Q .normal (fr',A')):Goes P (.region id ops draw) s Q:=by
 intro F0 w0 n F nu a w st hf hd K hK;unfold qig at h;obtain⟨⟨⟨fr1,A1⟩,rs,obls1⟩,hr,h⟩:=zC h;rw[zh]at h;split at h
 ·rename_i hdr;simp only[ZI,ZP]at h;obtain⟨rfl,rfl,rfl⟩:=h
  have fin:∀F' nu' w' a',a'.defers=a.defers->Stp F nu s.2 w F' nu' A1 w'->RF F' nu' w' fr1 a'.tmps->K .normal a' w':=λF' nu' w' a' hde st' hf'=>hK .normal (maskF live fr1,A1) F' nu' a' w' hq (st.trans st') (hf'.maskF live) (by rw[hde];exact hd.step st')
  cases draw with
  |false=>
   refine wpIn_region ?_;have:=qsU (rr:=Base.rr) (n:=n) (Q:=K) ops.toList [] rfl st.inv hf hr ho fin;rw[List.range_eq_range'];simpa using this
  |true=>
   have sd:=Stp.drew (w:=w) st.inv;refine wpIn_region_any hm ?_;obtain⟨S,rk,h0,h1,h2,h3⟩:=qpq ops.toList [] rfl hr ho
   have hl:ops.toList.length=ops.size:=by simp
   rw[hl]at h1 h2 h3;refine qms sd.inv (hf.mono (sd.ext st.inv)) h0 h1 (λk=>?_) hdr h3 (λF' nu' w' a' hde st' hf'=>fin F' nu' w' a' hde (sd.trans st') hf');by_cases hk:k<ops.size
   ·obtain⟨o,v,sf⟩:=h2 k hk;rw[show([]:List Oper).length+k=k by simp]at sf;exact⟨o,v,λ_=>sf⟩
   exact⟨default,default,λh=>absurd h hk⟩
 cases h
end
end
section
variable [Glob]
open Go.RowKit
def qic (g:Nat->AV) (l:List (Nat×AV)):Nat->AV:=l.foldl (λg p=>qg7 g p.1 p.2) g
def ofG (n:Nat) (l:List (Nat×AV)):Fr:= .fn n (qic (λ_=> .undef) l)
def qm4 {g:Nat->AV}{l:List (Nat×AV)}{t:Nat}(h:∀p∈l,p.1≠t):qic g l t=g t:=by
 induction l generalizing g with
 |nil=>rfl
 |cons p l ih=>
  have:=ih (g:=qg7 g p.1 p.2) λq hq=>h q (by simp[hq])
  unfold qic at this⊢;rw[bI,this,qgW,aa λe=>h p (by simp) e.symm]
def qkM {g:Nat->AV}{l:List (Nat×AV)}{t:Nat}:qic g l t=g t\/ ∃a,(t,a)∈l/\qic g l t=a:=by
 induction l generalizing g with
 |nil=>exact .inl rfl
 |cons p l ih=>
  rcases ih (g:=qg7 g p.1 p.2)with h|⟨a,ha,h⟩
  ·unfold qic at h⊢;rw[bI,h,qgW];by_cases e:t=p.1
   ·subst e;rw[ae rfl];exact .inr ⟨p.2,by simp,rfl⟩
   rw[aa e];exact .inl rfl
  unfold qic at h⊢;rw[bI];exact .inr ⟨a,by simp[ha],h⟩
def asc:List (Nat×AV)->Bool
 |[]=>true
 |[_]=>true
 |p::q::l=>Nat.blt p.1 q.1&&asc (q::l)
def qt4:∀{l:List (Nat×AV)}{p:Nat×AV},asc (p::l)=true->∀q∈l,p.1<q.1:=by
 intro l
 induction l with
 |nil=>intro p _ q hq;cases hq
 |cons r l ih=>
  intro p h q hq;simp only[asc,aR]at h;have h1:p.1<r.1:=Ys h.1;rcases bT.1 hq with rfl|hq
  ·exact h1
  exact Nat.lt_trans h1 (ih h.2 q hq)
def qqt {l:List (Nat×AV)}{p:Nat×AV}(h:asc (p::l)=true):asc l=true:=by
 cases l with
 |nil=>rfl
 |cons q l=>simp only[asc,aR]at h;exact h.2
def qmM {g:Nat->AV}{l:List (Nat×AV)}(h:asc l=true) {t:Nat}{a:AV}(hm:(t,a)∈l):qic g l t=a:=by
 induction l generalizing g with
 |nil=>cases hm
 |cons p l ih=>
  unfold qic;rw[bI];rcases bT.1 hm with e|hm
  ·subst e
   have:=qm4 (g:=qg7 g t a) (l:=l) (t:=t) λq hq e=>by
    have:=qt4 h q hq;simp only at this;omega
   unfold qic at this;rw[this,qgW,ae rfl]
  exact ih (g:=qg7 g p.1 p.2) (qqt h) hm
def qN (a:AV):Prop:= ∀(F:Nat->Prop) (nu nu':Nat->Option Nat) (w:World) (v:Value),R F nu w a v->R F nu' w a v
def qN.int (k:IntKind) (n:Int):qN (.int k n):=by intro F nu nu' w v h;cases h;exact .int _ _
def qN.bool (b:Bool):qN (.bool b):=by intro F nu nu' w v h;cases h;exact .bool _
def qN.str (s:List UInt8):qN (.str s):=by intro F nu nu' w v h;cases h with|str _ _ h=>exact .str _ _ h
def qN.nilslice:qN .nilslice:=by intro F nu nu' w v h;cases h;exact .nilslice
def qN.nilptr:qN .nilptr:=by intro F nu nu' w v h;cases h;exact .nilptr
def qN.nilmap:qN .nilmap:=by intro F nu nu' w v h;cases h;exact .nilmap
def qN.nilfunc:qN .nilfunc:=by intro F nu nu' w v h;cases h;exact .nilfunc
def qN.niliface:qN .niliface:=by intro F nu nu' w v h;cases h;exact .niliface
def qN.fslice {n:Nat}{cs:List AV}(h:∀c∈cs,qN c):qN (.fslice n cs):=by
 intro F nu nu' w v hv
 cases hv with
 |fslice0 A cap=>exact .fslice0 A cap
 |fslice _ _ ad cap vs hn hF hl hc hR=>exact .fslice _ _ ad cap vs hn hF hl hc λi a v ha hv=>h a (Yn ha) F nu nu' w v (hR i a v ha hv)
def qN.fptr {off:Nat}{cs:List AV}(h:∀c∈cs,qN c):qN (.fptr cs off):=by
 intro F nu nu' w v hv
 cases hv with
 |fptr _ _ ad vs hF hl hc hR=>exact .fptr _ _ ad vs hF hl hc λi a v ha hv=>h a (Yn ha) F nu nu' w v (hR i a v ha hv)
def qN.agg {cs:List AV}(h:∀c∈cs,qN c):qN (.agg cs):=by
 intro F nu nu' w v hv
 cases hv with
 |agg _ vs hl hR=>exact .agg _ vs hl λi a v ha hv=>h a (Yn ha) F nu nu' w v (hR i a v ha hv)
def qN.tuple {cs:List AV}(h:∀c∈cs,qN c):qN (.tuple cs):=by
 intro F nu nu' w v hv
 cases hv with
 |tuple _ vs hl hR=>exact .tuple _ vs hl λi a v ha hv=>h a (Yn ha) F nu nu' w v (hR i a v ha hv)
def qN.func {fn:Fn}{fs cs:List AV}(h1:∀c∈fs,qN c) (h2:∀c∈cs,qN c):qN (.func fn fs cs):=by
 intro F nu nu' w v hv
 cases hv with
 |func _ _ _ vf vc g1 g2 hf hc=>exact .func _ _ _ vf vc g1 g2 (λi a v ha hv=>h1 a (Yn ha) F nu nu' w v (hf i a v ha hv)) (λi a v ha hv=>h2 a (Yn ha) F nu nu' w v (hc i a v ha hv))
def qN.fmap {ks xs:List AV}(h1:∀c∈ks,qN c) (h2:∀c∈xs,qN c):qN (.fmap ks xs):=by
 intro F nu nu' w v hv
 cases hv with
 |fmap _ _ rb es clock hF hh hk hv hRk hRv=>exact .fmap _ _ rb es clock hF hh hk hv (λi a e ha he=>h1 a (Yn ha) F nu nu' w _ (hRk i a e ha he)) (λi a e ha he=>h2 a (Yn ha) F nu nu' w _ (hRv i a e ha he))
def qdf (cs:List AV):Prop:= ∀c∈cs,qN c
def qdf.nil:qdf []:=by intro c h;cases h
def qdf.cons {c:AV}{cs:List AV}(h:qN c) (hs:qdf cs):qdf (c::cs):=by
 intro d hd;rcases bT.1 hd with rfl|hd
 ·exact h
 exact hs d hd
def qdf.append {cs ds:List AV}(h:qdf cs) (hs:qdf ds):qdf (cs++ds):=by
 intro d hd;rcases cG.1 hd with hd|hd
 ·exact h d hd
 exact hs d hd
def qlG:Ent->Prop
 | .av a=>qN a
 | .own _ cs=>qdf cs
def qlG.re {x:Ent}(h:qlG x) {F:Nat->Prop}{nu:Nat->Option Nat}(nu':Nat->Option Nat) {w:World}{v:Value}(hR:RE F nu w x v):RE F nu' w x v:=by
 cases x with
 |av a=>exact h F nu nu' w v hR
 |own k cs=>
  obtain h|⟨g,n,cap,vs,e,rfl,h0,h1,h2,h3,h4,h5,h6,h7⟩:=hR
  ·exact .inl h
  exact .inr ⟨g,n,cap,vs,e,rfl,h0,h1,h2,h3,h4,h5,h6,λi a v ha hv=>h a (Yn ha) F nu nu' w v (h7 i a v ha hv)⟩
section
variable (A:Heap) (S:List Nat) (m:List (Option Nat))
inductive zS:AV->AV->Prop
 |same {a:AV}(h:qN a):zS a a
 |undef {a:AV}:zS .undef a
 |ptr {i b off:Nat}(h:m[i]? =some (some b)):zS (.ptr i off) (.ptr b off)
 |slice {i b off n cap k:Nat}(h:m[i]? =some (some b)):zS (.slice i off n cap k) (.slice b off n cap k)
 |oslice {i b n k:Nat}(h:m[i]? =some (some b)):zS (.oslice i n k) (.oslice b n k)
 |gslice {i b n k:Nat}(h:m[i]? =some (some b)):zS (.gslice i n k) (.gslice b n k)
 |gsliceE {i b n n' k:Nat}(h:m[i]? =some (some b)) (e:n=n'):zS (.gslice i n' k) (.gslice b n k)
 |osliceE {i b n n' k:Nat}(h:m[i]? =some (some b)) (e:n=n'):zS (.oslice i n' k) (.oslice b n k)
 |sliceE {i b n n' k:Nat}(h:m[i]? =some (some b)) (e:n=n'):zS (.slice i 0 n' n' k) (.slice b 0 n n k)
 |wslice {i b off n k:Nat}(h:m[i]? =some (some b)):zS (.wslice i off n k) (.wslice b off n k)
 |map {i b:Nat}(h:m[i]? =some (some b)):zS (.map i) (.map b)
 |yld {i b:Nat}(h:m[i]? =some (some b)):zS (.yld i) (.yld b)
 |grow {i b n k:Nat}(h:m[i]? =some (some b)) (hp:0<n):zS (.gslice i n k) (.oslice b n k)
 |own {i b n n' k:Nat}{cs:List AV}(h:m[i]? =some (some b)) (hA:A[b]? =some (.cells cs)) (hc:Nat.ble (n*k) cs.length=true) (hx:Nat.ble n 9223372036854775807=true) (hn:n'=n) (hs:S.isEmpty=false):zS (.oslice i n' k) (.slice b 0 n n k)
 |ownL {i b n n' cap k:Nat}{cs:List AV}(h:m[i]? =some (some b)) (hA:A[b]? =some (.cells cs)) (hc:cap*k<=cs.length) (hx:cap<=9223372036854775807) (hn:n'=n) (hs:S.isEmpty=false):zS (.oslice i n' k) (.slice b 0 n cap k)
 |nil {i k:Nat}:zS (.gslice i 0 k) .nilslice
 |nilv:zS (.fslice 0 []) .nilslice
 |frz {a a':AV}(h:frz A S 12 a=some a') (hr:qN a'):zS a' a
 |agg {cs' cs:List AV}(hl:cs'.length=cs.length) (h:∀(j:Nat) (c' c:AV),cs'[j]? =some c'->cs[j]? =some c->zS c' c):zS (.agg cs') (.agg cs)
 |tuple {cs' cs:List AV}(hl:cs'.length=cs.length) (h:∀(j:Nat) (c' c:AV),cs'[j]? =some c'->cs[j]? =some c->zS c' c):zS (.tuple cs') (.tuple cs)
 |func {fn:Fn}{fs cs' cs:List AV}(hf:qdf fs) (hl:cs'.length=cs.length) (h:∀(j:Nat) (c' c:AV),cs'[j]? =some c'->cs[j]? =some c->zS c' c):zS (.func fn fs cs') (.func fn fs cs)
def qd3 (cs' cs:List AV):Prop:=cs'.length=cs.length/\∀(j:Nat) (c' c:AV),cs'[j]? =some c'->cs[j]? =some c->zS A S m c' c
theorem qqS {cs' cs:List AV}(he:cs.take cs'.length=cs') {q:Nat}{c:AV}(h:cs'[q]? =some c):cs[q]? =some c:=by
 have hq:=(Yb.1 h).1;rw[<-he,Yt,ae hq]at h;exact h
inductive qnh:Ent->Ent->Prop
 |av {a' a:AV}(h:zS A S m a' a):qnh (.av a') (.av a)
 |own {k:Nat}{cs:List AV}(h:qdf cs):qnh (.own k cs) (.own k cs)
inductive qat:List (Nat×AV)->List (Nat×AV)->Prop
 |nil {l:List (Nat×AV)}:qat l []
 |keep {t:Nat}{a a':AV}{l l':List (Nat×AV)}(h:zS A S m a' a) (hl:qat l l'):qat ((t,a)::l) ((t,a')::l')
 |drop {p:Nat×AV}{l l':List (Nat×AV)}(hl:qat l l'):qat (p::l) l'
inductive yQ:Blk->Blk->Prop
 |bag {es' es:List Ent}(hl:es'.length=es.length) (h:∀(j:Nat) (x' x:Ent),es'[j]? =some x'->es[j]? =some x->qnh A S m x' x):yQ (.bag es') (.bag es)
 |cells {cs' cs:List AV}(h:qd3 A S m cs' cs):yQ (.cells cs') (.cells cs)
 |same {cs:List AV}(h:qdf cs):yQ (.cells cs) (.cells cs)
 |pre {cs' cs:List AV}(h:qdf cs') (hl:cs'.length<=cs.length) (he:cs.take cs'.length=cs'):yQ (.cells cs') (.cells cs)
 |map {ks vs:List AV}(h1:qdf ks) (h2:qdf vs):yQ (.map ks vs) (.map ks vs)
 |iter {s:List UInt8}{pos:Nat}:yQ (.iter s pos) (.iter s pos)
 |bld {T e:TypeId}{cs' cs:List AV}(h:qd3 A S m cs' cs):yQ (.bld T e cs') (.bld T e cs)
 |loop {st:LoopState}{p:Option Code}{k:Nat}{l l':List (Nat×AV)}{ps:Array Tmp}{a b:Code}(hs:asc l=true) (h:qat A S m l l'):yQ (.loop st p (ofG k l') ps a b) (.loop st p (ofG k l) ps a b)
inductive qcu:List (Option Nat)->Heap->Prop
 |nil:qcu [] []
 |fresh {x:Blk}{l:List (Option Nat)}{H:Heap}(h:qcu l H):qcu (none::l) (x::H)
 |keep {b:Nat}{x y:Blk}{l:List (Option Nat)}{H:Heap}(hA:A[b]? =some y) (hb:yQ A S m x y) (hS:S.contains b=false) (hl:l.contains (some b)=false) (h:qcu l H):qcu (some b::l) (x::H)
 |lost {b:Nat}{l:List (Option Nat)}{H:Heap}(h:qcu l H):qcu (some b::l) (.dead::H)
end
section
variable {A:Heap}{S:List Nat}{m:List (Option Nat)}
def qd3.nil:qd3 A S m [] []:=⟨rfl,by simp⟩
def qd3.cons {c' c:AV}{cs' cs:List AV}(h:zS A S m c' c) (hs:qd3 A S m cs' cs):qd3 A S m (c'::cs') (c::cs):=by
 refine⟨by simp[hs.1],λj d' d h' hd=>?_⟩
 cases j with
 |zero=>simp at h' hd;subst h' hd;exact h
 |succ j=>exact hs.2 j d' d (by simpa using h') (by simpa using hd)
def nuM (m:List (Option Nat)) (nu:Nat->Option Nat) (i:Nat):Option Nat:=match m[i]? with
 |some (some b)=>nu b
 |_=>none
def vQ {nu:Nat->Option Nat}{i b:Nat}(h:m[i]? =some (some b)):nuM m nu i=nu b:=by simp[nuM,h]
def qbP {nu:Nat->Option Nat}{i rb:Nat}(h:nuM m nu i=some rb):∃b,m[i]? =some (some b)/\nu b=some rb:=by
 unfold nuM at h;split at h
 ·rename_i b hb;exact⟨b,hb,h⟩
 cases h
def R.growF {F F':Nat->Prop}{nu:Nat->Option Nat}{w:World}{a:AV}{v:Value}(hF:∀b,F b->F' b) (h:R F nu w a v):R F' nu w a v:=
 h.mono ⟨hF,λ_ _ h=>h,λ_ _=>rfl,λ_ _ h=>h⟩
def zS.R {F:Nat->Prop}{nu:Nat->Option Nat}{w:World}(i:Inv F nu A w) {a' a:AV}(h:zS A S m a' a):∀{v:Value},R F nu w a v->R (FS F nu A S) (nuM m nu) w a' v:=by
 have g:∀b,F b->FS F nu A S b:=λb h=> .inl h
 induction h with
 |same h=>intro v hv;exact(h F nu (nuM m nu) w v hv).growF g
 |undef=>intro v _;exact .undef v
 |ptr h=>intro v hv;cases hv with|ptr _ _ rb hb=>exact .ptr _ _ rb (by rw[vQ h];exact hb)
 |slice h=>intro v hv;cases hv with|slice _ _ _ _ _ rb hb hc=>exact .slice _ _ _ _ _ rb (by rw[vQ h];exact hb) hc
 |oslice h=>intro v hv;cases hv with|oslice _ _ _ rb cap e m' hb hc hs hm hx=>exact .oslice _ _ _ rb cap e m' (by rw[vQ h];exact hb) hc hs hm hx
 |gslice h=>
  intro v hv
  cases hv with
  |gslice0=>exact .gslice0 _ _ _
  |gslice _ _ _ rb cap e m' hp hb hc hs hm hx=>exact .gslice _ _ _ rb cap e m' hp (by rw[vQ h];exact hb) hc hs hm hx
 |gsliceE h e=>
  intro v hv;subst e
  cases hv with
  |gslice0=>exact .gslice0 _ _ _
  |gslice _ _ _ rb cap e m' hp hb hc hs hm hx=>exact .gslice _ _ _ rb cap e m' hp (by rw[vQ h];exact hb) hc hs hm hx
 |osliceE h e=>intro v hv;subst e;cases hv with|oslice _ _ _ rb cap e m' hb hc hs hm hx=>exact .oslice _ _ _ rb cap e m' (by rw[vQ h];exact hb) hc hs hm hx
 |sliceE h e=>intro v hv;subst e;cases hv with|slice _ _ _ _ _ rb hb hc=>exact .slice _ _ _ _ _ rb (by rw[vQ h];exact hb) hc
 |wslice h=>intro v hv;cases hv with|wslice _ _ _ _ rb cap hb hc=>exact .wslice _ _ _ _ rb cap (by rw[vQ h];exact hb) hc
 |map h=>intro v hv;cases hv with|map _ rb hb=>exact .map _ rb (by rw[vQ h];exact hb)
 |yld h=>intro v hv;cases hv with|yld _ rb hb=>exact .yld _ rb (by rw[vQ h];exact hb)
 |grow h hp=>intro v hv;cases hv with|oslice _ _ _ rb cap e m' hb hc hs hm hx=>exact .gslice _ _ _ rb cap e m' hp (by rw[vQ h];exact hb) hc hs hm hx
 |own h hA hc hx hn _=>
  intro v hv;subst hn
  cases hv with
  |slice _ _ _ _ _ rb hb _=>
   obtain⟨_,vs,e,h1,h2,_⟩:=i.blk _ rb _ hb hA;have hc:=Ys hc;exact .oslice _ _ _ rb _ e vs.size (by rw[vQ h];exact hb) (ai _) (by unfold World.shape?;rw[h1]) (by omega) (Ys hx)
 |ownL h hA hc hx hn _=>
  intro v hv;subst hn
  cases hv with
  |slice _ _ _ _ _ rb hb hnc=>
   obtain⟨_,vs,e,h1,h2,_⟩:=i.blk _ rb _ hb hA;exact .oslice _ _ _ rb _ e vs.size (by rw[vQ h];exact hb) hnc (by unfold World.shape?;rw[h1]) (by omega) hx
 |nil=>intro v hv;cases hv;exact .gslice0 _ _ _
 |nilv=>intro v hv;cases hv;exact .fslice0 _ _
 |frz h hr=>intro v hv;exact hr _ _ _ _ _ (qh3 i 12 h hv)
 |agg hl h ih=>
  intro v hv
  cases hv with
  |agg _ vs hl2 hR=>
   refine .agg _ vs (by omega) λj c' y hc' hy=>?_
   have hlt:=(Yb.1 hc').1;rw[hl]at hlt;exact ih j c' _ hc' (Ya hlt) (hR j _ y (Ya hlt) hy)
 |tuple hl h ih=>
  intro v hv
  cases hv with
  |tuple _ vs hl2 hR=>
   refine .tuple _ vs (by omega) λj c' y hc' hy=>?_
   have hlt:=(Yb.1 hc').1;rw[hl]at hlt;exact ih j c' _ hc' (Ya hlt) (hR j _ y (Ya hlt) hy)
 |func hf hl h ih=>
  intro v hv
  cases hv with
  |func _ _ _ vf vc g1 g2 hf2 hc2=>
   refine .func _ _ _ vf vc g1 (by omega) (λj a y ha hy=>(hf a (Yn ha) F nu (nuM m nu) w y (hf2 j a y ha hy)).growF g) λj c' y hc' hy=>?_
   have hlt:=(Yb.1 hc').1;rw[hl]at hlt;exact ih j c' _ hc' (Ya hlt) (hc2 j _ y (Ya hlt) hy)
def qcu.len {l:List (Option Nat)}{H:Heap}(h:qcu A S m l H):l.length=H.length:=by
 induction h with
 |nil=>rfl
 |fresh _ ih=>simp[ih]
 |keep _ _ _ _ _ ih=>simp[ih]
 |lost _ ih=>simp[ih]
def qcu.at_ {l:List (Option Nat)}{H:Heap}(h:qcu A S m l H):∀{i b:Nat}{x:Blk},l[i]? =some (some b)->H[i]? =some x->x= .dead\/b∉S/\∃y,A[b]? =some y/\yQ A S m x y:=by
 induction h with
 |nil=>intro i b x h;simp at h
 |fresh h ih=>
  intro i b x hb hx
  cases i with
  |zero=>simp at hb
  |succ i=>exact ih (by simpa using hb) (by simpa using hx)
 |keep hA hB hS hl h ih=>
  intro i b x hb hx
  cases i with
  |zero=>
   simp at hb hx;subst hb hx;exact .inr ⟨λhm=>by simp[hm]at hS,_,hA,hB⟩
  |succ i=>exact ih (by simpa using hb) (by simpa using hx)
 |lost h ih=>
  intro i b x hb hx
  cases i with
  |zero=>simp at hx;exact .inl hx.symm
  |succ i=>exact ih (by simpa using hb) (by simpa using hx)
def qcu.inj {l:List (Option Nat)}{H:Heap}(h:qcu A S m l H):∀{i j b:Nat}{x x':Blk},l[i]? =some (some b)->l[j]? =some (some b)->H[i]? =some x->H[j]? =some x'->x≠ .dead->x'≠ .dead->i=j:=by
 induction h with
 |nil=>intro i j b x x' h;simp at h
 |fresh h ih=>
  intro i j b x x' hi hj hx hx' hn hn'
  cases i with
  |zero=>simp at hi
  |succ i=>
   cases j with
   |zero=>simp at hj
   |succ j=>exact az (· +1) (ih (by simpa using hi) (by simpa using hj) (by simpa using hx) (by simpa using hx') hn hn')
 |keep hA hB hS hl h ih=>
  intro i j b x x' hi hj hx hx' hn hn'
  cases i with
  |zero=>
   cases j with
   |zero=>rfl
   |succ j=>
    simp at hi hj;subst hi;have:=Yn hj;simp[this]at hl
  |succ i=>
   cases j with
   |zero=>
    simp at hi hj;subst hj;have:=Yn hi;simp[this]at hl
   |succ j=>exact az (· +1) (ih (by simpa using hi) (by simpa using hj) (by simpa using hx) (by simpa using hx') hn hn')
 |lost h ih=>
  intro i j b x x' hi hj hx hx' hn hn'
  cases i with
  |zero=>simp at hx;exact absurd hx.symm hn
  |succ i=>
   cases j with
   |zero=>simp at hx';exact absurd hx'.symm hn'
   |succ j=>exact az (· +1) (ih (by simpa using hi) (by simpa using hj) (by simpa using hx) (by simpa using hx') hn hn')
def qcK {es' es:List Ent}(hl:es'.length=es.length) (h:∀(j:Nat) (x' x:Ent),es'[j]? =some x'->es[j]? =some x->qnh A S m x' x) {vs:Array Value}{i r:Nat}(o:OwnAt es' vs i r):OwnAt es vs i r:=by
 obtain⟨k,cs,n,cap,h1,h2,h3⟩:=o;have hlt:=(Yb.1 h1).1;have e:=h i _ _ h1 (Ya (show i<es.length by omega));generalize he:es[i]'(by omega)=x at e
 cases e with
 |own _=>exact⟨k,cs,n,cap,by rw[Ya (show i<es.length by omega),he],h2,h3⟩
def yQ.owned {x y:Blk}(h:yQ A S m x y):y.owned=true:=by cases h<;>rfl
def yQ.ft {x y:Blk}(h:yQ A S m x y) {w:World}{rb r:Nat}(hf:Ft w rb x r):Ft w rb y r:=by
 cases h with
 |bag hl he=>
  rcases hf with hf|⟨vs,e,i,h1,h2⟩
  ·exact .inl hf
  exact .inr ⟨vs,e,i,h1,qcK hl he h2⟩
 |_=>exact .inl (eO (by intro es e;cases e) hf)
def qat.mem {l l':List (Nat×AV)}(h:qat A S m l l'):∀{t:Nat}{a':AV},(t,a')∈l'->∃a,(t,a)∈l/\zS A S m a' a:=by
 induction h with
 |nil=>intro t a' h;cases h
 |keep hv hl ih=>
  intro t a' h;rcases bT.1 h with e|h
  ·simp only[ZP]at e;obtain⟨rfl,rfl⟩:=e;exact⟨_,by simp,hv⟩
  obtain⟨a,ha,hr⟩:=ih h;exact⟨a,by simp[ha],hr⟩
 |drop hl ih=>
  intro t a' h;obtain⟨a,ha,hr⟩:=ih h;exact⟨a,by simp[ha],hr⟩
def qat.RF {F:Nat->Prop}{nu:Nat->Option Nat}{w:World}(i:Inv F nu A w) {n:Nat}{l l':List (Nat×AV)}(hl:asc l=true) (hf:qat A S m l l') {tmps:Array Value}(hfr:RF F nu w (ofG n l) tmps):RF (FS F nu A S) (nuM m nu) w (ofG n l') tmps:=by
 refine⟨hfr.size,λt v hv=>?_,λt ht=>?_⟩
 ·have h0:=hfr.at_ t v hv
  have hlt:t<n:=by
   have:=(YB.1 hv).1;have h1:=hfr.size;simp only[ofG,Fr.n]at h1;omega
  simp only[ofG,Up,ae hlt]at h0⊢;rcases qkM (g:=λ_=>AV.undef) (l:=l') (t:=t)with e|⟨a',ha',e⟩
  ·rw[e];exact .undef v
  rw[e];obtain⟨a0,ha0,hr⟩:=hf.mem ha';rw[qmM hl ha0]at h0;exact hr.R i h0
 simp only[ofG,Fr.n]at ht;simp only[ofG,Up,aa (show¬t<n by omega)]
def kept (m:List (Option Nat)) (n:Nat):Bool:=(List.range n).all λb=>decide (m[b]? =some (some b))
def Sub [Base] (s s':St):Prop:= ∀(F0:Nat->Prop) (w0:World) (F:Nat->Prop) (nu:Nat->Option Nat) (a:Act) (w:World),Stp F0 Base.nu Base.A w0 F nu s.2 w->RF F nu w s.1 a.tmps->Dfr w0.heap.size F nu s.2 w a.defers->
 ∃F' nu',Stp F0 Base.nu Base.A w0 F' nu' s'.2 w/\RF F' nu' w s'.1 a.tmps/\Dfr w0.heap.size F' nu' s'.2 w a.defers
def Sub.refl [Base] (s:St):Sub s s:=λ_ _ F nu _ _ st hf hd=>⟨F,nu,st,hf,hd⟩
def Sub.trans [Base]{s s' s'':St}(h:Sub s s') (k:Sub s' s''):Sub s s'':=λF0 w0 F nu a w st hf hd=>by
 obtain⟨F',nu',st',hf',hd'⟩:=h F0 w0 F nu a w st hf hd;exact k F0 w0 F' nu' a w st' hf' hd'
def Goes.sub [Base]{P:Program}{c:Code}{s s':St}{Q:XA->St->Prop}(h:Sub s s') (hg:Goes P c s' Q):Goes P c s Q:=λF0 w0 n F nu a w st hf hd K hK=>by
 obtain⟨F',nu',st',hf',hd'⟩:=h F0 w0 F nu a w st hf hd;exact hg F0 w0 n F' nu' a w st' hf' hd' K hK
def Sub.norm [Base]{n:Nat}{l l':List (Nat×AV)}{A':Heap}(S:List Nat) (m:List (Option Nat)) (hkp:kept m Base.A.length=true) (hl:asc l=true) (hf:qat A S m l l') (hA:qcu A S m m A'):Sub (ofG n l,A) (ofG n l',A'):=by
 intro F0 w0 F nu a w st hfr hd;have i:=st.inv
 have hkp2:∀b,b<Base.A.length->m[b]? =some (some b):=λb hb=>by
  have:=Yp.1 hkp b (cP.2 hb);exact aP this
 have hlen:Base.A.length<=A'.length:=by
  rw[<-hA.len];rcases aw m.length Base.A.length with h|h
  ·have:=hkp2 m.length h;simp at this
  exact h
 have hown:∀r,qa5 (nuM m nu) A' w r->qa5 nu A w r:=by
  rintro r ⟨j,x,rb,hj,hx,ho,hf⟩;obtain⟨b,hb,hn⟩:=qbP hj;rcases hA.at_ hb hx with rfl|⟨_,y,hy,hB⟩
  ·cases ho
  exact⟨b,y,rb,hn,hy,hB.owned,hB.ft hf⟩
 have hFS:∀rb,FS F nu A S rb->F rb\/qa5 nu A w rb:=by
  rintro rb (h|⟨b,x,_,h1,h2,h3⟩)
  ·exact .inl h
  exact .inr (.of h1 h2 h3)
 have hinv:Inv (FS F nu A S) (nuM m nu) A' w:=by
  refine⟨λj rb x hj hx=>?_,λj j' rb rb' x x' r hj hj' hx hx' ho ho' hr hr'=>?_,λj hj=>?_,λrb h=>?_,λj rb hj=>?_,Glob.mono i.glob (λ_ h=> .inl h) λ_ _=>rfl⟩
  ·obtain⟨b,hb,hn⟩:=qbP hj;rcases hA.at_ hb hx with rfl|⟨hnS,y,hy,hB⟩
   ·trivial
   have h0:=i.blk b rb y hn hy;have hnF:F rb\/ ¬F rb:=Classical.em _
   have notF2:∀r,Ft w rb y r->¬F r->¬FS F nu A S r:=by
    rintro r hr hn0 (h|⟨b',x',h1,h2,h3,h4⟩)
    ·exact hn0 h
    exact hnS (i.injF b b' rb r y x' r hn h2 hy h3 hB.owned h4 hr (.inl rfl)▸h1)
   have notF:=notF2 rb (.inl rfl)
   cases hB with
   |bag hl he=>
    obtain⟨hF,vs,e,h1,h2,h3,h4,h5⟩:=h0;refine⟨notF hF,vs,e,h1,by rw[hl];exact h2,λq c' v hc' hv=>?_,λq r o=>h4 q r (qcK hl he o),λq q' r o o'=>h5 q q' r (qcK hl he o) (qcK hl he o')⟩;have hlt:=(Yb.1 hc').1;rw[hl]at hlt;obtain⟨c,hc⟩:=(⟨_,Ya hlt⟩:∃c,_=some c);have hE:=he q c' c hc' hc;have hR:=h3 q c v hc hv
    cases hE with
    |av hV=>exact hV.R i hR
    |@own k cs hN=>
     have hR2:RE F (nuM m nu) w (.own k cs) v:=qlG.re (x:= .own k cs) hN (nuM m nu) hR;refine hR2.mono (F':=FS F nu A S) ⟨λ_ h=> .inl h,λ_ _ h=>h,λ_ _=>rfl,λ_ _ h=>h⟩ ?_;rintro g n cap rfl hn ⟨k',cs',hk⟩;refine⟨rfl,λhf=>?_⟩;have hft:Ft w rb (.bag _) g:= .inr ⟨vs,e,q,h1,k,cs,n,cap,hc,hv,hn⟩
     exact Classical.byContradiction λhn0=>notF2 g hft hn0 hf
   |cells hL=>
    obtain⟨hF,vs,e,h1,h2,h3⟩:=h0;refine⟨notF hF,vs,e,h1,by rw[hL.1];exact h2,λq c' v hc' hv=>?_⟩;have hlt:=(Yb.1 hc').1;rw[hL.1]at hlt;exact(hL.2 q c' _ hc' (Ya hlt)).R i (h3 q _ v (Ya hlt) hv)
   |same hN=>
    obtain⟨hF,vs,e,h1,h2,h3⟩:=h0;exact⟨notF hF,vs,e,h1,h2,λq c v hc hv=>(hN c (Yn hc) F nu (nuM m nu) w v (h3 q c v hc hv)).growF λ_ h=> .inl h⟩
   |pre hN hl he=>
    obtain⟨hF,vs,e,h1,h2,h3⟩:=h0;exact⟨notF hF,vs,e,h1,bx hl h2,λq c v hc hv=>(hN c (Yn hc) F nu (nuM m nu) w v (h3 q c v (qqS he hc) hv)).growF λ_ h=> .inl h⟩
   |map hk hv2=>
    obtain⟨hF,es,ck,h1,h2,h3,h4,h5,h6⟩:=h0;exact⟨notF hF,es,ck,h1,h2,h3,λq c e hc he=>(hk c (Yn hc) F nu (nuM m nu) w _ (h4 q c e hc he)).growF λ_ h=> .inl h,λq c e hc he=>(hv2 c (Yn hc) F nu (nuM m nu) w _ (h5 q c e hc he)).growF λ_ h=> .inl h,h6⟩
   |iter=>
    obtain⟨hF,h1⟩:=h0;exact⟨notF hF,h1⟩
   |bld hL=>
    obtain⟨hF,vs,h1,h2,h3,h4⟩:=h0;refine⟨notF hF,vs,h1,by rw[hL.1];exact h2,λq c' v hc' hv=>?_,h4⟩;have hlt:=(Yb.1 hc').1;rw[hL.1]at hlt;exact(hL.2 q c' _ hc' (Ya hlt)).R i (h3 q _ v (Ya hlt) hv)
   |loop hs hfl=>
    obtain⟨hF,fn,tmps,dd,h1,h2⟩:=h0;exact⟨notF hF,fn,tmps,dd,h1,hfl.RF i hs h2⟩
  ·obtain⟨b,hb,hn⟩:=qbP hj;obtain⟨b',hb',hn'⟩:=qbP hj';obtain⟨_,y,hy,hB⟩:=(hA.at_ hb hx).resolve_left (λe=>by subst e;cases ho);obtain⟨_,y',hy',hB'⟩:=(hA.at_ hb' hx').resolve_left (λe=>by subst e;cases ho');have:=i.injF b b' rb rb' y y' r hn hn' hy hy' hB.owned hB'.owned (hB.ft hr) (hB'.ft hr');subst this;exact hA.inj hb hb' hx hx' (λe=>by subst e;cases ho) (λe=>by subst e;cases ho')
  ·have:=hA.len;have e:m[j]? =none:=Yg (by omega);simp[nuM,e]
  ·rcases hFS rb h with h|⟨b,x,rc,h1,h2,h3,h4⟩
   ·exact i.ltF rb h
   exact(i.ftF h1 h2 h3 h4).2
  obtain⟨b,_,hn⟩:=qbP hj;exact i.ltN b rb hn
 have st':Stp F0 Base.nu Base.A w0 (FS F nu A S) (nuM m nu) A' w:=by
  refine⟨λb h=> .inl (st.f b h),λb r h=>?_,st.shape,hinv,st.keep,λrb hlt ho=>st.own rb hlt (hown rb ho),st.size,st.os,st.tape,st.output,λb hb=>?_,hlen,λrb h=>?_⟩
  ·have hb:b<Base.A.length\/Base.A.length<=b:=aw _ _;rcases hb with hb|hb
   ·rw[vQ (hkp2 b hb)];exact st.n b r h
   rw[Base.fresh b hb]at h;cases h
  ·rw[vQ (hkp2 b hb)];exact st.old b hb
  rcases hFS rb h with h|h
  ·exact st.newF rb h
  rcases aw rb w0.heap.size with hlt|hge
  ·exact .inr (.inr (st.own rb hlt h))
  exact .inr (.inl hge)
 refine⟨FS F nu A S,nuM m nu,st',hf.RF i hl hfr,⟨λd hd2=>?_,hd.apart⟩⟩
 ·obtain⟨r,h1,h2,h3,h4,h5⟩:=hd.each d hd2;refine⟨r,h1,h2,h3,λho=>h4 (hown r ho),λhF=>?_⟩;rcases hFS r hF with h|h
  ·exact h5 h
  exact h4 h
end
def Ua [Base]{P:Program}{c:Code}{s:St}{Q:XA->St->Prop}(I:Nat->St->Prop) (hstep:∀m s,I m s->Goes P c s (andThen (λs'=>∃m' s'',m'<m/\Sub s' s''/\I m' s'') Q)) {m:Nat}(h0:I m s):Goes P (.loop c) s Q:=by
 have key:∀m s,(∃s',Sub s s'/\I m s')->Goes P c s (andThen (λs'=>∃m',m'<m/\∃s'',Sub s' s''/\I m' s'') Q):=by
  rintro m s ⟨s',hs,hI⟩;refine Goes.sub hs ((hstep m s' hI).imp λx t ht=>?_)
  cases x with
  |normal=>
   obtain⟨m',s'',h1,h2,h3⟩:=ht;exact⟨m',h1,s'',h2,h3⟩
  |exit id=>exact ht
  |ret=>exact ht
 exact Goes.loop (λm s=>∃s',Sub s s'/\I m s') key ⟨s,.refl s,h0⟩
def Goes.ifB [Base]{P:Program}{c1 c2:Code}{s:St}{Q:XA->St->Prop}{co:Operand}{b:Bool}(hv:yj s.1 co= .bool b) (ht:b=true->Goes P c1 s Q) (hf:b=false->Goes P c2 s Q):Goes P (.cond co c1 c2) s Q:=Goes.cond hv ht hf
def qay [Base] (P:Program) (id:Nat) (ops:Array Oper) (draw:Bool) (s s':St):Prop:= ∀Q:XA->St->Prop,Q .normal s'->Goes P (.region id ops draw) s Q
def Goes.cut [Base]{P:Program}{id:Nat}{ops:Array Oper}{draw:Bool}{s s':St}{Q:XA->St->Prop}(h:qay P id ops draw s s') (hq:Q .normal s'):Goes P (.region id ops draw) s Q:=h Q hq
def qr4 [Base] (P:Program) (id:Nat) (ops:Array Oper) (draw:Bool) (s s':St):Prop:= ∀Q:XA->St->Prop,(∀t,Sub t s'->Q .normal t)->Goes P (.region id ops draw) s Q
def Goes.cutS [Base]{P:Program}{id:Nat}{ops:Array Oper}{draw:Bool}{s s':St}{Q:XA->St->Prop}(h:qr4 P id ops draw s s') (hq:∀t,Sub t s'->Q .normal t):Goes P (.region id ops draw) s Q:=h Q hq
def qay.sub [Base]{P:Program}{id:Nat}{ops:Array Oper}{draw:Bool}{s t s':St}(h:qay P id ops draw s t) (hs:Sub t s'):qr4 P id ops draw s s':=λQ hq=>h Q (hq t hs)
def qay.reg [Base]{P:Program}{id:Nat}{ops:Array Oper}{draw:Bool}{s:St}(hm:P.follows .mixedOrders=true) (orc:List (Nat×Orc)) (live:List Tmp) {fr':Fr}{A':Heap}{obls:List Obl}(h:qig P ops draw orc live s=some (fr',A',obls)) (ho:qdL P obls):qay P id ops draw s (fr',A'):=λ_ hq=>Goes.reg hm orc live h ho hq
def Sub.keep [Base]{n:Nat}{l l':List (Nat×AV)}{A:Heap}(ks:List Nat) (hl:asc l=true) (h:l.filter (λp=>ks.contains p.1)=l'):Sub (ofG n l,A) (ofG n l',A):=by
 intro F0 w0 F nu a w st hfr hd;refine⟨F,nu,st,⟨hfr.size,λt v hv=>?_,λt ht=>?_⟩,hd⟩
 ·have h0:=hfr.at_ t v hv
  have hlt:t<n:=by
   have:=(YB.1 hv).1;have h1:=hfr.size;simp only[ofG,Fr.n]at h1;omega
  simp only[ofG,Up,ae hlt]at h0⊢;rcases qkM (g:=λ_=>AV.undef) (l:=l') (t:=t)with e|⟨a',ha',e⟩
  ·rw[e];exact .undef v
  rw[e];rw[<-h]at ha';have hm:=(fZ.1 ha').1;rw[qmM hl hm]at h0;exact h0
 simp only[ofG,Fr.n]at ht;simp only[ofG,Up,aa (show¬t<n by omega)]
def Wk (a b:AV):Prop:= ∀(F:Nat->Prop) (nu:Nat->Option Nat) (w:World) (v:Value),R F nu w a v->R F nu w b v
def Wk.refl (a:AV):Wk a a:=λ_ _ _ _ h=>h
def Wk.nil:Wk .nilslice (.fslice 0 []):=by intro F nu w v h;cases h;exact .fslice0 _ _
def WkL (AZ bs:List AV):Prop:=AZ.length=bs.length/\∀(j:Nat) (a b:AV),AZ[j]? =some a->bs[j]? =some b->Wk a b
def WkL.nil:WkL [] []:=⟨rfl,by simp⟩
def WkL.cons {a b:AV}{AZ bs:List AV}(h:Wk a b) (hs:WkL AZ bs):WkL (a::AZ) (b::bs):=by
 refine⟨by simp[hs.1],λj x y hx hy=>?_⟩
 cases j with
 |zero=>simp at hx hy;subst hx hy;exact h
 |succ j=>exact hs.2 j x y (by simpa using hx) (by simpa using hy)
def WkL.list {AZ bs:List AV}(h:WkL AZ bs) {F:Nat->Prop}{nu:Nat->Option Nat}{w:World}{vs:Array Value}(hl:vs.size=AZ.length) (hR:∀(i:Nat) (a:AV) (v:Value),AZ[i]? =some a->vs[i]? =some v->R F nu w a v):
 vs.size=bs.length/\∀(i:Nat) (b:AV) (v:Value),bs[i]? =some b->vs[i]? =some v->R F nu w b v:=by
 refine⟨by rw[hl,h.1],λj b v hb hv=>?_⟩;have hlt:=(Yb.1 hb).1;rw[<-h.1]at hlt;exact h.2 j _ b (Ya hlt) hb F nu w v (hR j _ v (Ya hlt) hv)
def Wk.tuple {AZ bs:List AV}(h:WkL AZ bs):Wk (.tuple AZ) (.tuple bs):=by
 intro F nu w v hv
 cases hv with
 |tuple _ vs hl hR=>obtain⟨h1,h2⟩:=h.list hl hR;exact .tuple _ vs h1 h2
def Wk.agg {AZ bs:List AV}(h:WkL AZ bs):Wk (.agg AZ) (.agg bs):=by
 intro F nu w v hv
 cases hv with
 |agg _ vs hl hR=>obtain⟨h1,h2⟩:=h.list hl hR;exact .agg _ vs h1 h2
def qc.wk {P:Program}{f:FuncId}{al bl:List AV}{v:AV}(h:qc P (.fn f) bl [] v []) (hw:WkL al bl):qc P (.fn f) al [] v []:=
 λF nu w vs i hargs=>h F nu w vs i (hw.list hargs.1 hargs.2)
def qQ (P:Program) (rs:List ResultVar) (v:AV):XA->St->Prop
 | .exit _,_=>False
 |_,s=>∃xs v0,zU P s.1 s.2 rs=some xs/\frz s.2 (List.range s.2.length) 12 (qg9 xs)=some v0/\Wk v0 v
def Goes.fnW {P:Program}{c:Code}{f:FuncId}{fn:Func}{args:List AV}{v:AV}{m:Nat}{l:List (Nat×AV)}{rs:List ResultVar}(hf:P.funcs[f]? =some fn) (hn:(fn.name== "runtime.NumGoroutine")=false) (hb:fn.body=some c) (hm:args.length+(fn.ntmps-args.length)=m) (hr:fn.results.toList=rs)
 (hl:frFn m args=ofG m l) (h:Goes P c (ofG m l,[]) (qQ P rs v)):qc P (.fn f) args [] v []:=by
 intro F nu w vs i hargs
 have hnu:nu=λ_=>none:=funext λb=>i.fresh b (aD _)
 subst hnu;subst hr;rw[<-hl]at h;refine .inl ⟨⟨fn,hf,hn,by rw[hb];rfl⟩,?_⟩;refine(callsIn_wide (n:=0)).1 ?_;refine callsIn_of_wp_marks hf hb trivial ?_;refine h F w 0 F (λ_=>none) _ w (.refl i) (RF.frFn hm hargs) .nil _ (λx s' F' nu' a' w' q st hfr hd=>?_);have post:∀xs v0,zU P s'.1 s'.2 fn.results.toList=some xs->frz s'.2 (List.range s'.2.length) 12 (qg9 xs)=some v0->Wk v0 v->
  LeavesInM (fz none) 0 P fn a'.tmps (λe w'=>∃x F' nu',e= .returned x/\Stp F (λ_=>none) [] w F' nu' [] w'/\R F' nu' w' v x) a'.defers .returning w':=by
  intro xs v0 hrs hv hw;refine qhU hrs a'.defers st hfr hd (λF2 nu2 w2 y st2 hR=>?_);exact⟨y,_,_,rfl,st2.hand,hw _ _ _ _ (qh3 st2.inv 12 hv hR)⟩
 cases x with
 |normal=>obtain⟨xs,v0,h1,h2,h3⟩:=q;exact post xs v0 h1 h2 h3
 |ret=>obtain⟨xs,v0,h1,h2,h3⟩:=q;exact post xs v0 h1 h2 h3
 |exit k=>exact q.elim
def FzW (A:Heap) (S:List Nat) (d:Nat) (a b:AV):Prop:= ∃a0,frz A S d a=some a0/\Wk a0 b
def qZ (A:Heap) (S:List Nat) (d:Nat) (AZ bs:List AV):Prop:= ∃l,AZ.mapM (frz A S d)=some l/\WkL l bs
section
variable {A:Heap}{S:List Nat}{d:Nat}
def FzW.of {a b:AV}(h:frz A S d a=some b):FzW A S d a b:=⟨b,h,Wk.refl b⟩
def FzW.nil:FzW A S (d+1) .nilslice (.fslice 0 []):=⟨_,rfl,Wk.nil⟩
def qZ.nil:qZ A S d [] []:=⟨[],rfl,WkL.nil⟩
def qZ.cons {a b:AV}{AZ bs:List AV}(h:FzW A S d a b) (hs:qZ A S d AZ bs):qZ A S d (a::AZ) (b::bs):=by
 obtain⟨x,h1,h2⟩:=h;obtain⟨l,g1,g2⟩:=hs;exact⟨x::l,by rw[cA,h1,g1];rfl,WkL.cons h2 g2⟩
def FzW.tuple {AZ bs:List AV}(h:qZ A S d AZ bs):FzW A S (d+1) (.tuple AZ) (.tuple bs):=by
 obtain⟨l,g1,g2⟩:=h;exact⟨.tuple l,by simp only[frz,g1,ZM],Wk.tuple g2⟩
def FzW.agg {AZ bs:List AV}(h:qZ A S d AZ bs):FzW A S (d+1) (.agg AZ) (.agg bs):=by
 obtain⟨l,g1,g2⟩:=h;exact⟨.agg l,by simp only[frz,g1,ZM],Wk.agg g2⟩
end
def Goes.retW {P:Program}{s:St}{rs:List ResultVar}{xs:List AV}{v:AV}(hx:zU P s.1 s.2 rs=some xs) (hf:FzW s.2 (List.range s.2.length) 12 (qg9 xs) v):qQ P rs v .ret s:=by
 obtain⟨v0,h1,h2⟩:=hf;exact⟨xs,v0,hx,h1,h2⟩
end
section
variable [Glob]
open Go.RowKit
abbrev Str:=List UInt8
structure Enc (α:Type) where
 c:α->List AV
 k:Nat
 dep:Nat
 len:∀x,(c x).length=k
 pos:0<k
 cell:∀x,∀a∈c x,zX a=true
 still:∀x d,dep<=d->∀a∈c x,Still d a
 noRef:∀x,qdf (c x)
 refs:∀x d,∀a∈c x,yH d a=[]
def one {α:Type}(f:α->AV) (dep:Nat) (h1:∀x,zX (f x)=true) (h2:∀x d,dep<=d->Still d (f x)) (h3:∀x,qN (f x)) (h4:∀x d,yH d (f x)=[]):Enc α where
 c x:=[f x]
 k:=1
 dep:=dep
 len _:=rfl
 pos:=Nat.one_pos
 cell x a h:=by simp at h;subst h;exact h1 x
 still x d hd a h:=by simp at h;subst h;exact h2 x d hd
 noRef x a h:=by simp at h;subst h;exact h3 x
 refs x d a h:=by simp at h;subst h;exact h4 x d
def qcv (q:IntKind):Enc Int:=one (.int q) 1 (λ_=>rfl) (λx d hd=>by obtain⟨d,rfl⟩:=cL hd;exact Still.int d q x) (λ_=>qN.int _ _) (λ_ d=>by cases d<;>rfl)
def encI:Enc Int:=qcv .i64
def encB:Enc Bool:=one .bool 1 (λ_=>rfl) (λx d hd=>by obtain⟨d,rfl⟩:=cL hd;exact Still.bool d x) (λ_=>qN.bool _) (λ_ d=>by cases d<;>rfl)
def encS:Enc Str:=one .str 1 (λ_=>rfl) (λx d hd=>by obtain⟨d,rfl⟩:=cL hd;exact Still.str d x) (λ_=>qN.str _) (λ_ d=>by cases d<;>rfl)
variable {α β:Type}
def vl (E:Enc α) (l:List α):AV:= .fslice l.length (l.flatMap E.c)
def Enc.flat_len (E:Enc α) (l:List α):(l.flatMap E.c).length=l.length*E.k:=by
 induction l with
 |nil=>simp
 |cons x l ih=>simp only[bL,Yq,E.len,ih,Yr];rw[Nat.add_mul,cy,Nat.add_comm]
def Enc.flat_mem (E:Enc α) {l:List α}{a:AV}(h:a∈l.flatMap E.c):∃x,x∈l/\a∈E.c x:=by simpa using h
def Enc.flat_cell (E:Enc α) (l:List α):(l.flatMap E.c).all zX=true:=Yp.2 λa h=>by obtain⟨x,_,h⟩:=E.flat_mem h;exact E.cell x a h
def Enc.flat_allN (E:Enc α) (l:List α):qdf (l.flatMap E.c):=λa h=>by obtain⟨x,_,h⟩:=E.flat_mem h;exact E.noRef x a h
def Enc.flat_still (E:Enc α) (l:List α) {d:Nat}(hd:E.dep<=d):∀a∈l.flatMap E.c,Still d a:=λa h=>by obtain⟨x,_,h⟩:=E.flat_mem h;exact E.still x d hd a h
def yI (E:Enc α) (l:List α) {d:Nat}(hd:E.dep+1<=d):Still d (vl E l):=by
 obtain⟨d,rfl⟩:=cL (show 1<=d by omega);exact Still.fslice (E.flat_still l (by omega))
def kr (E:Enc α) (l:List α):qN (vl E l):=qN.fslice (E.flat_allN l)
def qbo (E:Enc α):Enc (List α):=one (vl E) (E.dep+1) (λ_=>rfl) (λx d hd=>yI E x hd) (λx=>kr E x) (λ_ d=>by cases d<;>rfl)
def Enc.prod (E:Enc α) (G:Enc β):Enc (α×β) where
 c p:=E.c p.1++G.c p.2
 k:=E.k+G.k
 dep:=max E.dep G.dep
 len p:=by simp[E.len,G.len]
 pos:=by have:=E.pos;omega
 cell p a h:=by rcases cG.1 h with h|h;exact E.cell _ a h;exact G.cell _ a h
 still p d hd a h:=by rcases cG.1 h with h|h;exact E.still _ d (by omega) a h;exact G.still _ d (by omega) a h
 noRef p:=(E.noRef _).append (G.noRef _)
 refs p d a h:=by rcases cG.1 h with h|h;exact E.refs _ d a h;exact G.refs _ d a h
def Enc.comap (E:Enc β) (f:α->β):Enc α where
 c x:=E.c (f x)
 k:=E.k
 dep:=E.dep
 len _:=E.len _
 pos:=E.pos
 cell _:=E.cell _
 still _:=E.still _
 noRef _:=E.noRef _
 refs _:=E.refs _
def flat_get (E:Enc α):∀{l:List α}{i:Nat}{x:α},l[i]? =some x->∀{off:Nat},off<E.k->(l.flatMap E.c)[i*E.k+off]? =(E.c x)[off]? :=by
 intro l
 induction l with
 |nil=>intro i x h;simp at h
 |cons y l ih=>
  intro i x h off ho;rw[bL]
  cases i with
  |zero=>
   simp at h;subst h;rw[bC,aG,Yf (by rw[E.len];exact ho)]
  |succ i=>
   have h:l[i]? =some x:=by simpa using h
   have e:(i+1)*E.k+off=E.k+(i*E.k+off):=by rw[Nat.add_mul,cy];omega
   rw[Yo (by rw[E.len,e];omega),E.len,e,eA];exact ih h ho
def qcG (E:Enc α):∀(l:List α) (n:Nat),(l.flatMap E.c).take (n*E.k)=(l.take n).flatMap E.c:=by
 intro l
 induction l with
 |nil=>intro n;simp
 |cons y l ih=>
  intro n
  cases n with
  |zero=>simp
  |succ n=>
   rw[bL,dQ,bL,fM,E.len,ar (by rw[E.len,Nat.add_mul];omega)];rw[show(n+1)*E.k-E.k=n*E.k by rw[Nat.add_mul];omega,ih]
def qf4 (E:Enc α):∀(l:List α) (n:Nat),(l.flatMap E.c).drop (n*E.k)=(l.drop n).flatMap E.c:=by
 intro l
 induction l with
 |nil=>intro n;simp
 |cons y l ih=>
  intro n
  cases n with
  |zero=>simp
  |succ n=>
   rw[bL,dR,dI,E.len,aB (by rw[E.len,Nat.add_mul];omega),bp];rw[show(n+1)*E.k-E.k=n*E.k by rw[Nat.add_mul];omega,ih]
def qkx (E:Enc α) {l:List α}{i:Nat}{x:α}(h:l[i]? =some x):((l.flatMap E.c).drop (i*E.k)).take E.k=E.c x:=by
 rw[qf4];have hlt:=(Yb.1 h).1;rw[YG hlt,bL,fM,E.len,cd,bj,YQ,ar (by rw[E.len];exact ai _)];rw[Ya hlt]at h;injection h with h;rw[h]
def idx (l:List α) (i:Int):Option α:=if 0<=i then l[i.toNat]? else none
def cut (l:List α) (lo hi:Int):Option (List α):=if 0<=lo/\lo<=hi/\hi<=l.length then some ((l.drop lo.toNat).take (hi.toNat-lo.toNat))else none
def cat (a b:Str):Option Str:=if a.length+b.length<=9223372036854775807 then some (a++b)else none
def app (bytes:Nat) (l xs:List α):Option (List α):=if(l.length+xs.length)*bytes<=140737488355328/\l.length+xs.length<=140737488355328 then some (l++xs)else none
def put (l:List α) (i:Int) (x:α):Option (List α):=if 0<=i/\i<l.length then some (l.set i.toNat x)else none
abbrev w64 (n:Int):Int:=IntKind.wrap .i64 n
def qaj {l:List α}{i:Int}{x:α}(h:idx l i=some x):0<=i/\i<l.length/\l[i.toNat]? =some x:=by
 unfold idx at h;split at h
 ·rename_i h0;have:=(Yb.1 h).1;exact⟨h0,by omega,h⟩
 cases h
def qpU {a b c:Str}(h:cat a b=some c):a.length+b.length<=9223372036854775807/\c=a++b:=by
 unfold cat at h;split at h
 ·rename_i h0;injection h with h;exact⟨h0,h.symm⟩
 cases h
structure SlT (P:Program) (t e:TypeId) (k b:Nat):Prop where
 und:P.underlying t=some (.slice e)
 size:(P.info? e).map (·.size)=some k
 bytes:(P.info? e).map (·.bytes)=some b
 zero:((P.info? e).bind (·.zero)).map (·.cells.size)=some k
def SlT.info {P:Program}{t e:TypeId}{k b:Nat}(h:SlT P t e k b):∃i z,P.info? e=some i/\i.size=k/\i.bytes=b/\i.zero=some z/\z.cells.size=k:=by
 have h1:=h.size;have h2:=h.bytes;have h3:=h.zero
 cases hi:P.info? e with
 |none=>rw[hi]at h1;cases h1
 |some i=>
  rw[hi]at h1 h2 h3;simp only[ZM,ZI,ZB]at h1 h2 h3
  cases hz:i.zero with
  |none=>rw[hz]at h3;cases h3
  |some z=>
   rw[hz]at h3;simp only[ZM,ZI]at h3;exact⟨i,z,rfl,h1,h2,hz,h3⟩
variable {P:Program}
def ix_vl {t e:TypeId}{k b:Nat}{E:Enc α}(T:SlT P t e k b) (hk:E.k=k) {l:List α}{i:Int}{x:α}{q:IntKind}(h:idx l i=some x):(Obl.done (.opt (jb P t (vl E l) (.int q i))) (.fptr (l.flatMap E.c) (i.toNat*k))).Holds P:=by
 obtain⟨inf,z,h1,h2,_⟩:=T.info;obtain⟨g1,g2,_⟩:=qaj h;subst h2;show Pg.opt _=_;simp only[jb,T.und,h1,vl,g1,g2,cH,aT,Pg.opt]
def ix_gs {t e:TypeId}{k b:Nat}(T:SlT P t e k b) {l:List α}{i:Int}{x:α}{q:IntKind}{o:Nat}(h:idx l i=some x):(Obl.done (.opt (jb P t (.gslice o l.length k) (.int q i))) (.ptr o (i.toNat*k+0))).Holds P:=by
 obtain⟨inf,z,h1,h2,_⟩:=T.info;obtain⟨g1,g2,_⟩:=qaj h;subst h2;show Pg.opt _=_;simp only[jb,T.und,h1,g1,g2,cH,aT,Pg.opt,bz]
structure CeT (P:Program) (t:TypeId):Prop where
 und:(P.underlying t).map qjY=some false
 inf:(P.info? t).isSome=true
structure AgT (P:Program) (t:TypeId) (k:Nat):Prop where
 und:(P.underlying t).map qjY=some true
 inf:(P.info? t).map (·.size)=some k
def CeT.load {t:TypeId}(T:CeT P t) (p:AV):qa1 P t p=yT p 1 λcs=>match cs with|[c]=> .done c|_=> .fail:=by
 have h1:=T.und;have h2:=T.inf;unfold qa1
 cases hu:P.underlying t with
 |none=>rw[hu]at h1;cases h1
 |some d=>
  rw[hu]at h1;simp only[ZM,ZI]at h1
  cases hi:P.info? t with
  |none=>rw[hi]at h2;cases h2
  |some i=>simp only[h1,ZF,bh];rfl
def AgT.load {t:TypeId}{k:Nat}(T:AgT P t k) (p:AV):qa1 P t p=yT p k λcs=> .done (.agg cs):=by
 have h1:=T.und;have h2:=T.inf;unfold qa1
 cases hu:P.underlying t with
 |none=>rw[hu]at h1;cases h1
 |some d=>
  rw[hu]at h1;simp only[ZM,ZI]at h1
  cases hi:P.info? t with
  |none=>rw[hi]at h2;cases h2
  |some i=>
   rw[hi]at h2;simp only[ZM,ZI]at h2;simp only[h1,aT,h2]
def qkv {cs:List AV}{o:Nat}{c:AV}(h:cs[o]? =some c):(cs.drop o).take 1=[c]/\o+1<=cs.length:=by
 have hlt:=(Yb.1 h).1;refine⟨?_,hlt⟩;rw[YG hlt,dQ,bj];rw[Ya hlt]at h;injection h with h;rw[h]
def ld_vl {t:TypeId}(T:CeT P t) {E:Enc α}{k:Nat}(hk:E.k=k) {l:List α}{i:Int}{x:α}(h:idx l i=some x) {off:Nat}{c:AV}(ho:off<k) (hc:(E.c x)[off]? =some c):(Obl.done (qa1 P t (.fptr (l.flatMap E.c) (i.toNat*k+off))) c).Holds P:=by
 subst hk;obtain⟨_,_,g3⟩:=qaj h;have:=flat_get E g3 ho;rw[hc]at this;obtain⟨h1,h2⟩:=qkv this;show qa1 _ _ _=_;rw[T.load];simp only[yT,ae h2,h1]
def ld_ag {t:TypeId}{k:Nat}(T:AgT P t k) {E:Enc α}(hk:E.k=k) {l:List α}{i:Int}{x:α}(h:idx l i=some x):(Obl.done (qa1 P t (.fptr (l.flatMap E.c) (i.toNat*k))) (.agg (E.c x))).Holds P:=by
 subst hk;obtain⟨_,g2,g3⟩:=qaj h;show qa1 _ _ _=_;rw[T.load];have hlt:=(Yb.1 g3).1
 have h2:i.toNat*E.k+E.k<=(l.flatMap E.c).length:=by
  rw[E.flat_len];have:=aW E.k hlt;rw[fC]at this;exact this
 simp only[yT,ae h2,qkx E g3]
def qqU {t:TypeId}(T:P.underlying t=some .string) {s:Str}{i:Int}{c:UInt8}{q:IntKind}(h:idx s i=some c):(Obl.done (.opt (qfQ P t (.str s) (.int q i))) (.int .u8 c.toNat)).Holds P:=by
 obtain⟨g1,g2,g3⟩:=qaj h;show Pg.opt _=_;simp only[qfQ,T,ae g1,g3,Pg.opt]
def qsh {t:TypeId}{ox oy:Operand}{a b c:Str}(h:cat a b=some c):(Obl.done (.opt (qbI P .add t ox oy (.str a) (.str b))) (.str c)).Holds P:=by
 obtain⟨h1,rfl⟩:=qpU h;show Pg.opt _=_;simp only[qbI,qjm,ae h1,Pg.opt]
def opI:Option Int->Option AV
 |none=>none
 |some n=>some (.int .i64 n)
def qdI {n:Nat}{lo hi:Option Int}{l h:Int}(hl:l=lo.getD 0) (hh:h=hi.getD n) (hc:0<=l/\l<=h/\h<=n):qaW (opI lo) (opI hi) none n n=some (l.toNat,h.toNat,n):=by
 obtain⟨h1,h2,h3⟩:=hc
 have e1:vY (opI hi) n n=some h.toNat:=by
  cases hi with
  |none=>simp only[opI,vY,bV]at hh⊢;rw[hh];simp
  |some v=>simp only[opI,vY,YN]at hh⊢;subst hh;rw[ae ⟨by omega,h3⟩]
 have e2:vY (opI lo) 0 h.toNat=some l.toNat:=by
  cases lo with
  |none=>simp only[opI,vY,bV]at hl⊢;rw[hl];simp
  |some v=>simp only[opI,vY,YN]at hl⊢;subst hl;rw[ae ⟨h1,by omega⟩]
 have e0:vY none n n=some n:=rfl;simp only[qaW,be,ZF,false_and,bh,e0,e1,e2]
def qcV {l:List α}{lo hi:Int}{r:List α}(h:cut l lo hi=some r):(0<=lo/\lo<=hi/\hi<=l.length)/\r=(l.drop lo.toNat).take (hi.toNat-lo.toNat):=by
 unfold cut at h;split at h
 ·rename_i h0;injection h with h;exact⟨h0,h.symm⟩
 cases h
def quk {t:TypeId}(T:P.underlying t=some .string) {s r:Str}(lo hi:Option Int) (h:cut s (lo.getD 0) (hi.getD s.length)=some r):(Obl.done (.opt (zV P t (.str s) (opI lo) (opI hi) none)) (.str r)).Holds P:=by
 obtain⟨h1,rfl⟩:=qcV h;have hb:=qdI (lo:=lo) (hi:=hi) rfl rfl h1;show Pg.opt _=_;simp only[zV,T,be,ZF,bh,hb,Pg.opt]
def vl_sl {t e:TypeId}{k b:Nat}(T:SlT P t e k b) {E:Enc α}(hk:E.k=k) {l r:List α}(lo hi:Option Int) (h:cut l (lo.getD 0) (hi.getD l.length)=some r):(Obl.done (.opt (zV P t (vl E l) (opI lo) (opI hi) none)) (vl E r)).Holds P:=by
 obtain⟨inf,z,g1,g2,_⟩:=T.info;obtain⟨h1,rfl⟩:=qcV h;have hb:=qdI (lo:=lo) (hi:=hi) rfl rfl h1;show Pg.opt _=_
 have hlen:(l.flatMap E.c).length=l.length*inf.size:=by rw[E.flat_len,hk,g2]
 have e1:(((l.drop (lo.getD 0).toNat).take ((hi.getD l.length).toNat-(lo.getD 0).toNat)).length)=(hi.getD l.length).toNat-(lo.getD 0).toNat:=by
  rw[Ym,YJ];omega
 simp only[zV,T.und,g1,vl,be,ZF,bh,hb,ae hlen,Pg.opt];rw[e1,g2,<-hk,qf4,qcG]
def quu {t e:TypeId}{k b:Nat}(T:SlT P t e k b) {r:List α}(lo hi:Option Int) (h:cut ([]:List α) (lo.getD 0) (hi.getD (([]:List α).length))=some r):(Obl.done (.opt (zV P t .nilslice (opI lo) (opI hi) none)) .nilslice).Holds P:=by
 obtain⟨inf,z,g1,g2,_⟩:=T.info;obtain⟨h1,rfl⟩:=qcV h;have hb:=qdI (lo:=lo) (hi:=hi) rfl rfl h1;show Pg.opt _=_;simp only[aN]at hb;simp only[zV,T.und,g1,hb,Pg.opt]
structure MapT (P:Program) (t kt et:TypeId) (z:AV):Prop where
 und:P.underlying t=some (.map kt et)
 key:P.underlying kt=some .string
 zero:((P.info? et).bind (·.zero)).map (qcz 3)=some z
def qrQ {g:FuncId}{args:List AV}{A:Heap}{v:AV}(ha:∀a∈args,Still 12 a) (hc:qc P (.fn g) args [] v []) (hv:Still 12 v):(Obl.call g args A [] args v).Holds P:=
 ⟨zW ha,hc,hv,.inr rfl⟩
def AllST.nil {d:Nat}:∀a∈([]:List AV),Still d a:=by intro a h;cases h
def AllST.cons {d:Nat}{a:AV}{AZ:List AV}(h:Still d a) (hs:∀a∈AZ,Still d a):∀b∈a::AZ,Still d b:=by
 intro b hb;rcases bT.1 hb with rfl|hb
 ·exact h
 exact hs b hb
def qua {g:FuncId}{args args':List AV}{A:Heap}{S:List Nat}{v:AV}(ha:args.mapM (frz A S 12)=some args') (hc:qc P (.fn g) args' [] v []) (hv:Still 12 v) (hf:flat 6 v=true):(Obl.call g args A S args' v).Holds P:=
 ⟨ha,hc,hv,.inl hf⟩
def qt5 {g:FuncId}{args args':List AV}{A:Heap}{S:List Nat}{v:AV}(ha:args.mapM (frz A S 12)=some args') (hc:qc P (.fn g) args' [] v []) (hv:Still 12 v):(Obl.callF g args A S args' v).Holds P:=
 ⟨ha,hc,hv⟩
def Still.fptr {d:Nat}{cs:List AV}{off:Nat}(h:∀c∈cs,Still d c):Still (d+1) (.fptr cs off):=λA S=>by
 simp only[frz,zW h,ZM]
def Still.func {d:Nat}{fn:Fn}{fs cs:List AV}(h1:∀c∈fs,Still d c) (h2:∀c∈cs,Still d c):Still (d+1) (.func fn fs cs):=λA S=>by
 simp only[frz,zW h1,zW h2]
def qk6 {g:FuncId}{args args':List AV}{A:Heap}{v:AV}(ha:args.mapM (frz A [] 12)=some args') (hc:qc P (.fn g) args' [] v []) (hv:Still 12 v):(Obl.call g args A [] args' v).Holds P:=
 ⟨ha,hc,hv,.inr rfl⟩
def Still.fmap {d:Nat}{ks vs:List AV}(h1:∀c∈ks,Still d c) (h2:∀c∈vs,Still d c):Still (d+1) (.fmap ks vs):=λA S=>by
 simp only[frz,zW h1,zW h2]
def Still.nilfunc (d:Nat):Still (d+1) .nilfunc:=λ_ _=>rfl
def Still.nilptr (d:Nat):Still (d+1) .nilptr:=λ_ _=>rfl
def Still.nilmap (d:Nat):Still (d+1) .nilmap:=λ_ _=>rfl
def Fz (A:Heap) (S:List Nat) (d:Nat) (a a':AV):Prop:=frz A S d a=some a'
def FzL (A:Heap) (S:List Nat) (d:Nat) (cs cs':List AV):Prop:=cs.mapM (frz A S d)=some cs'
section
variable {A:Heap}{S:List Nat}{d:Nat}
def Ul {a:AV}(h:Still d a):Fz A S d a a:=h A S
def FzL.nil:FzL A S d [] []:=rfl
def FzL.cons {a a':AV}{cs cs':List AV}(h:Fz A S d a a') (hs:FzL A S d cs cs'):FzL A S d (a::cs) (a'::cs'):=by
 unfold FzL Fz at*;rw[cA,h,hs];rfl
def Uf {cs:List AV}(h:∀c∈cs,Still d c):FzL A S d cs cs:=zW h
def Uy {E:Enc α}{l:List α}{b:Nat}(hS:S.contains b=true) (hA:A[b]? =some (.cells (l.flatMap E.c))) (hd:E.dep<=d):Fz A S (d+1) (.gslice b l.length E.k) (vl E l):=by
 unfold Fz
 have e:(l.flatMap E.c).take (l.length*E.k)=l.flatMap E.c:=by rw[<-E.flat_len,bW]
 conv=>lhs;unfold frz
 simp only[hS,aT,hA,e,zW (E.flat_still l hd),ZM];rfl
def Fz.sl {E:Enc α}{l:List α}{b cap:Nat}(hS:S.contains b=true) (hA:A[b]? =some (.cells (l.flatMap E.c))) (hd:E.dep<=d):Fz A S (d+1) (.slice b 0 l.length cap E.k) (vl E l):=by
 unfold Fz
 have e:(l.flatMap E.c).take (l.length*E.k)=l.flatMap E.c:=by rw[<-E.flat_len,bW]
 conv=>lhs;unfold frz
 simp only[hS,aT,hA,YR,e,zW (E.flat_still l hd),ZM];rfl
def Fz.lit {b n cap k:Nat}{cs cs':List AV}(hS:S.contains b=true) (hA:A[b]? =some (.cells cs)) (h:FzL A S d (cs.take (n*k)) cs'):Fz A S (d+1) (.slice b 0 n cap k) (.fslice n cs'):=by
 unfold Fz FzL at*
 conv=>lhs;unfold frz
 simp only[hS,aT,hA,YR,h,ZM]
def Fz.osF {E:Enc α}{l:List α}{b:Nat}(hS:S.contains b=true) (hA:A[b]? =some (.frozen (l.flatMap E.c))) (hd:E.dep<=d):Fz A S (d+1) (.oslice b l.length E.k) (vl E l):=by
 unfold Fz
 have e:(l.flatMap E.c).take (l.length*E.k)=l.flatMap E.c:=by rw[<-E.flat_len,bW]
 conv=>lhs;unfold frz
 simp only[hS,aT,hA,e,zW (E.flat_still l hd),ZM];rfl
def Fz.litF {b n cap k:Nat}{cs cs':List AV}(hS:S.contains b=true) (hA:A[b]? =some (.frozen cs)) (h:FzL A S d (cs.take (n*k)) cs'):Fz A S (d+1) (.slice b 0 n cap k) (.fslice n cs'):=by
 unfold Fz FzL at*
 conv=>lhs;unfold frz
 simp only[hS,aT,hA,YR,h,ZM]
def Fz.func {fn:Fn}{fs fs' cs cs':List AV}(h1:FzL A S d fs fs') (h2:FzL A S d cs cs'):Fz A S (d+1) (.func fn fs cs) (.func fn fs' cs'):=by
 unfold Fz FzL at*;simp only[frz,h1,h2]
end
def qdZ {b:Nat}{l xs r:List α}(h:app b l xs=some r):(l.length+xs.length)*b<=140737488355328/\l.length+xs.length<=140737488355328/\r=l++xs:=by
 unfold app at h;split at h
 ·rename_i h0;injection h with h;exact⟨h0.1,h0.2,h.symm⟩
 cases h
def SlT.append {t e:TypeId}{k b:Nat}(T:SlT P t e k b) (hk:0<k) (X Y:AV) (hY:∀s,Y≠ .str s):yo P [t,t] X Y=qW k Y λn news=>xk k b X n news:=by
 obtain⟨inf,z,h1,h2,h3,h4,h5⟩:=T.info;subst h2 h3;simp only[yo,T.und,h1,h4,h5,hk,cH,aT]
def qda {A:Heap}{b:Nat}{x:Blk}(h:A[b]? =some x):b<A.length:=(Yb.1 h).1
section
variable {S:List Nat}{lo b:Nat}{A:Heap}{f:zx}
def qbd {k:Blk->Pg}{x:Blk}(hS:S.contains b=true) (hx:A[b]? =some x):qam S lo (.get b k) A f=qam S lo (k x) A ((b,false)::f):=by
 show z8 (S.contains b||Nat.ble lo b) (ob (hget A b) λx=>qam S lo (k x) A ((b,false)::f)) none=_;rw[hS,qiD,hx];rfl
def qd0 {k:Pg}{x:Blk}(hS:S.contains b=true) (hb:b<A.length):qam S lo (.set b x k) A f=qam S lo k (A.set b x) ((b,true)::f):=by
 show z8 (S.contains b||Nat.ble lo b) (z8 (Nat.blt b (hlen A)) (qam S lo k (hset A b x) ((b,true)::f)) none) none=_;rw[hS,yw,qiy,show Nat.blt b A.length=true from bD hb];rfl
def qgJ {k:Nat->Pg}{x:Blk}:qam S lo (.new x k) A f=qam S lo (k A.length) (A++[x]) f:=by
 show qam S lo (k (hlen A)) (happ A x) f=_;rw[yw,qiz]
def qe8 {v:AV}:qam S lo (.done v) A f=some (v,A,f):=rfl
end
structure qj4 (E:Enc α) (k:Nat) (S:List Nat) (A:Heap) (Y:AV) (ys:List α):Prop where
 ns:∀s,Y≠ .str s
 run:∀(K:Nat->List AV->Pg) (lo:Nat) (f:zx),∃f',qam S lo (qW k Y K) A f=qam S lo (K ys.length (ys.flatMap E.c)) A f'
def qme (E:Enc α) (k b:Nat) (S:List Nat) (A:Heap) (X:AV) (ys:List α) (V:AV) (A':Heap):Prop:=
 ∀(f:zx),∃f',qam S A.length (xk k b X ys.length (ys.flatMap E.c)) A f=some (V,A',f')/\f'.any (·.2)=true
def qse {t e:TypeId}{k b:Nat}(T:SlT P t e k b) {E:Enc α}(hk:E.k=k) {S:List Nat}{A A':Heap}{X Y V:AV}{ys:List α}(hs:qj4 E k S A Y ys) (hd:qme E k b S A X ys V A'):(Obl.run S (yo P [t,t] X Y) A V A' true).Holds P:=by
 rw[Obl.Holds,T.append (hk▸E.pos) _ _ hs.ns];obtain⟨f1,h1⟩:=hs.run (λn news=>xk k b X n news) A.length [];obtain⟨f2,h2,h3⟩:=hd f1;exact⟨f2,h1.trans h2,h3⟩
section
variable {E:Enc α}{k b:Nat}{S:List Nat}{A A':Heap}
def qg2 (E:Enc α) (l:List α):(l.flatMap E.c).take (l.length*E.k)=l.flatMap E.c:=by rw[<-E.flat_len,bW]
def src_v (hk:E.k=k) (ys:List α):qj4 E k S A (vl E ys) ys:=by
 refine⟨(by intro s h;cases h),λK lo f=>⟨f,?_⟩⟩
 have:(ys.flatMap E.c).length=ys.length*k:=by rw[E.flat_len,hk]
 simp only[vl,qW,this,E.flat_cell ys,cH,aT]
def qtB (hk:E.k=k) {q n:Nat}{ys:List α}(hq:A[q]? =some (.cells (ys.flatMap E.c))) (hS:S.contains q=true) (hn:n=ys.length):qj4 E k S A (.slice q 0 n n k) ys:=by
 subst hk hn;refine⟨(by intro s h;cases h),λK lo f=>⟨(q,false)::f,?_⟩⟩
 have e1:(0+ys.length*E.k<=(ys.flatMap E.c).length):=by rw[E.flat_len];omega
 simp only[qW,qaH];rw[qbd hS hq];simp only[vI,ae e1,YR,qg2,E.flat_cell ys,aT]
def dst_g (hk:E.k=k) {o:Nat}{l ys r:List α}(hb:A[o]? =some (.cells (l.flatMap E.c))) (hS:S.contains o=true) (h:app b l ys=some r) (hA:A'=A.set o .dead++[.cells (r.flatMap E.c)]):qme E k b S A (.gslice o l.length k) ys (.gslice A.length r.length k) A':=by
 obtain⟨h1,h2,rfl⟩:=qdZ h;subst hk hA;intro f
 have e2:l.length*E.k<=(l.flatMap E.c).length:=by rw[E.flat_len];exact ai _
 have e4:(l++ys).flatMap E.c=l.flatMap E.c++ys.flatMap E.c:=List.flatMap_append;refine⟨(o,true)::(o,false)::f,?_,by simp⟩;simp only[xk];rw[qbd hS hb];simp only[e2,h1,h2,cH,aT];rw[qd0 hS (qda hb),qgJ,qe8,qg2,e4,Yk,Yq]
def dst_o (hk:E.k=k) {o:Nat}{l ys r:List α}(hb:A[o]? =some (.cells (l.flatMap E.c))) (hS:S.contains o=true) (h:app b l ys=some r) (hA:A'=A.set o .dead++[.cells (r.flatMap E.c)]):qme E k b S A (.oslice o l.length k) ys (.oslice A.length r.length k) A':=by
 obtain⟨h1,h2,rfl⟩:=qdZ h;subst hk hA;intro f
 have e2:l.length*E.k<=(l.flatMap E.c).length:=by rw[E.flat_len];exact ai _
 have e4:(l++ys).flatMap E.c=l.flatMap E.c++ys.flatMap E.c:=List.flatMap_append;refine⟨(o,true)::(o,false)::f,?_,by simp⟩;simp only[xk];rw[qbd hS hb];simp only[e2,h1,h2,cH,aT];rw[qd0 hS (qda hb),qgJ,qe8,qg2,e4,Yk,Yq]
def dst_z (hk:E.k=k) {o:Nat}{ys r:List α}{cs:List AV}(hb:A[o]? =some (.cells cs)) (hS:S.contains o=true) (h:app b ([]:List α) ys=some r) (hA:A'=A.set o .dead++[.cells (r.flatMap E.c)]):qme E k b S A (.slice o 0 0 0 k) ys (.gslice A.length r.length k) A':=by
 obtain⟨h1,h2,rfl⟩:=qdZ h;subst hk hA;intro f;simp only[aN,aG]at h1 h2;refine⟨(o,true)::(o,false)::f,?_,by simp⟩;simp only[xk,cH,aT];rw[qbd hS hb];simp only[h1,h2,cH,aT];rw[qd0 hS (qda hb),qgJ,qe8,Yk]
end
def qkb {l r:List α}{i:Int}{x:α}(h:put l i x=some r):0<=i/\i<l.length/\r=l.set i.toNat x:=by
 unfold put at h;split at h
 ·rename_i h0;injection h with h;exact⟨h0.1,h0.2,h.symm⟩
 cases h
def zD {l r:List α}{i:Int}{x:α}(h:put l i x=some r):l.length=r.length:=by
 obtain⟨_,_,rfl⟩:=qkb h;simp
def ix_sl {t e:TypeId}{k b:Nat}(T:SlT P t e k b) {l:List α}{i:Int}{x:α}{q:IntKind}{o c:Nat}(h:idx l i=some x):(Obl.done (.opt (jb P t (.slice o 0 l.length c k) (.int q i))) (.ptr o (i.toNat*k+0))).Holds P:=by
 obtain⟨inf,z,h1,h2,_⟩:=T.info;obtain⟨g1,g2,_⟩:=qaj h;subst h2;show Pg.opt _=_;simp only[jb,T.und,h1,g1,g2,cH,aT,Pg.opt,bz,aG]
def qmA {S:List Nat}{lo o off n:Nat}{A:Heap}{f:zx}{cs:List AV}{K:List AV->Pg}(hS:S.contains o=true) (hb:A[o]? =some (.cells cs)) (hn:off+n<=cs.length):qam S lo (qaH o off n K) A f=qam S lo (K ((cs.drop off).take n)) A ((o,false)::f):=by
 simp only[qaH];rw[qbd hS hb];simp only[vI,ae hn]
def ld_p {t:TypeId}(T:CeT P t) {E:Enc α}{k:Nat}(hk:E.k=k) {A:Heap}{o:Nat}{l:List α}(hb:A[o]? =some (.cells (l.flatMap E.c))) {i:Int}{x:α}(h:idx l i=some x) {off:Nat}{c:AV}(ho:off<k) (hc:(E.c x)[off]? =some c):(Obl.run [o] (qa1 P t (.ptr o (i.toNat*k+off))) A c A false).Holds P:=by
 subst hk;obtain⟨_,_,g3⟩:=qaj h;have:=flat_get E g3 ho;rw[hc]at this;obtain⟨h1,h2⟩:=qkv this;refine⟨[(o,false)],?_,rfl⟩;rw[T.load];simp only[yT];rw[qmA (by simp) hb h2,h1];rfl
def ld_pa {t:TypeId}{k:Nat}(T:AgT P t k) {E:Enc α}(hk:E.k=k) {A:Heap}{o:Nat}{l:List α}(hb:A[o]? =some (.cells (l.flatMap E.c))) {i:Int}{x:α}(h:idx l i=some x):(Obl.run [o] (qa1 P t (.ptr o (i.toNat*k+0))) A (.agg (E.c x)) A false).Holds P:=by
 subst hk;obtain⟨_,g2,g3⟩:=qaj h;have hlt:=(Yb.1 g3).1
 have h2:i.toNat*E.k+E.k<=(l.flatMap E.c).length:=by
  rw[E.flat_len];have:=aW E.k hlt;rw[fC]at this;exact this
 refine⟨[(o,false)],?_,rfl⟩;rw[T.load];simp only[yT,bz];rw[qmA (by simp) hb h2,qkx E g3];rfl
def qpH (E:Enc α):∀{l:List α}{i:Nat}{x y:α},l[i]? =some x->∀{off:Nat}{xs:List AV},off+xs.length<=E.k->E.c y=(E.c x).take off++xs++(E.c x).drop (off+xs.length)->
 splice (l.flatMap E.c) (i*E.k+off) xs=(l.set i y).flatMap E.c:=by
 intro l
 induction l with
 |nil=>intro i x y h;simp at h
 |cons z l ih=>
  intro i x y h off xs ho hy
  cases i with
  |zero=>
   simp at h;subst h;simp only[splice,bL,bC,aG,List.set_cons_zero,hy];rw[dO (by rw[E.len];omega),cT (by rw[E.len];omega)];simp only[Yz]
  |succ i=>
   have h:l[i]? =some x:=by simpa using h
   have e:(i+1)*E.k+off=E.k+(i*E.k+off):=by rw[Nat.add_mul,cy];omega
   have:=ih h ho hy;simp only[splice]at this⊢
   rw[bL,List.set_cons_succ,bL,<-this,e,fM,E.len,ar (by rw[E.len];omega),show E.k+(i*E.k+off)-E.k=i*E.k+off by omega,
    show E.k+(i*E.k+off)+xs.length=E.k+(i*E.k+off+xs.length)by omega,dI,E.len,aB (by rw[E.len];omega),bp,show E.k+(i*E.k+off+xs.length)-E.k=i*E.k+off+xs.length by omega]
   simp only[Yz]
def qtq {t:TypeId}{E:Enc α}{k n:Nat}(hk:E.k=k) {A A':Heap}{o:Nat}{l r:List α}(ht:(P.info? t).map (·.size)=some n) (hb:A[o]? =some (.cells (l.flatMap E.c))) {i:Int}{x y:α}(h:idx l i=some x) {off:Nat}{v:AV}{xs:List AV}(hv:cellsOf v=some xs) (hn:xs.length=n)
 (ho:Nat.ble (off+n) k=true) (hx:xs.all zX=true) (hy:E.c y=(E.c x).take off++xs++(E.c x).drop (off+xs.length)) (hp:put l i y=some r) (hA:A'=A.set o (.cells (r.flatMap E.c))):(Obl.run [o] (qaq P t (.ptr o (i.toNat*k+off)) v) A .undef A' true).Holds P:=by
 subst hk hn hA;obtain⟨_,g2,g3⟩:=qaj h;obtain⟨_,_,rfl⟩:=qkb hp;have ho:=Ys ho;have hlt:=(Yb.1 g3).1
 cases hi:P.info? t with
 |none=>rw[hi]at ht;cases ht
 |some inf=>
  rw[hi]at ht;simp only[ZM,ZI]at ht
  have h2:i.toNat*E.k+off+xs.length<=(l.flatMap E.c).length:=by
   rw[E.flat_len];have:=aW E.k hlt;rw[fC]at this;omega
  refine⟨[(o,true),(o,false)],?_,rfl⟩;simp only[qaq,hi,hv];rw[qbd (by simp) hb];simp only[ht,h2,hx,cH,aT];rw[qd0 (by simp) (qda hb),qpH E g3 ho hy];rfl
def mk (b:Nat) (n:Int) (z:α):Option (List α):=if 0<=n/\n<=140737488355328/\n*b<=140737488355328 then some (List.replicate n.toNat z)else none
def qjB (E:Enc α) (z:α) (n:Nat):zeros (E.c z) (n*E.k)=(List.replicate n z).flatMap E.c:=by
 refine List.ext_getElem? λj=>?_
 have hp:=E.pos;rcases aw j (n*E.k)with hj|hj
 ·have h1:(List.replicate n z)[j/E.k]? =some z:=by
   rw[List.getElem?_replicate,ae (eS (by rw[bP];exact hj))]
  have h2:=flat_get E h1 (eC j hp);rw[bP,fX]at h2;rw[h2]
  have h3:j%E.k<(E.c z).length:=by rw[E.len];exact eC j hp
  simp only[zeros,YA,List.getElem?_range hj,ZM,E.len,Yy,Ya h3,YN]
 rw[Yg (by simp[zeros];exact hj),Yg (by rw[E.flat_len,bS];exact hj)]
def quv {t e:TypeId}{k b:Nat}(T:SlT P t e k b) {E:Enc α}(hk:E.k=k) {z:α}(hz:qfb P e=some (E.c z)) {n:Int}{l:List α}(h:mk b n z=some l) {A A':Heap}(hA:A'=A++[.cells (l.flatMap E.c)]):
 (Obl.run [] (qcB P t (.int .i64 n) (.int .i64 n)) A (.slice A.length 0 l.length l.length k) A' false).Holds P:=by
 subst hk hA;obtain⟨inf,_,h1,h2,h3,_⟩:=T.info;unfold mk at h;split at h
 ·rename_i hc;injection h with h;subst h;obtain⟨c1,c2,c3⟩:=hc;refine⟨[],?_,rfl⟩
  have e1:(E.c z).length=inf.size:=by rw[E.len,h2]
  simp only[qcB,T.und,h1,hz];rw[ae ⟨c1,cz _,c2,by rw[h3];exact c3,e1⟩,qgJ,qe8,h2,qjB,bS]
 cases h
def cpy (l ys:List α):List α:=ys.take (Nat.min ys.length l.length)++l.drop (Nat.min ys.length l.length)
def qoZ {l ys r:List α}(h:some (cpy l ys)=some r):l.length=r.length:=by
 injection h with h;subst h;simp only[cpy,Yq,Ym,YJ,Nat.min_def];split<;>split<;>omega
def qt6 {t e:TypeId}{k b:Nat}(T:SlT P t e k b) {E:Enc α}(hk:E.k=k) {S:List Nat}{A A':Heap}{X Y:AV}{ys l r:List α}{o:Nat}(hs:qj4 E k S A Y ys) (hX:X= .slice o 0 l.length l.length k\/X= .oslice o l.length k)
 (hb:A[o]? =some (.cells (l.flatMap E.c))) (hS:S.contains o=true) (h:some (cpy l ys)=some r) (hA:A'=A.set o (.cells (r.flatMap E.c))):(Obl.run S (qcR P [t,t] X Y) A (.int .i64 ((Nat.min ys.length l.length:Nat):Int)) A' true).Holds P:=by
 injection h with h;subst hA h hk;obtain⟨inf,z,h1,h2,_⟩:=T.info
 have key:qcR P [t,t] X Y=qW E.k Y λn cs=>qbG E.k o 0 l.length n cs:=by
  rcases hX with rfl|rfl<;>simp only[qcR,T.und,h1,h2,aT]
 rw[Obl.Holds,key];obtain⟨f1,e1⟩:=hs.run (λn cs=>qbG E.k o 0 l.length n cs) A.length [];refine⟨(o,true)::(o,false)::f1,e1.trans ?_,by simp⟩;have e2:(ys.flatMap E.c).take (Nat.min ys.length l.length*E.k)=(ys.take (Nat.min ys.length l.length)).flatMap E.c:=qcG E ys _
 have e3:((ys.take (Nat.min ys.length l.length)).flatMap E.c).length=Nat.min ys.length l.length*E.k:=by
  rw[E.flat_len,Ym];congr 1;simp only[Nat.min_def];split<;>split<;>omega
 have e4:(l.flatMap E.c).drop (Nat.min ys.length l.length*E.k)=(l.drop (Nat.min ys.length l.length)).flatMap E.c:=qf4 E l _
 have e5:0+Nat.min ys.length l.length*E.k<=(l.flatMap E.c).length:=by
  rw[E.flat_len,aG];exact aW _ (fL _ _)
 simp only[qbG];rw[qbd hS hb];simp only[e2,e3,e5,aT];rw[qd0 hS (qda hb)];simp only[splice,e3,aG,e4,bj,bp,cpy,List.flatMap_append];rfl
inductive EqFs (P:Program) (xs ys:List AV):List Field->Bool->Prop
 |nil:EqFs P xs ys [] true
 |cons {f:Field}{fs:List Field}{a b:AV}{c d:Bool}(hn:decide (f.name= "_")=false) (hp:qgy P f.type xs f.offset=some a) (hq:qgy P f.type ys f.offset=some b) (he:eqA P 99 f.type a b=some c) (hr:EqFs P xs ys fs d):EqFs P xs ys (f::fs) (c&&d)
structure EqT (P:Program) (t:TypeId) (fs:Array Field):Prop where
 und:P.underlying t=some (.struct fs)
 guard:P.eqGuardType P.depth t=false
 held:P.stoodInHeld t=false
def Ub {A:Heap}{S:List Nat}{d:Nat}{a:AV}(h:Still d a):FzW A S d a a:= .of (h A S)
def FzW.fz {A:Heap}{S:List Nat}{d:Nat}{a b:AV}(h:Fz A S d a b):FzW A S d a b:= .of h
def FzW.nilv {A:Heap}{S:List Nat}{d:Nat}{E:Enc α}:FzW A S (d+1) .nilslice (vl E []):=FzW.nil
def Wk.nilv {E:Enc α}:Wk .nilslice (vl E []):=Wk.nil
end
section
variable [Glob]
open Go.RowKit
def qex [Base] (v:AV) (A:Heap) (v':AV) (A':Heap):Prop:=Sub (ofG 1 [(0,v)],A) (ofG 1 [(0,v')],A')
def qex.refl [Base] (v:AV) (A:Heap):qex v A v A:=Sub.refl _
def qex.use [Base]{v v':AV}{A A':Heap}(h:qex v A v' A') {F0:Nat->Prop}{w0:World}{F:Nat->Prop}{nu:Nat->Option Nat}{w:World}{x:Value}(st:Stp F0 Base.nu Base.A w0 F nu A w) (hR:R F nu w v x):
 ∃F' nu',Stp F0 Base.nu Base.A w0 F' nu' A' w/\R F' nu' w v' x:=by
 have hf:RF F nu w (ofG 1 [(0,v)]) #[x]:=by
  refine⟨rfl,λt y hy=>?_,λt ht=>?_⟩
  ·rcases t with _|t
   ·simp at hy;subst hy;simpa[ofG,Up,qic,qgW]using hR
   simp at hy
  simp only[ofG,Fr.n]at ht;simp only[ofG,Up,aa (show¬t<1 by omega)]
 obtain⟨F',nu',h1,h2,_⟩:=h F0 w0 F nu ⟨#[x],[]⟩ w st hf ⟨by simp,.nil⟩;refine⟨F',nu',h1,?_⟩;have:=h2.at_ 0 x rfl;simpa[ofG,Up,qic,qgW]using this
def qhc [Base] (P:Program) (rs:List ResultVar) (v:AV) (A':Heap):XA->St->Prop
 | .exit _,_=>False
 |_,s=>∃xs,zU P s.1 s.2 rs=some xs/\qex (qg9 xs) s.2 v A'
def Goes.fnH {P:Program}{c:Code}{f:FuncId}{fn:Func}{args:List AV}{A A':Heap}{v:AV}{m:Nat}{l:List (Nat×AV)}{rs:List ResultVar}(hf:P.funcs[f]? =some fn) (hn:(fn.name== "runtime.NumGoroutine")=false) (hb:fn.body=some c) (hm:args.length+(fn.ntmps-args.length)=m) (hr:fn.results.toList=rs)
 (hl:frFn m args=ofG m l) (h:∀[Base],Base.A=A->Goes P c (ofG m l,A) (qhc P rs v A')):qc P (.fn f) args A v A':=by
 intro F nu w vs i hargs;subst hr
 letI B:Base:=⟨nu,A,i.fresh,none,none,trivial⟩
 have h:=h rfl;rw[<-hl]at h;refine .inl ⟨⟨fn,hf,hn,by rw[hb];rfl⟩,?_⟩;refine(callsIn_wide (n:=0)).1 ?_;refine callsIn_of_wp_marks hf hb trivial ?_;refine h F w 0 F nu _ w (.refl i) (RF.frFn hm hargs) .nil _ (λx s' F' nu' a' w' q st hfr hd=>?_);have post:∀xs,zU P s'.1 s'.2 fn.results.toList=some xs->qex (qg9 xs) s'.2 v A'->
  LeavesInM (fz none) 0 P fn a'.tmps (λe w'=>∃x F' nu',e= .returned x/\Stp F nu A w F' nu' A' w'/\R F' nu' w' v x) a'.defers .returning w':=by
  intro xs hrs hv;refine qhU hrs a'.defers st hfr hd (λF2 nu2 w2 y st2 hR=>?_);obtain⟨F3,nu3,h1,h2⟩:=hv.use st2 hR;exact⟨y,F3,nu3,rfl,h1,h2⟩
 cases x with
 |normal=>obtain⟨xs,h1,h2⟩:=q;exact post xs h1 h2
 |ret=>obtain⟨xs,h1,h2⟩:=q;exact post xs h1 h2
 |exit k=>exact q.elim
def Goes.retH [Base]{P:Program}{s:St}{rs:List ResultVar}{xs:List AV}{v:AV}{A':Heap}(hx:zU P s.1 s.2 rs=some xs) (hs:qex (qg9 xs) s.2 v A'):qhc P rs v A' .ret s:=⟨xs,hx,hs⟩
def zS.heap {A M:Heap}{m:List (Option Nat)}{a' a:AV}(h:zS A [] m a' a):zS M [] m a' a:=by
 induction h with
 |same h=>exact .same h
 |undef=>exact .undef
 |ptr h=>exact .ptr h
 |slice h=>exact .slice h
 |oslice h=>exact .oslice h
 |gslice h=>exact .gslice h
 |gsliceE h e=>exact .gsliceE h e
 |osliceE h e=>exact .osliceE h e
 |sliceE h e=>exact .sliceE h e
 |wslice h=>exact .wslice h
 |map h=>exact .map h
 |yld h=>exact .yld h
 |grow h hp=>exact .grow h hp
 |own _ _ _ _ _ hs=>cases hs
 |ownL _ _ _ _ _ hs=>cases hs
 |nil=>exact .nil
 |nilv=>exact .nilv
 |frz h hr=>exact .frz ((qjc (λb hb=>by cases hb) 12 _).symm.trans h) hr
 |agg hl _ ih=>exact .agg hl ih
 |tuple hl _ ih=>exact .tuple hl ih
 |func hf hl _ ih=>exact .func hf hl ih
def qat.heap {A M:Heap}{m:List (Option Nat)}{l l':List (Nat×AV)}(h:qat A [] m l l'):qat M [] m l l':=by
 induction h with
 |nil=>exact .nil
 |keep h _ ih=>exact .keep h.heap ih
 |drop _ ih=>exact .drop ih
def qnh.heap {A M:Heap}{m:List (Option Nat)}{x y:Ent}(h:qnh A [] m x y):qnh M [] m x y:=by
 cases h with
 |av h=>exact .av h.heap
 |own h=>exact .own h
def yQ.heap {A M:Heap}{m:List (Option Nat)}{x y:Blk}(h:yQ A [] m x y):yQ M [] m x y:=by
 cases h with
 |cells h=>exact .cells ⟨h.1,λj c' c h1 h2=>(h.2 j c' c h1 h2).heap⟩
 |bag hl h=>exact .bag hl λj x' x h1 h2=>(h j x' x h1 h2).heap
 |same h=>exact .same h
 |pre h hl he=>exact .pre h hl he
 |map h1 h2=>exact .map h1 h2
 |iter=>exact .iter
 |bld h=>exact .bld ⟨h.1,λj c' c h1 h2=>(h.2 j c' c h1 h2).heap⟩
 |loop hs h=>exact .loop hs h.heap
def yQ.RB {A:Heap}{m:List (Option Nat)}{F:Nat->Prop}{nu:Nat->Option Nat}{w:World}(i:Inv F nu A w) {x y:Blk}(h:yQ A [] m x y) {rb:Nat}(h0:RB F nu w rb y):RB F (nuM m nu) w rb x:=by
 have hF:∀rb,FS F nu A [] rb->F rb:=by
  rintro rb (h|⟨b,x,hb,_⟩)
  ·exact h
  cases hb
 cases h with
 |cells hL=>
  obtain⟨hn,vs,e,h1,h2,h3⟩:=h0;refine⟨hn,vs,e,h1,by rw[hL.1];exact h2,λq c' v hc' hv=>?_⟩;have hlt:=(Yb.1 hc').1;rw[hL.1]at hlt;exact((hL.2 q c' _ hc' (Ya hlt)).R i (h3 q _ v (Ya hlt) hv)).growF hF
 |bag hl he=>
  obtain⟨hn,vs,e,h1,h2,h3,h4,h5⟩:=h0;refine⟨hn,vs,e,h1,by rw[hl];exact h2,λq c' v hc' hv=>?_,λq r o=>h4 q r (qcK hl he o),λq q' r o o'=>h5 q q' r (qcK hl he o) (qcK hl he o')⟩;have hlt:=(Yb.1 hc').1;rw[hl]at hlt;obtain⟨c,hc⟩:=(⟨_,Ya hlt⟩:∃c,_=some c);have hE:=he q c' c hc' hc;have hR:=h3 q c v hc hv
  cases hE with
  |av hV=>exact(hV.R i hR).growF hF
  |@own k cs hN=>exact qlG.re (x:= .own k cs) hN (nuM m nu) hR
 |same hN=>
  obtain⟨hn,vs,e,h1,h2,h3⟩:=h0;exact⟨hn,vs,e,h1,h2,λq c v hc hv=>hN c (Yn hc) F nu (nuM m nu) w v (h3 q c v hc hv)⟩
 |pre hN hl he=>
  obtain⟨hn,vs,e,h1,h2,h3⟩:=h0;exact⟨hn,vs,e,h1,bx hl h2,λq c v hc hv=>hN c (Yn hc) F nu (nuM m nu) w v (h3 q c v (qqS he hc) hv)⟩
 |map hk hv2=>
  obtain⟨hn,es,ck,h1,h2,h3,h4,h5,h6⟩:=h0;exact⟨hn,es,ck,h1,h2,h3,λq c e hc he=>hk c (Yn hc) F nu (nuM m nu) w _ (h4 q c e hc he),λq c e hc he=>hv2 c (Yn hc) F nu (nuM m nu) w _ (h5 q c e hc he),h6⟩
 |iter=>exact h0
 |bld hL=>
  obtain⟨hn,vs,h1,h2,h3,h4⟩:=h0;refine⟨hn,vs,h1,by rw[hL.1];exact h2,λq c' v hc' hv=>?_,h4⟩;have hlt:=(Yb.1 hc').1;rw[hL.1]at hlt;exact((hL.2 q c' _ hc' (Ya hlt)).R i (h3 q _ v (Ya hlt) hv)).growF hF
 |loop hs hfl=>
  obtain⟨hn,fn,tmps,dd,h1,h2⟩:=h0;refine⟨hn,fn,tmps,dd,h1,?_⟩;have h3:=hfl.RF i hs h2;exact⟨h3.size,λt v hv=>(h3.at_ t v hv).growF hF,h3.out⟩
structure Fits (A0 A A1 A':Heap) (m m':List (Option Nat)) (S:List Nat):Prop where
 ren:qcu A [] m m A0
 inS:∀(i b:Nat),m[i]? =some (some b)->b∈S
 len:A.length<=A'.length
 old:∀(j i:Nat),m'[j]? =some (some i)->j<A.length->m[i]? =some (some j)
 blk:∀(j i:Nat) (x:Blk),m'[j]? =some (some i)->A'[j]? =some x->∃y,A1[i]? =some y/\yQ A1 [] m' x y
 non:∀(j:Nat) (x:Blk),(∀i,m'[j]? ≠some (some i))->A'[j]? =some x->j∈S\/A.length<=j->x= .dead
 inj:∀(j j' i:Nat),m'[j]? =some (some i)->m'[j']? =some (some i)->j=j'
 top:∀(j i:Nat),m'[j]? =some (some i)->j<A'.length
def Fits.go {args0 args:List AV}{A0 A A1 A':Heap}{m m':List (Option Nat)}{S:List Nat}{v0 v:AV}(T:Fits A0 A A1 A' m m' S) (ha:qd3 A [] m args0 args) (hv:zS A1 [] m' v v0)
 {M:Heap}(hM:M.length=A.length) (hMA:∀b,b∈S->M[b]? =A[b]?) {F:Nat->Prop}{nu:Nat->Option Nat}{w:World}{vs:Array Value}(i:Inv F nu M w) (hargs:RL F nu w args vs):
 Inv F (nuM m nu) A0 w/\RL F (nuM m nu) w args0 vs/\∀x F1 nu1 w',Stp F (nuM m nu) A0 w F1 nu1 A1 w'->R F1 nu1 w' v0 x->∃F' nu',Stp F nu M w F' nu' (merge S M A') w'/\R F' nu' w' v x:=by
 have hlt0:∀{a c:Nat}{y:Blk},m[a]? =some (some c)->A0[a]? =some y->y≠ .dead->∃x,M[c]? =some x/\yQ A [] m y x:=by
  intro a c y h1 h2 h3;obtain⟨_,x,hx,hB⟩:=(T.ren.at_ h1 h2).resolve_left h3;exact⟨x,by rw[hMA c (T.inS a c h1)];exact hx,hB⟩
 have hown0:∀r,qa5 (nuM m nu) A0 w r->∃(a c:Nat) (x:Blk) (rb:Nat),m[a]? =some (some c)/\nu c=some rb/\M[c]? =some x/\x.owned=true/\Ft w rb x r:=by
  rintro r ⟨a,y,rb,ha,hy,ho,hf⟩;obtain⟨c,hc,hn⟩:=qbP ha;obtain⟨x,hx,hB⟩:=hlt0 hc hy (λe=>by subst e;cases ho);exact⟨a,c,x,rb,hc,hn,hx,hB.owned,hB.ft hf⟩
 have i0:Inv F (nuM m nu) A0 w:=by
  refine⟨λa rb y ha hy=>?_,λa a' rb rb' y y' r h1 h2 hy hy' ho ho' hr hr'=>?_,λa hl=>?_,i.ltF,λa rb ha=>?_,i.glob⟩
  ·obtain⟨c,hc,hn⟩:=qbP ha;by_cases hd:y= .dead
   ·subst hd;trivial
   obtain⟨x,hx,hB⟩:=hlt0 hc hy hd;exact(hB.heap (M:=M)).RB i (i.blk c rb x hn hx)
  ·obtain⟨c,hc,hn⟩:=qbP h1;obtain⟨c',hc',hn'⟩:=qbP h2;obtain⟨x,hx,hB⟩:=hlt0 hc hy (λe=>by subst e;cases ho);obtain⟨x',hx',hB'⟩:=hlt0 hc' hy' (λe=>by subst e;cases ho');have:=i.injF c c' rb rb' x x' r hn hn' hx hx' hB.owned hB'.owned (hB.ft hr) (hB'.ft hr');subst this;exact T.ren.inj hc hc' hy hy' (λe=>by subst e;cases ho) (λe=>by subst e;cases ho')
  ·have:=T.ren.len;have e:m[a]? =none:=Yg (by omega);simp[nuM,e]
  obtain⟨c,_,hn⟩:=qbP ha;exact i.ltN c rb hn
 have hF0:∀{F:Nat->Prop}{nu:Nat->Option Nat}{A:Heap} rb,FS F nu A [] rb->F rb:=by
  rintro F nu A rb (h|⟨b,x,hb,_⟩)
  ·exact h
  cases hb
 have hargs0:RL F (nuM m nu) w args0 vs:=by
  refine⟨by rw[hargs.1,ha.1],λj a y h1 h2=>?_⟩;have hlt:=(Yb.1 h1).1;rw[ha.1]at hlt;exact(((ha.2 j a _ h1 (Ya hlt)).heap (M:=M)).R i (hargs.2 j _ y (Ya hlt) h2)).growF (hF0)
 have core:∀x F1 nu1 w',Stp F (nuM m nu) A0 w F1 nu1 A1 w'->R F1 nu1 w' v0 x->∃F' nu',Stp F nu M w F' nu' (merge S M A') w'/\R F' nu' w' v x:=by
  intro x F1 nu1 w' st hR
  have hlenM:M.length<=A'.length:=by rw[hM];exact T.len
  let nu':Nat->Option Nat:=λj=>if j<M.length then nu j else nuM m' nu1 j
  have hback:∀{j i rb:Nat},m'[j]? =some (some i)->j<M.length->nu1 i=nu j:=by
   intro j a _ hj hlt;have h1:=T.old j a hj (by rw[<-hM];exact hlt)
   have h2:a<A0.length:=by rw[<-T.ren.len];exact(Yb.1 h1).1
   rw[st.old a h2,vQ h1]
  have hnu':∀{j i:Nat},m'[j]? =some (some i)->nu' j=nu1 i:=by
   intro j a hj;simp only[nu'];split
   ·rename_i hlt;exact(hback (rb:=0) hj hlt).symm
   exact vQ hj
  have hext:∀b r,nuM m' nu1 b=some r->nu' b=some r:=by
   intro b r hb;obtain⟨a,ha,hn⟩:=qbP hb;rw[hnu' ha];exact hn
  have xM:Ext F nu w F1 nu' w':=⟨st.f,λb r hb=>by
   have:b<M.length:=by
    rcases aw b M.length with h|h
    ·exact h
    rw[i.fresh b h]at hb;cases hb
   simp only[nu',ae this];exact hb,λrb hb=>st.keep rb (i.ltF rb hb) (i0.notOwns hb),st.shape⟩
  have x1:Ext F1 (nuM m' nu1) w' F1 nu' w':=⟨λ_ h=>h,hext,λ_ _=>rfl,λ_ _ h=>h⟩
  have hget:∀(j:Nat) (x:Blk),(merge S M A')[j]? =some x->(∃a,m'[j]? =some (some a)/\A'[j]? =some x)\/x= .dead\/(j<M.length/\j∉S/\M[j]? =some x):=by
   intro j x hx;rw[qcH]at hx;obtain⟨y,hy,hx⟩:=Yd.1 hx;by_cases hc:(decide (j<M.length)&&!S.contains j)=true
   ·rw[ae hc]at hx;simp only[aR,aO,dA,List.contains_eq_mem,dr]at hc;refine .inr (.inr ⟨hc.1,hc.2,?_⟩);rw[Yy,Ya hc.1]at hx;rw[Ya hc.1];simpa using hx
   rw[aa hc]at hx;subst hx;by_cases hm:∃a,m'[j]? =some (some a)
   ·obtain⟨a,ha⟩:=hm;exact .inl ⟨a,ha,hy⟩
   refine .inr (.inl (T.non j y (λa ha=>hm ⟨a,ha⟩) hy ?_));by_cases hj:j∈S
   ·exact .inl hj
   refine .inr ?_;rcases aw j A.length with h|h
   ·exact absurd (by simp[hM,h,hj]) hc
   exact h
  have hS':∀{j a:Nat},m'[j]? =some (some a)->j<M.length->j∈S:=λh1 h2=>T.inS _ _ (T.old _ _ h1 (by rw[<-hM];exact h2))
  have notOwn:∀{j rb r:Nat}{y:Blk},j∉S->nu j=some rb->M[j]? =some y->y.owned=true->Ft w rb y r->¬qa5 (nuM m nu) A0 w r:=by
   intro j rb r y hj hn hy ho hf hO;obtain⟨a,c,x,rc,hc,hn2,hx,ho2,hf2⟩:=hown0 r hO;have:=i.injF j c rb rc y x r hn hn2 hy hx ho ho2 hf hf2;subst this;exact hj (T.inS a _ hc)
  have ftM:∀{j rb r:Nat}{y:Blk},j∉S->nu j=some rb->M[j]? =some y->y.owned=true->Ft w' rb y r->Ft w rb y r:=λhj hn hy ho hf=>
   hf.same (st.keep _ (i.ltN _ _ hn) (notOwn hj hn hy ho (.inl rfl)))
  have hnuM:∀{j:Nat},j<M.length->nu' j=nu j:=λh=>by simp only[nu',ae h]
  have iM:Inv F1 nu' (merge S M A') w':=by
   refine⟨λj rb x hj hx=>?_,λj j' rb rb' x x' r hj hj' hx hx' ho ho' hr hr'=>?_,λj hl=>?_,st.inv.ltF,λj rb hj=>?_,st.inv.glob⟩
   ·rcases hget j x hx with⟨a,ha,hA⟩|rfl|⟨hlt,hnS,hMj⟩
    ·obtain⟨y,hy,hB⟩:=T.blk j a x ha hA;rw[hnu' ha]at hj;exact(hB.RB st.inv (st.inv.blk a rb y hj hy)).monoF x1 (λ_ _=>rfl) (λ_ _=>id)
    ·trivial
    rw[hnuM hlt]at hj
    refine i.keepB xM hj hMj λhxo r hr=>?_
    have hno:=notOwn hnS hj hMj hxo hr;have hlr:=(i.ftF hj hMj hxo hr).2;refine⟨st.keep r hlr hno,λhf=>?_⟩;rcases st.newF r hf with h|h|h
    ·exact h
    ·omega
    exact absurd h hno
   ·rcases hget j x hx with⟨a,ha,hA⟩|rfl|⟨hlt,hnS,hMj⟩
    ·obtain⟨y,hy,hB⟩:=T.blk j a x ha hA;rw[hnu' ha]at hj;rcases hget j' x' hx' with⟨a',ha',hA'⟩|rfl|⟨hlt',hnS',hMj'⟩
     ·obtain⟨y',hy',hB'⟩:=T.blk j' a' x' ha' hA';rw[hnu' ha']at hj';have:=st.inv.injF a a' rb rb' y y' r hj hj' hy hy' hB.owned hB'.owned (hB.ft hr) (hB'.ft hr');subst this;exact T.inj j j' a ha ha'
     ·cases ho'
     rw[hnuM hlt']at hj';have hf':=ftM hnS' hj' hMj' ho' hr';exact absurd (st.own r (i.ftF hj' hMj' ho' hf').2 ⟨a,y,rb,hj,hy,hB.owned,hB.ft hr⟩) (notOwn hnS' hj' hMj' ho' hf')
    ·cases ho
    rw[hnuM hlt]at hj;rcases hget j' x' hx' with⟨a',ha',hA'⟩|rfl|⟨hlt',hnS',hMj'⟩
    ·obtain⟨y',hy',hB'⟩:=T.blk j' a' x' ha' hA';rw[hnu' ha']at hj';have hf':=ftM hnS hj hMj ho hr;exact absurd (st.own r (i.ftF hj hMj ho hf').2 ⟨a',y',rb',hj',hy',hB'.owned,hB'.ft hr'⟩) (notOwn hnS hj hMj ho hf')
    ·cases ho'
    rw[hnuM hlt']at hj';exact i.injF j j' rb rb' x x' r hj hj' hMj hMj' ho ho' (ftM hnS hj hMj ho hr) (ftM hnS' hj' hMj' ho' hr')
   ·rw[qaA]at hl;simp only[nu',aa (show¬j<M.length by omega)]
    cases hq:m'[j]? with
    |none=>simp[nuM,hq]
    |some q=>
     cases q with
     |none=>simp[nuM,hq]
     |some a=>have:=T.top j a hq;omega
   by_cases hlt:j<M.length
   ·rw[hnuM hlt]at hj;have:=i.ltN j rb hj;have:=st.size;omega
   simp only[nu',aa hlt]at hj;obtain⟨a,_,hn⟩:=qbP hj;exact st.inv.ltN a rb hn
  have hownM:∀r,r<w.heap.size->qa5 (nuM m nu) A0 w r->qa5 nu M w r:=by
   intro r _ hO;obtain⟨a,c,x,rb,hc,hn2,hx,ho2,hf2⟩:=hown0 r hO;exact⟨c,x,rb,hn2,hx,ho2,hf2⟩
  refine⟨F1,nu',⟨st.f,xM.n,st.shape,iM,λrb hlt hO=>st.keep rb hlt (λh=>hO (hownM rb hlt h)),?_,st.size,st.os,st.tape,st.output,λb hb=>hnuM hb,by rw[qaA];exact hlenM,λrb hf=>?_⟩,((hv.R st.inv hR).growF (hF0)).mono x1⟩
  ·rintro r hlt ⟨j,x,rb,hj,hx,ho,hf⟩;rcases hget j x hx with⟨a,ha,hA⟩|rfl|⟨hltj,hnS,hMj⟩
   ·obtain⟨y,hy,hB⟩:=T.blk j a x ha hA;rw[hnu' ha]at hj;exact hownM r hlt (st.own r hlt ⟨a,y,rb,hj,hy,hB.owned,hB.ft hf⟩)
   ·cases ho
   rw[hnuM hltj]at hj;exact⟨j,x,rb,hj,hMj,ho,ftM hnS hj hMj ho hf⟩
  rcases st.newF rb hf with h|h|h
  ·exact .inl h
  ·exact .inr (.inl h)
  rcases aw rb w.heap.size with hlt|hge
  ·exact .inr (.inr (hownM rb hlt h))
  exact .inr (.inl hge)
 exact⟨i0,hargs0,core⟩
def qc.frame {P:Program}{f:FuncId}{args0 args:List AV}{A0 A A1 A':Heap}{m m':List (Option Nat)}{S:List Nat}{v0 v:AV}(h:qc P (.fn f) args0 A0 v0 A1) (T:Fits A0 A A1 A' m m' S) (ha:qd3 A [] m args0 args) (hv:zS A1 [] m' v v0)
 {M:Heap}(hM:M.length=A.length) (hMA:∀b,b∈S->M[b]? =A[b]?):qc P (.fn f) args M v (merge S M A'):=by
 intro F nu w vs i hargs;obtain⟨i0,hargs0,core⟩:=T.go ha hv hM hMA i hargs;rcases h _ _ w vs i0 hargs0 with⟨hent,hcalls⟩|⟨x,w',F2,nu2,hrun,st,hRv⟩
 ·refine .inl ⟨hent,hcalls.mono ?_⟩;rintro e w' ⟨x,F2,nu2,rfl,st,hRv⟩;obtain⟨F',nu',h1,h2⟩:=core x F2 nu2 w' st hRv;exact⟨x,F',nu',rfl,h1,h2⟩
 obtain⟨F',nu',h1,h2⟩:=core x F2 nu2 w' st hRv;exact .inr ⟨x,w',F',nu',hrun,h1,h2⟩
def jq (j q:Nat):j+1+q=j+(q+1):=by omega
inductive qeD (n:Nat) (A1:Heap) (m m':List (Option Nat)) (S:List Nat):Nat->List (Option Nat)->Heap->Prop
 |nil {j:Nat}:qeD n A1 m m' S j [] []
 |old {j:Nat}{x:Blk}{l:List (Option Nat)}{H:Heap}(hj:Nat.blt j n=true) (hS:S.contains j=false) (h:qeD n A1 m m' S (j+1) l H):qeD n A1 m m' S j (none::l) (x::H)
 |dead {j:Nat}{l:List (Option Nat)}{H:Heap}(h:qeD n A1 m m' S (j+1) l H):qeD n A1 m m' S j (none::l) (.dead::H)
 |back {j i:Nat}{x y:Blk}{l:List (Option Nat)}{H:Heap}(hm:m[i]? =some (some j)) (hy:A1[i]? =some y) (hb:yQ A1 [] m' x y) (hl:l.contains (some i)=false) (h:qeD n A1 m m' S (j+1) l H):qeD n A1 m m' S j (some i::l) (x::H)
 |new {j i:Nat}{x y:Blk}{l:List (Option Nat)}{H:Heap}(hj:Nat.ble n j=true) (hy:A1[i]? =some y) (hb:yQ A1 [] m' x y) (hl:l.contains (some i)=false) (h:qeD n A1 m m' S (j+1) l H):qeD n A1 m m' S j (some i::l) (x::H)
section
variable {n:Nat}{A1:Heap}{m m':List (Option Nat)}{S:List Nat}
def qeD.len {j:Nat}{l:List (Option Nat)}{H:Heap}(h:qeD n A1 m m' S j l H):l.length=H.length:=by
 induction h with
 |nil=>rfl
 |old _ _ _ ih=>simp[ih]
 |dead _ ih=>simp[ih]
 |back _ _ _ _ _ ih=>simp[ih]
 |new _ _ _ _ _ ih=>simp[ih]
def qeD.some_ {j:Nat}{l:List (Option Nat)}{H:Heap}(h:qeD n A1 m m' S j l H):∀{q i:Nat},l[q]? =some (some i)->(j+q<n->m[i]? =some (some (j+q)))/\∀x,H[q]? =some x->∃y,A1[i]? =some y/\yQ A1 [] m' x y:=by
 induction h with
 |nil=>intro q i h;simp at h
 |old _ _ _ ih=>
  intro q i h
  cases q with
  |zero=>simp at h
  |succ q=>have:=ih (q:=q) (by simpa using h);rw[jq]at this;simpa using this
 |dead _ ih=>
  intro q i h
  cases q with
  |zero=>simp at h
  |succ q=>have:=ih (q:=q) (by simpa using h);rw[jq]at this;simpa using this
 |back hm hy hb _ _ ih=>
  intro q i h
  cases q with
  |zero=>simp at h;subst h;exact⟨λ_=>hm,λx hx=>by simp at hx;subst hx;exact⟨_,hy,hb⟩⟩
  |succ q=>have:=ih (q:=q) (by simpa using h);rw[jq]at this;simpa using this
 |new hj hy hb _ _ ih=>
  intro q i h
  cases q with
  |zero=>
   simp at h;subst h;have:=Ys hj;exact⟨λhlt=>by omega,λx hx=>by simp at hx;subst hx;exact⟨_,hy,hb⟩⟩
  |succ q=>have:=ih (q:=q) (by simpa using h);rw[jq]at this;simpa using this
def qeD.none_ {j:Nat}{l:List (Option Nat)}{H:Heap}(h:qeD n A1 m m' S j l H):∀{q:Nat}{x:Blk},(∀i,l[q]? ≠some (some i))->H[q]? =some x->(j+q∈S\/n<=j+q)->x= .dead:=by
 induction h with
 |nil=>intro q x _ h;simp at h
 |old hj hS _ ih=>
  intro q x h hx hq
  cases q with
  |zero=>
   have:=Ys hj;rcases hq with hq|hq
   ·simp only[bz]at hq;simp[hq]at hS
   omega
  |succ q=>exact ih (λi=>by simpa using h i) (by simpa using hx) (by rw[jq];exact hq)
 |dead _ ih=>
  intro q x h hx hq
  cases q with
  |zero=>simp at hx;exact hx.symm
  |succ q=>exact ih (λi=>by simpa using h i) (by simpa using hx) (by rw[jq];exact hq)
 |back _ _ _ _ _ ih=>
  intro q x h hx hq
  cases q with
  |zero=>exact absurd rfl (h _)
  |succ q=>exact ih (λi=>by simpa using h i) (by simpa using hx) (by rw[jq];exact hq)
 |new _ _ _ _ _ ih=>
  intro q x h hx hq
  cases q with
  |zero=>exact absurd rfl (h _)
  |succ q=>exact ih (λi=>by simpa using h i) (by simpa using hx) (by rw[jq];exact hq)
def qeD.inj {j:Nat}{l:List (Option Nat)}{H:Heap}(h:qeD n A1 m m' S j l H):∀{q q' i:Nat},l[q]? =some (some i)->l[q']? =some (some i)->q=q':=by
 have cons:∀{o:Option Nat}{l:List (Option Nat)},(∀i,o=some i->l.contains (some i)=false)->(∀{q q' i:Nat},l[q]? =some (some i)->l[q']? =some (some i)->q=q')->∀{q q' i:Nat},(o::l)[q]? =some (some i)->(o::l)[q']? =some (some i)->q=q':=by
  intro o l ho ih q q' i h1 h2
  cases q with
  |zero=>
   cases q' with
   |zero=>rfl
   |succ q'=>
    simp at h1 h2;have:=ho i h1;have:=Yn h2
    simp_all
  |succ q=>
   cases q' with
   |zero=>
    simp at h1 h2;have:=ho i h2;have:=Yn h1
    simp_all
   |succ q'=>exact az (· +1) (ih (by simpa using h1) (by simpa using h2))
 induction h with
 |nil=>intro q q' i h;simp at h
 |old _ _ _ ih=>exact cons (by intro i h;cases h) ih
 |dead _ ih=>exact cons (by intro i h;cases h) ih
 |back _ _ _ hl _ ih=>exact cons (by intro i h;injection h with h;subst h;exact hl) ih
 |new _ _ _ hl _ ih=>exact cons (by intro i h;injection h with h;subst h;exact hl) ih
end
def allIn (S:List Nat):List (Option Nat)->Bool
 |[]=>true
 |some b::l=>S.contains b&&allIn S l
 |none::l=>allIn S l
def qpx {S:List Nat}:∀{l:List (Option Nat)},allIn S l=true->∀{i b:Nat},l[i]? =some (some b)->b∈S:=by
 intro l
 induction l with
 |nil=>intro _ i b h;simp at h
 |cons o l ih=>
  intro ha i b h
  cases o with
  |none=>
   cases i with
   |zero=>simp at h
   |succ i=>exact ih ha (by simpa using h)
  |some c=>
   simp only[allIn,aR]at ha
   cases i with
   |zero=>simp at h;subst h;simpa using ha.1
   |succ i=>exact ih ha.2 (by simpa using h)
def Fits.of {A0 A A1 A':Heap}{m m':List (Option Nat)}{S:List Nat}(hm:qcu A [] m m A0) (hin:allIn S m=true) (hlen:Nat.ble A.length A'.length=true) (hk:qeD A.length A1 m m' S 0 m' A'):Fits A0 A A1 A' m m' S where
 ren:=hm
 inS _ _ h:=qpx hin h
 len:=Ys hlen
 old j i h hlt:=by have:=(hk.some_ h).1 (by rw[aG];exact hlt);rwa [aG]at this
 blk j i x h hx:=(hk.some_ h).2 x hx
 non j x h hx hj:=hk.none_ h hx (by rw[aG];exact hj)
 inj _ _ _ h h':=hk.inj h h'
 top j i h:=by rw[<-hk.len];exact(Yb.1 h).1
def qtR {P:Program}{g:FuncId}{args0 args:List AV}{A0 A A1 A':Heap}(m m':List (Option Nat)) {S:List Nat}{v0 v:AV}(hc:qc P (.fn g) args0 A0 v0 A1) (hm:qcu A [] m m A0) (hin:allIn S m=true) (hlen:Nat.ble A.length A'.length=true)
 (hk:qeD A.length A1 m m' S 0 m' A') (ha:qd3 A [] m args0 args) (hv:zS A1 [] m' v v0) (hg:merge S A A'=A'):(Obl.callH (.fn g) args A S v A').Holds P:=
 ⟨Ys hlen,hg,λ_ hM hMA=>hc.frame (.of hm hin hlen hk) ha hv hM hMA⟩
end
section
variable [Glob]
open Go.RowKit
section
variable {F:Nat->Prop}{nu:Nat->Option Nat}{A:Heap}{w:World}
inductive qhC (b n k:Nat):AV->Prop
 |g:qhC b n k (.gslice b n k)
 |o (h:0<n):qhC b n k (.oslice b n k)
 |s (h:n<=9223372036854775807):qhC b n k (.slice b 0 n n k)
def Stp.give (i:Inv F nu A w) {b c j n k:Nat}{es:List Ent}{a:AV}{cs:List AV}(hne:b≠c) (hA:A[b]? =some (.bag es)) (hC:A[c]? =some (.cells cs)) (hj:es[j]? =some (.av a)) (ha:qhC c n k a) (hn:n*k=cs.length):
 Stp F nu A w F nu ((A.set b (.bag (es.set j (.own k cs)))).set c .dead) w:=by
 have hjl:j<es.length:=(Yb.1 hj).1
 have at_:∀q x,((A.set b (.bag (es.set j (.own k cs)))).set c .dead)[q]? =some x->(q=c/\x= .dead)\/(q=b/\x= .bag (es.set j (.own k cs)))\/(q≠c/\q≠b/\A[q]? =some x):=by
  intro q x hx;rcases getElem?_set' hx with⟨rfl,rfl⟩|⟨h1,hx⟩
  ·exact .inl ⟨rfl,rfl⟩
  rcases getElem?_set' hx with⟨rfl,rfl⟩|⟨h2,hx⟩
  ·exact .inr (.inl ⟨rfl,rfl⟩)
  exact .inr (.inr ⟨λe=>h1 e.symm,λe=>h2 e.symm,hx⟩)
 have cell:∀{rb vs e},nu b=some rb->w.heap[rb]? =some (.cells vs e (0,0))->∀v,vs[j]? =some v->
  (cs=[]/\∃p,v= .slice p 0 0)\/ ∃g cap ds e',v= .slice (some ⟨g,0,none⟩) n cap/\0<n/\n<=cap/\cap<=9223372036854775807/\nu c=some g/\w.heap[g]? =some (.cells ds e' (0,0))/\cap*k<=ds.size/\∀(q:Nat) (a:AV) (v:Value),cs[q]? =some a->ds[q]? =some v->R F nu w a v:=by
  intro rb vs e hb hh v hv;obtain⟨_,vs',e',h1,h2,h3,_⟩:=i.blk b rb _ hb hA;rw[hh]at h1;simp only[ZI,Obj.cells.injEq]at h1;obtain⟨rfl,rfl,_⟩:=h1;have hR:R F nu w a v:=h3 j _ v hj hv
  have zero:n=0->cs=[]:=λe=>YL.1 (by rw[<-hn,e,bC])
  cases ha with
  |g=>
   cases hR with
   |gslice0 _ _ p=>exact .inl ⟨zero rfl,p,rfl⟩
   |gslice _ _ _ g cap e2 m hp hg hc hs hm hx=>
    obtain⟨_,ds,e3,q1,q2,q3⟩:=i.blk c g _ hg hC;simp only[World.shape?,q1,ZI,ZP]at hs;obtain⟨_,rfl⟩:=hs;exact .inr ⟨g,cap,ds,e3,rfl,hp,hc,hx,hg,q1,hm,q3⟩
  |o hp=>
   cases hR with
   |oslice _ _ _ g cap e2 m hg hc hs hm hx=>
    obtain⟨_,ds,e3,q1,q2,q3⟩:=i.blk c g _ hg hC;simp only[World.shape?,q1,ZI,ZP]at hs;obtain⟨_,rfl⟩:=hs;exact .inr ⟨g,cap,ds,e3,rfl,hp,hc,hx,hg,q1,hm,q3⟩
  |s hx=>
   cases hR with
   |slice _ _ _ _ _ g hg hc=>
    obtain⟨_,ds,e3,q1,q2,q3⟩:=i.blk c g _ hg hC;rcases bG n with e0|hp
    ·subst e0;exact .inl ⟨zero rfl,_,rfl⟩
    exact .inr ⟨g,n,ds,e3,rfl,hp,hc,hx,hg,q1,by omega,q3⟩
 have own:∀{rb vs e},nu b=some rb->w.heap[rb]? =some (.cells vs e (0,0))->∀q r,OwnAt (es.set j (.own k cs)) vs q r->OwnAt es vs q r\/(q=j/\nu c=some r):=by
  rintro rb vs e hb hh q r ⟨k',ds,n',cap,h1,h2,h3⟩;rw[List.getElem?_set]at h1;split at h1
  ·rename_i e1;subst e1;rcases cell hb hh _ h2 with⟨_,p,h4⟩|⟨g,cap',ds',e',h4,_,_,_,h5,_⟩
   ·simp only[Value.slice.injEq]at h4;omega
   simp only[Value.slice.injEq,ZI,Addr.mk.injEq]at h4;obtain⟨⟨rfl,_⟩,_⟩:=h4;exact .inr ⟨rfl,h5⟩
  exact .inl ⟨k',ds,n',cap,h1,h2,h3⟩
 have ft:∀{rb r:Nat},nu b=some rb->Ft w rb (.bag (es.set j (.own k cs))) r->Ft w rb (.bag es) r\/nu c=some r:=by
  rintro rb r hb (h|⟨vs,e,q,h1,h2⟩)
  ·exact .inl (.inl h)
  rcases own hb h1 q r h2 with h3|h3
  ·exact .inl (.inr ⟨vs,e,q,h1,h3⟩)
  exact .inr h3.2
 refine Stp.still i (by simp) (λq rb x hq hx=>?_) (λq rb x r hq hx ho hf=>?_) (λq q' rb rb' x x' r hq hq' hx hx' ho ho' hr hr'=>?_)
 ·rcases at_ q x hx with⟨_,rfl⟩|⟨rfl,rfl⟩|⟨_,_,hx⟩
  ·trivial
  ·obtain⟨h0,vs,e,h1,h2,h3,h4,h5⟩:=i.blk _ rb _ hq hA
   have notRow:∀r,nu c=some r->∀z,¬OwnAt es vs z r:=λr hr z hz=>hne (i.injF q c rb r _ _ r hq hr hA hC rfl rfl (.inr ⟨vs,e,z,h1,hz⟩) (.inl rfl))
   refine⟨h0,vs,e,h1,by simpa using h2,λz y v hy hv=>?_,λz r hz=>?_,λz z' r hz hz'=>?_⟩
   ·rw[List.getElem?_set]at hy;split at hy
    ·rename_i ez;subst ez;simp only[ZI]at hy;subst hy;rcases cell hq h1 v hv with h6|⟨g,cap,ds,e',h6,hp,h7,h8,h9,h10,h11,h12⟩
     ·exact .inl h6
     exact .inr ⟨g,n,cap,ds,e',h6,hp,hn,h7,h8,(i.ftF h9 hC rfl (.inl rfl)).1,h10,h11,h12⟩
    exact h3 z y v hy hv
   ·rcases own hq h1 z r hz with h6|⟨_,h6⟩
    ·exact h4 z r h6
    rintro rfl;exact hne (i.inj q c _ _ _ hq h6 hA hC rfl rfl)
   rcases own hq h1 z r hz with h6|⟨e6,h6⟩
   ·rcases own hq h1 z' r hz' with h7|⟨_,h7⟩
    ·exact h5 z z' r h6 h7
    exact absurd h6 (notRow r h7 z)
   rcases own hq h1 z' r hz' with h7|⟨e7,_⟩
   ·exact absurd h7 (notRow r h6 z')
   exact e6.trans e7.symm
  exact i.blk q rb x hq hx
 ·rcases at_ q x hx with⟨_,rfl⟩|⟨rfl,rfl⟩|⟨_,_,hx⟩
  ·cases ho
  ·rcases ft hq hf with h|h
   ·exact⟨_,_,rb,hq,hA,rfl,h⟩
   exact .of h hC rfl
  exact⟨q,x,rb,hq,hx,ho,hf⟩
 rcases at_ q x hx with⟨_,rfl⟩|⟨e1,rfl⟩|⟨g1,g2,kx⟩
 ·cases ho
 ·rcases at_ q' x' hx' with⟨_,rfl⟩|⟨e2,rfl⟩|⟨g1',g2',kx'⟩
  ·cases ho'
  ·exact e1.trans e2.symm
  subst e1;rcases ft hq hr with h|h
  ·exact i.injF q q' rb rb' _ x' r hq hq' hA kx' rfl ho' h hr'
  exact absurd (i.injF c q' r rb' _ x' r h hq' hC kx' rfl ho' (.inl rfl) hr').symm g1'
 rcases at_ q' x' hx' with⟨_,rfl⟩|⟨e2,rfl⟩|⟨g1',g2',kx'⟩
 ·cases ho'
 ·subst e2;rcases ft hq' hr' with h|h
  ·exact i.injF q q' rb rb' x _ r hq hq' kx hA ho rfl hr h
  exact absurd (i.injF q c rb r x _ r hq h kx hC ho rfl hr (.inl rfl)) g1
 exact i.injF q q' rb rb' x x' r hq hq' kx kx' ho ho' hr hr'
def Stp.take (i:Inv F nu A w) {b j n k:Nat}{es:List Ent}{cs:List AV}(hA:A[b]? =some (.bag es)) (hj:es[j]? =some (.own k cs)) (hn:n*k=cs.length) (hk:0<k):
 ∃nu',Stp F nu A w F nu' (A.set b (.bag (es.set j (.av (.gslice A.length n k))))++[.cells cs]) w:=by
 have hjl:j<es.length:=(Yb.1 hj).1;have hbl:b<A.length:=(Yb.1 hA).1
 have ownS:∀{vs:Array Value}{a:AV}{q r:Nat},OwnAt (es.set j (.av a)) vs q r->q≠j/\OwnAt es vs q r:=by
  rintro vs a q r ⟨k',ds,n',cap,h1,h2,h3⟩;rw[List.getElem?_set]at h1;split at h1
  ·simp at h1
  rename_i e1;exact⟨λe=>e1 e.symm,k',ds,n',cap,h1,h2,h3⟩
 have ftS:∀{a:AV}{rb r:Nat},Ft w rb (.bag (es.set j (.av a))) r->Ft w rb (.bag es) r:=by
  rintro a rb r (h|⟨vs,e,q,h1,h2⟩)
  ·exact .inl h
  exact .inr ⟨vs,e,q,h1,(ownS h2).2⟩
 have plain:(∀rb vs e,nu b=some rb->w.heap[rb]? =some (.cells vs e (0,0))->∀v,vs[j]? =some v->R F nu w (.gslice A.length n k) v)->∃nu',Stp F nu A w F nu' (A.set b (.bag (es.set j (.av (.gslice A.length n k))))++[.cells cs]) w:=by
  intro hv
  have s1:Stp F nu A w F nu (A.set b (.bag (es.set j (.av (.gslice A.length n k))))) w:=by
   refine Stp.still i (by simp) (λc rb x hc hx=>?_) (λc rb x r hc hx ho hf=>?_) (λc c' rb rb' x x' r hc hc' hx hx' ho ho' hr hr'=>?_)
   ·rcases getElem?_set' hx with⟨rfl,rfl⟩|⟨_,hx⟩
    ·obtain⟨h0,vs,e,h1,h2,h3,h4,h5⟩:=i.blk _ rb _ hc hA;refine⟨h0,vs,e,h1,by simpa using h2,λz y v hy hz=>?_,λz r hz=>h4 z r (ownS hz).2,λz z' r hz hz'=>h5 z z' r (ownS hz).2 (ownS hz').2⟩;rw[List.getElem?_set]at hy;split at hy
     ·rename_i ez;subst ez;simp only[ZI]at hy;subst hy;exact hv rb vs e hc h1 v hz
     exact h3 z y v hy hz
    exact i.blk c rb x hc hx
   ·rcases getElem?_set' hx with⟨rfl,rfl⟩|⟨_,hx⟩
    ·exact⟨_,_,rb,hc,hA,rfl,ftS hf⟩
    exact⟨c,x,rb,hc,hx,ho,hf⟩
   rcases getElem?_set' hx with⟨e1,e1'⟩|⟨_,hx⟩
   ·rcases getElem?_set' hx' with⟨e2,_⟩|⟨_,hx'⟩
    ·exact e1.symm.trans e2
    subst e1 e1';exact i.injF b c' rb rb' _ x' r hc hc' hA hx' rfl ho' (ftS hr) hr'
   rcases getElem?_set' hx' with⟨e2,e2'⟩|⟨_,hx'⟩
   ·subst e2 e2';exact i.injF c b rb rb' x _ r hc hc' hx hA ho rfl hr (ftS hr')
   exact i.injF c c' rb rb' x x' r hc hc' hx hx' ho ho' hr hr'
  exact⟨nu,s1.trans (Stp.more s1.inv _)⟩
 cases hnb:nu b with
 |none=>exact plain λrb vs e h=>by rw[hnb]at h;cases h
 |some rb=>
  obtain⟨h0,vs,e,h1,h2,h3,h4,h5⟩:=i.blk b rb _ hnb hA;have hjv:vs[j]? =some (vs[j]'(by omega)):=Yi (by omega);obtain⟨rfl,p,hv⟩|⟨g,n',cap,ds,e',hv,q0,q1,q2,q3,q4,q5,q6,q7⟩:=h3 j _ _ hj hjv
  ·refine plain λrb' vs' e' hb' hh v hv'=>?_
   rw[hnb]at hb';injection hb' with hb';subst hb';rw[h1]at hh;simp only[ZI,Obj.cells.injEq]at hh;obtain⟨rfl,rfl,_⟩:=hh;rw[hjv]at hv';injection hv' with hv'
   have e0:n=0:=by
    rcases bG n with h|h
    ·exact h
    have:=Nat.mul_pos h hk;simp at hn;omega
   rw[<-hv',hv,e0];exact .gslice0 _ _ _
  have e0:n'=n:=gv hk (q1.trans hn.symm);subst e0;have hown:OwnAt es vs j g:=⟨k,cs,n',cap,hj,by rw[hjv,hv],q0⟩;have hgb:g≠rb:=h4 j g hown;have hFt:Ft w rb (.bag es) g:= .inr ⟨vs,e,j,h1,hown⟩;have x:Ext F nu w F (upd nu A.length g) w:=⟨λ_ h=>h,qec i _,λ_ _=>rfl,λ_ _ h=>h⟩;have hgl:g<w.heap.size:=(i.ftF hnb hA rfl hFt).2;have split:∀c r y,upd nu A.length g c=some r->(A.set b (.bag (es.set j (.av (.gslice A.length n' k))))++[.cells cs])[c]? =some y->
   (c=A.length/\r=g/\y= .cells cs)\/(c=b/\r=rb/\y= .bag (es.set j (.av (.gslice A.length n' k))))\/(c≠A.length/\c≠b/\nu c=some r/\A[c]? =some y):=by
   intro c r y hc hy;by_cases ec:c=A.length
   ·subst ec;simp only[upd,aT,ZI]at hc;rw[Yo (by simp)]at hy;simp at hy;exact .inl ⟨rfl,hc.symm,hy.symm⟩
   simp only[upd,aa ec]at hc;rcases aw c A.length with h|h
   ·rw[Yf (by simpa using h)]at hy;rcases getElem?_set' hy with⟨rfl,rfl⟩|⟨h6,h7⟩
    ·rw[hnb]at hc;injection hc with hc;exact .inr (.inl ⟨rfl,hc.symm,rfl⟩)
    exact .inr (.inr ⟨ec,λe=>h6 e.symm,hc,h7⟩)
   rw[i.fresh c h]at hc;cases hc
  have ftB:∀{r:Nat},Ft w rb (.bag (es.set j (.av (.gslice A.length n' k)))) r->Ft w rb (.bag es) r/\r≠g:=by
   rintro r (h|⟨vs',e',q,h6,h7⟩)
   ·exact⟨.inl h,λe=>hgb (e.symm.trans h)⟩
   rw[h1]at h6;simp only[ZI,Obj.cells.injEq]at h6;obtain⟨rfl,rfl,_⟩:=h6;obtain⟨h8,h9⟩:=ownS h7;exact⟨.inr ⟨vs,e,q,h1,h9⟩,λe=>h8 (h5 q j g (e▸h9) hown)⟩
  refine⟨upd nu A.length g,x.f,x.n,x.shape,⟨λc r y hc hy=>?_,λc c' r r' y y' z hc hc' hy hy' ho ho' hz hz'=>?_,λc hc=>?_,i.ltF,λc r hc=>?_,eh i.glob x⟩,λ_ _ _=>rfl,?_,ai _,rfl,rfl,rfl,λc hc=>by simp only[upd];rw[aa (by omega)],by simp,λ_ h=> .inl h⟩
  ·rcases split c r y hc hy with⟨_,rfl,rfl⟩|⟨rfl,rfl,rfl⟩|⟨_,_,h6,h7⟩
   ·have:=aW k q2;exact⟨q4,ds,e',q5,by omega,λz a v ha hv=>(q7 z a v ha hv).mono x⟩
   ·refine⟨h0,vs,e,h1,by simpa using h2,λz y v hy hz=>?_,λz r hz=>h4 z r (ownS hz).2,λz z' r hz hz'=>h5 z z' r (ownS hz).2 (ownS hz').2⟩;rw[List.getElem?_set]at hy;split at hy
    ·rename_i ez;subst ez;simp only[ZI]at hy;subst hy;rw[hjv]at hz;injection hz with hz;rw[<-hz,hv];exact .gslice _ _ _ g cap e' ds.size q0 (upd_same _ _) q2 (by simp[World.shape?,q5]) q6 q3
    exact(h3 z y v hy hz).mono x λ_ _ _ _ _ _=>⟨rfl,id⟩
   exact i.keepB x h6 h7 λ_ _ _=>⟨rfl,id⟩
  ·rcases split c r y hc hy with⟨e1,e2,e3⟩|⟨e1,e2,e3⟩|⟨g1,g2,h6,h7⟩
   ·rcases split c' r' y' hc' hy' with⟨e1',_,_⟩|⟨_,e2',e3'⟩|⟨_,g2',h6',h7'⟩
    ·exact e1.trans e1'.symm
    ·subst e2 e3 e2' e3';exact absurd (eO (by intro es e;cases e) hz) (ftB hz').2
    subst e2 e3;have ez:=eO (by intro es e;cases e) hz;subst ez;exact absurd (i.injF b c' rb r' _ y' _ hnb h6' hA h7' rfl ho' hFt hz').symm g2'
   ·rcases split c' r' y' hc' hy' with⟨_,e2',e3'⟩|⟨e1',_,_⟩|⟨_,g2',h6',h7'⟩
    ·subst e2 e3 e2' e3';exact absurd (eO (by intro es e;cases e) hz') (ftB hz).2
    ·exact e1.trans e1'.symm
    subst e2 e3;exact absurd (i.injF b c' _ r' _ y' z hnb h6' hA h7' rfl ho' (ftB hz).1 hz').symm g2'
   rcases split c' r' y' hc' hy' with⟨_,e2',e3'⟩|⟨_,e2',e3'⟩|⟨_,g2',h6',h7'⟩
   ·subst e2' e3';have ez:=eO (by intro es e;cases e) hz';subst ez;exact absurd (i.injF b c rb r _ y _ hnb h6 hA h7 rfl ho hFt hz).symm g2
   ·subst e2' e3';exact absurd (i.injF b c _ r _ y z hnb h6 hA h7 rfl ho (ftB hz').1 hz).symm g2
   exact i.injF c c' r r' y y' z h6 h6' h7 h7' ho ho' hz hz'
  ·have h6:A.length+1<=c:=by simpa using hc
   simp only[upd];rw[aa (by omega)];exact i.fresh c (by omega)
  ·simp only[upd]at hc;split at hc
   ·injection hc with hc;omega
   exact i.ltN c r hc
  rintro z _ ⟨c,y,r,hc,hy,ho,hz⟩;rcases split c r y hc hy with⟨_,e2,e3⟩|⟨_,e2,e3⟩|⟨_,_,h6,h7⟩
  ·subst e2 e3;have ez:=eO (by intro es e;cases e) hz;subst ez;exact⟨b,_,rb,hnb,hA,rfl,hFt⟩
  ·subst e2 e3;exact⟨b,_,_,hnb,hA,rfl,(ftB hz).1⟩
  exact⟨c,y,r,h6,h7,ho,hz⟩
def Stp.freezeBag (i:Inv F nu A w) {b:Nat}{es:List Ent}{fs:List AV}(hA:A[b]? =some (.bag es)) (hl:fs.length=es.length)
 (hfs:∀(j:Nat) (y:Ent) (a:AV),es[j]? =some y->fs[j]? =some a->∃k n cs,y= .own k cs/\n*k=cs.length/\0<k/\a= .fslice n cs):
 ∃F',Stp F nu A w F' nu (A.set b (.frozen fs)) w:=by
 let F':Nat->Prop:=λr=>F r\/ ∃rb,nu b=some rb/\Ft w rb (.bag es) r
 have x:Ext F nu w F' nu w:=⟨λ_ h=> .inl h,λ_ _ h=>h,λ_ _=>rfl,λ_ _ h=>h⟩
 have hF':∀{c rc:Nat}{y:Blk}{r:Nat},c≠b->nu c=some rc->A[c]? =some y->y.owned=true->Ft w rc y r->F' r->F r:=by
  rintro c rc y r hne hc hy ho hr (h|⟨rb,hb,hf⟩)
  ·exact h
  exact absurd (i.injF c b rc rb y _ r hc hb hy hA ho rfl hr hf) hne
 refine⟨F',x.f,x.n,x.shape,⟨λc rc y hc hy=>?_,λc c' rc rc' y y' r hc hc' hy hy' ho ho' hr hr'=>?_,λc hc=>i.fresh c (by simpa using hc),λr hr=>?_,i.ltN,eh i.glob x⟩,λ_ _ _=>rfl,?_,ai _,rfl,rfl,rfl,λ_ _=>rfl,by simp,λr hr=>?_⟩
 ·rcases getElem?_set' hy with⟨rfl,rfl⟩|⟨hne,hy⟩
  ·obtain⟨h0,vs,e,h1,h2,h3,h4,h5⟩:=i.blk _ rc _ hc hA;refine⟨.inr ⟨rc,hc,.inl rfl⟩,vs,e,_,h1,by omega,λj a v ha hv=>?_⟩
   have hjl:j<es.length:=by have:=(Yb.1 ha).1;omega
   have hy:es[j]? =some es[j]:=Ya hjl;obtain⟨k,n,cs,ey,hn,hk,rfl⟩:=hfs j _ a hy ha;rw[ey]at hy;obtain⟨rfl,p,rfl⟩|⟨g,n',cap,ds,e',rfl,q0,q1,q2,q3,q4,q5,q6,q7⟩:=h3 j _ _ hy hv
   ·have e0:n=0:=by
     rcases bG n with h|h
     ·exact h
     have:=Nat.mul_pos h hk;simp at hn;omega
    subst e0;exact .fslice0 _ _
   have e0:n'=n:=gv hk (q1.trans hn.symm);subst e0;have hle:=aW k q2;refine .fslice n' cs ⟨g,0,none⟩ cap (ds.toList.take cs.length) q2 (.inr ⟨rc,hc,.inr ⟨vs,e,j,h1,k,cs,n',cap,hy,hv,q0⟩⟩) (by simp;omega) (λz v hz=>?_) (λz a v ha hz=>?_)
   ·rw[Yt]at hz;split at hz
    ·refine cell_of_heap (off:=0) q5 ?_;rw[aG];simpa using hz
    cases hz
   rw[Yt]at hz;split at hz
   ·exact(q7 z a v ha (by simpa using hz)).mono x
   cases hz
  exact i.keepB x hc hy λho r hr=>⟨rfl,hF' (λe=>hne e.symm) hc hy ho hr⟩
 ·rcases getElem?_set' hy with⟨_,rfl⟩|⟨_,hy⟩
  ·cases ho
  rcases getElem?_set' hy' with⟨_,rfl⟩|⟨_,hy'⟩
  ·cases ho'
  exact i.injF c c' rc rc' y y' r hc hc' hy hy' ho ho' hr hr'
 ·rcases hr with h|⟨rb,hb,hf⟩
  ·exact i.ltF r h
  exact(i.ftF hb hA rfl hf).2
 ·rintro r _ ⟨c,y,rc,hc,hy,ho,hf⟩;rcases getElem?_set' hy with⟨_,rfl⟩|⟨_,hy⟩
  ·cases ho
  exact⟨c,y,rc,hc,hy,ho,hf⟩
 rcases hr with h|⟨rb,hb,hf⟩
 ·exact .inl h
 exact .inr (.inr ⟨b,_,rb,hb,hA,rfl,hf⟩)
end
end
section
open Go.RowKit
variable [Glob]{α:Type}{P:Program}{A:Heap}{S:List Nat}{m:List (Option Nat)}
abbrev AV.i (n:Int):AV:= .int .i64 n
def fa {E:Enc α}{l:List α}:qdf (l.flatMap E.c):=E.flat_allN l
def ot {p:Prop}[Decidable p] (h:decide p=true):p:=aP h
def of_ {p:Prop}[Decidable p] (h:decide p=false):¬p:=dp h
def bnd {α β:Type}{o:Option α}{f:α->Option β}{b:β}(h:o.bind f=some b):∃a,o=some a/\f a=some b:=aM.1 h
def sq [Base]{c1 c2:Code}{s:St}{Q:XA->St->Prop}(h:Goes P c1 s (andThen (λs'=>Goes P c2 s' Q) Q)):Goes P (.seq c1 c2) s Q:=Goes.seq h
def Goes.rg [Base] (hm:P.follows .mixedOrders=true) {id m:Nat}{ops:Array Oper}{draw:Bool}{l0:List (Nat×AV)}{Q:XA->St->Prop}(l:List (Nat×AV)) (A':Heap) (hq:Q .normal (ofG m l,A')) (h:qig P ops draw [] (l.map (·.1)) (ofG m l0,A)=some (ofG m l,A',[]):=by kernel_rfl):
 Goes P (.region id ops draw) (ofG m l0,A) Q:=Goes.reg hm [] _ h trivial hq
def hsl (b k:Nat) (o:Option (List α)):AV:=match o with
 |none=> .nilslice
 |some l=> .oslice b l.length k
abbrev hof (o:Option (List α)):List α:=o.getD []
def pz (c:Bool) (b off:Nat):AV:=match c with
 |true=> .ptr b off
 |false=> .nilptr
def zS.hs {i b k:Nat}{o:Option (List α)}(h:m[i]? =some (some b)):zS A S m (hsl i k o) (hsl b k o):=by
 cases o with
 |none=>exact .same .nilslice
 |some l=>exact .oslice h
def zS.hs0 {i k:Nat}:zS A S m (hsl i k (none:Option (List α))) .nilslice:= .same .nilslice
def zS.hs1 {i b k:Nat}{l:List α}(h:m[i]? =some (some b)):zS A S m (hsl i k (some l)) (.oslice b l.length k):= .oslice h
def zS.pz {i b off:Nat}{c:Bool}(h:m[i]? =some (some b)):zS A S m (Go.Av.pz c i off) (Go.Av.pz c b off):=by
 cases c with
 |false=>exact .same .nilptr
 |true=>exact .ptr h
def zS.pz0 {i off:Nat}:zS A S m (Go.Av.pz false i off) .nilptr:= .same .nilptr
def yQ.cut {E:Enc α}{l r:List α}{hi:Int}(h:cut l 0 hi=some r):yQ A S m (.cells (r.flatMap E.c)) (.cells (l.flatMap E.c)):=by
 obtain⟨⟨_,h1,h2⟩,rfl⟩:=qcV h
 have e:l.take hi.toNat=(l.drop (0:Int).toNat).take (hi.toNat-(0:Int).toNat):=by simp
 rw[<-e]
 have hl:(l.take hi.toNat).length=hi.toNat:=by rw[Ym];omega
 refine .pre (E.flat_allN _) ?_ ?_
 ·rw[E.flat_len,E.flat_len,hl];exact aW _ (by omega)
 rw[E.flat_len,hl,qcG]
def qoe {l r:List α}{hi:Int}(h:cut l 0 hi=some r):hi.toNat=r.length:=by
 obtain⟨⟨_,h1,h2⟩,rfl⟩:=qcV h;simp;omega
def sh_os {t e:TypeId}{k b:Nat}(T:SlT P t e k b) {l r:List α}{o:Nat}{hi:Int}(h:cut l 0 hi=some r):(Obl.done (.opt (zV P t (.oslice o l.length k) none (some (.int .i64 hi)) none)) (.oslice o r.length k)).Holds P:=by
 obtain⟨inf,z,g1,g2,_⟩:=T.info;have hc:=(qcV h).1;have hb:=qdI (n:=l.length) (lo:=none) (hi:=some hi) rfl rfl hc;show Pg.opt _=_;simp only[opI,bV,YN]at hb;simp only[zV,T.und,g1,hb,g2,Pg.opt,gt,cH,aT,<-qoe h]
def qhk (b k n i:Nat):AV:= .slice b (if n-i=0 then 0 else 0+i*k) (n-i) (n-i) k
def qh1 (l:List α) (i:Nat) (ys:List α):List α:=l.take i++cpy (l.drop i) ys
def qix {n cap:Nat}{lo hi:Option Int}{l h:Int}(hl:l=lo.getD 0) (hh:h=hi.getD n) (hn:n<=cap) (hc:0<=l/\l<=h/\h<=cap):qaW (opI lo) (opI hi) none n cap=some (l.toNat,h.toNat,cap):=by
 obtain⟨h1,h2,h3⟩:=hc
 have e1:vY (opI hi) n cap=some h.toNat:=by
  cases hi with
  |none=>simp only[opI,vY,bV]at hh⊢;rw[hh];simp
  |some v=>simp only[opI,vY,YN]at hh⊢;subst hh;rw[ae ⟨by omega,h3⟩]
 have e2:vY (opI lo) 0 h.toNat=some l.toNat:=by
  cases lo with
  |none=>simp only[opI,vY,bV]at hl⊢;rw[hl];simp
  |some v=>simp only[opI,vY,YN]at hl⊢;subst hl;rw[ae ⟨h1,by omega⟩]
 have e0:vY none cap cap=some cap:=rfl;simp only[qaW,be,ZF,false_and,bh,e0,e1,e2]
def at' (l:List α) (i:Int):Option Nat:=if 0<=i/\i<=l.length then some i.toNat else none
def qio {l:List α}{i:Int}{j:Nat}(h:at' l i=some j):0<=i/\i<=l.length/\j=i.toNat:=by
 unfold at' at h;split at h
 ·rename_i h0;injection h with h;exact⟨h0.1,h0.2,h.symm⟩
 cases h
def qrW {t e:TypeId}{k b:Nat}(T:SlT P t e k b) {l:List α}{o j:Nat}{i:Int}(h:at' l i=some j):(Obl.done (.opt (zV P t (.slice o 0 l.length l.length k) (some (.int .i64 i)) none none)) (qhk o k l.length j)).Holds P:=by
 obtain⟨inf,z,g1,g2,_⟩:=T.info;obtain⟨h1,h2,rfl⟩:=qio h;have hb:=qix (n:=l.length) (cap:=l.length) (lo:=some i) (hi:=none) rfl rfl (ai _) ⟨h1,by simpa using h2,by simp⟩;show Pg.opt _=_;simp only[opI,bV,YN,aU]at hb;simp only[zV,T.und,g1,hb,g2,Pg.opt,aT,qhk];congr 1;by_cases e0:l.length=i.toNat
 ·simp[e0]
 have:¬l.length-i.toNat=0:=by omega
 rw[aa e0,aa this]
def quc {t e:TypeId}{k b:Nat}(T:SlT P t e k b) {l:List α}{o j:Nat}{i:Int}(h:at' l i=some j):(Obl.done (.opt (zV P t (.slice o 0 l.length l.length k) none (some (.int .i64 i)) none)) (.slice o 0 j l.length k)).Holds P:=by
 obtain⟨inf,z,g1,g2,_⟩:=T.info;obtain⟨h1,h2,rfl⟩:=qio h;have hb:=qix (n:=l.length) (cap:=l.length) (lo:=none) (hi:=some i) rfl rfl (ai _) ⟨by simp,by simpa using h1,by simpa using h2⟩;show Pg.opt _=_;simp only[opI,bV,YN,gt]at hb;simp only[zV,T.und,g1,hb,g2,Pg.opt,aT,bC,bz,ite_self,dx]
variable {E:Enc α}{k:Nat}
def qs9 {t e:TypeId}{b:Nat}(T:SlT P t e k b) (hk:E.k=k) {A':Heap}{Y:AV}{ys l r:List α}{o j:Nat}(hs:qj4 E k S A Y ys) (hj:j<=l.length)
 (hb:A[o]? =some (.cells (l.flatMap E.c))) (hS:S.contains o=true) (h:some (qh1 l j ys)=some r) (hA:A'=A.set o (.cells (r.flatMap E.c))):(Obl.run S (qcR P [t,t] (.wslice o (j*k) (l.length-j) k) Y) A (.int .i64 ((Nat.min ys.length (l.length-j):Nat):Int)) A' true).Holds P:=by
 injection h with h;subst hA h hk;obtain⟨inf,z,h1,h2,_⟩:=T.info
 have key:qcR P [t,t] (.wslice o (j*E.k) (l.length-j) E.k) Y=qW E.k Y λn cs=>qbG E.k o (j*E.k) (l.length-j) n cs:=by
  simp only[qcR,T.und,h1,h2,aT]
 rw[Obl.Holds,key];obtain⟨f1,e1⟩:=hs.run (λn cs=>qbG E.k o (j*E.k) (l.length-j) n cs) A.length [];refine⟨(o,true)::(o,false)::f1,e1.trans ?_,by simp⟩;have e2:(ys.flatMap E.c).take (Nat.min ys.length (l.length-j)*E.k)=(ys.take (Nat.min ys.length (l.length-j))).flatMap E.c:=qcG E ys _
 have e3:((ys.take (Nat.min ys.length (l.length-j))).flatMap E.c).length=Nat.min ys.length (l.length-j)*E.k:=by
  rw[E.flat_len,Ym];congr 1;simp only[Nat.min_def];split<;>split<;>omega
 have e4:(l.flatMap E.c).drop (j*E.k+Nat.min ys.length (l.length-j)*E.k)=(l.drop (j+Nat.min ys.length (l.length-j))).flatMap E.c:=by
  rw[<-Nat.add_mul];exact qf4 E l _
 have e5:j*E.k+Nat.min ys.length (l.length-j)*E.k<=(l.flatMap E.c).length:=by
  rw[E.flat_len,<-Nat.add_mul];refine aW _ ?_;have:=fL ys.length (l.length-j);exact bx (Nat.add_le_add_left this j) (by omega)
 have e6:(l.flatMap E.c).take (j*E.k)=(l.take j).flatMap E.c:=qcG E l _;simp only[qbG];rw[qbd hS hb];simp only[e2,e3,e5,aT];rw[qd0 hS (qda hb)];simp only[splice,e3,e4,e6,qh1,cpy,YJ,gp,List.flatMap_append,Yz];rfl
def qlL {l:List α}{i:Int}{j:Nat}(h:at' l i=some j):j<=l.length:=by
 obtain⟨h1,h2,rfl⟩:=qio h;omega
def qn9 {p:Prop}[Decidable p]{u:Unit}(h:(if p then some ()else none:Option Unit)=some u):p:=by
 split at h
 ·rename_i h0;exact h0
 cases h
def qpt {l ys r:List α}{j:Nat}(hj:j<=l.length) (h:some (qh1 l j ys)=some r):l.length=r.length:=by
 injection h with h;subst h;have:=qoZ (l:=l.drop j) (ys:=ys) rfl;rw[qh1,Yq,<-this,Ym,YJ,aX hj];omega
end
section
variable [Glob]{α:Type}{P:Program}{A:Heap}
def Obl.orc:Obl->Orc
 | .triv=> .no
 | .done _ v=> .done v
 | .run _ _ _ v A' wr=> .run v A' wr
 | .call _ _ _ S args' v=> .call S args' v
 | .callF _ _ _ S args' v=> .callF S args' v
 | .callH _ _ _ S v A'=> .callH S v A'
def an {a b:Prop}(x:a) (y:b):a/\b:=⟨x,y⟩
def nb {b:Bool}(h:b=false):¬b=true:=by rw[h];exact dq
def si {a b:α}(h:some a=some b):a=b:=Ye h
def nl {a b:Nat}(h:Nat.ble a b=true):a<=b:=Ys h
def nI {k:IntKind}{n:Int}:qN (.int k n):=qN.int _ _
def nS {s:List UInt8}:qN (.str s):=qN.str _
def nB {b:Bool}:qN (.bool b):=qN.bool _
def tI {d:Nat}{k:IntKind}{n:Int}:Still (d+1) (.int k n):=Still.int _ _ _
def tS {d:Nat}{s:List UInt8}:Still (d+1) (.str s):=Still.str _ _
def tB {d:Nat}{b:Bool}:Still (d+1) (.bool b):=Still.bool _ _
abbrev bZ:Blk:= .cells [.i 0,.nilslice]
end
section
variable {α κ:Type}[BEq κ]{P:Program}
structure KeyE (K:κ->AV) (d:TypeDesc):Prop where
 eq:∀a b,qow (K a) (K b)=some (a==b)
 plain:∀a,plainKey d (K a)=true
structure MpT (P:Program) (t kt et:TypeId) (d:TypeDesc) (z:AV):Prop where
 und:P.underlying t=some (.map kt et)
 key:P.underlying kt=some d
 zero:((P.info? et).bind (·.zero)).map (qcz 3)=some z
end
section
variable [Glob]
def qli {a b:Nat}{u:Unit}(h:(if a=b then some ()else none:Option Unit)=some u):a=b:=by
 split at h
 ·assumption
 cases h
end
section
variable [Glob]
def qdh (k:IntKind) (a b:Int):Option Int:=if b=0 then none else some (k.wrap (a.tdiv b))
def qfo (_:IntKind) (a b:Int):Option Int:=if b=0 then none else some (a.tmod b)
def qsv {P:Program}{t:TypeId}{ox oy:Operand}{k:IntKind}{a b q:Int}(h:qdh k a b=some q):(Obl.done (.opt (qbI P .quo t ox oy (.int k a) (.int k b))) (.int k q)).Holds P:=by
 unfold qdh at h;split at h
 ·cases h
 rename_i hb;obtain rfl:=Ye h;show Pg.opt _=_;simp[qbI,qdg,qhI,hb,Pg.opt]
def qtk {P:Program}{t:TypeId}{ox oy:Operand}{k:IntKind}{a b q:Int}(h:qfo k a b=some q):(Obl.done (.opt (qbI P .rem t ox oy (.int k a) (.int k b))) (.int k q)).Holds P:=by
 unfold qfo at h;split at h
 ·cases h
 rename_i hb;obtain rfl:=Ye h;show Pg.opt _=_;simp[qbI,qdg,qhI,hb,Pg.opt]
end
section
variable [Glob]{α:Type}{P:Program}{A:Heap}
def OH (P:Program) (A:Heap) (o:Obl) (B:Heap):Prop:=o.Holds P
def HC (P:Program) (A:Heap) (os:List Obl):Prop:=qdL P os
def Obl.aft:Obl->Heap->Heap
 | .run _ _ _ _ A' _,_=>A'
 | .callH _ _ _ _ _ A',_=>A'
 |_,A=>A
class SC (d:Nat) (a:AV):Prop where
 h:Still d a
class SE {α:Type}(E:Enc α):Prop where
 h:E.dep+1<=7
class SX (d:Nat) (AZ:List AV):Prop where
 h:∀a∈AZ,Still d a
instance {d:Nat}:SX d []:=⟨AllST.nil⟩
instance {d:Nat}{a:AV}{AZ:List AV}[h:SC d a] [k:SX d AZ]:SX d (a::AZ):=⟨AllST.cons h.h k.h⟩
instance {d:Nat}{k:IntKind}{n:Int}:SC (d+1) (.int k n):=⟨tI⟩
instance {d:Nat}{s:List UInt8}:SC (d+1) (.str s):=⟨tS⟩
instance {d:Nat}{b:Bool}:SC (d+1) (.bool b):=⟨tB⟩
instance {d:Nat}:SC (d+1) .nilslice:=⟨Still.nilslice _⟩
instance {d:Nat}:SC (d+1) .nilfunc:=⟨Still.nilfunc _⟩
instance {d:Nat}:SC (d+1) .nilptr:=⟨Still.nilptr _⟩
instance {d:Nat}:SC (d+1) .nilmap:=⟨Still.nilmap _⟩
instance {d:Nat}:SC (d+1) .niliface:=⟨λ_ _=>rfl⟩
instance {d:Nat}{cs:List AV}[h:SX d cs]:SC (d+1) (.agg cs):=⟨Still.agg h.h⟩
instance {d:Nat}{cs:List AV}[h:SX d cs]:SC (d+1) (.tuple cs):=⟨Still.tuple h.h⟩
instance {d:Nat}{cs:List AV}{o:Nat}[h:SX d cs]:SC (d+1) (.fptr cs o):=⟨Still.fptr h.h⟩
instance {d:Nat}{f:Fn}{fs cs:List AV}[h:SX d fs] [k:SX d cs]:SC (d+1) (.func f fs cs):=⟨Still.func h.h k.h⟩
instance {d:Nat}{fs cs:List AV}[h:SX d fs] [k:SX d cs]:SC (d+1) (.fmap fs cs):=⟨Still.fmap h.h k.h⟩
instance {d:Nat}{E:Enc α}{l:List α}[h:SE E]:SC (d+7) (vl E l):=⟨yI E l (bx h.h (Nat.le_add_left _ _))⟩
instance:SE encI:=⟨nl rfl⟩
instance:SE encB:=⟨nl rfl⟩
instance:SE encS:=⟨nl rfl⟩
instance {k:IntKind}:SE (qcv k):=⟨nl rfl⟩
instance:SE (qbo encI):=⟨nl rfl⟩
instance:SE (qbo encS):=⟨nl rfl⟩
instance:SE (qbo encB):=⟨nl rfl⟩
def qov:∀(d:Nat) (a:AV) (A:Heap),frz A [] d a=frz [] [] d a
 |0,_,_=>rfl
 |d+1,a,A=>by
  have e:frz A [] d=frz [] [] d:=funext λx=>qov d x A
  unfold frz;rw[e];cases a<;>simp
def Obl.st:Obl->Obl
 | .call g args A S args' v=>match S with
   |[]=> .call g args [] [] args' v
   |b::S=> .call g args A (b::S) args' v
 |o=>o
def Obl.st_holds:∀{o:Obl},o.st.Holds P->o.Holds P
 | .triv,h=>h
 | .done _ _,h=>h
 | .run _ _ _ _ _ _,h=>h
 | .callF _ _ _ _ _ _,h=>h
 | .callH _ _ _ _ _ _,h=>h
 | .call _ _ _ (_::_) _ _,h=>h
 | .call g args A [] args' v,h=>by
   obtain⟨h1,h2⟩:=h;refine⟨?_,h2⟩;rw[show frz A [] 12=frz [] [] 12 from funext λx=>qov 12 x A];exact h1
def qdL.st:∀{os:List Obl},qdL P (os.map Obl.st)->qdL P os
 |[],_=>trivial
 |_::_,h=>⟨Obl.st_holds h.1,qdL.st h.2⟩
def Goes.rq [Base] (hm:P.follows .mixedOrders=true) {id m:Nat}{ops:Array Oper}{draw:Bool}{l0:List (Nat×AV)}{Q:XA->St->Prop}(ks:List Nat) (l:List (Nat×AV)) (A':Heap) {obls:List Obl}(ho:HC P A obls) (hq:Q .normal (ofG m l,A'))
 (h:(qig P ops draw (ks.zip (obls.map Obl.orc)) (l.map (·.1)) (ofG m l0,A)).map (λr=>(r.1,r.2.1,r.2.2.map Obl.st))=some (ofG m l,A',obls):=by kernel_rfl):Goes P (.region id ops draw) (ofG m l0,A) Q:=by
 obtain⟨r,h1,h2⟩:=Yd.1 h;obtain⟨f,B,os⟩:=r;simp only[ZP]at h2;obtain⟨rfl,rfl,rfl⟩:=h2;exact Goes.reg hm _ _ h1 (qdL.st ho) hq
def qay.rq [Base] (hm:P.follows .mixedOrders=true) {id m:Nat}{ops:Array Oper}{draw:Bool}{l0:List (Nat×AV)}(ks:List Nat) (l:List (Nat×AV)) (A':Heap) {obls:List Obl}(ho:HC P A obls)
 (h:(qig P ops draw (ks.zip (obls.map Obl.orc)) (l.map (·.1)) (ofG m l0,A)).map (λr=>(r.1,r.2.1,r.2.2.map Obl.st))=some (ofG m l,A',obls):=by kernel_rfl):qay P id ops draw (ofG m l0,A) (ofG m l,A'):=by
 obtain⟨r,h1,h2⟩:=Yd.1 h;obtain⟨f,B,os⟩:=r;simp only[ZP]at h2;obtain⟨rfl,rfl,rfl⟩:=h2;exact qay.reg hm _ _ h1 (qdL.st ho)
def hs (o:Obl) (h:o.Holds P):OH P A o (o.aft A):=h
def hx (A:Heap) {A0 B:Heap}{o:Obl}(h:OH P A o B):OH P A0 o B:=h
def cv {g:FuncId}{args:List AV}{v:AV}[k:SX 12 args] [q:SC 12 v] (h:qc P (.fn g) args [] v []):OH P A (.call g args [] [] args v) A:=qrQ k.h h q.h
def gw {b w:Bool}(h:b=w):OH P A (.done (.done (.bool b)) (.bool w)) A:=az (λx=>Pg.done (.bool x)) h
def iv {t e:TypeId}{k b:Nat}(T:SlT P t e k b) (E:Enc α) {l:List α}{i:Int}{x:α}(h:idx l i=some x) (hk:E.k=k:=by rfl):OH P A (.done (.opt (jb P t (vl E l) (.i i))) (.fptr (l.flatMap E.c) (i.toNat*k))) A:=ix_vl T hk h
def lv (off:Nat) {t:TypeId}(T:CeT P t) (E:Enc α) {l:List α}{i:Int}{x:α}(h:idx l i=some x) {c:AV}(hc:(E.c x)[off]? =some c) (ho:Nat.ble (off+1) E.k=true:=by rfl):OH P A (.done (qa1 P t (.fptr (l.flatMap E.c) (i.toNat*E.k+off))) c) A:=ld_vl T rfl h (nl ho) hc
def la {t:TypeId}{k:Nat}(T:AgT P t k) (E:Enc α) {l:List α}{i:Int}{x:α}(h:idx l i=some x) (hk:E.k=k:=by rfl):OH P A (.done (qa1 P t (.fptr (l.flatMap E.c) (i.toNat*k))) (.agg (E.c x))) A:=ld_ag T hk h
end
section
variable [Glob]{P:Program}{A:Heap}
section
variable [Base]{id m:Nat}{ops:Array Oper}{draw:Bool}{l0:List (Nat×AV)}{Q:XA->St->Prop}{c2:Code}
def sg (hm:P.follows .mixedOrders=true) (l:List (Nat×AV)) (A':Heap) (hq:Goes P c2 (ofG m l,A') Q) (h:qig P ops draw [] (l.map (·.1)) (ofG m l0,A)=some (ofG m l,A',[]):=by kernel_rfl):Goes P (.seq (.region id ops draw) c2) (ofG m l0,A) Q:=sq (Goes.rg hm l A' hq h)
def sh (hm:P.follows .mixedOrders=true) (l:List (Nat×AV)) (hq:Goes P c2 (ofG m l,A) Q) (h:qig P ops draw [] (l.map (·.1)) (ofG m l0,A)=some (ofG m l,A,[]):=by kernel_rfl):Goes P (.seq (.region id ops draw) c2) (ofG m l0,A) Q:=sq (Goes.rg hm l A hq h)
def gh (hm:P.follows .mixedOrders=true) (l:List (Nat×AV)) (hq:Q .normal (ofG m l,A)) (h:qig P ops draw [] (l.map (·.1)) (ofG m l0,A)=some (ofG m l,A,[]):=by kernel_rfl):Goes P (.region id ops draw) (ofG m l0,A) Q:=Goes.rg hm l A hq h
def gq (hm:P.follows .mixedOrders=true) (ks:List Nat) (l:List (Nat×AV)) (A':Heap) {obls:List Obl}(ho:HC P A obls) (hq:Q .normal (ofG m l,A'))
 (h:(qig P ops draw (ks.zip (obls.map Obl.orc)) (l.map (·.1)) (ofG m l0,A)).map (λr=>(r.1,r.2.1,r.2.2.map Obl.st))=some (ofG m l,A',obls):=by kernel_rfl):Goes P (.region id ops draw) (ofG m l0,A) Q:=Goes.rq hm ks l A' ho hq h
def gr (hm:P.follows .mixedOrders=true) (ks:List Nat) (l:List (Nat×AV)) {obls:List Obl}(ho:HC P A obls) (hq:Q .normal (ofG m l,A))
 (h:(qig P ops draw (ks.zip (obls.map Obl.orc)) (l.map (·.1)) (ofG m l0,A)).map (λr=>(r.1,r.2.1,r.2.2.map Obl.st))=some (ofG m l,A,obls):=by kernel_rfl):Goes P (.region id ops draw) (ofG m l0,A) Q:=Goes.rq hm ks l A ho hq h
def tr (hm:P.follows .mixedOrders=true) (ks:List Nat) (l:List (Nat×AV)) {obls:List Obl}(ho:HC P A obls)
 (h:(qig P ops draw (ks.zip (obls.map Obl.orc)) (l.map (·.1)) (ofG m l0,A)).map (λr=>(r.1,r.2.1,r.2.2.map Obl.st))=some (ofG m l,A,obls):=by kernel_rfl):qay P id ops draw (ofG m l0,A) (ofG m l,A):=qay.rq hm ks l A ho h
end
section
variable [Base]{c1 c2:Code}{s:St}{Q:XA->St->Prop}{co:Operand}{α:Type}{x y r:α}
def ihB {b:Bool}(h:(if b=true then x else y)=r) (ht:b=true->x=r->Goes P c1 s Q) (hf:b=false->y=r->Goes P c2 s Q) (hv:yj s.1 co= .bool b:=by kernel_rfl):Goes P (.cond co c1 c2) s Q:=
 Goes.ifB hv (λc=>ht c (by rw[ae c]at h;exact h)) (λc=>hf c (by rw[aa (nb c)]at h;exact h))
def ihD {p:Prop}[Decidable p] (h:(if p then x else y)=r) (ht:decide p=true->x=r->Goes P c1 s Q) (hf:decide p=false->y=r->Goes P c2 s Q) (hv:yj s.1 co= .bool (decide p):=by kernel_rfl):Goes P (.cond co c1 c2) s Q:=
 Goes.ifB hv (λc=>ht c (by rw[ae (aP c)]at h;exact h)) (λc=>hf c (by rw[aa (dp c)]at h;exact h))
end
section
variable {α:Type}{x y r:α}
def wyB {b:Bool}(h:(if b=true then x else y)=r):b=true/\x=r\/b=false/\y=r:=by
 cases b
 ·rw[aa dq]at h;exact .inr ⟨rfl,h⟩
 rw[ae rfl]at h;exact .inl ⟨rfl,h⟩
def wyD {p:Prop}[Decidable p] (h:(if p then x else y)=r):decide p=true/\x=r\/decide p=false/\y=r:=by
 rcases Classical.em p with c|c
 ·rw[ae c]at h;exact .inl ⟨ap c,h⟩
 rw[aa c]at h;exact .inr ⟨ak c,h⟩
end
section
variable {S:List Nat}{m:List (Option Nat)}
def qcu.ks {α:Type}{E:Enc α}{x:List α}{b:Nat}{l:List (Option Nat)}{H:Heap}(h:qcu A S m l H) (hA:A[b]? =some (.cells (x.flatMap E.c)):=by rfl) (hS:S.contains b=false:=by rfl) (hl:l.contains (some b)=false:=by rfl):qcu A S m (some b::l) (.cells (x.flatMap E.c)::H):= .keep hA (.same fa) hS hl h
def qcu.kb {b:Nat}{x y:Blk}{l:List (Option Nat)}{H:Heap}(hA:A[b]? =some y) (hb:yQ A S m x y) (h:qcu A S m l H) (hS:S.contains b=false:=by rfl) (hl:l.contains (some b)=false:=by rfl):qcu A S m (some b::l) (x::H):= .keep hA hb hS hl h
def qat.kp {t i b off:Nat}{l l':List (Nat×AV)}(hl:qat A S m l l') (h:m[i]? =some (some b):=by rfl):qat A S m ((t,.ptr b off)::l) ((t,.ptr i off)::l'):= .keep (.ptr h) hl
def rc {c' c:AV}{cs' cs:List AV}(h:zS A S m c' c) (hs:qd3 A S m cs' cs):qd3 A S m (c'::cs') (c::cs):=qd3.cons h hs
def rn:qd3 A S m [] []:=qd3.nil
end
class NR (a:AV):Prop where
 h:qN a
class SN (AZ:List AV):Prop where
 h:qdf AZ
instance:SN []:=⟨qdf.nil⟩
instance {a:AV}{AZ:List AV}[h:NR a] [k:SN AZ]:SN (a::AZ):=⟨qdf.cons h.h k.h⟩
instance {k:IntKind}{n:Int}:NR (.int k n):=⟨nI⟩
instance {s:List UInt8}:NR (.str s):=⟨nS⟩
instance {b:Bool}:NR (.bool b):=⟨nB⟩
instance:NR .nilslice:=⟨qN.nilslice⟩
instance:NR .nilptr:=⟨qN.nilptr⟩
instance:NR .nilmap:=⟨qN.nilmap⟩
instance:NR .nilfunc:=⟨qN.nilfunc⟩
instance:NR .niliface:=⟨qN.niliface⟩
instance {α:Type}{E:Enc α}{l:List α}:NR (vl E l):=⟨kr E l⟩
instance {cs:List AV}[h:SN cs]:NR (.agg cs):=⟨qN.agg h.h⟩
instance {cs:List AV}[h:SN cs]:NR (.tuple cs):=⟨qN.tuple h.h⟩
instance {f:Fn}{fs cs:List AV}[h:SN fs] [k:SN cs]:NR (.func f fs cs):=⟨qN.func h.h k.h⟩
instance {cs:List AV}{o:Nat}[h:SN cs]:NR (.fptr cs o):=⟨qN.fptr h.h⟩
instance {fs cs:List AV}[h:SN fs] [k:SN cs]:NR (.fmap fs cs):=⟨qN.fmap h.h k.h⟩
def sn {AZ:List AV}[h:SN AZ]:qdf AZ:=h.h
def gw2 {s:St}{rs:List ResultVar}{v:AV}(xs:List AV) (hf:FzW s.2 (List.range s.2.length) 12 (qg9 xs) v) (hx:zU P s.1 s.2 rs=some xs:=by kernel_rfl):qQ P rs v .ret s:=Goes.retW hx hf
def gh2 [Base]{s:St}{rs:List ResultVar}{v:AV}{A':Heap}(xs:List AV) (hs:qex (qg9 xs) s.2 v A') (hx:zU P s.1 s.2 rs=some xs:=by kernel_rfl):qhc P rs v A' .ret s:=Goes.retH hx hs
end
abbrev qw (k:IntKind) (a b:Int):Int:=k.wrap (BitVec.ofInt k.bits a&&&BitVec.ofInt k.bits b).toNat
abbrev orI (k:IntKind) (a b:Int):Int:=k.wrap (BitVec.ofInt k.bits a|||BitVec.ofInt k.bits b).toNat
abbrev qo (k:IntKind) (a b:Int):Int:=a.fdiv (2^(min b.toNat k.bits))
section
open Go.RowKit
variable [Glob]{α:Type}{P:Program}{A:Heap}{S:List Nat}{m:List (Option Nat)}
def nvl (E:Enc α) (l:List α):AV:=match l with
 |[]=> .nilslice
 |x::xs=>vl E (x::xs)
def qgk (E:Enc α) (l:List α) {d:Nat}(hd:E.dep+1<=d):Still d (nvl E l):=by
 cases l with
 |nil=>obtain⟨d,rfl⟩:=cL (show 1<=d by omega);exact Still.nilslice d
 |cons x xs=>exact yI E (x::xs) hd
def xI (E:Enc α) (l:List α):qN (nvl E l):=by
 cases l with
 |nil=>exact qN.nilslice
 |cons x xs=>exact kr E (x::xs)
def encN (E:Enc α):Enc (List α):=one (nvl E) (E.dep+1) (λx=>by cases x<;>rfl) (λx d hd=>qgk E x hd) (λx=>xI E x) (λx d=>by cases x<;>cases d<;>rfl)
def qtl {E:Enc α}{l:List α}(h:0<l.length):nvl E l=vl E l:=by
 cases l with
 |nil=>exact absurd h (by simp)
 |cons x xs=>rfl
def Uq {E:Enc α}{d:Nat}:FzW A S (d+1) .nilslice (nvl E []):= .of rfl
def FzW.nvL {E:Enc α}{l:List α}{d:Nat}(hd:E.dep<=d):FzW A S (d+1) (nvl E l) (vl E l):=by
 cases l with
 |nil=>exact FzW.nilv (E:=E)
 |cons x xs=>exact Ub (yI E (x::xs) (by omega))
def FzW.Lnv {E:Enc α}{l:List α}{d:Nat}(h:0<l.length) (hd:E.dep<=d):FzW A S (d+1) (vl E l) (nvl E l):=by rw[qtl h];exact Ub (yI E l (by omega))
def eq_nv {t e:TypeId}(hu:P.underlying t=some (.slice e)) {E:Enc α}{l:List α}{ox oy:Operand}:(Obl.done (.opt (qbI P .eql t ox oy (nvl E l) .nilslice)) (.bool l.isEmpty)).Holds P:=by
 show Pg.opt _=_
 cases l with
 |nil=>simp only[nvl,qbI,hu];rfl
 |cons x xs=>simp only[nvl,vl,qbI,Yr,hu];rfl
def ne_nv {t e:TypeId}(hu:P.underlying t=some (.slice e)) {E:Enc α}{l:List α}{ox oy:Operand}:(Obl.done (.opt (qbI P .neq t ox oy (nvl E l) .nilslice)) (.bool (!l.isEmpty))).Holds P:=by
 show Pg.opt _=_
 cases l with
 |nil=>simp only[nvl,qbI,hu];rfl
 |cons x xs=>simp only[nvl,vl,qbI,Yr,hu];rfl
def qhF (k:IntKind) (a b:Int):Option Int:=if b<0 then none else some (k.wrap (a*2^(min b.toNat k.bits)))
def qj7 (k:IntKind) (a b:Int):Option Int:=if b<0 then none else some (a.fdiv (2^(min b.toNat k.bits)))
def qn7 {t:TypeId}{ox oy:Operand}{k k':IntKind}{a b q:Int}(h:qhF k a b=some q):(Obl.done (.opt (qbI P .shl t ox oy (.int k a) (.int k' b))) (.int k q)).Holds P:=by
 unfold qhF at h;split at h
 ·cases h
 rename_i hb;obtain rfl:=Ye h;show Pg.opt _=_;simp[qbI,qdg,qfX,hb,Pg.opt]
def qoN {t:TypeId}{ox oy:Operand}{k k':IntKind}{a b q:Int}(h:qj7 k a b=some q):(Obl.done (.opt (qbI P .shr t ox oy (.int k a) (.int k' b))) (.int k q)).Holds P:=by
 unfold qj7 at h;split at h
 ·cases h
 rename_i hb;obtain rfl:=Ye h;show Pg.opt _=_;simp[qbI,qdg,qfX,hb,Pg.opt]
def qaV (x y c:Int):Option (Int×Int):=if 0<=x/\0<=y/\0<=c/\c<=1 then some ((x+y+c)%18446744073709551616,(x+y+c)/18446744073709551616)else none
def qfC (x y c:Int):Option (Int×Int):=if 0<=x/\0<=y/\y<18446744073709551616/\0<=c/\c<=1 then some ((x-y-c)%18446744073709551616,if x<y+c then 1 else 0)else none
def win (l:List α) (lo hi:Int):Option (Nat×Nat):=if 0<=lo/\lo<=hi/\hi<=l.length/\lo<l.length then some (lo.toNat,(hi-lo).toNat)else none
def qqu {l:List α}{lo hi:Int}{p:Nat×Nat}(h:win l lo hi=some p):(0<=lo/\lo<=hi/\hi<=l.length/\lo<l.length)/\p=(lo.toNat,(hi-lo).toNat):=by
 unfold win at h;split at h
 ·rename_i h0;injection h with h;exact⟨h0,h.symm⟩
 cases h
def wn_ix {t e:TypeId}{b:Nat}(T:SlT P t e 1 b) {l:List α}{o:Nat}{lo hi:Int}{j n:Nat}(h:win l lo hi=some (j,n)):(Obl.done (.opt (zV P t (.slice o 0 l.length l.length 1) (some (.int .i64 lo)) (some (.int .i64 hi)) none)) (.slice o j n (l.length-j) 1)).Holds P:=by
 obtain⟨inf,z,g1,g2,_⟩:=T.info;obtain⟨⟨h1,h2,h3,h4⟩,e⟩:=qqu h;injection e with e1 e2;subst e1 e2;have hb:=qix (n:=l.length) (cap:=l.length) (lo:=some lo) (hi:=some hi) rfl rfl (ai _) ⟨h1,h2,h3⟩;show Pg.opt _=_;simp only[opI,YN]at hb;simp only[zV,T.und,g1,hb,g2,Pg.opt,aT,cR,aG];rw[aa (by omega)];congr 2;omega
def qgP (l:List α) (j n:Nat) (i:Int):Option α:=if 0<=i/\i<n then idx l ((j+i.toNat:Nat):Int)else none
def wI {l:List α}{j n:Nat}{i:Int}{x:α}(h:qgP l j n i=some x):idx l ((j+i.toNat:Nat):Int)=some x:=by
 unfold qgP at h;split at h
 ·exact h
 cases h
def ix_wn {t e:TypeId}{b:Nat}(T:SlT P t e 1 b) {l:List α}{j n c:Nat}{i:Int}{x:α}{q:IntKind}{o:Nat}(h:qgP l j n i=some x):(Obl.done (.opt (jb P t (.slice o j n c 1) (.int q i))) (.ptr o ((((j+i.toNat:Nat):Int)).toNat*1+0))).Holds P:=by
 obtain⟨inf,z,h1,h2,_⟩:=T.info;unfold qgP at h;split at h
 ·rename_i hi;show Pg.opt _=_;simp only[jb,T.und,h1,h2,hi.1,hi.2,cH,aT,Pg.opt,bz,cR,aU]
 cases h
end
section
variable [Glob]
instance {d:Nat}{α:Type}{E:Enc α}{l:List α}[h:SE E]:SC (d+7) (nvl E l):=⟨qgk E l (bx h.h (Nat.le_add_left _ _))⟩
instance {α:Type}{E:Enc α}{l:List α}:NR (nvl E l):=⟨xI E l⟩
abbrev ni1 (a:Int) (b:List Int):List AV:=[.i a,nvl (qcv .u64) b]
abbrev ni2 (a:Int) (b:List Int) (c:Int) (d:List Int):List AV:=[.i a,nvl (qcv .u64) b,.i c,nvl (qcv .u64) d]
def nvc {α:Type}{E:Enc α}{l:List α}:zX (nvl E l)=true:=by cases l<;>rfl
def cac {a:AV}{l:List AV}(h:zX a=true) (k:l.all zX=true):(a::l).all zX=true:=by
 rw[cg,h,k];rfl
def can:([]:List AV).all zX=true:=rfl
def qkE {P:Program}{t:TypeId}{n:Nat}{A A':Heap}{b off:Nat}{cs xs:List AV}{v:AV}(ht:(P.info? t).map (·.size)=some n) (hb:A[b]? =some (.cells cs)) (hv:cellsOf v=some xs) (hn:xs.length=n) (ho:Nat.ble (off+n) cs.length=true) (hx:xs.all zX=true) (hA:A'=A.set b (.cells (splice cs off xs))):
 (Obl.run [b] (qaq P t (.ptr b off) v) A .undef A' true).Holds P:=by
 subst hn hA;have ho:=Ys ho
 cases hi:P.info? t with
 |none=>rw[hi]at ht;cases ht
 |some inf=>
  rw[hi]at ht;simp only[ZM,ZI]at ht;refine⟨[(b,true),(b,false)],?_,rfl⟩;simp only[qaq,hi,hv];rw[qbd (by simp) hb];simp only[ht,ho,hx,cH,aT];rw[qd0 (by simp) (qda hb)];rfl
end
section
variable [Glob]{P:Program}{α:Type}{E:Enc α}{k:Nat}{S:List Nat}{A:Heap}
def qsl (hk:E.k=k) {q j:Nat}{ys:List α}(hq:A[q]? =some (.cells (ys.flatMap E.c))) (hS:S.contains q=true) (hj:j<=ys.length):qj4 E k S A (.slice q 0 j ys.length k) (ys.take j):=by
 subst hk;refine⟨(by intro s h;cases h),λK lo f=>⟨(q,false)::f,?_⟩⟩
 have e0:0+j*E.k<=(ys.flatMap E.c).length:=by
  rw[E.flat_len,aG];exact aW _ hj
 have e1:((ys.flatMap E.c).drop 0).take (j*E.k)=(ys.take j).flatMap E.c:=by
  rw[YR];exact qcG E ys j
 have e2:(ys.take j).length=j:=by rw[Ym];omega
 simp only[qW,qaH];rw[qbd hS hq];simp only[vI,ae e0,e1,E.flat_cell (ys.take j),aT,e2]
def qrh {t e:TypeId}{b:Nat}(T:SlT P t e k b) (hk:E.k=k) {A':Heap}{Y:AV}{ys l r:List α}{o j:Nat}(hs:qj4 E k S A Y ys) (hj:j<=l.length)
 (hb:A[o]? =some (.cells (l.flatMap E.c))) (hS:S.contains o=true) (h:some (qh1 l j ys)=some r) (hA:A'=A.set o (.cells (r.flatMap E.c))):(Obl.run S (qcR P [t,t] (qhk o k l.length j) Y) A (.int .i64 ((Nat.min ys.length (l.length-j):Nat):Int)) A' true).Holds P:=by
 by_cases h0:l.length-j=0
 ·injection h with h;subst hA h hk;obtain⟨inf,z,h1,h2,_⟩:=T.info
  have key:qcR P [t,t] (qhk o E.k l.length j) Y=qW E.k Y λn cs=>qbG E.k o 0 (l.length-j) n cs:=by
   simp only[qcR,qhk,T.und,h1,h2,aT,h0]
  rw[Obl.Holds,key];obtain⟨f1,e1⟩:=hs.run (λn cs=>qbG E.k o 0 (l.length-j) n cs) A.length [];refine⟨(o,true)::(o,false)::f1,e1.trans ?_,by simp⟩
  have hm:Nat.min ys.length (l.length-j)=0:=by rw[h0];exact Nat.min_zero _
  have hr:qh1 l j ys=l:=by
   have:l.drop j=[]:=aB (by omega);simp[qh1,cpy,this,ar (show l.length<=j by omega)]
  simp only[qbG];rw[qbd hS hb];simp only[hm,bC,bj,aN,bz,aD,aT];rw[qd0 hS (qda hb),hr];simp[splice];rfl
 have key:qcR P [t,t] (qhk o k l.length j) Y=qcR P [t,t] (.wslice o (j*k) (l.length-j) k) Y:=by
  simp only[qcR,qhk,aa h0,aG]
 rw[key];exact qs9 T hk hs hj hb hS h hA
def qsg {t e:TypeId}{b:Nat}(T:SlT P t e (k+1) b) {A:Heap}:(Obl.run [] (yo P [t,t] .nilslice (vl E ([]:List α))) A .nilslice A false).Holds P:=by
 rw[Obl.Holds,T.append (Nat.succ_pos k) _ _ (by simp[vl])];refine⟨[],?_,rfl⟩;simp[vl,qW,xk];rfl
end
section
variable [Glob]{α:Type}{P:Program}{A:Heap}{S:List Nat}{E:Enc α}{k:Nat}
def qnP {t e:TypeId}{b:Nat}(T:SlT P t e k b) (hk:E.k=k) {A':Heap}{l r:List α}{x:α}{cs:List AV}{o q:Nat}(hq:A[q]? =some (.cells cs)) (hSq:S.contains q=true) (hcs:cs.length=k) (hcc:cs.all zX=true)
 (hb:A[o]? =some (.cells (l.flatMap E.c))) (hS:S.contains o=true) (h:app b l [x]=some r) (hA:A'=A.set o .dead++[.cells (l.flatMap E.c++cs)]):
 (Obl.run S (yo P [t,t] (.gslice o l.length k) (.slice q 0 1 1 k)) A (.gslice A.length r.length k) A' true).Holds P:=by
 have h0:=h;subst hk hA;obtain⟨h1,h2,h3⟩:=qdZ h
 have h4:r.length=l.length+1:=by rw[h3];simp
 simp only[Yr,aN,aG]at h1 h2;rw[h4,Obl.Holds,T.append E.pos _ _ (by intro s h;cases h)];refine⟨[(o,true),(o,false),(q,false)],?_,rfl⟩
 have e1:0+1*E.k<=cs.length:=by omega
 have e2:l.length*E.k<=(l.flatMap E.c).length:=by rw[E.flat_len];exact ai _
 have e3:cs.take (1*E.k)=cs:=by rw[cy,<-hcs,bW]
 have e5:cs.length=1*E.k:=by omega
 simp only[qW,qaH];rw[qbd hSq hq];simp only[vI,ae e1,YR,e3,hcc,aT,xk];rw[qbd hS hb];simp only[e2,h1,h2,cH,aT];rw[qd0 hS (qda hb),qgJ,qe8,qg2,Yk]
variable {m:List (Option Nat)}
def qd3.app {AZ bs cs ds:List AV}(h:qd3 A S m AZ bs) (k:qd3 A S m cs ds):qd3 A S m (AZ++cs) (bs++ds):=by
 refine⟨by rw[Yq,Yq,h.1,k.1],λj a b ha hb=>?_⟩;have hl:=h.1;rcases aw j AZ.length with hj|hj
 ·rw[Yf hj]at ha;rw[Yf (by omega)]at hb;exact h.2 j a b ha hb
 rw[Yo hj]at ha;rw[Yo (by omega),<-hl]at hb;exact k.2 _ a b ha hb
def yQ.my {b:Nat}{l z:List α}{x:α}{cs:List AV}(h:app b l [x]=some z) (p:qd3 A S m (E.c x) cs):yQ A S m (.cells (z.flatMap E.c)) (.cells (l.flatMap E.c++cs)):=by
 obtain⟨_,_,h3⟩:=qdZ h;subst h3;rw[List.flatMap_append];refine .cells (qd3.app ⟨rfl,λj c' c h1 h2=>?_⟩ (by simpa using p));rw[h1]at h2;injection h2 with h2;subst h2;exact .same (E.flat_allN l _ (Yn h1))
end
section
open Go.RowKit
variable [Glob]{α:Type}{P:Program}{A:Heap}{S:List Nat}{E:Enc α}{k:Nat}
def sh_gs {t e:TypeId}{k b:Nat}(T:SlT P t e k b) {l r:List α}{o:Nat}{hi:Int}(h0:0<l.length) (h:cut l 0 hi=some r):(Obl.done (.opt (zV P t (.gslice o l.length k) none (some (.int .i64 hi)) none)) (.oslice o r.length k)).Holds P:=by
 obtain⟨inf,z,g1,g2,_⟩:=T.info;have hc:=(qcV h).1;have hb:=qdI (n:=l.length) (lo:=none) (hi:=some hi) rfl rfl hc;show Pg.opt _=_;simp only[opI,bV,YN]at hb
 have e0:¬((0:Nat)=hi.toNat/\((0:Nat)<0\/l.length=0)):=by omega
 simp only[zV,T.und,g1,be,ZF,bh,hb,g2,Pg.opt,gt,aT,<-qoe h];rw[aa e0]
end
section
variable [Glob]{P:Program}
def qsG {t:TypeId}{m:String}{g:FuncId}{args:List AV}{A:Heap}{v:AV}(hm:Enters P g/\qpc P t m g) (ha:∀a∈args,Still 12 a) (hc:qc P (.fn g) args [] v []) (hv:Still 12 v):(Obl.callH (.mt t m) args A [] v A).Holds P:=by
 refine⟨ai _,qhA rfl,λM hM _=>?_⟩;rw[qhA hM.symm];have hmap:args.mapM (frz M [] 12)=some args:=zW ha;have h1:=qc.byS (A:=M) (S:=[]) hmap hc (hv [] _)
 have e:(if flat 6 v=true then M else qU [] M)=M:=by split<;>rfl
 rw[e]at h1;exact⟨g,hm.2,λF nu w vs i hargs=>h1.calls hm.1 i hargs⟩
def nIf (P:Program) (t:TypeId):Bool:=match P.underlying t with|some (.interface _)=>false|some _=>true|none=>false
abbrev mkI (P:Program) (t:TypeId) (a:AV):Pg:=match P.underlying t with|some (.interface _)=> .fail|some _=> .done (.iface t a)|none=> .fail
def mk_if {t:TypeId}{a:AV}(ht:nIf P t=true):(Obl.done (mkI P t a) (.iface t a)).Holds P:=by
 show mkI P t a= .done (.iface t a);unfold nIf at ht;unfold mkI;split at ht
 ·cases ht
 ·rfl
 cases ht
end
section
open Go.RowKit
variable [Glob]
def _root_.Go.Code.x1:Code->Code
 | .seq a _=>a
 | .cond _ a _=>a
 | .block _ c=>c
 | .loop c=>c
 | .scope c=>c
 | .rangeFunc _ _ a _=>a
 |c=>c
def _root_.Go.Code.x2:Code->Code
 | .seq _ b=>b
 | .cond _ _ b=>b
 | .rangeFunc _ _ _ b=>b
 |c=>c
def qoV {α:Type}(b:Nat) (c:Int) (z:α):Option (List α):=
 if 0<c/\c<=140737488355328/\c*b<=140737488355328 then some (List.replicate c.toNat z)else none
def qqk {α:Type}{P:Program}{E:Enc α}{k:Nat}{A:Heap}{t e ti:TypeId}{b:Nat}(T:SlT P t e k b) (hti:P.underlying ti=some (.int .i64)) (hk:E.k=k) {z:α}(hz:qfb P e=some (E.c z)) {A':Heap}{r:List α}{c:Int}
 (h:qoV b c z=some r) (hA:A'=A++[.cells (r.flatMap E.c)]):(Obl.run [] (yo P [t,ti] .nilslice (.int .i64 c)) A (.oslice A.length r.length k) A' false).Holds P:=by
 subst hk hA;obtain⟨inf,z0,h1,h2,h3,h4,h5⟩:=T.info;unfold qoV at h;split at h
 ·rename_i hc;obtain⟨c1,c2,c3⟩:=hc;obtain rfl:=Ye h
  have hz':cellsOf (qcz 3 z0)=some (E.c z):=by
   unfold qfb at hz;rw[h1]at hz;simp only[h4]at hz;exact hz
  have e1:z0.cells.size=inf.size/\0<inf.size:=⟨by rw[h5,h2],by rw[h2];exact E.pos⟩
  have e2:(E.c z).all zX=true:=by have:=E.flat_cell [z];simpa using this
  have e3:0<=c/\c<=140737488355328/\c*inf.bytes<=140737488355328/\(E.c z).all zX=true:=⟨by omega,c2,by rw[h3];exact c3,e2⟩;refine⟨[],?_,rfl⟩;simp only[yo,T.und,hti,h1,h4];rw[ae e1];simp only[hz'];rw[ae e3,h2,qjB]
  have e4:¬(c.toNat=0):=by omega
  have e5:c.toNat*inf.bytes<=140737488355328/\c.toNat<=140737488355328:=by
   rw[h3];refine⟨?_,by omega⟩
   have:((c.toNat*b:Nat):Int)=c*b:=by rw[bu,Int.toNat_of_nonneg (by omega)]
   omega
  simp only[xk];rw[aa e4,ae e5,qgJ,qe8];simp
 cases h
end
section
variable [Glob]
section
variable [Base]{α:Type}
def Sub.stp {fr:Fr}{A A':Heap}(h:∀(F:Nat->Prop) (nu:Nat->Option Nat) (w:World),Inv F nu A w->∃F' nu',Stp F nu A w F' nu' A' w):Sub (fr,A) (fr,A'):=λ_ _ F nu _ w st hf hd=>by
 obtain⟨F',nu',s⟩:=h F nu w st.inv;exact⟨F',nu',st.trans s,hf.mono (s.ext st.inv),hd.step s⟩
def zY (E:Enc α) (l:List α):Ent:= .own E.k (l.flatMap E.c)
def bg (E:Enc α) (rows:List (List α)):Blk:= .bag (rows.map (zY E))
def jZ (rows:List α) (i:Int) (l:α):List α:=rows.set i.toNat l
omit [Glob] [Base]in
def qcp (rows:List α) (i:Int) (l:α):rows.length=(jZ rows i l).length:=(Yk ..).symm
def Sub.bagTake {E:Enc α}{fr:Fr}{A:Heap}{b j:Nat}{es:List Ent}{l:List α}(hA:A[b]? =some (.bag es)) (hj:es[j]? =some (zY E l)):
 Sub (fr,A) (fr,A.set b (.bag (es.set j (.av (.gslice A.length l.length E.k))))++[.cells (l.flatMap E.c)]):=
 Sub.stp λF _ _ i=>⟨F,Stp.take i hA hj (E.flat_len l).symm E.pos⟩
def Us {E:Enc α}{fr:Fr}{A:Heap}{b c j:Nat}{es:List Ent}{a:AV}{l:List α}(hne:b≠c) (hA:A[b]? =some (.bag es)) (hC:A[c]? =some (.cells (l.flatMap E.c))) (hj:es[j]? =some (.av a)) (ha:qhC c l.length E.k a):
 Sub (fr,A) (fr,(A.set b (.bag (es.set j (zY E l)))).set c .dead):=
 Sub.stp λF nu _ i=>⟨F,nu,Stp.give i hne hA hC hj ha (E.flat_len l).symm⟩
def qnm {E:Enc α}{rows:List (List α)}{i:Int}{x:List α}(h:idx rows i=some x):(rows.map (zY E))[i.toNat]? =some (zY E x):=by
 obtain⟨_,_,g⟩:=qaj h;rw[YA,g];rfl
def qeG {E:Enc α}{rows:List (List α)}{i:Int}{x:List α}(h:idx rows i=some x):i.toNat<(rows.map (zY E)).length:=(Yb.1 (qnm h)).1
def at_set {E:Enc α}{rows:List (List α)}{i:Int}{x:List α}(h:idx rows i=some x) {y:Ent}:((rows.map (zY E)).set i.toNat y)[i.toNat]? =some y:=by
 rw[List.getElem?_set,ae rfl,ae (qeG h)]
def Uc {E:Enc α}{fr:Fr}{A:Heap}{b:Nat}{rows:List (List α)}{i:Int}{x:List α}(hA:A[b]? =some (bg E rows)) (h:idx rows i=some x):
 Sub (fr,A) (fr,A.set b (.bag ((rows.map (zY E)).set i.toNat (.av (.gslice A.length x.length E.k))))++[.cells (x.flatMap E.c)]):=Sub.bagTake hA (qnm h)
def Un {E:Enc α}{fr:Fr}{A:Heap}{b c n:Nat}{rows:List (List α)}{i:Int}{x l:List α}{a:AV}(hne:b≠c) (hA:A[b]? =some (.bag ((rows.map (zY E)).set i.toNat (.av a)))) (hC:A[c]? =some (.cells (l.flatMap E.c)))
 (h:idx rows i=some x) (ha:qhC c n E.k a) (hn:n=l.length):Sub (fr,A) (fr,(A.set b (bg E (jZ rows i l))).set c .dead):=by
 subst hn
 have e:bg E (jZ rows i l)= .bag (((rows.map (zY E)).set i.toNat (.av a)).set i.toNat (zY E l)):=by
  unfold bg jZ;rw[bK,fE]
 rw[e];exact Us hne hA hC (at_set h) ha
def Ut {E:Enc α}{fr:Fr}{A:Heap}{b c n k:Nat}{l r:List (List α)}{x:List α}{a:AV}(hne:b≠c) (hA:A[b]? =some (.bag (l.map (zY E)++[Ent.av a]))) (hC:A[c]? =some (.cells (x.flatMap E.c)))
 (h:app k l [x]=some r) (ha:qhC c n E.k a) (hn:n=x.length):Sub (fr,A) (fr,(A.set b (bg E r)).set c .dead):=by
 subst hn;obtain⟨_,_,rfl⟩:=qdZ h
 have e:bg E (l++[x])= .bag ((l.map (zY E)++[Ent.av a]).set l.length (zY E x)):=by
  unfold bg;rw[eH,cY (h:=by simp)];simp
 rw[e];exact Us hne hA hC (by simp) ha
def Ur {E:Enc α}{fr:Fr}{A:Heap}{b:Nat}{rows:List (List α)}(hA:A[b]? =some (bg E rows)):Sub (fr,A) (fr,A.set b (.frozen (rows.flatMap (qbo E).c))):=by
 have e:rows.flatMap (qbo E).c=rows.map (vl E):=by
  clear hA
  induction rows with
  |nil=>rfl
  |cons r rows ih=>rw[bL,ih];rfl
 rw[e]
 refine Sub.stp λF nu w i=>?_
 have hz:∀(j:Nat) (y:Ent) (a:AV),(rows.map (zY E))[j]? =some y->(rows.map (vl E))[j]? =some a->∃k n cs,y= .own k cs/\n*k=cs.length/\0<k/\a= .fslice n cs:=by
  intro j y a hy ha;rw[YA]at hy ha;obtain⟨r,hr,rfl⟩:=Yd.1 hy;rw[hr]at ha;simp only[ZM,ZI]at ha;exact⟨E.k,r.length,_,rfl,(E.flat_len r).symm,E.pos,ha.symm⟩
 obtain⟨F',h⟩:=Stp.freezeBag i hA (fs:=rows.map (vl E)) (by simp) hz;exact⟨F',nu,h⟩
end
def ownN {α:Type}{E:Enc α}{rows:List (List α)}{j:Nat}{x:Ent}(h:(rows.map (zY E))[j]? =some x):∃r,x=zY E r/\qdf (r.flatMap E.c):=by
 rw[YA]at h;obtain⟨r,_,rfl⟩:=Yd.1 h;refine⟨r,rfl,λc hc=>?_⟩;obtain⟨y,_,hy⟩:=List.mem_flatMap.1 hc;exact E.noRef y c hy
def yQ.bgs {α:Type}{A:Heap}{S:List Nat}{m:List (Option Nat)}{E:Enc α}{rows:List (List α)}:yQ A S m (bg E rows) (bg E rows):=by
 refine .bag rfl λj x' x h1 h2=>?_
 rw[h1]at h2;obtain rfl:=Ye h2;obtain⟨r,rfl,hr⟩:=ownN h1;exact .own hr
def yQ.bgv {α:Type}{A:Heap}{S:List Nat}{m:List (Option Nat)}{E:Enc α}{rows:List (List α)}{i:Nat}{a' a:AV}(h:zS A S m a' a):yQ A S m (.bag ((rows.map (zY E)).set i (.av a'))) (.bag ((rows.map (zY E)).set i (.av a))):=by
 refine .bag (by simp) λj x' x h1 h2=>?_
 by_cases e:j=i
 ·subst e;have hlt:=(Yb.1 h1).1;rw[Yk]at hlt;rw[List.getElem?_set_self hlt]at h1 h2;obtain rfl:=Ye h1;obtain rfl:=Ye h2;exact .av h
 rw[Yw (λc=>e c.symm)]at h1 h2;rw[h1]at h2;obtain rfl:=Ye h2;obtain⟨r,rfl,hr⟩:=ownN h1;exact .own hr
section
variable {P:Program}
def qtI {t:TypeId}(T:CeT P t) {A:Heap}{o:Nat}{es:List Ent}(hb:A[o]? =some (.bag es)) {i:Int}{a:AV}(h:es[i.toNat]? =some (.av a)):(Obl.run [o] (qa1 P t (.ptr o (i.toNat*1+0))) A a A false).Holds P:=by
 refine⟨[(o,false)],?_,rfl⟩;rw[T.load];simp only[yT,qaH,cR,bz];rw[qbd (by simp) hb];simp only[vI,h];rfl
def qij {α:Type}{t e:TypeId}{b:Nat}(T:SlT P t e 1 b) {E:Enc α}{S:List Nat}{A A':Heap}{l r:List (List α)}{x:List α}{a:AV}{o q:Nat}(hq:A[q]? =some (.cells [a])) (hSq:S.contains q=true) (hcc:zX a=true)
 (hb:A[o]? =some (bg E l)) (hS:S.contains o=true) (h:app b l [x]=some r) (hA:A'=A.set o .dead++[.bag (l.map (zY E)++[.av a])]):
 (Obl.run S (yo P [t,t] (.gslice o l.length 1) (.slice q 0 1 1 1)) A (.gslice A.length r.length 1) A' true).Holds P:=by
 subst hA;obtain⟨h1,h2,h3⟩:=qdZ h
 have h4:r.length=l.length+1:=by rw[h3];simp
 simp only[Yr,aN,aG]at h1 h2;rw[h4,Obl.Holds,T.append (Nat.succ_pos 0) _ _ (by intro s h;cases h)];refine⟨[(o,true),(o,false),(q,false)],?_,rfl⟩;simp only[qW,qaH];rw[qbd hSq hq];simp only[vI,Yr,aN,aG,cR,ai,aT,YR,dQ,bj,cg,fG,Bool.and_true,hcc,xk];rw[qbd hS hb];simp only[bg,bq,h1,h2,cH,aT];rw[qd0 hS (qda hb),qgJ,qe8,Yk]
def qtf {t:TypeId}{A A':Heap}{o:Nat}{es:List Ent}(ht:(P.info? t).map (·.size)=some 1) (hb:A[o]? =some (.bag es)) {i:Int}{a:AV}(h:i.toNat<es.length) (hv:cellsOf a=some [a]) (hx:zX a=true) (hA:A'=A.set o (.bag (es.set i.toNat (.av a)))):
 (Obl.run [o] (qaq P t (.ptr o (i.toNat*1+0)) a) A .undef A' true).Holds P:=by
 subst hA
 cases hi:P.info? t with
 |none=>rw[hi]at ht;cases ht
 |some inf=>
  rw[hi]at ht;simp only[ZM,ZI]at ht;refine⟨[(o,true),(o,false)],?_,rfl⟩;simp only[qaq,hi,hv,cR,bz];rw[qbd (by simp) hb];simp only[ht,h,hx,cH,aT];rw[qd0 (by simp) (qda hb)];rfl
end
end
section
open Go.Proofs Go.RowKit Go.Shelf
variable [Glob]
structure qes (w w':World) (rb:Nat) (e:TypeId) (c1:Array Value):Prop where
 at_:w'.heap[rb]? =some (.cells c1 e (0,0))
 oth:∀r,r≠rb->w'.heap[r]? =w.heap[r]?
 size:w'.heap.size=w.heap.size
 os:w'.os=w.os
 tape:w'.tape=w.tape
 output:w'.output=w.output
def qj5 {w:World}{rb o:Nat}{e:TypeId}{c0:Array Value}(v:Value) (h:w.heap[rb]? =some (.cells c0 e (0,0))):qes w (w.setCell ⟨rb,o,none⟩ v) rb e (c0.setIfInBounds o v):=by
 refine⟨?_,λr hr=>?_,?_,rfl,rfl,rfl⟩
 ·unfold World.setCell;simp only[YD,aT,h];rfl
 ·unfold World.setCell;simp only[YD];rw[aa (λe=>hr e.symm)]
 simp[World.setCell]
def qbg (rb:Nat) (e:TypeId):∀(vs:List Value) (o:Nat) (w:World) (c0:Array Value),w.heap[rb]? =some (.cells c0 e (0,0))->o+vs.length<=c0.size->
 ∃c1,qes w (w.setCells rb o vs) rb e c1/\c1.size=c0.size/\∀j,c1[j]? =if o<=j/\j<o+vs.length then vs[j-o]? else c0[j]? :=by
 intro vs
 induction vs with
 |nil=>
  intro o w c0 h _;refine⟨c0,⟨h,λ_ _=>rfl,rfl,rfl,rfl,rfl⟩,rfl,λj=>?_⟩;rw[aa (λh=>by have:=h.1;have:=h.2;simp at this;omega)]
 |cons v vs ih=>
  intro o w c0 h hl;simp only[Yr]at hl;have h1:=qj5 (o:=o) v h;obtain⟨c1,r,hs,hc⟩:=ih (o+1) (w.setCell ⟨rb,o,none⟩ v) _ h1.at_ (by simp;omega);refine⟨c1,⟨r.at_,λq hq=>(r.oth q hq).trans (h1.oth q hq),r.size.trans h1.size,r.os,r.tape,r.output⟩,by simpa using hs,λj=>?_⟩;rw[hc j];simp only[Yr];by_cases hj:j=o
  ·subst hj;rw[aa (by omega),ae (by omega)];simp only[cd,Yj];rw[Array.getElem?_setIfInBounds_self_of_lt (by omega)]
  rw[Array.getElem?_setIfInBounds_ne (λe=>hj e.symm)];by_cases h2:o+1<=j/\j<o+1+vs.length
  ·rw[ae h2,ae (by omega)]
   have:j-o=(j-(o+1))+1:=by omega
   rw[this,YK]
  rw[aa h2,aa (by omega)]
def qaC (ns:List Int):List AV:=ns.map (AV.int .i64)
def qM (ns:List Int):List Value:=ns.map (Value.int .i64)
def qlc:List AV->Option (List Int)
 |[]=>some []
 | .int .i64 n::r=>(qlc r).map (n:: ·)
 |_::_=>none
def qo6:∀{cs:List AV}{ns:List Int},qlc cs=some ns->cs=qaC ns:=by
 intro cs
 induction cs with
 |nil=>intro ns h;injection h with h;subst h;rfl
 |cons c cs ih=>
  intro ns h;unfold qlc at h;split at h
  ·rename_i e;cases e
  ·rename_i n r e;injection e with e1 e2;subst e1 e2;obtain⟨m,hm,rfl⟩:=Yd.1 h;rw[ih hm];rfl
  cases h
def insA (args:List AV) (A:Heap):Option (AV×Heap):=
 match args with
 |[.nilslice,.int .i64 0,.slice vb 0 1 _ 1]=>
  match A[vb]? with
  |some (.cells [.int .i64 x])=>some (.oslice A.length 1 1,A++[.cells [.int .i64 x]])
  |_=>none
 |[.oslice b n 1,.int .i64 i,.slice vb 0 1 _ 1]=>
  match A[b]?,A[vb]? with
  |some (.cells cs),some (.cells [.int .i64 x])=>
   match qlc cs with
   |some ns=>if ns.length=n/\0<=i/\i.toNat<=n/\n<=100000/\b≠vb then some (.oslice A.length (n+1) 1,A.set b .dead++[.cells (qaC (ns.take i.toNat++[x]++ns.drop i.toNat))])else none
   |none=>none
  |_,_=>none
 |_=>none
def qq7 {F:Nat->Prop}{nu:Nat->Option Nat}{w:World}{ns:List Int}:∀(j:Nat) (a:AV) (v:Value),(qaC ns)[j]? =some a->(qM ns)[j]? =some v->R F nu w a v:=by
 intro j a v ha hv;simp only[qaC,qM,YA]at ha hv
 cases h:ns[j]? with
 |none=>rw[h]at ha;cases ha
 |some n=>
  rw[h]at ha hv;simp only[ZM,ZI]at ha hv;subst ha hv;exact .int _ _
def qdT {ns:List Int}:∀v∈qM ns,v.oneCell'=true:=by
 intro v hv;simp only[qM,List.mem_map]at hv;obtain⟨n,_,rfl⟩:=hv;rfl
def row_of {F:Nat->Prop}{nu:Nat->Option Nat}{A:Heap}{w:World}(i:Inv F nu A w) {b rb:Nat}{ns:List Int}(hb:nu b=some rb) (hA:A[b]? =some (.cells (qaC ns))):
 ∃c0 e,w.heap[rb]? =some (.cells c0 e (0,0))/\ns.length<=c0.size/\∀j,j<ns.length->c0[j]? =(qM ns)[j]? :=by
 obtain⟨_,c0,e,hh,hl,hR⟩:=i.blk b rb _ hb hA
 have hl:ns.length<=c0.size:=by simpa[qaC]using hl
 refine⟨c0,e,hh,hl,λj hj=>?_⟩
 have h1:(qaC ns)[j]? =some (.int .i64 ns[j]):=by simp[qaC,hj]
 have h2:c0[j]? =some c0[j]:=Yi (by omega);have:=(hR j _ _ h1 h2).int_inv;rw[h2,this];simp[qM,hj]
def cell_of_row {w:World}{rb:Nat}{c0:Array Value}{e:TypeId}(h:w.heap[rb]? =some (.cells c0 e (0,0))) (j:Nat):w.cell? ⟨rb,j,none⟩=c0[j]? :=by
 simp only[World.cell?,h,be,ZF,bh]
def frozen_of_row {w:World}{rb:Nat}{c0:Array Value}{e:TypeId}(h:w.heap[rb]? =some (.cells c0 e (0,0))) (j:Nat):w.frozen? ⟨rb,j,none⟩=false:=by
 simp[World.frozen?,h]
def qaE {w:World}{rb:Nat}{c0:Array Value}{e:TypeId}(h:w.heap[rb]? =some (.cells c0 e (0,0))):w.shape? rb=some (e,c0.size):=by
 simp only[World.shape?,h]
def qes.trans {w w' w'':World}{rb:Nat}{e e':TypeId}{c1 c2:Array Value}(h:qes w w' rb e c1) (k:qes w' w'' rb e' c2):qes w w'' rb e' c2:=
 ⟨k.at_,λr hr=>(k.oth r hr).trans (h.oth r hr),k.size.trans h.size,k.os.trans h.os,k.tape.trans h.tape,k.output.trans h.output⟩
def qes.drew {w w':World}{rb:Nat}{e:TypeId}{c1:Array Value}(h:qes w w' rb e c1):qes w w'.drew rb e c1:=⟨h.at_,h.oth,h.size,h.os,h.tape,h.output⟩
def qes.ofDrew {w w':World}{rb:Nat}{e:TypeId}{c1:Array Value}(h:qes w.drew w' rb e c1):qes w w' rb e c1:=⟨h.at_,h.oth,h.size,h.os,h.tape,h.output⟩
section
variable {F:Nat->Prop}{nu:Nat->Option Nat}{A:Heap}{w:World}
def qkz {ns:List Int}{c:Array Value}(hc:∀j,j<ns.length->c[j]? =(qM ns)[j]?):∀(j:Nat) (a:AV) (v:Value),(qaC ns)[j]? =some a->c[j]? =some v->R F nu w a v:=by
 intro j a v ha hv
 have hj:j<ns.length:=by
  have:=(Yb.1 ha).1;simpa[qaC]using this
 rw[hc j hj]at hv;exact qq7 j a v ha hv
def qlS (i:Inv F nu A w) {b rb n cap:Nat}{ns ms:List Int}{c0 c1:Array Value}{e:TypeId}{w':World}(hb:nu b=some rb) (hA:A[b]? =some (.cells (qaC ns))) (hh:w.heap[rb]? =some (.cells c0 e (0,0)))
 (r:qes w w' rb e c1) (hs:c1.size=c0.size) (hn:ms.length=n) (hcap:n<=cap) (hm:cap<=c0.size) (hx:cap<=9223372036854775807) (hc:∀j,j<ms.length->c1[j]? =(qM ms)[j]?):
 ∃nu',Stp F nu A w F nu' (A.set b .dead++[.cells (qaC ms)]) w'/\R F nu' w' (.oslice A.length n 1) (.slice (some ⟨rb,0,none⟩) n cap):=by
 have hsh:∀s,w.shape? rb=some s->w'.shape? rb=some s:=by
  intro s h;rw[<-h,qaE hh,qaE r.at_,hs]
 have s1:=U2 i (k:= .cells (qaC ms)) hb hA rfl rfl r.oth r.size hsh r.os r.tape r.output (λhnF=>⟨hnF,c1,e,r.at_,by simp[qaC];omega,qkz hc⟩);have hblt:b<A.length:=(Yb.1 hA).1;have s2:=Uw s1.inv (b:=b) hb (k:= .cells (qaC ms)) (by simp[hblt]) rfl;simp only[bK,Yk]at s2;refine⟨_,s1.trans s2,.oslice _ _ _ _ _ e c1.size (upd_same _ _) hcap (qaE r.at_) (by omega) hx⟩
def qoz (i:Inv F nu A w) {n cap:Nat}{ms:List Int}{c1:Array Value}{e:TypeId}{w':World}(h1:w'.heap[w.heap.size]? =some (.cells c1 e (0,0))) (h2:∀r,r<w.heap.size->w'.heap[r]? =w.heap[r]?) (h3:w'.heap.size=w.heap.size+1)
 (ho:w'.os=w.os) (ht:w'.tape=w.tape) (hp:w'.output=w.output) (hn:ms.length=n) (hcap:n<=cap) (hm:cap<=c1.size) (hx:cap<=9223372036854775807) (hc:∀j,j<ms.length->c1[j]? =(qM ms)[j]?):
 ∃nu',Stp F nu A w F nu' (A++[.cells (qaC ms)]) w'/\R F nu' w' (.oslice A.length n 1) (.slice (some ⟨w.heap.size,0,none⟩) n cap):=by
 have s1:=Ug i c1 e (qaC ms) (by simp[qaC];omega) (qkz hc)
 have hheap:w'.heap=(w.alloc (.cells c1 e)).heap:=by
  refine Array.ext_getElem? λj=>?_
  rcases ee j w.heap.size with hj|hj|hj
  ·rw[h2 j hj];exact(Go.heap_alloc_old w _ hj).symm
  ·subst hj;rw[h1];exact(Go.heap_alloc_new w _).symm
  rw[Array.getElem?_eq_none (by omega),Array.getElem?_eq_none (by simp;omega)]
 have s2:=Stp.same s1.inv (w':=w') hheap ho ht hp;exact⟨_,s1.trans s2,.oslice _ _ _ _ _ e c1.size (upd_same _ _) hcap (qaE h1) (by omega) hx⟩
end
def RL.args3 {F:Nat->Prop}{nu:Nat->Option Nat}{w:World}{a b c:AV}{vs:Array Value}(h:RL F nu w [a,b,c] vs):∃x y z,vs=#[x,y,z]/\R F nu w a x/\R F nu w b y/\R F nu w c z:=by
 obtain⟨l⟩:=vs;obtain⟨h1,h2⟩:=h
 match l,h1,h2 with
 |[x,y,z],_,h2=>exact⟨x,y,z,rfl,h2 0 _ _ rfl rfl,h2 1 _ _ rfl rfl,h2 2 _ _ rfl rfl⟩
def qsy {P:Program}{ρ:Ren}(L:Lays2.n21 P ρ) (he:Enters P (ρ.f 21)) {args:List AV}{A A':Heap}{v:AV}(h:insA args A=some (v,A')):qc P (.fn (ρ.f 21)) args A v A':=by
 intro F nu w vs i hargs;refine .inl ⟨he,?_⟩;unfold insA at h;split at h
 ·rename_i vb vcap;obtain⟨s,kv,vv,rfl,hs,hk,hv⟩:=hargs.args3;obtain rfl:=hk.int_inv;cases hs
  cases hv with
  |slice _ _ _ _ _ rv hrv hvc=>
  split at h
  ·rename_i x hA;simp only[ZI,ZP]at h;obtain⟨rfl,rfl⟩:=h;obtain⟨c1,e1,hh1,hl1,hcv1⟩:=row_of i hrv (ns:=[x]) hA
   have hvs:∀j v,(qM [x])[j]? =some v->w.cell? ⟨rv,0+j,none⟩=some v:=by
    intro j v hj;have hjl:=(Yb.1 hj).1;rw[cell_of_row hh1,aG,hcv1 j (by simpa[qM]using hjl),hj]
   have:=Any2.slices_Insert_int_end_grow L none 0 0 rv 0 1 vcap [] (qM [x]) w (by omega) (by omega) (by omega) (by omega) rfl rfl (λ_=>rfl) (by intro a ha;cases ha) hvs qdT;refine Calls.mono (show Calls P (ρ.f 21) #[.slice none 0 0,.int .i64 0,.slice (some ⟨rv,0,none⟩) 1 vcap] w _ from this) ?_;rintro e' w' ⟨rfl,rfl⟩;have hg:=grownCap_ge w 1 0 (ρ.t 3);obtain⟨nu',st,hR⟩:=qoz i (w':=w.drew.alloc (.cells (([]++qM [x]).toArray++Builtin.zeroCells (Value.int .i64 0).cells (grownCap w (0+1) 0 (ρ.t 3)-(0+1))) (ρ.t 3))) (c1:=([]++qM [x]).toArray++Builtin.zeroCells (Value.int .i64 0).cells (grownCap w (0+1) 0 (ρ.t 3)-(0+1))) (n:=1) (cap:=grownCap w 1 0 (ρ.t 3)) (ms:=[x]) (Go.heap_alloc_new w.drew _) (λr hr=>Go.heap_alloc_old w.drew _ hr) (by simp) rfl rfl rfl rfl hg (by simp[size_zeroCells,Value.cells,qM];omega)
    (Go.grownCap_le_maxLen w 1 0 _ (by unfold maxLen;omega)) (λj hj=>by
     have:j=0:=by simpa using hj
     subst this;rw[YC (by simp[qM])]
     rfl)
   exact⟨_,_,nu',rfl,st,hR⟩
  cases h
 ·rename_i b n k0 vb vcap;obtain⟨s,kv,vv,rfl,hs,hk,hv⟩:=hargs.args3;obtain rfl:=hk.int_inv
  cases hs with
  |oslice _ _ _ rb cap e m hb hc hsh hm hx=>
  cases hv with
  |slice _ _ _ _ _ rv hrv hvc=>
  split at h
  ·rename_i cs x hA hAv;split at h
   ·rename_i ns hns;split at h
    ·rename_i hcond;obtain⟨hn,hk0,hkn,hbig,hbv⟩:=hcond;simp only[ZI,ZP]at h;obtain⟨rfl,rfl⟩:=h;obtain rfl:=qo6 hns;obtain⟨c0,e0,hh,hl,hcv⟩:=row_of i hb hA;obtain⟨c1,e1,hh1,hl1,hcv1⟩:=row_of i hrv (ns:=[x]) hAv
     have hne:rv≠rb:=λe=>hbv (i.inj b vb rb _ _ hb (e▸hrv) hA hAv rfl rfl)
     have hshe:e=e0/\m=c0.size:=by
      rw[qaE hh]at hsh;simp only[ZI,ZP]at hsh;exact⟨hsh.1.symm,hsh.2.symm⟩
     obtain⟨rfl,rfl⟩:=hshe;obtain⟨k,rfl⟩:∃k:Nat,k0=(k:Int):=⟨k0.toNat,by omega⟩;simp only[aU]at hkn⊢
     have hvs:∀j v,(qM [x])[j]? =some v->w.cell? ⟨rv,0+j,none⟩=some v:=by
      intro j v hj;have hjl:=(Yb.1 hj).1;rw[cell_of_row hh1,aG,hcv1 j (by simpa[qM]using hjl),hj]
     have hcs:∀j v,(qM ns)[j]? =some v->w.cell? ⟨rb,0+j,none⟩=some v:=by
      intro j v hj;have hjl:=(Yb.1 hj).1;rw[cell_of_row hh,aG,hcv j (by simpa[qM]using hjl),hj]
     have hlv:(qM ns).length=n:=by simpa[qM]using hn
     have hms:(ns.take k++[x]++ns.drop k).length=n+1:=by simp;omega
     have hat:∀j,j<n+1->(qM (ns.take k++[x]++ns.drop k))[j]? =if j<k then(qM ns)[j]? else if j=k then some (.int .i64 x)else(qM ns)[j-1]? :=by
      intro j hj;simp only[qM,YA];by_cases h1:j<k
      ·rw[ae h1,Yz,Yf (by simp;omega),List.getElem?_take_of_lt h1]
      rw[aa h1];by_cases h2:j=k
      ·subst h2;rw[ae rfl,Yz,Yo (by simp;omega)]
       have:j-(ns.take j).length=0:=by simp;omega
       rw[this];rfl
      rw[aa h2,Yz,Yo (by simp;omega)]
      have:j-(ns.take k).length=(j-1-k)+1:=by simp;omega
      rw[this];simp only[dc,bp,YK,YI];rw[show k+(j-1-k)=j-1 by omega]
     have hblt:b<A.length:=(Yb.1 hA).1;by_cases hroom:n+1<=cap
     ·by_cases hend:k=n
      ·subst hend
       have:=Any2.slices_Insert_int_end_room L rb 0 k cap rv 0 1 vcap (qM [x]) w (by omega) hroom hx rfl (λj hj=>by
        rw[cell_of_row hh,Yi (by omega)];rfl) (λj _=>frozen_of_row hh _) hvs qdT
       refine Calls.mono this ?_;rintro e' w' ⟨rfl,rfl⟩;obtain⟨c2,rw2,hs2,hc2⟩:=qbg rb e (qM [x]) (0+k) w c0 hh (by simp[qM];omega)
       obtain⟨nu',st,hR⟩:=qlS i hb hA hh rw2 hs2 hms hroom (by omega) hx (λj hj=>by
        rw[hms]at hj;rw[hat j hj,hc2 j];by_cases h1:j<k
        ·rw[aa (by omega),ae h1,hcv j (by omega)]
        have:j=k:=by omega
        subst this;rw[ae (by simp[qM]),aa h1,ae rfl]
        simp[qM])
       exact⟨_,_,nu',rfl,st,hR⟩
      have:=Any2.slices_Insert_int_shift L rb 0 n cap k rv 0 1 vcap (qM ns) (qM [x]) w (by omega) (by omega) hroom hx hne hlv rfl hcs (λj hj=>by
       rw[cell_of_row hh,Yi (by omega)];rfl) (λj _=>frozen_of_row hh _) hvs qdT qdT e1 e c1.size c0.size (qaE hh1) (qaE hh) (by omega) (frozen_of_row hh1 _) (frozen_of_row hh1 _)
      refine Calls.mono this ?_;rintro e' w' ⟨rfl,rfl⟩;obtain⟨c2,rw2,hs2,hc2⟩:=qbg rb e ((qM ns).drop k) (0+(k+1)) w.drew c0 hh (by simp[hlv];omega);obtain⟨c3,rw3,hs3,hc3⟩:=qbg rb e (qM [x]) (0+k) _ c2 rw2.at_ (by simp[qM];omega)
      obtain⟨nu',st,hR⟩:=qlS i hb hA hh (rw2.trans rw3).ofDrew (hs3.trans hs2) hms hroom (by omega) hx (λj hj=>by
       rw[hms]at hj;rw[hat j hj,hc3 j];by_cases h1:j<k
       ·rw[aa (by omega),ae h1,hc2 j,aa (by omega),hcv j (by omega)]
       rw[aa h1];by_cases h2:j=k
       ·subst h2;rw[ae (by simp[qM]),ae rfl];simp[qM]
       rw[aa (by simp[qM];omega),aa h2,hc2 j,ae (by simp[hlv];omega),YI]
       rw[show k+(j-(0+(k+1)))=j-1 by omega])
      exact⟨_,_,nu',rfl,st,hR⟩
     have hg:=grownCap_ge w (n+1) cap (ρ.t 3);have hgm:=Go.grownCap_le_maxLen w (n+1) cap (ρ.t 3) (by unfold maxLen;omega);have fin:∀{w':World}{cc:Array Value},w'.heap[w.heap.size]? =some (.cells cc (ρ.t 3) (0,0))->(∀r,r<w.heap.size->w'.heap[r]? =w.heap[r]?)->w'.heap.size=w.heap.size+1->w'.os=w.os->w'.tape=w.tape->w'.output=w.output->
      grownCap w (n+1) cap (ρ.t 3)<=cc.size->(∀j,j<(ns.take k++[x]++ns.drop k).length->cc[j]? =(qM (ns.take k++[x]++ns.drop k))[j]?)->
      ∃x' F' nu',Ending.returned (.slice (some ⟨w.heap.size,0,none⟩) (n+1) (grownCap w (n+1) cap (ρ.t 3)))= .returned x'/\Stp F nu A w F' nu' (A.set b .dead++[.cells (qaC (ns.take k++[x]++ns.drop k))]) w'/\R F' nu' w' (.oslice A.length (n+1) 1) x':=by
      intro w' cc h1 h2 h3 h4 h5 h6 h7 h8;obtain⟨nu',st,hR⟩:=qoz i h1 h2 h3 h4 h5 h6 hms hg h7 hgm h8;have s2:=Uv st.inv b;rw[bO _ _ hblt]at s2;exact⟨_,F,nu',rfl,st.trans s2,hR⟩
     by_cases hend:k=n
     ·subst hend
      have:=Any2.slices_Insert_int_end_grow L (some ⟨rb,0,none⟩) k cap rv 0 1 vcap (qM ns) (qM [x]) w (by omega) hc (by omega) (by omega) hlv rfl (λe=>by cases e) (by
       intro a ha j v hj;injection ha with ha;subst ha;rw[jB]
       exact hcs j v hj) hvs qdT
      refine Calls.mono this ?_;rintro e' w' ⟨rfl,rfl⟩;refine fin (Go.heap_alloc_new w.drew _) (λr hr=>Go.heap_alloc_old w.drew _ hr) (by simp) rfl rfl rfl (by simp[size_zeroCells,Value.cells,hlv];simp[qM];omega) (λj hj=>?_);rw[hms]at hj;rw[hat j hj];by_cases h1:j<k
      ·rw[ae h1,YC (by simp[hlv];omega)];rw[List.getElem?_toArray,Yf (by omega)]
      have:j=k:=by omega
      subst this;rw[aa h1,ae rfl,YC (by simp[qM];omega),List.getElem?_toArray,Yo (by omega),hlv];simp[qM]
     have:=Any2.slices_Insert_int_grow L rb 0 n cap k rv 0 1 vcap (qM ns) (qM [x]) w (by omega) (by omega) hc (by omega) (by omega) hlv rfl hcs hvs qdT qdT;refine Calls.mono this ?_;rintro e' w' ⟨rfl,rfl⟩;obtain⟨ROW,hROW⟩:∃ROW:Array Value,ROW=((qM ns).take k).toArray++Builtin.zeroCells (Value.int .i64 0).cells (n+1-k)++Builtin.zeroCells (Value.int .i64 0).cells (grownCap w (n+1) cap (ρ.t 3)-(n+1)):=⟨_,rfl⟩;rw[<-hROW]
     have hRs:ROW.size=grownCap w (n+1) cap (ρ.t 3):=by
      rw[hROW];simp[size_zeroCells,Value.cells,hlv];omega
     have h0:(w.alloc (.cells ROW (ρ.t 3))).drew.heap[w.heap.size]? =some (.cells ROW (ρ.t 3) (0,0)):=Go.heap_alloc_new w _;obtain⟨c2,rw2,hs2,hc2⟩:=qbg w.heap.size (ρ.t 3) (qM [x]) k _ ROW h0 (by simp[qM];omega);obtain⟨c3,rw3,hs3,hc3⟩:=qbg w.heap.size (ρ.t 3) ((qM ns).drop k) (k+1) _ c2 rw2.drew.at_ (by simp[hlv];omega);have hall:=rw2.drew.trans rw3;refine fin hall.at_ (λr hr=>(hall.oth r (by omega)).trans (Go.heap_alloc_old w _ hr)) (hall.size.trans (by simp)) hall.os hall.tape hall.output (by omega) (λj hj=>?_);rw[hms]at hj;rw[hat j hj,hc3 j];by_cases h1:j<k
     ·rw[aa (by omega),ae h1,hc2 j,aa (by omega),hROW,YC (by simp[hlv];omega),YC (by simp[hlv];omega),List.getElem?_toArray,List.getElem?_take_of_lt h1]
     rw[aa h1];by_cases h2:j=k
     ·subst h2;rw[aa (by omega),ae rfl,hc2 j,ae (by simp[qM])];simp[qM]
     rw[ae (by simp[hlv];omega),aa h2,YI];rw[show k+(j-(k+1))=j-1 by omega]
    cases h
   cases h
  cases h
 cases h
end
section
open Go.Proofs Go.RowKit Go.Shelf
structure But (x y:Option Nat) (w w':World):Prop where
 os:w'.os=w.os
 tape:w'.tape=w.tape
 output:w'.output=w.output
 size:w.heap.size<=w'.heap.size
 block:∀k,k<w.heap.size->some k≠x->some k≠y->w'.heap[k]? =w.heap[k]?
 shape:∀k s,w.shape? k=some s->w'.shape? k=some s
def But.refl {x y:Option Nat}(w:World):But x y w w:=⟨rfl,rfl,rfl,ai _,λ_ _ _ _=>rfl,λ_ _ h=>h⟩
def But.trans {x y:Option Nat}{a b c:World}(h:But x y a b) (k:But x y b c):But x y a c:=
 ⟨k.os.trans h.os,k.tape.trans h.tape,k.output.trans h.output,bx h.size k.size,λq hq h1 h2=>(k.block q (by have:=h.size;omega) h1 h2).trans (h.block q hq h1 h2),λq s hs=>k.shape q s (h.shape q s hs)⟩
def qiV {w:World}{k:Nat}{s:TypeId×Nat}(h:w.shape? k=some s):k<w.heap.size:=by
 rcases aw k w.heap.size with h1|h1
 ·exact h1
 simp[World.shape?,Array.getElem?_eq_none h1]at h
def But.setCell {x y:Option Nat}(w:World) (b o:Nat) (q:Value) (h:x=some b\/y=some b):But x y w (w.setCell ⟨b,o,none⟩ q):=by
 have hh:∀k,k≠b->(w.setCell ⟨b,o,none⟩ q).heap[k]? =w.heap[k]? :=λk hk=>Below.heap_setCell _ _ _ _ hk
 refine⟨rfl,rfl,rfl,by simp[World.setCell],λk hk h1 h2=>hh k (λe=>?_),λk s hs=>?_⟩
 ·subst e;rcases h with h|h
  ·exact h1 h.symm
  exact h2 h.symm
 by_cases e:k=b
 ·subst e;simp only[World.shape?,World.setCell,YD]at hs⊢
  cases hc:w.heap[k]? with
  |none=>rw[hc]at hs;simp at hs
  |some ob=>
   rw[hc]at hs;cases ob<;>simp at hs⊢
   all_goals exact hs
 have:=hh k e;unfold World.shape? at hs⊢;rw[this];exact hs
def qr7 {w:World}(o:Obj) (rb:Nat) (s:TypeId×Nat) (h:w.shape? rb=some s):(w.alloc o).shape? rb=some s:=by
 rw[<-h];have e:=_root_.Go.heap_alloc_old w o (qiV h);simp only[World.shape?,e]
def But.drew {x y:Option Nat}(w:World):But x y w w.drew:=⟨rfl,rfl,rfl,ai _,λ_ _ _ _=>rfl,λ_ _ h=>h⟩
def But.freeze {x y:Option Nat}(w:World) (g n:Nat) (h:x=some g\/y=some g):But x y w (w.freeze ⟨g,0,none⟩ n):=by
 have hh:∀k,k≠g->(w.freeze ⟨g,0,none⟩ n).heap[k]? =w.heap[k]? :=λk hk=>by
  unfold World.freeze;split
  ·rfl
  simp only[YD];rw[aa (λe=>hk e.symm)]
 have hsh:∀k s,w.shape? k=some s->(w.freeze ⟨g,0,none⟩ n).shape? k=some s:=λk s hs=>by
  by_cases e:k=g
  ·subst e;unfold World.freeze;split
   ·exact hs
   simp only[World.shape?,YD,aT]at hs⊢
   cases hc:w.heap[k]? with
   |none=>rw[hc]at hs;simp at hs
   |some ob=>
    rw[hc]at hs;cases ob<;>simp at hs⊢
    all_goals exact hs
  have:=hh k e;unfold World.shape? at hs⊢;rw[this];exact hs
 have hsz:(w.freeze ⟨g,0,none⟩ n).heap.size=w.heap.size:=by
  unfold World.freeze;split
  ·rfl
  simp
 have hos:(w.freeze ⟨g,0,none⟩ n).os=w.os/\(w.freeze ⟨g,0,none⟩ n).tape=w.tape/\(w.freeze ⟨g,0,none⟩ n).output=w.output:=by
  unfold World.freeze;split<;>exact⟨rfl,rfl,rfl⟩
 refine⟨hos.1,hos.2.1,hos.2.2,by rw[hsz];exact ai _,λk hk h1 h2=>hh k (λe=>?_),hsh⟩;subst e;rcases h with h|h
 ·exact h1 h.symm
 exact h2 h.symm
def qps {P:Program}(w:World) (t u ty e:TypeId) (i:TypeInfo) (ht:P.underlying t=some (.slice e)) (hu:P.underlying u=some .string) (hi:P.info? e=some i) (hz:i.zero=some (.int .u8 0))
 (hsize:i.size=1) (hby:i.bytes=1) (v:Value) (n:Nat) (xs:List Value) (hown:w.ownsRow 0 e 1 v n xs) (s:ByteArray) (hbytes:n+s.size<=140737488355328):
 ∃v' w',(Builtin.append_ #[t,u] ty #[v,.string s]).run P w= .ok v' w'/\w'.ownsRow 0 e 1 v' (n+s.size) (xs++Lib.strCells s)/\(∀b,But (some b) v.ownBlock w w')/\(v'.ownBlock=v.ownBlock\/ ∃g,v'.ownBlock=some g/\w.heap.size<=g):=by
 have h63:n+s.size<=maxLen:=by unfold maxLen;omega
 rcases hown.2 with⟨rfl,rfl⟩|⟨g,cap,cur,rfl,hbg,hg,hnc,hcm,hcs,htake⟩
 ·have hx:xs=[]:=cS (by simpa using hown.1);subst hx;obtain⟨v',w',hr,h2,h3,h4⟩:=Lib.run_append_own_string (P:=P) w w.heap.size t u ty e i ht hu hi hz hsize hby (.slice none 0 0) 0 [] (World.ownsRow_nil _ _ _ _) s h63 hbytes (ai _)
  have hb:∀k,k<w.heap.size->w'.heap[k]? =w.heap[k]? :=λk hk=>h3.block k hk (λe=>by cases e)
  refine⟨v',w',hr,⟨h2.1,?_⟩,λb=>⟨h3.os,h3.tape,h3.output,h3.size,λk hk _ _=>hb k hk,λk s hs=>?_⟩,?_⟩
  ·rcases h2.2 with h|⟨g,cap,cur,a1,a2,a3⟩
   ·exact .inl h
   exact .inr ⟨g,cap,cur,a1,aD _,a3⟩
  ·have:=hb k (qiV hs);unfold World.shape? at hs⊢;rw[this];exact hs
  rcases h2.2 with⟨hv,_⟩|⟨g',cap',cur',hv,hb,_⟩
  ·left;rw[hv]
  right;exact⟨g',by rw[hv];rfl,hb⟩
 obtain⟨v',w',hr,h2,h3,h4⟩:=Lib.run_append_own_string (P:=P) w 0 t u ty e i ht hu hi hz hsize hby _ n xs hown s h63 hbytes (aD _)
 have hxl:xs.length=n:=by simpa using hown.1
 by_cases hroom:n+s.size<=cap
 ·have hr2:=Lib.run_append_room_string (P:=P) w t u ty e i ht hu hi hsize g n cap cur hg s hroom (by omega);rw[hr]at hr2;injection hr2 with e1 e2;refine⟨v',w',hr,h2,λb=>⟨h3.os,h3.tape,h3.output,h3.size,λk hk _ h=>h3.block k hk h,λk sh hs=>?_⟩,?_⟩
  ·by_cases ek:k=g
   ·subst ek;rw[e2];have hg2:=setRow_heap w k cur (cur.toList.take n++Lib.strCells s++cur.toList.drop (n+s.size)).toArray e _ hg;simp only[World.shape?,hg]at hs;simp only[World.shape?,hg2];rw[<-hs];simp only[fJ,Yq,Ym,YJ,cO,Lib.strCells_length];congr 2;omega
   have:=h3.block k (qiV hs) (λc=>ek (by simpa[Value.ownBlock]using c));unfold World.shape? at hs⊢;rw[this];exact hs
  left;rw[e1];rfl
 have holds:∀j u,xs[j]? =some u->w.cell? ((⟨g,0,none⟩:Addr).add j)=some u:=hown.cells (g:=g) rfl;have hr2:=Lib.run_append_grow_string (P:=P) w t u ty e i (.int .u8 0) ht hu hi hz ⟨g,0,none⟩ n cap xs (by rw[hsize];simpa using hxl) holds s (by omega) (by unfold maxLen at h63;omega) (by rw[hby];exact growslice_fits (by omega) (by omega));rw[hr]at hr2;injection hr2 with e1 e2;refine⟨v',w',hr,h2,λb=>⟨h3.os,h3.tape,h3.output,h3.size,λk hk _ h=>h3.block k hk h,λk sh hs=>?_⟩,?_⟩
 ·rw[e2];exact qr7 _ k sh hs
 right;exact⟨w.heap.size,by rw[e1];rfl,ai _⟩
def qpf {P:Program}{w:World}{ops:Array Oper}{rest:List Oper}{o:Oper}{a:Act}{Q:Exit->Act->World->Prop}(hgd:o.guard=none) (sl x:Operand) (t u:TypeId)
 (ho:o.op= .call {callee:= .builtin .append,args:=#[sl,x],argTypes:=#[t,u]})
 (e:TypeId) (i:TypeInfo) (ht:P.underlying t=some (.slice e)) (hu:P.underlying u=some .string) (hi:P.info? e=some i) (hz:i.zero=some (.int .u8 0))
 (hsize:i.size=1) (hby:i.bytes=1)
 (v:Value) (n:Nat) (xs:List Value) (hs:a.eval sl=v) (hown:w.ownsRow 0 e 1 v n xs) (s:ByteArray) (hx:a.eval x= .string s)
 (hbytes:n+s.size<=140737488355328)
 (h:∀v' w',w'.ownsRow 0 e 1 v' (n+s.size) (xs++Lib.strCells s)->(∀b,But (some b) v.ownBlock w w')->(v'.ownBlock=v.ownBlock\/ ∃g,v'.ownBlock=some g/\w.heap.size<=g)->wpList P ops Q rest (a.put o.dst v') w'):wpList P ops Q (o::rest) a w:=by
 refine wpList_plain hgd λK hK=>?_
 obtain⟨v',w',hr,h2,h3,h4⟩:=qps (P:=P) w t u o.type e i ht hu hi hz hsize hby v n xs hown s hbytes;unfold Oper.wp execOp;simp only[ho,resolve,invoke,builtin,Sem.run_bind,Sem.run_pure,Result.andThen_ok,List.map_toArray,List.map_cons,List.map_nil,hs,hx,hr];exact hK _ _ (h v' w' h2 h3 h4)
section
variable {P:Program}{ρ:Ren}
def qpA (L:Lays.n240 P ρ) (X:Builder.X72 P ρ) (b:Nat) (bs:List Value) (w:World) (h:Lib.IsBuilder (ρ.t 72) (ρ.t 5) 0 b bs w):
 Calls P (ρ.f 240) #[.pointer (some ⟨b,0,none⟩)] w λe w'=>e= .returned (.tuple #[])/\Lib.BuilderAt (ρ.t 72) (ρ.t 5) 0 b (.pointer (some ⟨b,0,none⟩)) bs w'/\(w'=w\/w'=w.setCell ⟨b,0,none⟩ (.pointer (some ⟨b,0,none⟩))):=by
 rcases h with h|h
 ·refine(Any.Builder_copyCheck_fresh L X b w h.cell0 h.shape h.frozen0).mono ?_;rintro e w' ⟨rfl,rfl⟩;exact⟨rfl,h.used _,.inr rfl⟩
 refine(Any.Builder_copyCheck_used L X b w h.cell0).mono ?_;rintro e w' ⟨rfl,rfl⟩;exact⟨rfl,h,.inl rfl⟩
structure Wrote (P:Program) (ρ:Ren) (b:Nat) (v:Value) (bs:List Value) (w w':World) (v':Value):Prop where
 heap:w'.heap[b]? =some (.cells #[.pointer (some ⟨b,0,none⟩),v'] (ρ.t 72) (0,0))
 own:w'.ownsRow 0 (ρ.t 5) 1 v' bs.length bs
 but:But (some b) v.ownBlock w w'
 place:v'.ownBlock=v.ownBlock\/ ∃g,v'.ownBlock=some g/\w.heap.size<=g
 ne:v'.ownBlock≠some b
set_option maxHeartbeats 2000000 in
def qui (L:Lays.n166 P ρ) (X:Builder.Extra P ρ) (b:Nat) (p v:Value) (bs:List Value) (s:ByteArray) (w:World) (hp:p= .pointer none\/p= .pointer (some ⟨b,0,none⟩)) (hb:w.heap[b]? =some (.cells #[p,v] (ρ.t 72) (0,0))) (hown:w.ownsRow 0 (ρ.t 5) 1 v bs.length bs) (hne:v.ownBlock≠some b) (hlen:bs.length+s.size<=140737488355328):
 Calls P (ρ.f 166) #[.pointer (some ⟨b,0,none⟩),.string s] w λe w'=>e= .returned (.tuple #[.int .i64 s.size,.nilIface])/\∃v',Wrote P ρ b v (bs++Lib.strCells s) w w' v':=by
 have h:Lib.IsBuilder (ρ.t 72) (ρ.t 5) 0 b bs w:=by
  rcases hp with rfl|rfl
  ·exact .inl ⟨aD _,v,hb,hown,hne⟩
  exact .inr ⟨aD _,v,hb,hown,hne⟩
 obtain⟨i0,hi,hz0,hz1,hz2⟩:=info_parts X.infoByte;have mixed:=L.mixed;have t72:=L.t72;have a72:=L.a72;have z72:=L.z72;have v72:=L.v72;have u72:=run_underlying L.t72;have t70:=L.t70;have a70:=L.a70;have z70:=L.z70;have v70:=L.v70;have u70:=run_underlying L.t70;have t37:=L.t37;have a37:=L.a37;have z37:=L.z37;have v37:=L.v37;have u37:=run_underlying L.t37;have t3:=L.t3;have a3:=L.a3;have z3:=L.z3;have v3:=L.v3;have u3:=run_underlying L.t3;have t9:=L.t9;have a9:=L.a9;have z9:=L.z9;have v9:=L.v9;have u9:=run_underlying L.t9;have t4:=L.t4;have a4:=L.a4;have z4:=L.z4;have v4:=L.v4;have u4:=run_underlying L.t4;have t164:=L.t164;have a164:=L.a164;have z164:=L.z164;have v164:=L.v164;have u164:=run_underlying L.t164;have t5:=X.t5;have a5:=X.a5;have z5:=X.z5;have v5:=X.v5;have u5:=run_underlying X.t5;have e240:∀args w,(callFunc (ρ.f 240) args).run P w= .ok (.enter (ρ.f 240) args) w:=Go.Proofs.enters_of L.f240 (by kernel_rfl) rfl
 go_enter L.f166,Body.n166_ntmps ρ
 go_wp2_with (go_at_fn (ρ.f 240);refine(qpA {L with} X.toX72 b bs _ h).mono ?_)
 rintro e w1 ⟨rfl,h1,hw1⟩;obtain⟨_,v1,hbk,hown1,hne1⟩:=h1
 have ev:v1=v:=by
  rcases hw1 with rfl|rfl
  ·rw[hb]at hbk;injection hbk with hbk;injection hbk with hbk;simp at hbk;exact hbk.2.symm
  have:(w.setCell ⟨b,0,none⟩ (.pointer (some ⟨b,0,none⟩))).heap[b]? =some (.cells #[.pointer (some ⟨b,0,none⟩),v] (ρ.t 72) (0,0)):=by
   simp[World.setCell,Array.getElem?_modify,hb]
  rw[this]at hbk;injection hbk with hbk;injection hbk with hbk;simpa using hbk.symm
 subst ev
 have but1:But (some b) v1.ownBlock w w1:=by
  rcases hw1 with rfl|rfl
  ·exact But.refl _
  exact But.setCell _ _ _ _ (.inl rfl)
 have c0:w1.cell? ⟨b,0,none⟩=some (.pointer (some ⟨b,0,none⟩)):=by rw[Lib.cell_of_heap hbk];rfl
 have c1:w1.cell? ⟨b,1,none⟩=some v1:=by rw[Lib.cell_of_heap hbk];rfl
 go_wp2_with (at_builtin;refine qpf rfl _ _ (ρ.t 37) (ρ.t 9) rfl (ρ.t 5) i0 L.t37 L.t9 hi hz0 hz1 hz2 _ _ _ rfl hown1 s rfl ?c4 ?_)
 case c4=>omega
 intro v' w2 hown' hgrow hplace
 have hlt:b<w1.heap.size:=by
  rcases aw b w1.heap.size with h'|h'
  ·exact h'
  simp[Array.getElem?_eq_none h']at hbk
 have hb2:w2.heap[b]? =some (.cells #[.pointer (some ⟨b,0,none⟩),v1] (ρ.t 72) (0,0)):=by
  rw[(hgrow (w1.heap.size)).block b hlt (λe=>by injection e with e;omega) (λe=>hne e.symm)];exact hbk
 have d0:w2.cell? ⟨b,0,none⟩=some (.pointer (some ⟨b,0,none⟩)):=by rw[Lib.cell_of_heap hb2];rfl
 have d1:w2.cell? ⟨b,1,none⟩=some v1:=by rw[Lib.cell_of_heap hb2];rfl
 have f1:w2.frozen? ⟨b,1,none⟩=false:=Lib.frozen_of_heap hb2 1
 obtain⟨ao,n',cap,rfl⟩:∃ao n' cap,v'= .slice ao n' cap:=by
  rcases hown'.2 with⟨hv,_⟩|⟨g,cap,cur,hv,_⟩
  ·exact⟨_,_,_,hv⟩
  exact⟨_,_,_,hv⟩
 go_wp2
 go_ret2
 refine⟨rfl,.slice ao n' cap,?_⟩;have hput:=Lib.BuilderAt.put (T:=(ρ.t 72)) (e:=(ρ.t 5)) (B:=0) (aD _) hb2 (bs':=bs++Lib.strCells s) (by simpa[Lib.strCells_length]using hown') X.neB5;obtain⟨_,v3,hb3,hown3,hne3⟩:=hput
 have e3:v3= .slice ao n' cap:=by
  have:(w2.setCell ⟨b,1,none⟩ (.slice ao n' cap)).heap[b]? =some (.cells #[.pointer (some ⟨b,0,none⟩),.slice ao n' cap] (ρ.t 72) (0,0)):=by
   simp[World.setCell,Array.getElem?_modify,hb2]
  rw[this]at hb3;injection hb3 with hb3;injection hb3 with hb3;simpa using hb3.symm
 subst e3;refine⟨hb3,hown3,but1.trans ((hgrow b).trans (But.setCell _ _ _ _ (.inl rfl))),?_,hne3⟩;rcases hplace with h|⟨g,h1,h2⟩
 ·exact .inl h
 exact .inr ⟨g,h1,bx but1.size h2⟩
end
end
section
open Go.Proofs Go.RowKit Go.Shelf
def bWr (ok:Bool) (o:Option (List Int)) (s:Str):Option (List Int):=if ok=o.isSome/\(hof o).length+s.length<=1000000000/\0<s.length then some (hof o++s.map λx=>(x.toNat:Int))else none
def qpr (ok:Bool) (o:Option (List Int)):Option Str:=if ok=true/\(0<(hof o).length/\(hof o).length<=1000000000)/\(hof o).all (λn=>decide (0<=n)&&decide (n<256))=true then some ((hof o).map λn=>UInt8.ofNat n.toNat)else none
section
variable {P:Program}{ρ:Ren}
set_option maxHeartbeats 1000000 in
def qsF (L:Lays.n169 P ρ) (X:Builder.Extra P ρ) (b g cap:Nat) (p:Value) (l:List UInt8) (cur:Array Value) (w:World) (hbk:w.heap[b]? =some (.cells #[p,.slice (some ⟨g,0,none⟩) l.length cap] (ρ.t 72) (0,0)))
 (hg:w.heap[g]? =some (.cells cur (ρ.t 5) (0,0))) (hnc:l.length<=cap) (hcm:cap<=maxLen) (hcs:cur.size=cap*1) (htake:cur.toList.take (l.length*1)=Lib.byteCells l) (h0:l≠[]):
 Calls P (ρ.f 169) #[.pointer (some ⟨b,0,none⟩)] w λe w'=>e= .returned (.string ⟨l.toArray⟩)/\But (some b) (some g) w w':=by
 have hown:w.ownsRow 0 (ρ.t 5) 1 (.slice (some ⟨g,0,none⟩) l.length cap) l.length (Lib.byteCells l):=⟨by rw[Lib.byteCells_length];omega,.inr ⟨g,cap,cur,rfl,aD _,hg,hnc,hcm,hcs,htake⟩⟩
 have hl0:l.length≠0:=by simpa using h0
 have c1:w.drew.cell? ⟨b,1,none⟩=some (.slice (some ⟨g,0,none⟩) l.length cap):=by
  have:w.drew.heap[b]? =some (.cells #[p,.slice (some ⟨g,0,none⟩) l.length cap] (ρ.t 72) (0,0)):=hbk;rw[Lib.cell_of_heap this];rfl
 have hSD:(Builtin.unsafeSliceData_ #[(ρ.t 37)] (ρ.t 127) #[.slice (some ⟨g,0,none⟩) l.length cap]).run P w.drew= .ok (.pointer (some ⟨g,0,none⟩)) w.drew:=
  Lib.run_unsafeSliceData_row _ _ _ _ _ _ (by omega)
 have hUS:(Builtin.unsafeString_ #[(ρ.t 127),(ρ.t 3)] (ρ.t 9) #[.pointer (some ⟨g,0,none⟩),.int .i64 l.length]).run P w.drew= .ok (.string ⟨l.toArray⟩) (w.drew.freeze ⟨g,0,none⟩ l.length):=by
  refine Lib.run_unsafeString_row w.drew (ρ.t 127) (ρ.t 3) (ρ.t 9) (ρ.t 5) L.t127 X.cellsByte g cur.size (by have hg':w.drew.heap[g]? =some (.cells cur (ρ.t 5) (0,0)):=hg;simp[World.shape?,hg']) l h0 (by omega) (by unfold maxLen at hcm;omega) ?_;intro j x hx;have:=hown.cells (g:=g) rfl j (.int .u8 x.toNat) (by simp[Lib.byteCells,hx]);exact this
 have mixed:=L.mixed;have t72:=L.t72;have a72:=L.a72;have z72:=L.z72;have v72:=L.v72;have u72:=run_underlying L.t72;have t70:=L.t70;have a70:=L.a70;have z70:=L.z70;have v70:=L.v70;have u70:=run_underlying L.t70;have t37:=L.t37;have a37:=L.a37;have z37:=L.z37;have v37:=L.v37;have u37:=run_underlying L.t37;have t127:=L.t127;have a127:=L.a127;have z127:=L.z127;have v127:=L.v127;have u127:=run_underlying L.t127;have t3:=L.t3;have a3:=L.a3;have z3:=L.z3;have v3:=L.v3;have u3:=run_underlying L.t3;have t9:=L.t9;have a9:=L.a9;have z9:=L.z9;have v9:=L.v9;have u9:=run_underlying L.t9;have t5:=X.t5;have a5:=X.a5;have z5:=X.z5;have v5:=X.v5;have u5:=run_underlying X.t5
 go_enter L.f169,Body.n169_ntmps ρ
 go_wp2
 go_region_o
 all_goals (go_wp2;go_ret;exact⟨rfl,(But.drew w).trans (But.freeze _ g _ (.inr rfl))⟩)
end
variable [Glob]{P:Program}{ρ:Ren}
def qoE (l:List Int):l.flatMap (qcv .u8).c=l.map λn=>AV.int .u8 n:=by
 induction l with
 |nil=>rfl
 |cons x l ih=>rw[bL,ih];rfl
def takeV {cur:Array Value}{l:List Int}{F:Nat->Prop}{nu:Nat->Option Nat}{w:World}(hl:(l.flatMap (qcv .u8).c).length<=cur.size) (hR:∀(i:Nat) (a:AV) (v:Value),(l.flatMap (qcv .u8).c)[i]? =some a->cur[i]? =some v->R F nu w a v):
 cur.toList.take (l.length*1)=l.map λn=>Value.int .u8 n:=by
 rw[qoE,bq]at hl
 refine List.ext_getElem (by rw[Ym,bq];have:cur.toList.length=cur.size:=cO;omega) λi h1 h2=>?_
 rw[bq]at h2;rw[List.getElem_take,List.getElem_map,Array.getElem_toList];have h3:=hR i (.int .u8 l[i]) (cur[i]'(by omega)) (by rw[qoE,YA,Ya h2];rfl) (Yi _);exact h3.int_inv
def qqp {F:Nat->Prop}{nu:Nat->Option Nat}{w:World}{T e b:Nat}{ok:Bool}{o:Option (List Int)}{H:Heap}(i:Inv F nu (.bld T e [pz ok 0 0,hsl 1 1 o]:: .cells ((hof o).flatMap (qcv .u8).c)::H) w) (hb:nu 0=some b) (hok:ok=o.isSome) (hTe:T≠e):
 ¬F b/\∃p v,w.heap[b]? =some (.cells #[p,v] T (0,0))/\(p= .pointer none\/p= .pointer (some ⟨b,0,none⟩))/\w.ownsRow 0 e 1 v (hof o).length ((hof o).map λn=>Value.int .u8 n)/\v.ownBlock≠some b/\
  (∀g,v.ownBlock=some g->nu 1=some g/\¬F g/\∃cap cur,v= .slice (some ⟨g,0,none⟩) (hof o).length cap/\w.heap[g]? =some (.cells cur e (0,0))/\(hof o).length<=cap/\cap<=maxLen/\cur.size=cap*1)/\(v.ownBlock=none->o=none):=by
 obtain⟨hF,vs,hh,hs,hR,hW⟩:=i.blk 0 b _ hb rfl;refine⟨hF,?_⟩;obtain⟨l⟩:=vs
 match l,hs with
 |[p,v],_=>
 have hp:R F nu w (pz ok 0 0) p:=hR 0 _ _ rfl rfl;have hv:R F nu w (hsl 1 1 o) v:=hR 1 _ _ rfl rfl
 cases o with
 |none=>
  subst hok;have hp:R F nu w .nilptr p:=hp;have hv:R F nu w .nilslice v:=hv;cases hp
  cases hv
  exact⟨_,_,hh,.inl rfl,World.ownsRow_nil _ _ _ _,by simp[Value.ownBlock],λg hg=>by simp[Value.ownBlock]at hg,λ_=>rfl⟩
 |some l=>
  subst hok;have hp:R F nu w (.ptr 0 0) p:=hp;have hv:R F nu w (.oslice 1 l.length 1) v:=hv
  cases hp with
  |ptr _ _ rb h=>
  cases hv with
  |oslice _ _ _ g cap e' m h1 hc hsh hm hx=>
  rw[hb]at h;injection h with h;subst h;have hsh2:=hW 1 g l.length cap rfl;obtain⟨hFg,cur,e1,hhg,hlg,hRg⟩:=i.blk 1 g _ h1 rfl
  have e2:e1=e/\cur.size=cap:=by
   simp only[World.shape?,hhg,ZI,ZP]at hsh2;exact hsh2
  obtain⟨rfl,e3⟩:=e2
  have hcm:cap<=maxLen:=by unfold maxLen;exact hx
  have hown:w.ownsRow 0 e1 1 (.slice (some ⟨g,0,none⟩) l.length cap) l.length (l.map λn=>Value.int .u8 n):=⟨by simp,.inr ⟨g,cap,cur,rfl,aD _,hhg,hc,hcm,by omega,takeV hlg hRg⟩⟩;refine⟨_,_,hh,.inr rfl,hown,Lib.ownBlock_ne hown hh hTe,λg' hg'=>?_,λh=>by simp[Value.ownBlock]at h⟩
  have:g'=g:=by simpa[Value.ownBlock]using hg'.symm
  subst this;exact⟨h1,hFg,cap,cur,rfl,hhg,hc,hcm,by omega⟩
def qk8 (s:ByteArray):Lib.strCells s=(s.data.toList.map λx=>(x.toNat:Int)).map λn=>Value.int .u8 n:=by
 unfold Lib.strCells;rw[List.map_map];rfl
def qtb (L:Lays.n166 P ρ) (X:Builder.Extra P ρ) (hE:Av.Enters P (ρ.f 166)) (ok:Bool) (o:Option (List Int)) (s:Str) {l:List Int}(h:bWr ok o s=some l):
 qc P (.fn (ρ.f 166)) [.ptr 0 0,.str s] [.bld (ρ.t 72) (ρ.t 5) [pz ok 0 0,hsl 1 1 o],.cells ((hof o).flatMap (qcv .u8).c)] (.tuple [.i ((s.length:Nat):Int),.niliface])
  [.bld (ρ.t 72) (ρ.t 5) [pz true 0 0,hsl 2 1 (some l)],.dead,.cells ((hof (some l)).flatMap (qcv .u8).c)]:=by
 unfold bWr at h;split at h
 ·rename_i hc;obtain⟨hok,hlen,hpos⟩:=hc;obtain rfl:=Ye h;intro F nu w vs i hargs;refine .inl ⟨hE,?_⟩;obtain⟨x,ws,rfl,hx,hws⟩:=hargs.cons_inv;obtain⟨y,us,he,hy,hus⟩:=hws.cons_inv
  obtain rfl:ws=y::us:=by simpa using he
  obtain rfl:=hus.nil_inv;obtain⟨sb,rfl,rfl⟩:=hy.str_inv
  cases hx with
  |ptr _ _ b hb=>
  obtain⟨hFb,p,v,hh,hp,hown,hne,hrow,hnone⟩:=qqp i hb hok X.neB5;have hlm:((hof o).map λn=>Value.int .u8 n).length=(hof o).length:=bq _
  have hsz:sb.size=sb.data.toList.length:=by rw[cO];rfl
  refine(qui L X b p v ((hof o).map λn=>Value.int .u8 n) sb w hp hh (by rw[hlm];exact hown) hne (by rw[hlm];omega)).mono ?_;rintro e w' ⟨rfl,v',W⟩;obtain⟨hh',hown',but,place,hne'⟩:=W
  have eb:((hof o).map λn=>Value.int .u8 n)++Lib.strCells sb=(hof o++sb.data.toList.map λx=>(x.toNat:Int)).map λn=>Value.int .u8 n:=by rw[eH,qk8]
  rw[eb]at hown'
  have ln:(hof o++sb.data.toList.map λx=>(x.toNat:Int)).length=(hof o).length+sb.size:=by rw[Yq,bq,hsz]
  generalize (hof o++sb.data.toList.map λx=>(x.toNat:Int))=l at*;rw[bq]at hown'
  obtain⟨g',cap',cur',rfl,hhg',hnc',hcm',hcs',htake'⟩:∃g' cap' cur',v'= .slice (some ⟨g',0,none⟩) l.length cap'/\w'.heap[g']? =some (.cells cur' (ρ.t 5) (0,0))/\l.length<=cap'/\cap'<=maxLen/\cur'.size=cap'*1/\cur'.toList.take (l.length*1)=l.map λn=>Value.int .u8 n:=by
   rcases hown'.2 with⟨_,h0⟩|⟨g,cap,cur,hv,_,h1,h2,h3,h4,h5⟩
   ·omega
   exact⟨g,cap,cur,hv,h1,h2,h3,h4,h5⟩
  have hgb:g'≠b:=λe=>hne' (by rw[e];rfl)
  have hg':(nu 1=some g'/\¬F g'/\v.ownBlock=some g')\/w.heap.size<=g':=by
   rcases place with h|⟨g,h1,h2⟩
   ·have h:v.ownBlock=some g':=h.symm;obtain⟨h1,h2,_⟩:=hrow g' h;exact .inl ⟨h1,h2,h⟩
   have h1:some g'=some g:=h1;injection h1 with h1;subst h1;exact .inr h2
  have frame:∀rb,rb<w.heap.size->rb≠b->nu 1≠some rb\/v.ownBlock≠some rb->w'.heap[rb]? =w.heap[rb]? :=by
   intro rb hlt h1 h2;refine but.block rb hlt (λe=>h1 (Ye e)) (λe=>?_);rcases h2 with h2|h2
   ·exact h2 (hrow rb e.symm).1
   exact h2 e.symm
  have hFk:∀rb,F rb->w'.heap[rb]? =w.heap[rb]? :=λrb hF=>frame rb (i.ltF rb hF) (λe=>hFb (e▸hF)) (.inr λe=>(hrow rb e).2.1 hF)
  have hlt':g'<w'.heap.size:=by
   rcases aw g' w'.heap.size with h1|h1
   ·exact h1
   rw[Array.getElem?_eq_none h1]at hhg';cases hhg'
  have hnFg:¬F g':=by
   rcases hg' with h|h
   ·exact h.2.1
   intro hF;have:=i.ltF g' hF;omega
  have n0:upd nu 2 g' 0=some b:=hb;have n2:upd nu 2 g' 2=some g':=upd_same _ _
  have hsh:w'.shape? g'=some (ρ.t 5,cap'):=by
   simp only[World.shape?,hhg'];congr 2;omega
  have hinv:Inv F (upd nu 2 g') [.bld (ρ.t 72) (ρ.t 5) [pz true 0 0,hsl 2 1 (some l)],.dead,.cells (l.flatMap (qcv .u8).c)] w':=by
   refine⟨λk rb x hk hx=>?_,λk k' rb rb' x x' r hk hk' hx hx' ho ho' hr hr'=>?_,λk hk=>?_,λrb hF=>cD (i.ltF rb hF) but.size,λk rb hk=>?_,Glob.mono i.glob (λ_ h=>h) hFk⟩
   ·match k,hx with
    |0,hx=>
     obtain rfl:=Ye hx;rw[n0]at hk;obtain rfl:=Ye hk;refine⟨hFb,_,hh',rfl,λq a v hq hv=>?_,λq g n cap hv=>?_⟩
     ·match q,hq,hv with
      |0,hq,hv=>
       obtain rfl:=Ye hq;obtain rfl:=Ye hv;exact .ptr 0 0 b n0
      |1,hq,hv=>
       obtain rfl:=Ye hq;obtain rfl:=Ye hv;exact .oslice 2 l.length 1 g' cap' (ρ.t 5) cap' n2 hnc' hsh (by omega) (by unfold maxLen at hcm';exact hcm')
      |q+2,hq,hv=>simp at hq
     match q,hv with
     |0,hv=>cases hv
     |1,hv=>
      have hv:Value.slice (some ⟨g',0,none⟩) l.length cap'= .slice (some ⟨g,0,none⟩) n cap:=Ye hv;injection hv with h1 h2 h3;injection h1 with h1;injection h1 with h1;rw[<-h1,<-h3];exact hsh
     |q+2,hv=>simp at hv
    |1,hx=>obtain rfl:=Ye hx;trivial
    |2,hx=>
     obtain rfl:=Ye hx;rw[n2]at hk;obtain rfl:=Ye hk;refine⟨hnFg,cur',ρ.t 5,hhg',by rw[qoE,bq];omega,λq a v hq hv=>?_⟩;rw[qoE,YA]at hq;obtain⟨n,hn,rfl⟩:=Yd.1 hq;have hql:=(Yb.1 hn).1
     have h1:(cur'.toList.take (l.length*1))[q]? =some (.int .u8 n):=by rw[htake',YA,hn];rfl
     rw[Yt,ae (by omega),YT,hv]at h1;obtain rfl:=Ye h1;exact .int _ _
    |k+3,hx=>simp at hx
   ·have c0:∀{k x},([.bld (ρ.t 72) (ρ.t 5) [pz true 0 0,hsl 2 1 (some l)],.dead,.cells (l.flatMap (qcv .u8).c)]:Heap)[k]? =some x->x.owned=true->k=0\/k=2:=by
     intro k x hx ho
     match k,hx with
     |0,_=>exact .inl rfl
     |1,hx=>obtain rfl:=Ye hx;cases ho
     |2,_=>exact .inr rfl
     |k+3,hx=>simp at hx
    have c1:∀{k:Nat}{x:Blk},([.bld (ρ.t 72) (ρ.t 5) [pz true 0 0,hsl 2 1 (some l)],.dead,.cells (l.flatMap (qcv .u8).c)]:Heap)[k]? =some x->∀es,x≠Blk.bag es:=by
     intro k x hx es e
     match k,hx with
     |0,hx=>rw[<-Ye hx]at e;cases e
     |1,hx=>rw[<-Ye hx]at e;cases e
     |2,hx=>rw[<-Ye hx]at e;cases e
     |k+3,hx=>simp at hx
    have e1:=eO (c1 hx) hr;have e2:=eO (c1 hx') hr';subst e1;subst e2;rcases c0 hx ho with rfl|rfl<;>rcases c0 hx' ho' with rfl|rfl
    ·rfl
    ·rw[n0]at hk;rw[n2]at hk';injection hk with e1;injection hk' with e2;exact absurd (e2.trans e1.symm) hgb
    ·rw[n2]at hk;rw[n0]at hk';injection hk with e1;injection hk' with e2;exact absurd (e1.trans e2.symm) hgb
    rfl
   ·have hk:3<=k:=hk;show(if k=2 then some g' else nu k)=none;rw[aa (by omega)];exact i.fresh k (by show 2<=k;omega)
   by_cases e:k=2
   ·subst e;rw[n2]at hk;obtain rfl:=Ye hk;exact hlt'
   have hk:(if k=2 then some g' else nu k)=some rb:=hk;rw[aa e]at hk;exact cD (i.ltN k rb hk) but.size
  refine⟨_,F,upd nu 2 g',rfl,⟨λ_ h=>h,qec i g',but.shape,hinv,λrb hlt hno=>?_,λrb hlt ho=>?_,but.size,but.os,but.tape,but.output,λk hk=>?_,by show 2<=3;omega,λ_ h=> .inl h⟩,?_⟩
  ·refine frame rb hlt (λe=>hno (.of (e▸hb) rfl rfl)) ?_;by_cases e:nu 1=some rb
   ·exact absurd (.of e rfl rfl) hno
   exact .inl e
  ·obtain⟨k,x,rq,hk,hx,ho,hf⟩:=ho
   match k,hx with
   |0,hx=>
    rw[n0]at hk;rw[<-Ye hx]at hf;have e1:=eO (by intro es e;cases e) hf;subst e1;exact .of (b:=0) (by rw[<-hk];exact hb) rfl rfl
   |1,hx=>obtain rfl:=Ye hx;cases ho
   |2,hx=>
    rw[n2]at hk;rw[<-Ye hx]at hf;have e1:=eO (by intro es e;cases e) hf;subst e1;obtain rfl:=Ye hk;rcases hg' with h|h
    ·exact .of (b:=1) h.1 rfl rfl
    omega
   |k+3,hx=>simp at hx
  ·have hk:k<2:=hk;show(if k=2 then some g' else nu k)=nu k;rw[aa (by omega)]
  refine .tuple _ _ rfl λq a v hq hv=>?_
  match q,hq,hv with
  |0,hq,hv=>
   obtain rfl:=Ye hq;obtain rfl:=Ye hv;rw[hsz];exact .int _ _
  |1,hq,hv=>
   obtain rfl:=Ye hq;obtain rfl:=Ye hv;exact .niliface
  |q+2,hq,hv=>simp at hq
 cases h
def qrw (L:Lays.n169 P ρ) (X:Builder.Extra P ρ) (hE:Av.Enters P (ρ.f 169)) (ok:Bool) (o:Option (List Int)) {t:Str}(h:qpr ok o=some t):
 qc P (.fn (ρ.f 169)) [.ptr 0 0] [.bld (ρ.t 72) (ρ.t 5) [pz ok 0 0,hsl 1 1 o],.cells ((hof o).flatMap (qcv .u8).c)] (.str t) [.dead,.dead]:=by
 unfold qpr at h;split at h
 ·rename_i hc;obtain⟨hk,⟨hpos,hlen⟩,hall⟩:=hc
  have hok:ok=o.isSome:=by
   cases o with
   |none=>simp at hpos
   |some l=>exact hk
  obtain rfl:=Ye h;intro F nu w vs i hargs;refine .inl ⟨hE,?_⟩;obtain⟨x,ws,rfl,hx,hws⟩:=hargs.cons_inv;obtain rfl:=hws.nil_inv
  cases hx with
  |ptr _ _ b hb=>
  obtain⟨hFb,p,v,hh,hp,hown,hne,hrow,hnone⟩:=qqp i hb hok X.neB5
  cases hv:v.ownBlock with
  |none=>
   have:=hnone hv;subst this;simp at hpos
  |some g=>
  obtain⟨hn1,hFg,cap,cur,rfl,hhg,hnc,hcm,hcs⟩:=hrow g hv
  have hbc:Lib.byteCells ((hof o).map λn=>UInt8.ofNat n.toNat)=(hof o).map λn=>Value.int .u8 n:=by
   unfold Lib.byteCells;rw[List.map_map]
   refine List.map_congr_left λn hn=>?_
   have h1:=Yp.1 hall n hn;simp only[aR,aO]at h1;show Value.int .u8 ((UInt8.ofNat n.toNat).toNat:Int)=_;rw[ff];congr 1;omega
  have hlm:((hof o).map λn=>UInt8.ofNat n.toNat).length=(hof o).length:=bq _
  have htake:cur.toList.take ((hof o).length*1)=(hof o).map λn=>Value.int .u8 n:=by
   rcases hown.2 with⟨hv2,_⟩|⟨g2,cap2,cur2,hv2,_,h1,_,_,_,h5⟩
   ·cases hv2
   injection hv2 with e1 e2 e3;injection e1 with e1;injection e1 with e1;subst e1;rw[hhg]at h1;injection h1 with h1;injection h1 with h1;rw[h1];exact h5
  refine(qsF L X b g cap p ((hof o).map λn=>UInt8.ofNat n.toNat) cur w (by rw[hlm];exact hh) hhg (by rw[hlm];exact hnc) hcm hcs (by rw[hlm,hbc];exact htake) (λe=>by rw[e]at hlm;simp at hlm;omega)).mono ?_;rintro e w' ⟨rfl,but⟩
  have frame:∀rb,rb<w.heap.size->rb≠b->rb≠g->w'.heap[rb]? =w.heap[rb]? :=λrb hlt h1 h2=>but.block rb hlt (λe=>h1 (Ye e)) (λe=>h2 (Ye e))
  have hdead:∀{k:Nat}{x:Blk},([.dead,.dead]:Heap)[k]? =some x->x= .dead:=by
   intro k x hx
   match k,hx with
   |0,hx=>exact(Ye hx).symm
   |1,hx=>exact(Ye hx).symm
   |k+2,hx=>simp at hx
  refine⟨_,F,nu,rfl,⟨λ_ h=>h,λ_ _ h=>h,but.shape,⟨λk rb x hk hx=>?_,λk k' rb rb' x x' r hk hk' hx hx' ho ho' hr hr'=>?_,λk hk=>i.fresh k hk,λrb hF=>cD (i.ltF rb hF) but.size,λk rb hk=>cD (i.ltN k rb hk) but.size,Glob.mono i.glob (λ_ h=>h) λrb hF=>frame rb (i.ltF rb hF) (λe=>hFb (e▸hF)) (λe=>hFg (e▸hF))⟩,λrb hlt hno=>frame rb hlt (λe=>hno (.of (e▸hb) rfl rfl)) (λe=>hno (.of (e▸hn1) rfl rfl)),λrb hlt ho=>?_,but.size,but.os,but.tape,but.output,λ_ _=>rfl,ai _,λ_ h=> .inl h⟩,.str _ _ rfl⟩
  ·rw[hdead hx];trivial
  ·rw[hdead hx]at ho;cases ho
  obtain⟨k,x,rq,hk,hx,ho,hf⟩:=ho;rw[hdead hx]at ho;cases ho
 cases h
end
def bn2 {α β ρ:Type}{f0:Option α}{f1:α->Option β}{F:α->β->Option ρ}{r:ρ}(h:((f0).bind λa=>(f1 a).bind λb=>F a b)=some r):∃a,f0=some a/\∃b,f1 a=some b/\F a b=some r:=
 let⟨a,g,h⟩:=aM.1 h;⟨a,g,aM.1 h⟩
def bn3 {α β γ ρ:Type}{f0:Option α}{f1:α->Option β}{f2:α->β->Option γ}{F:α->β->γ->Option ρ}{r:ρ}(h:((f0).bind λa=>(f1 a).bind λb=>(f2 a b).bind λc=>F a b c)=some r):∃a,f0=some a/\∃b,f1 a=some b/\∃c,f2 a b=some c/\F a b c=some r:=
 let⟨a,g,h⟩:=aM.1 h;⟨a,g,bn2 h⟩
def bn4 {α β γ δ ρ:Type}{f0:Option α}{f1:α->Option β}{f2:α->β->Option γ}{f3:α->β->γ->Option δ}{F:α->β->γ->δ->Option ρ}{r:ρ}(h:((f0).bind λa=>(f1 a).bind λb=>(f2 a b).bind λc=>(f3 a b c).bind λd=>F a b c d)=some r):∃a,f0=some a/\∃b,f1 a=some b/\∃c,f2 a b=some c/\∃d,f3 a b c=some d/\F a b c d=some r:=
 let⟨a,g,h⟩:=aM.1 h;⟨a,g,bn3 h⟩
def bn5 {α β γ δ ε ρ:Type}{f0:Option α}{f1:α->Option β}{f2:α->β->Option γ}{f3:α->β->γ->Option δ}{f4:α->β->γ->δ->Option ε}{F:α->β->γ->δ->ε->Option ρ}{r:ρ}(h:((f0).bind λa=>(f1 a).bind λb=>(f2 a b).bind λc=>(f3 a b c).bind λd=>(f4 a b c d).bind λe=>F a b c d e)=some r):∃a,f0=some a/\∃b,f1 a=some b/\∃c,f2 a b=some c/\∃d,f3 a b c=some d/\∃e,f4 a b c d=some e/\F a b c d e=some r:=
 let⟨a,g,h⟩:=aM.1 h;⟨a,g,bn4 h⟩
def bn6 {α β γ δ ε ζ ρ:Type}{f0:Option α}{f1:α->Option β}{f2:α->β->Option γ}{f3:α->β->γ->Option δ}{f4:α->β->γ->δ->Option ε}{f5:α->β->γ->δ->ε->Option ζ}{F:α->β->γ->δ->ε->ζ->Option ρ}{r:ρ}(h:((f0).bind λa=>(f1 a).bind λb=>(f2 a b).bind λc=>(f3 a b c).bind λd=>(f4 a b c d).bind λe=>(f5 a b c d e).bind λi=>F a b c d e i)=some r):∃a,f0=some a/\∃b,f1 a=some b/\∃c,f2 a b=some c/\∃d,f3 a b c=some d/\∃e,f4 a b c d=some e/\∃i,f5 a b c d e=some i/\F a b c d e i=some r:=
 let⟨a,g,h⟩:=aM.1 h;⟨a,g,bn5 h⟩
def bn7 {α β γ δ ε ζ η ρ:Type}{f0:Option α}{f1:α->Option β}{f2:α->β->Option γ}{f3:α->β->γ->Option δ}{f4:α->β->γ->δ->Option ε}{f5:α->β->γ->δ->ε->Option ζ}{f6:α->β->γ->δ->ε->ζ->Option η}{F:α->β->γ->δ->ε->ζ->η->Option ρ}{r:ρ}(h:((f0).bind λa=>(f1 a).bind λb=>(f2 a b).bind λc=>(f3 a b c).bind λd=>(f4 a b c d).bind λe=>(f5 a b c d e).bind λi=>(f6 a b c d e i).bind λj=>F a b c d e i j)=some r):∃a,f0=some a/\∃b,f1 a=some b/\∃c,f2 a b=some c/\∃d,f3 a b c=some d/\∃e,f4 a b c d=some e/\∃i,f5 a b c d e=some i/\∃j,f6 a b c d e i=some j/\F a b c d e i j=some r:=
 let⟨a,g,h⟩:=aM.1 h;⟨a,g,bn6 h⟩
def bn8 {α β γ δ ε ζ η θ ρ:Type}{f0:Option α}{f1:α->Option β}{f2:α->β->Option γ}{f3:α->β->γ->Option δ}{f4:α->β->γ->δ->Option ε}{f5:α->β->γ->δ->ε->Option ζ}{f6:α->β->γ->δ->ε->ζ->Option η}{f7:α->β->γ->δ->ε->ζ->η->Option θ}{F:α->β->γ->δ->ε->ζ->η->θ->Option ρ}{r:ρ}(h:((f0).bind λa=>(f1 a).bind λb=>(f2 a b).bind λc=>(f3 a b c).bind λd=>(f4 a b c d).bind λe=>(f5 a b c d e).bind λi=>(f6 a b c d e i).bind λj=>(f7 a b c d e i j).bind λk=>F a b c d e i j k)=some r):∃a,f0=some a/\∃b,f1 a=some b/\∃c,f2 a b=some c/\∃d,f3 a b c=some d/\∃e,f4 a b c d=some e/\∃i,f5 a b c d e=some i/\∃j,f6 a b c d e i=some j/\∃k,f7 a b c d e i j=some k/\F a b c d e i j k=some r:=
 let⟨a,g,h⟩:=aM.1 h;⟨a,g,bn7 h⟩
def bs1 {α ρ:Type}{f0:Option α}{F:α->ρ}{r:ρ}(h:((f0).bind λa=>some (F a))=some r):∃a,f0=some a/\F a=r:=
 let⟨a,g,h⟩:=aM.1 h;⟨a,g,Ye h⟩
def bs2 {α β ρ:Type}{f0:Option α}{f1:α->Option β}{F:α->β->ρ}{r:ρ}(h:((f0).bind λa=>(f1 a).bind λb=>some (F a b))=some r):∃a,f0=some a/\∃b,f1 a=some b/\F a b=r:=
 let⟨a,g,h⟩:=aM.1 h;⟨a,g,bs1 h⟩
def bs3 {α β γ ρ:Type}{f0:Option α}{f1:α->Option β}{f2:α->β->Option γ}{F:α->β->γ->ρ}{r:ρ}(h:((f0).bind λa=>(f1 a).bind λb=>(f2 a b).bind λc=>some (F a b c))=some r):∃a,f0=some a/\∃b,f1 a=some b/\∃c,f2 a b=some c/\F a b c=r:=
 let⟨a,g,h⟩:=aM.1 h;⟨a,g,bs2 h⟩
def bs4 {α β γ δ ρ:Type}{f0:Option α}{f1:α->Option β}{f2:α->β->Option γ}{f3:α->β->γ->Option δ}{F:α->β->γ->δ->ρ}{r:ρ}(h:((f0).bind λa=>(f1 a).bind λb=>(f2 a b).bind λc=>(f3 a b c).bind λd=>some (F a b c d))=some r):∃a,f0=some a/\∃b,f1 a=some b/\∃c,f2 a b=some c/\∃d,f3 a b c=some d/\F a b c d=r:=
 let⟨a,g,h⟩:=aM.1 h;⟨a,g,bs3 h⟩
def bs5 {α β γ δ ε ρ:Type}{f0:Option α}{f1:α->Option β}{f2:α->β->Option γ}{f3:α->β->γ->Option δ}{f4:α->β->γ->δ->Option ε}{F:α->β->γ->δ->ε->ρ}{r:ρ}(h:((f0).bind λa=>(f1 a).bind λb=>(f2 a b).bind λc=>(f3 a b c).bind λd=>(f4 a b c d).bind λe=>some (F a b c d e))=some r):∃a,f0=some a/\∃b,f1 a=some b/\∃c,f2 a b=some c/\∃d,f3 a b c=some d/\∃e,f4 a b c d=some e/\F a b c d e=r:=
 let⟨a,g,h⟩:=aM.1 h;⟨a,g,bs4 h⟩
def bs6 {α β γ δ ε ζ ρ:Type}{f0:Option α}{f1:α->Option β}{f2:α->β->Option γ}{f3:α->β->γ->Option δ}{f4:α->β->γ->δ->Option ε}{f5:α->β->γ->δ->ε->Option ζ}{F:α->β->γ->δ->ε->ζ->ρ}{r:ρ}(h:((f0).bind λa=>(f1 a).bind λb=>(f2 a b).bind λc=>(f3 a b c).bind λd=>(f4 a b c d).bind λe=>(f5 a b c d e).bind λi=>some (F a b c d e i))=some r):∃a,f0=some a/\∃b,f1 a=some b/\∃c,f2 a b=some c/\∃d,f3 a b c=some d/\∃e,f4 a b c d=some e/\∃i,f5 a b c d e=some i/\F a b c d e i=r:=
 let⟨a,g,h⟩:=aM.1 h;⟨a,g,bs5 h⟩
def bs7 {α β γ δ ε ζ η ρ:Type}{f0:Option α}{f1:α->Option β}{f2:α->β->Option γ}{f3:α->β->γ->Option δ}{f4:α->β->γ->δ->Option ε}{f5:α->β->γ->δ->ε->Option ζ}{f6:α->β->γ->δ->ε->ζ->Option η}{F:α->β->γ->δ->ε->ζ->η->ρ}{r:ρ}(h:((f0).bind λa=>(f1 a).bind λb=>(f2 a b).bind λc=>(f3 a b c).bind λd=>(f4 a b c d).bind λe=>(f5 a b c d e).bind λi=>(f6 a b c d e i).bind λj=>some (F a b c d e i j))=some r):∃a,f0=some a/\∃b,f1 a=some b/\∃c,f2 a b=some c/\∃d,f3 a b c=some d/\∃e,f4 a b c d=some e/\∃i,f5 a b c d e=some i/\∃j,f6 a b c d e i=some j/\F a b c d e i j=r:=
 let⟨a,g,h⟩:=aM.1 h;⟨a,g,bs6 h⟩
section
variable [Glob]{P:Program}{o p q r s t u v:Obl}
def qY [Base]{C:Nat->St->Prop}{m:Nat}{s:St}(h:C m s):∃m' s',m'<m+1/\Sub s s'/\C m' s':=⟨m,s,aY _,Sub.refl _,h⟩
end
section
variable [Glob] [Base]{P:Program}{α:Type}
def qls {β:Type}{rows:List β}{i j:Int}{x y:β}(hi:idx rows i=some x) (hj:idx rows j=some y) (h:¬i=j):i.toNat≠j.toNat:=by
 obtain⟨a1,_,_⟩:=qaj hi;obtain⟨b1,_,_⟩:=qaj hj;omega
def Uu {E:Enc α}{fr:Fr}{A:Heap}{b:Nat}{rows:List (List α)}{i j:Int}{x y:List α}{a:AV}(hA:A[b]? =some (.bag ((rows.map (zY E)).set i.toNat (.av a)))) (hi:idx rows i=some x) (hj:idx rows j=some y) (hn:¬i=j):
 Sub (fr,A) (fr,A.set b (.bag (((rows.map (zY E)).set i.toNat (.av a)).set j.toNat (.av (.gslice A.length y.length E.k))))++[.cells (y.flatMap E.c)]):=
 Sub.bagTake hA (by rw[Yw (qls hi hj hn)];exact qnm hj)
def Sub.bagGive2 {E:Enc α}{fr:Fr}{A:Heap}{b c n:Nat}{rows:List (List α)}{i j:Int}{x y l:List α}{a a2:AV}(hne:b≠c) (hA:A[b]? =some (.bag (((rows.map (zY E)).set i.toNat (.av a)).set j.toNat (.av a2)))) (hC:A[c]? =some (.cells (l.flatMap E.c)))
 (hi:idx rows i=some x) (hj:idx rows j=some y) (hn:¬i=j) (ha:qhC c n E.k a2) (hl:n=l.length):Sub (fr,A) (fr,(A.set b (.bag (((jZ rows j l).map (zY E)).set i.toNat (.av a)))).set c .dead):=by
 subst hl
 have e:Blk.bag (((jZ rows j l).map (zY E)).set i.toNat (.av a))= .bag ((((rows.map (zY E)).set i.toNat (.av a)).set j.toNat (.av a2)).set j.toNat (zY E l)):=by
  unfold jZ;rw[bK,fE,cK _ _ (qls hi hj hn)]
 rw[e];refine Us hne hA hC ?_ ha;rw[List.getElem?_set,ae rfl,ae (by rw[Yk];exact qeG hj)]
def ihF {β:Type}{p:Prop}[Decidable p]{x y r:β}{G:Prop}(h:(if p then x else y)=r) (ht:decide p=true->x=r->G) (hf:decide p=false->y=r->G):G:=by
 by_cases c:p
 ·rw[ae c]at h;exact ht (ap c) h
 rw[aa c]at h;exact hf (ak c) h
def xJ {es:List Ent}{k j:Nat}{y:Ent}(h:k<es.length):k<(es.set j y).length:=by rw[Yk];exact h
def qin {E:Enc α}{rows:List (List α)}{i j:Int}{x y:List α}(hi:idx rows i=some x) (hj:idx rows j=some y) (hn:¬i=j) {a c:Ent}:(((rows.map (zY E)).set i.toNat a).set j.toNat c)[i.toNat]? =some a:=by
 rw[Yw (Ne.symm (qls hi hj hn))];exact at_set hi
def qim {E:Enc α}{rows:List (List α)}{i j:Int}{x y:List α}(hi:idx rows i=some x) (hj:idx rows j=some y) (hn:¬i=j) {a c:Ent}:(((rows.map (zY E)).set i.toNat a).set j.toNat c)[j.toNat]? =some c:=by
 rw[List.getElem?_set_self (xJ (qeG hj))]
def qmv {β:Type}{rows:List β}{i:Int}{x:β}(h:idx rows i=some x):rows.set i.toNat x=rows:=by
 obtain⟨_,_,g⟩:=qaj h;obtain⟨h1,h2⟩:=Yb.1 g;rw[<-h2];exact List.set_getElem_self h1
def Ud {E:Enc α}{fr:Fr}{A:Heap}{b c n:Nat}{rows:List (List α)}{i:Int}{x:List α}{a:AV}(hne:b≠c) (hA:A[b]? =some (.bag ((rows.map (zY E)).set i.toNat (.av a)))) (hC:A[c]? =some (.cells (x.flatMap E.c)))
 (h:idx rows i=some x) (ha:qhC c n E.k a) (hn:n=x.length):Sub (fr,A) (fr,(A.set b (bg E rows)).set c .dead):=by
 have:=Un (fr:=fr) hne hA hC h ha hn
 rwa [show jZ rows i x=rows from qmv h]at this
def Sub.bagBack2 {E:Enc α}{fr:Fr}{A:Heap}{b c n:Nat}{rows:List (List α)}{i j:Int}{x y:List α}{a a2:AV}(hne:b≠c) (hA:A[b]? =some (.bag (((rows.map (zY E)).set i.toNat (.av a)).set j.toNat (.av a2)))) (hC:A[c]? =some (.cells (y.flatMap E.c)))
 (hi:idx rows i=some x) (hj:idx rows j=some y) (hn:¬i=j) (ha:qhC c n E.k a2) (hl:n=y.length):Sub (fr,A) (fr,(A.set b (.bag ((rows.map (zY E)).set i.toNat (.av a)))).set c .dead):=by
 have:=Sub.bagGive2 (fr:=fr) hne hA hC hi hj hn ha hl
 rwa [show jZ rows j y=rows from qmv hj]at this
def Sub.bagSwap {E:Enc α}{fr:Fr}{A:Heap}{b c d n m:Nat}{rows:List (List α)}{i j:Int}{x y:List α}{a a2:AV}(hbc:b≠c) (hbd:b≠d) (hcd:c≠d)
 (hA:A[b]? =some (.bag (((((rows.map (zY E)).set i.toNat (.av a)).set j.toNat (.av a2)).set j.toNat (.av a)).set i.toNat (.av a2)))) (hC:A[c]? =some (.cells (x.flatMap E.c))) (hD:A[d]? =some (.cells (y.flatMap E.c)))
 (hi:idx rows i=some x) (hj:idx rows j=some y) (hn:¬i=j) (ha:qhC c n E.k a) (ha2:qhC d m E.k a2) (h1:n=x.length) (h2:m=y.length):
 Sub (fr,A) (fr,(((A.set b (bg E (jZ (jZ rows j x) i y))).set d .dead).set c .dead)):=by
 subst h1 h2;have hne:=qls hi hj hn;have li:=qeG (E:=E) hi;have lj:=qeG (E:=E) hj;generalize he:(((((rows.map (zY E)).set i.toNat (.av a)).set j.toNat (.av a2)).set j.toNat (.av a)).set i.toNat (.av a2))=es at hA
 have ej:es[j.toNat]? =some (.av a):=by
  rw[<-he,Yw hne,List.getElem?_set_self (by simpa using lj)]
 have ei:es[i.toNat]? =some (.av a2):=by
  rw[<-he,List.getElem?_set_self (by simpa using li)]
 have s1:=Us (fr:=fr) hbc hA hC ej ha
 have hb:((A.set b (.bag (es.set j.toNat (zY E x)))).set c .dead)[b]? =some (.bag (es.set j.toNat (zY E x))):=by
  rw[Yw (Ne.symm hbc),List.getElem?_set_self (qda hA)]
 have hd:((A.set b (.bag (es.set j.toNat (zY E x)))).set c .dead)[d]? =some (.cells (y.flatMap E.c)):=by
  rw[Yw hcd,Yw hbd,hD]
 have s2:=Us (fr:=fr) hbd hb hd (by rw[Yw (Ne.symm hne)];exact ei) ha2;refine(s1.trans s2).trans ?_
 have e:Blk.bag ((es.set j.toNat (zY E x)).set i.toNat (zY E y))=bg E (jZ (jZ rows j x) i y):=by
  unfold bg jZ;rw[<-he,fE,fE];congr 1;rw[cK _ _ (Ne.symm hne),bK,cK _ _ hne,bK,cK _ _ (Ne.symm hne),cK _ _ hne,bK,cK _ _ (Ne.symm hne),bK,cK _ _ hne]
 have e3:(((A.set b (.bag (es.set j.toNat (zY E x)))).set c .dead).set b (bg E (jZ (jZ rows j x) i y))).set d .dead=((A.set b (bg E (jZ (jZ rows j x) i y))).set d .dead).set c .dead:=by
  rw[cK Blk.dead (bg E (jZ (jZ rows j x) i y)) (Ne.symm hbc),bK,cK Blk.dead Blk.dead hcd]
 rw[e,e3];exact Sub.refl _
def Sub.bagSame {E:Enc α}{fr:Fr}{A:Heap}{b c n:Nat}{rows:List (List α)}{i:Int}{x:List α}{a:AV}(hne:b≠c) (hA:A[b]? =some (.bag ((((rows.map (zY E)).set i.toNat (.av a)).set i.toNat (.av a)).set i.toNat (.av a)))) (hC:A[c]? =some (.cells (x.flatMap E.c)))
 (h:idx rows i=some x) (ha:qhC c n E.k a) (hn:n=x.length):Sub (fr,A) (fr,(A.set b (bg E rows)).set c .dead):=by
 rw[bK,bK]at hA;exact Ud hne hA hC h ha hn
def qce (b n j k:Nat):AV:=if j=n then .fslice 0 []else if j=0 then .oslice b n k else .wslice b (j*k) (n-j) k
def qqQ {t e:TypeId}{k b:Nat}(T:SlT P t e k b) {l:List α}{o j:Nat}{i:Int}(h:at' l i=some j):(Obl.done (.opt (zV P t (.gslice o l.length k) (some (.int .i64 i)) none none)) (qce o l.length j k)).Holds P:=by
 obtain⟨inf,z,g1,g2,_⟩:=T.info;obtain⟨h1,h2,rfl⟩:=qio h;have hb:=qix (n:=l.length) (cap:=l.length) (lo:=some i) (hi:=none) rfl rfl (ai _) ⟨h1,by simpa using h2,by simp⟩;show Pg.opt _=_;simp only[opI,bV,YN,aU]at hb;unfold qce;by_cases e0:i.toNat=l.length
 ·have e1:i.toNat=l.length/\(0<i.toNat\/l.length=0):=⟨e0,by omega⟩;simp only[zV,T.und,g1,be,ZF,bh,hb,g2,Pg.opt,ae e1,ae e0]
 have e1:¬(i.toNat=l.length/\(0<i.toNat\/l.length=0)):=λh=>e0 h.1
 by_cases e2:i.toNat=0
 ·simp only[zV,T.und,g1,be,ZF,bh,hb,g2,Pg.opt,aa e1,aa e0,ae e2,aT]
 simp only[zV,T.und,g1,be,ZF,bh,hb,g2,Pg.opt,aa e1,aa e0,aa e2,aT]
def qpD {n:Nat}{l:List α}(hn:n=l.length) {t e:TypeId}{k b:Nat}(T:SlT P t e k b) {o j:Nat}{i:Int}(h:at' l i=some j):(Obl.done (.opt (zV P t (.gslice o n k) (some (.int .i64 i)) none none)) (qce o l.length j k)).Holds P:=by
 subst hn;exact qqQ T h
def len_X {t e:TypeId}{k b:Nat}(T:SlT P t e k b) {l:List α}{o j:Nat}(h:j<=l.length):(Obl.done (vP P .len [t] [qce o l.length j k]) (.int .i64 ((l.drop j).length:Int))).Holds P:=by
 show vP P .len [t] _=_;simp only[vP,T.und,YJ];unfold qce;by_cases e0:j=l.length
 ·rw[ae e0,e0,cd];rfl
 rw[aa e0];by_cases e1:j=0
 ·rw[ae e1,e1,dx];rfl
 rw[aa e1];rfl
def qsY (b n j k:Nat):qce b n j k= .fslice 0 []\/qce b n j k= .oslice b n k\/qce b n j k= .wslice b (j*k) (n-j) k:=by
 unfold qce;by_cases e0:j=n
 ·exact .inl (ae e0)
 rw[aa e0];by_cases e1:j=0
 ·exact .inr (.inl (ae e1))
 exact .inr (.inr (aa e1))
def qtP {A:Heap}{t e:TypeId}{k b:Nat}(T:SlT P t e k b) {l:List α}{o j:Nat}(h:j<=l.length):(Obl.run (refsOf (qce o l.length j k)) (vP P .len [t] [qce o l.length j k]) A (.int .i64 ((l.drop j).length:Int)) A false).Holds P:=by
 have e:vP P .len [t] [qce o l.length j k]= .done (.int .i64 ((l.drop j).length:Int)):=len_X T h;rw[e];exact⟨[],rfl,rfl⟩
def Fz.fxF {A:Heap}{S:List Nat}{d:Nat}{E:Enc α}{l:List α}{b j:Nat}(hS:S.contains b=true) (hA:A[b]? =some (.frozen (l.flatMap E.c))) (hj:j<=l.length) (hd:E.dep<=d):Fz A S (d+1) (qce b l.length j E.k) (vl E (l.drop j)):=by
 have ed:(l.flatMap E.c).drop (j*E.k)=(l.drop j).flatMap E.c:=by
  have:l.flatMap E.c=(l.take j).flatMap E.c++(l.drop j).flatMap E.c:=by rw[<-List.flatMap_append,YS]
  rw[this,cT (by rw[E.flat_len,Ym,aX hj];exact ai _),aB (by rw[E.flat_len,Ym,aX hj];exact ai _),bp]
 have et:∀m:List α,(m.flatMap E.c).take (m.length*E.k)=m.flatMap E.c:=λm=>by rw[<-E.flat_len,bW]
 unfold qce;by_cases e0:j=l.length
 ·rw[ae e0,e0,List.drop_length];rfl
 rw[aa e0];by_cases e1:j=0
 ·rw[ae e1,e1,YR];exact Fz.osF hS hA hd
 rw[aa e1]
 have el:l.length-j=(l.drop j).length:=by rw[YJ]
 unfold Fz
 conv=>lhs;unfold frz
 simp only[hS,aT,hA,ed,el,et,zW (E.flat_still (l.drop j) hd),ZM];rfl
def Fz.cutF {A:Heap}{S:List Nat}{d:Nat}{E:Enc α}{l r:List α}{b:Nat}{hi:Int}(hS:S.contains b=true) (hA:A[b]? =some (.frozen (l.flatMap E.c))) (h:cut l 0 hi=some r) (hd:E.dep<=d):Fz A S (d+1) (.oslice b r.length E.k) (vl E r):=by
 have e:(l.flatMap E.c).take (r.length*E.k)=r.flatMap E.c:=by
  obtain⟨⟨_,h1,h2⟩,rfl⟩:=qcV h
  have e:l.take hi.toNat=(l.drop (0:Int).toNat).take (hi.toNat-(0:Int).toNat):=by simp
  have hl:(l.take hi.toNat).length=hi.toNat:=by rw[Ym];omega
  rw[<-e,hl,qcG]
 unfold Fz
 conv=>lhs;unfold frz
 simp only[hS,aT,hA,e,zW (E.flat_still r hd),ZM];rfl
end
section
variable [Glob]{P:Program}{o p q r s t u v:Obl}{A B C D E F G H I:Heap}
def qd (o1:OH P A o B):HC P A [o]:=show qdL P _ from⟨o1,trivial⟩
def qj (o1:OH P A o B) (p1:OH P B p C):HC P A [o,p]:=show qdL P _ from⟨o1,p1,trivial⟩
def qA (o1:OH P A o B) (p1:OH P B p C) (q1:OH P C q D):HC P A [o,p,q]:=show qdL P _ from⟨o1,p1,q1,trivial⟩
def zO (o1:OH P A o B) (p1:OH P B p C) (q1:OH P C q D) (r1:OH P D r E):HC P A [o,p,q,r]:=show qdL P _ from⟨o1,p1,q1,r1,trivial⟩
def qbE (o1:OH P A o B) (p1:OH P B p C) (q1:OH P C q D) (r1:OH P D r E) (s1:OH P E s F):HC P A [o,p,q,r,s]:=show qdL P _ from⟨o1,p1,q1,r1,s1,trivial⟩
def qdO (o1:OH P A o B) (p1:OH P B p C) (q1:OH P C q D) (r1:OH P D r E) (s1:OH P E s F) (t1:OH P F t G):HC P A [o,p,q,r,s,t]:=show qdL P _ from⟨o1,p1,q1,r1,s1,t1,trivial⟩
def qgD (o1:OH P A o B) (p1:OH P B p C) (q1:OH P C q D) (r1:OH P D r E) (s1:OH P E s F) (t1:OH P F t G) (u1:OH P G u H):HC P A [o,p,q,r,s,t,u]:=show qdL P _ from⟨o1,p1,q1,r1,s1,t1,u1,trivial⟩
def qiM (o1:OH P A o B) (p1:OH P B p C) (q1:OH P C q D) (r1:OH P D r E) (s1:OH P E s F) (t1:OH P F t G) (u1:OH P G u H) (v1:OH P H v I):HC P A [o,p,q,r,s,t,u,v]:=show qdL P _ from⟨o1,p1,q1,r1,s1,t1,u1,v1,trivial⟩
def qhz (o1:OH P A o B) (p1:OH P B p C) (q1:OH P C q D) (r1:OH P D r E) (s1:OH P E s F) (t1:OH P F t G) (u1:OH P G u H) (v1:OH P H v I) {l:List Obl}(h:HC P I l):HC P A (o::p::q::r::s::t::u::v::l):=show qdL P _ from⟨o1,p1,q1,r1,s1,t1,u1,v1,h⟩
end
section
variable [Glob]{P:Program}{A:Heap}{α:Type}{E:Enc α}{t e:TypeId}{k b:Nat}{l r:List α}{i:Int}{x y:α}
def qmB:∀{v:AV},zX v=true->cellsOf v=some [v]:=by intro v h;cases v<;>first|rfl|cases h
def wig (T:SlT P t e k b) (o:Nat) (h:idx l i=some x):OH P A (.done (.opt (jb P t (.gslice o l.length k) (.i i))) (.ptr o (i.toNat*k+0))) A:=ix_gs T h
def wis (T:SlT P t e k b) (o:Nat) (h:idx l i=some x):OH P A (.done (.opt (jb P t (.slice o 0 l.length l.length k) (.i i))) (.ptr o (i.toNat*k+0))) A:=ix_sl T h
def wiw (T:SlT P t e 1 b) (o c:Nat) {j n:Nat}(h:qgP l j n i=some x):OH P A (.done (.opt (jb P t (.slice o j n c 1) (.i i))) (.ptr o ((((j+i.toNat:Nat):Int)).toNat*1+0))) A:=ix_wn T h
def wlp (T:CeT P t) (o:Nat) (hb:A[o]? =some (.cells (l.flatMap E.c))) (h:idx l i=some x) {c:AV}(hc:E.c x=[c]):OH P A (.run [o] (qa1 P t (.ptr o (i.toNat*1+0))) A c A false) A:=by
 have hk:E.k=1:=by rw[<-E.len x,hc];rfl
 exact ld_p T hk hb h (by omega) (by rw[hc];rfl)
def wla (T:AgT P t k) (o:Nat) (hb:A[o]? =some (.cells (l.flatMap E.c))) (h:idx l i=some x) (hk:E.k=k):OH P A (.run [o] (qa1 P t (.ptr o (i.toNat*k+0))) A (.agg (E.c x)) A false) A:=ld_pa T hk hb h
def wlb (T:CeT P t) (o:Nat) {es:List Ent}{a:AV}(hb:A[o]? =some (.bag es)) (h:es[i.toNat]? =some (.av a)):OH P A (.run [o] (qa1 P t (.ptr o (i.toNat*1+0))) A a A false) A:=qtI T hb h
def wsp (t:TypeId) (o:Nat) (hb:A[o]? =some (.cells (l.flatMap E.c))) (h:idx l i=some x) (hp:put l i y=some r) {c:AV}(hc:E.c y=[c]) (ht:(P.info? t).map (·.size)=some 1:=by kernel_rfl):
 OH P A (.run [o] (qaq P t (.ptr o (i.toNat*1+0)) c) A .undef (A.set o (.cells (r.flatMap E.c))) true) (A.set o (.cells (r.flatMap E.c))):=by
 have hk:E.k=1:=by rw[<-E.len y,hc];rfl
 have hi:zX c=true:=E.cell y c (by rw[hc];simp)
 have hl:(E.c x).length=1:=by rw[E.len,hk]
 refine qtq (E:=E) (y:=y) (xs:=[c]) (off:=0) hk ht hb h (qmB hi) rfl rfl (by simp[hi]) ?_ hp rfl;rw[hc,bj,aB (by simp[hl])];rfl
def wsa (t:TypeId) (o:Nat) (hb:A[o]? =some (.cells (l.flatMap E.c))) (h:idx l i=some x) (hp:put l i y=some r) (hk:E.k=k) (ht:(P.info? t).map (·.size)=some k:=by kernel_rfl):
 OH P A (.run [o] (qaq P t (.ptr o (i.toNat*k+0)) (.agg (E.c y))) A .undef (A.set o (.cells (r.flatMap E.c))) true) (A.set o (.cells (r.flatMap E.c))):=by
 refine qtq (E:=E) (y:=y) (xs:=E.c y) (off:=0) hk ht hb h rfl (by rw[E.len,hk]) (by rw[aG];exact bD (ai _)) (Yp.2 (E.cell y)) ?_ hp rfl;rw[bj,aB (by rw[E.len,E.len];omega),YQ];rfl
def wsb (t:TypeId) (o:Nat) (i:Int) (a:AV) {es:List Ent}(hb:A[o]? =some (.bag es)) (h:i.toNat<es.length) (hx:zX a=true:=by rfl) (ht:(P.info? t).map (·.size)=some 1:=by kernel_rfl):
 OH P A (.run [o] (qaq P t (.ptr o (i.toNat*1+0)) a) A .undef (A.set o (.bag (es.set i.toNat (.av a)))) true) (A.set o (.bag (es.set i.toNat (.av a)))):=qtf ht hb h (qmB hx) hx rfl
def wsn (t:TypeId) (o:Nat) {cs xs:List AV}(hb:A[o]? =some (.cells cs)) (hc:cs.length=k) (hn:xs.length=k) (hx:xs.all zX=true) (ht:(P.info? t).map (·.size)=some k):
 OH P A (.run [o] (qaq P t (.ptr o 0) (.agg xs)) A .undef (A.set o (.cells xs)) true) (A.set o (.cells xs)):=
 qkE ht hb rfl hn (by rw[hc,aG];exact bD (ai _)) hx (by rw[splice,bj,aB (by omega),YQ];rfl)
def wap (S:List Nat) (T:SlT P t e k b) {A':Heap}{X Y V:AV}{ys:List α}(hd:qme E k b S A X ys V A') (hs:qj4 E k S A Y ys) (hk:E.k=k:=by rfl):OH P A (.run S (yo P [t,t] X Y) A V A' true) A':=qse T hk hs hd
section
variable {S:List Nat}{ys:List α}
def wdg (o:Nat) (hb:A[o]? =some (.cells (l.flatMap E.c))) (h:app b l ys=some r) (hS:S.contains o=true:=by rfl) (hk:E.k=k:=by rfl):qme E k b S A (.gslice o l.length k) ys (.gslice A.length r.length k) (A.set o .dead++[.cells (r.flatMap E.c)]):=dst_g hk hb hS h rfl
def wdo (o:Nat) (hb:A[o]? =some (.cells (l.flatMap E.c))) (h:app b l ys=some r) (hS:S.contains o=true:=by rfl) (hk:E.k=k:=by rfl):qme E k b S A (.oslice o l.length k) ys (.oslice A.length r.length k) (A.set o .dead++[.cells (r.flatMap E.c)]):=dst_o hk hb hS h rfl
def wdz (E:Enc α) (o:Nat) {cs:List AV}(hb:A[o]? =some (.cells cs)) (h:app b ([]:List α) ys=some r) (hS:S.contains o=true:=by rfl) (hk:E.k=k:=by rfl):qme E k b S A (.slice o 0 0 0 k) ys (.gslice A.length r.length k) (A.set o .dead++[.cells (r.flatMap E.c)]):=dst_z hk hb hS h rfl
def wsc (o:Nat) (ys:List α) (hq:A[o]? =some (.cells (ys.flatMap E.c))) (hS:S.contains o=true:=by rfl) (hk:E.k=k:=by rfl):qj4 E k S A (.slice o 0 ys.length ys.length k) ys:=qtB hk hq hS rfl
def wsv (hk:E.k=k:=by rfl):qj4 E k S A (vl E ys) ys:=src_v hk ys
end
def wmr (T:SlT P t e k b) (E:Enc α) (z:α) {n:Int}(h:mk b n z=some l) (hz:qfb P e=some (E.c z):=by kernel_rfl) (hk:E.k=k:=by rfl):OH P A (.run [] (qcB P t (.i n) (.i n)) A (.slice A.length 0 l.length l.length k) (A++[.cells (l.flatMap E.c)]) false) (A++[.cells (l.flatMap E.c)]):=quv T hk hz h rfl
def wss (T:P.underlying t=some .string) {s r:Str}(lo hi:Option Int) (h:cut s (lo.getD 0) (hi.getD s.length)=some r):OH P A (.done (.opt (zV P t (.str s) (opI lo) (opI hi) none)) (.str r)) A:=quk T lo hi h
def wsx (T:P.underlying t=some .string) {s:Str}{c:UInt8}(h:idx s i=some c):OH P A (.done (.opt (qfQ P t (.str s) (.i i))) (.int .u8 c.toNat)) A:=qqU T h
def wsy (K:IntKind) (T:P.underlying t=some .string) {s:Str}{c:UInt8}(h:idx s i=some c):OH P A (.done (.opt (qfQ P t (.str s) (.int K i))) (.int .u8 c.toNat)) A:=qqU T h
def wxc (t:TypeId) {a b c:Str}(h:cat a b=some c):OH P A (.done (.opt (qbI P .add t (.tmp 0) (.tmp 0) (.str a) (.str b))) (.str c)) A:=qsh h
section
variable {K:IntKind}{c d q:Int}
def wxq (t:TypeId) (h:qdh K c d=some q):OH P A (.done (.opt (qbI P .quo t (.tmp 0) (.tmp 0) (.int K c) (.int K d))) (.int K q)) A:=qsv h
def wxr (t:TypeId) (h:qfo K c d=some q):OH P A (.done (.opt (qbI P .rem t (.tmp 0) (.tmp 0) (.int K c) (.int K d))) (.int K q)) A:=qtk h
def wxl (t:TypeId) (h:qhF K c d=some q):OH P A (.done (.opt (qbI P .shl t (.tmp 0) (.tmp 0) (.int K c) (.i d))) (.int K q)) A:=qn7 h
def wxh (t:TypeId) (h:qj7 K c d=some q):OH P A (.done (.opt (qbI P .shr t (.tmp 0) (.tmp 0) (.int K c) (.i d))) (.int K q)) A:=qoN h
def wyl (t:TypeId) (K':IntKind) (h:qhF K c d=some q):OH P A (.done (.opt (qbI P .shl t (.tmp 0) (.tmp 0) (.int K c) (.int K' d))) (.int K q)) A:=qn7 h
def wyh (t:TypeId) (K':IntKind) (h:qj7 K c d=some q):OH P A (.done (.opt (qbI P .shr t (.tmp 0) (.tmp 0) (.int K c) (.int K' d))) (.int K q)) A:=qoN h
end
def wvs (T:SlT P t e k b) (E:Enc α) {l r:List α}(lo hi:Option Int) (h:cut l (lo.getD 0) (hi.getD l.length)=some r) (hk:E.k=k:=by rfl):OH P A (.done (.opt (zV P t (vl E l) (opI lo) (opI hi) none)) (vl E r)) A:=vl_sl T hk lo hi h
def wen (hu:P.underlying t=some (.slice e)) (n:Tmp) (E:Enc α) (l:List α):OH P A (.done (.opt (qbI P .eql t (.tmp n) (.const (.slice none 0 0)) (nvl E l) .nilslice)) (.bool l.isEmpty)) A:=eq_nv hu
def wmi (ht:nIf P t=true) (a:AV):OH P A (.done (mkI P t a) (.iface t a)) A:=mk_if ht
section
variable {g:FuncId}{args args':List AV}{S:List Nat}{v:AV}
def wcm {m:String}(hm:Enters P g/\qpc P t m g) (hc:qc P (.fn g) args [] v []) [h:SX 12 args] [q:SC 12 v]:OH P A (.callH (.mt t m) args A [] v A) A:=qsG hm h.h hc q.h
def wcf (args:List AV) (S:List Nat) (ha:args.mapM (frz A S 12)=some args') (hc:qc P (.fn g) args' [] v []) [q:SC 12 v]:OH P A (.callF g args A S args' v) A:=qt5 ha hc q.h
def wcs (args:List AV) (S:List Nat) (ha:args.mapM (frz A S 12)=some args') (hc:qc P (.fn g) args' [] v []) [q:SC 12 v] (hf:flat 6 v=true:=by rfl):OH P A (.call g args A S args' v) A:=qua ha hc q.h hf
def wch (S:List Nat) (v:AV) (A':Heap) {args0:List AV}{A0 A1:Heap}{v0:AV}(m m':List (Option Nat)) (hc:qc P (.fn g) args0 A0 v0 A1) (hm:qcu A [] m m A0) (hk:qeD A.length A1 m m' S 0 m' A') (ha:qd3 A [] m args0 args) (hv:zS A1 [] m' v v0)
 (hin:allIn S m=true:=by rfl) (hlen:Nat.ble A.length A'.length=true:=by rfl) (hg:merge S A A'=A':=by rfl):OH P A (.callH (.fn g) args A S v A') A':=qtR m m' hc hm hin hlen hk ha hv hg
end
def gw1 {s:St}{rs:List ResultVar}{v:AV}[q:SC 12 v] (hx:zU P s.1 s.2 rs=some [v]:=by kernel_rfl):qQ P rs v .ret s:=gw2 [v] (Ub q.h) hx
def gwt {s:St}{rs:List ResultVar}{v w:AV}{vs:List AV}[q:SC 12 (.tuple (v::w::vs))] (hx:zU P s.1 s.2 rs=some (v::w::vs):=by kernel_rfl):qQ P rs (.tuple (v::w::vs)) .ret s:=gw2 (v::w::vs) (Ub q.h) hx
end
section
variable [Glob]{P:Program}{A A':Heap}{S:List Nat}{m:List (Option Nat)}{l l':List (Nat×AV)}{a a':AV}{t:Nat}
class QM (m:List (Option Nat)) (i b:Nat):Prop where
 h:m[i]? =some (some b)
instance {b:Nat}:QM (some b::m) 0 b:=⟨rfl⟩
instance {x:Option Nat}{i b:Nat}[q:QM m i b]:QM (x::m) (i+1) b:=⟨by rw[YK];exact q.h⟩
class QV (m:List (Option Nat)) (a' a:AV):Prop where
 h:∀(A:Heap) (S:List Nat),zS A S m a' a
instance [n:NR a]:QV m a a:=⟨λ_ _=> .same n.h⟩
section
variable {i b n k o:Nat}[q:QM m i b]
instance:QV m (.gslice i n k) (.gslice b n k):=⟨λ_ _=> .gslice q.h⟩
instance:QV m (.oslice i n k) (.oslice b n k):=⟨λ_ _=> .oslice q.h⟩
instance {c:Nat}:QV m (.slice i o n c k) (.slice b o n c k):=⟨λ_ _=> .slice q.h⟩
instance:QV m (.ptr i o) (.ptr b o):=⟨λ_ _=> .ptr q.h⟩
end
class QF (m:List (Option Nat)) (l l':List (Nat×AV)):Prop where
 h:∀(A:Heap) (S:List Nat),qat A S m l l'
instance:QF m l []:=⟨λ_ _=> .nil⟩
instance [q:QV m a' a] [k:QF m l l']:QF m ((t,a)::l) ((t,a')::l'):=⟨λA S=> .keep (q.h A S) (k.h A S)⟩
def kz [q:QF m l l']:qat A S m l l':=q.h A S
def kk [q:QV m a' a] (h:qat A S m l l'):qat A S m ((t,a)::l) ((t,a')::l'):= .keep (q.h A S) h
def ke (v:zS A S m a' a) (h:qat A S m l l'):qat A S m ((t,a)::l) ((t,a')::l'):= .keep v h
def kbg {α:Type}{E:Enc α}{rows:List (List α)}{b:Nat}{L:List (Option Nat)}{H:Heap}(h:qcu A S m L H) (hA:A[b]? =some (bg E rows):=by rfl) (hS:S.contains b=false:=by rfl) (hl:L.contains (some b)=false:=by rfl):qcu A S m (some b::L) (bg E rows::H):= .kb hA yQ.bgs h hS hl
variable [Base]{n:Nat}{c:Code}{Q:XA->St->Prop}
def sN (S:List Nat) (m:List (Option Nat)) (hf:qat A S m l l') (hA:qcu A S m m A') (hkp:kept m Base.A.length=true:=by rfl) (hl:asc l=true:=by rfl):Sub (ofG n l,A) (ofG n l',A'):=Sub.norm S m hkp hl hf hA
def sB {X:Heap}(hB:Base.A=X) (S:List Nat) (m:List (Option Nat)) (hf:qat A S m l l') (hA:qcu A S m m A') (hkp:kept m X.length=true:=by rfl) (hl:asc l=true:=by rfl):Sub (ofG n l,A) (ofG n l',A'):=Sub.norm S m (by rw[hB];exact hkp) hl hf hA
def gS (l':List (Nat×AV)) (A':Heap) (h:Sub (ofG n l,A) (ofG n l',A')) (hq:Goes P c (ofG n l',A') Q):Goes P c (ofG n l,A) Q:=Goes.sub h hq
def gN (S:List Nat) (m:List (Option Nat)) (l':List (Nat×AV)) (A':Heap) (hf:qat A S m l l') (hA:qcu A S m m A') (hq:Goes P c (ofG n l',A') Q) (hkp:kept m Base.A.length=true:=by rfl) (hl:asc l=true:=by rfl):Goes P c (ofG n l,A) Q:=Goes.sub (Sub.norm S m hkp hl hf hA) hq
def sK (ks:List Nat) (h:l.filter (λp=>ks.contains p.1)=l':=by rfl) (hl:asc l=true:=by rfl):Sub (ofG n l,A) (ofG n l',A):=Sub.keep ks hl h
def gI {s:St}{Q':XA->St->Prop}(Q:XA->St->Prop) (h:Goes P c s Q) (hq:∀x s',Q x s'->Q' x s'):Goes P c s Q':=Goes.imp h hq
end
def qr2:Nat->List AV->List (Nat×AV)
 |_,[]=>[]
 |k,a::AZ=>(k,a)::qr2 (k+1) AZ
section
variable [Glob]{P:Program}{c:Code}{f:FuncId}{args:List AV}{A A':Heap}{v:AV}{fn:Func}
def fW (hf:P.funcs[f]? =some fn) (hb:fn.body=some c) (h:Goes P c (ofG fn.ntmps (qr2 0 args),[]) (qQ P fn.results.toList v)) (hn:(fn.name== "runtime.NumGoroutine")=false:=by rfl) (hm:args.length+(fn.ntmps-args.length)=fn.ntmps:=by rfl) (hl:frFn fn.ntmps args=ofG fn.ntmps (qr2 0 args):=by rfl):qc P (.fn f) args [] v []:=Goes.fnW hf hn hb hm rfl hl h
def fH (hf:P.funcs[f]? =some fn) (hb:fn.body=some c) (h:∀[Base],Base.A=A->Goes P c (ofG fn.ntmps (qr2 0 args),A) (qhc P fn.results.toList v A')) (hn:(fn.name== "runtime.NumGoroutine")=false:=by rfl) (hm:args.length+(fn.ntmps-args.length)=fn.ntmps:=by rfl) (hl:frFn fn.ntmps args=ofG fn.ntmps (qr2 0 args):=by rfl):qc P (.fn f) args A v A':=Goes.fnH hf hn hb hm rfl hl h
end
abbrev aq:=@Goes.sub
abbrev aQ:=@Goes.cut
abbrev ba:=@qZ.cons
abbrev bi:=@FzL.cons
abbrev bm:=@Sub.refl
abbrev bn:=@AllST.cons
abbrev bB:=@FzL.nil
abbrev bQ:=@WkL.cons
abbrev ci:=@qZ.nil
abbrev cj:=@FzW.tuple
abbrev cF:=@AllST.nil
abbrev cM:=@Wk.refl
abbrev di:=@qex.refl
abbrev dw:=@FzW.nilv
abbrev dK:=@FzW.agg
abbrev dX:=@Fz.lit
abbrev eL:=@Fz.sl
abbrev eM:=@yQ.bgs
abbrev fe:=@qay.rq
abbrev fB:=@qay.sub
abbrev gi:=@WkL.nil
abbrev gj:=@Wk.nilv
end Go.Av
end
