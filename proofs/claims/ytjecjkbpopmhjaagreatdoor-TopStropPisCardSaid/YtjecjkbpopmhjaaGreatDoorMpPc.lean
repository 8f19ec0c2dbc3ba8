/-
  Names.
-/
import Derived.Test.YtjecjkbpopmhjaaGreatDoorAvPt
import Derived.Test.YtjecjkbpopmhjaaGreatDoorMpPb
import Derived.Test.YtjecjkbpopmhjaaGreatDoorMpPa
import Derived.KernelRfl
noncomputable section
set_option linter.unusedSimpArgs false
set_option linter.unusedVariables false
set_option maxRecDepth 100000
section
namespace Go.Av
end Go.Av
end
section
namespace Go.Av
end Go.Av
end
section
namespace Go.Av
open Classical
theorem rrow2 {N:Nat} (h:600000<N) {a b:Str} (j:a.length<=10000) (u:b.length<=10000):xX N [a,b]=some (if chk a=0 then chk b else chk a):=by
 have e1:=qfI h j
 have e2:=qfI h u
 unfold xX
 obtain⟨K,hK⟩: ∃K,N=K+1+1+1:=⟨N-3,by omega⟩
 have L:kg N [a,b] (K+1+1+1) 0=some (if chk a=0 then(if chk b=0 then .inl ()else .inr (chk b))else .inr (chk a)):=by
  rw[kg,if_pos (by simp),xC]
  simp only[Yj,ZB]
  rw[e1,ZB]
  by_cases c:chk a=0
  ·rw[if_neg (by simp[c]),if_pos c,show w64 (0+1)=((1:Nat):Int)from rfl,kg,if_pos (by simp),qy]
   simp only[YK,Yj,ZB]
   rw[e2,ZB]
   by_cases d:chk b=0
   ·rw[if_neg (by simp[d]),if_pos d,show w64 (((1:Nat):Int)+1)=2 from rfl,kg,if_neg (by simp)]
   rw[if_pos (by simp[d]),if_neg d]
  rw[if_pos (by simp[c]),if_neg c]
 rw[show kg N [a,b] N 0=kg N [a,b] (K+1+1+1) 0 by rw[<-hK],L,ZB]
 by_cases c:chk a=0
 ·by_cases d:chk b=0
  ·rw[if_pos c,if_pos d,if_pos c,d]
  rw[if_pos c,if_neg d,if_pos c]
 rw[if_neg c,if_neg c]
noncomputable def qkk (s:qJ):Int:=if chk s.Low=0 then(if chk s.High=0 then(if∃p q:Rat,s.Low=T p/\s.High=T q/\q<p then 11 else 0)else chk s.High)else chk s.Low
theorem qdf {p q:Rat} (u:chk (T p)=0) (j:chk (T q)=0):qkk ⟨T p,T q⟩=if q<p then 11 else 0:=by
 unfold qkk
 rw[if_pos u,if_pos j]
 by_cases h:q<p
 ·rw[if_pos h,if_pos ⟨p,q,rfl,rfl,h⟩]
 rw[if_neg h,if_neg]
 rintro⟨p',q',e1,e2,h'⟩
 rw[qiB e1,qiB e2]at h
 exact h h'
theorem ncmp {N:Nat} (h:600000<N) {p q:Rat} (u:Sml p 600) (j:Sml q 600): ∃f g,yl N (T p)=some f/\yl N (T q)=some g/\ja N f g=some (if p<q then-1 else if p=q then 0 else 1):=by
 have f1:=xG (n:=32) u (by omega) (by omega)
 have f2:=xG (n:=32) j (by omega) (by omega)
 obtain⟨f,e1,i1⟩:=qes h (u.mono (show 600<=9000 by omega))
 obtain⟨g,e2,i2⟩:=qes h (j.mono (show 600<=9000 by omega))
 exact⟨f,g,e1,e2,qiX h i1 i2 (n:=32) (by omega) f1 f2⟩
theorem qbj {p q:Rat}:((if p<q then-1 else if p=q then 0 else 1:Int)>0)↔q<p:=by
 by_cases h:p<q
 ·rw[if_pos h]
  exact⟨fun c=>absurd c (by decide),fun c=>absurd c (Rat.not_lt.2 (Rat.le_of_lt h))⟩
 rw[if_neg h]
 by_cases e:p=q
 ·rw[if_pos e]
  exact⟨fun c=>absurd c (by decide),fun c=>absurd (e▸c) Rat.lt_irrefl⟩
 rw[if_neg e]
 refine⟨fun _=>?_,fun _=>by decide⟩
 exact Rat.lt_of_le_of_ne (Rat.not_lt.1 h) (Ne.symm e)
theorem qf0 {p q:Rat}:((if p<q then-1 else if p=q then 0 else 1:Int)<0)↔p<q:=by
 by_cases h:p<q
 ·rw[if_pos h]
  exact⟨fun _=>h,fun _=>by decide⟩
 rw[if_neg h]
 refine⟨fun c=>?_,fun c=>absurd c h⟩
 by_cases e:p=q
 ·rw[if_pos e]at c
  exact absurd c (by decide)
 rw[if_neg e]at c
 exact absurd c (by decide)
theorem qfP {p q:Rat}:((if p<q then-1 else if p=q then 0 else 1:Int)<=0)↔p<=q:=by
 rw[<-Int.not_lt,<-Rat.not_lt]
 exact not_congr qbj
theorem xI {N:Nat} (j:600000<N) {s:qJ} (h1:s.Low.length<=10000) (u:s.High.length<=10000):qY N s=some (qkk s):=by
 obtain⟨a,b⟩:=s
 unfold qY kL
 simp only at h1 u
 rw[qmi j h1 u,ZB]
 by_cases c:chk a=0
 ·rw[if_pos c]
  by_cases d:chk b=0
  ·obtain⟨p,rfl,p1,p2⟩:=qdF c
   obtain⟨q,rfl,q1,q2⟩:=qdF d
   obtain⟨f,g,e1,e2,e3⟩:=ncmp j (p:=p) (q:=q) ⟨p1,p2⟩ ⟨q1,q2⟩
   rw[if_neg (by simp[d]),e1,ZB,e2,ZB,e3,ZB,qdf c d]
   by_cases h:q<p
   ·rw[if_pos (decide_eq_true (qbj.2 h)),if_pos h,ZB]
   rw[if_neg (fun x=>h (qbj.1 (of_decide_eq_true x))),if_neg h,ZB]
  rw[if_pos (by simp[d])]
  unfold qkk
  rw[if_pos c,if_neg d]
 rw[if_neg c,if_pos (by simp[c])]
 unfold qkk
 rw[if_neg c]
theorem qia {N:Nat} (hN:600000<N) {s:qJ} (u:s.Low.length<=10000) (j:s.High.length<=10000):zZ N s=some (qkk s):=by
 obtain⟨a,b⟩:=s
 unfold zZ
 simp only at u j
 rw[rrow2 hN u j,ZB]
 by_cases c:chk a=0
 ·rw[if_pos c]
  by_cases d:chk b=0
  ·obtain⟨p,rfl,p1,p2⟩:=qdF c
   obtain⟨q,rfl,q1,q2⟩:=qdF d
   rw[if_pos d,qex hN (k:=600) (by omega) (by omega) ⟨p1,p2⟩ ⟨q1,q2⟩,ZB,ZB,qdf c d]
   by_cases h:q<p
   ·rw[if_pos (decide_eq_true (qbj.2 h)),if_pos h,ZB]
   rw[if_neg (fun x=>h (qbj.1 (of_decide_eq_true x))),if_neg h,d,ZB]
  rw[if_neg d,ZB,if_neg (by simp),ZB]
  unfold qkk
  rw[if_pos c,if_neg d]
 rw[if_neg c,if_neg c,ZB,if_neg (by simp),ZB]
 unfold qkk
 rw[if_neg c]
def mnL:Rat->List Rat->Rat
 |m,[]=>m
 |m,x::xs=>mnL (if x<m then x else m) xs
def mxL:Rat->List Rat->Rat
 |m,[]=>m
 |m,x::xs=>mxL (if m<x then x else m) xs
def IsL:List ql->List Rat->Prop
 |[],[]=>True
 |f::l,q::r=>IsF f q/\IsL l r
 |_,_=>False
theorem IsL.get: ∀{l:List ql} {r:List Rat},IsL l r->l.length=r.length/\ ∀(i:Nat) (q:Rat),r[i]? =some q-> ∃f,l[i]? =some f/\IsF f q
 |[],[],_=>⟨rfl,fun i q h=>by simp at h⟩
 |f::l,q::r,h=>by
  obtain⟨u,j⟩:=h
  obtain⟨a,b⟩:=IsL.get j
  refine⟨by simp[a],fun i x hx=>?_⟩
  match i,hx with
  |0,hx=>
   simp at hx
   exact⟨f,rfl,hx▸u⟩
  |i+1,hx=>
   rw[YK]at hx⊢
   exact b i x hx
 |[],_::_,h=>h.elim
 |_::_,[],h=>h.elim
theorem qkF {N:Nat} (j:600000<N) {l:List ql} {r:List Rat} (hl:IsL l r) {n:Nat} (hn:n<=1900) (hr:r.length<=1000) (u: ∀x∈r,xW x n): ∀(K i:Nat) (g:ql) (m:Rat),i<=r.length->r.length<K+i->IsF g m->xW m n->
 ∃h:ql,qX N l K g.Num.s g.Num.w g.Den.s g.Den.w (i:Int)=some (h.Num.s,h.Num.w,h.Den.s,h.Den.w)/\IsF h (mnL m (r.drop i))
 |0,i,g,m,hi,hK,_,_=>by omega
 |K+1,i,g,m,hi,hK,ig,fm=>by
  obtain⟨ll,lg⟩:=hl.get
  rw[qX]
  by_cases h:i<r.length
  ·obtain⟨x,e,ix⟩:=lg i r[i] (Ya h)
   have fx:=u r[i] (List.getElem_mem h)
   rw[if_pos (by omega),qy,e,ZB,YG h,mnL,zq (by omega)]
   have ec:ja N x ⟨⟨g.Num.s,g.Num.w⟩,⟨g.Den.s,g.Den.w⟩⟩=some (if r[i]<m then-1 else if r[i]=m then 0 else 1):=qiX j ix ig hn fx fm
   rw[ec,ZB]
   by_cases c:r[i]<m
   ·rw[if_pos (qf0.2 c),if_pos c]
    exact qkF j hl hn hr u K (i+1) x r[i] (by omega) (by omega) ix fx
   rw[if_neg (fun y=>c (qf0.1 y)),if_neg c]
   exact qkF j hl hn hr u K (i+1) g m (by omega) (by omega) ig fm
  rw[if_neg (by omega),List.drop_eq_nil_of_le (by omega)]
  exact⟨g,rfl,ig⟩
theorem qhP {N:Nat} (hN:600000<N) {f:ql} {q:Rat} {l:List ql} {r:List Rat} (u:IsL (f::l) (q::r)) {n:Nat} (hn:n<=1900) (hr:r.length<=900) (hf: ∀x∈q::r,xW x n): ∃h,zL N (f::l)=some h/\IsF h (mnL q r):=by
 obtain⟨h,e,i⟩:=qkF hN u hn (by simp;omega) hf N 1 f q (by simp) (by simp;omega) u.1 (hf q (by simp))
 refine⟨h,?_,i⟩
 unfold zL
 rw[if_neg (by simp;omega),ZB,xC,Yj,ZB]
 have j:=e
 rw[show((1:Nat):Int)=1 from rfl]at j
 rw[j,ZB]
theorem qkN {N:Nat} (j:600000<N) {l:List ql} {r:List Rat} (hl:IsL l r) {n:Nat} (hn:n<=1900) (hr:r.length<=1000) (u: ∀x∈r,xW x n): ∀(K i:Nat) (g:ql) (m:Rat),i<=r.length->r.length<K+i->IsF g m->xW m n->
 ∃h:ql,qW N l K g.Num.s g.Num.w g.Den.s g.Den.w (i:Int)=some (h.Num.s,h.Num.w,h.Den.s,h.Den.w)/\IsF h (mxL m (r.drop i))
 |0,i,g,m,hi,hK,_,_=>by omega
 |K+1,i,g,m,hi,hK,ig,fm=>by
  obtain⟨ll,lg⟩:=hl.get
  rw[qW]
  by_cases h:i<r.length
  ·obtain⟨x,e,ix⟩:=lg i r[i] (Ya h)
   have fx:=u r[i] (List.getElem_mem h)
   rw[if_pos (by omega),qy,e,ZB,YG h,mxL,zq (by omega)]
   have ec:ja N x ⟨⟨g.Num.s,g.Num.w⟩,⟨g.Den.s,g.Den.w⟩⟩=some (if r[i]<m then-1 else if r[i]=m then 0 else 1):=qiX j ix ig hn fx fm
   rw[ec,ZB]
   by_cases c:m<r[i]
   ·rw[if_pos (qbj.2 c),if_pos c]
    exact qkN j hl hn hr u K (i+1) x r[i] (by omega) (by omega) ix fx
   rw[if_neg (fun y=>c (qbj.1 y)),if_neg c]
   exact qkN j hl hn hr u K (i+1) g m (by omega) (by omega) ig fm
  rw[if_neg (by omega),List.drop_eq_nil_of_le (by omega)]
  exact⟨g,rfl,ig⟩
theorem qhw {N:Nat} (hN:600000<N) {f:ql} {q:Rat} {l:List ql} {r:List Rat} (u:IsL (f::l) (q::r)) {n:Nat} (hn:n<=1900) (hr:r.length<=900) (hf: ∀x∈q::r,xW x n): ∃h,zK N (f::l)=some h/\IsF h (mxL q r):=by
 obtain⟨h,e,i⟩:=qkN hN u hn (by simp;omega) hf N 1 f q (by simp) (by simp;omega) u.1 (hf q (by simp))
 refine⟨h,?_,i⟩
 unfold zK
 rw[if_neg (by simp;omega),ZB,xC,Yj,ZB]
 have j:=e
 rw[show((1:Nat):Int)=1 from rfl]at j
 rw[j,ZB]
theorem qdd {N:Nat} (h:600000<N) {p q:Rat} (hp:Sml p 9000) (j:Sml q 9000): ∃f g,xk N [T p,T q]=some [f,g]/\IsF f p/\IsF g q:=by
 obtain⟨f,e1,u⟩:=qes h hp
 obtain⟨g,e2,i2⟩:=qes h j
 refine⟨f,g,?_,u,i2⟩
 obtain⟨K,hK⟩: ∃K,N=K+1+1+1:=⟨N-3,by omega⟩
 unfold xk
 rw[show mk 64 (([T p,T q].length:Nat):Int) (⟨⟨0,[]⟩,⟨0,[]⟩⟩:ql)=some [⟨⟨0,[]⟩,⟨0,[]⟩⟩,⟨⟨0,[]⟩,⟨0,[]⟩⟩]by unfold mk;rw[if_pos (by simp)];rfl,ZB]
 have L:zF N [T p,T q] (K+1+1+1) [⟨⟨0,[]⟩,⟨0,[]⟩⟩,⟨⟨0,[]⟩,⟨0,[]⟩⟩] 0=some [f,g]:=by
  rw[zF,if_pos (by simp),xC,Yj,ZB,e1,ZB,xC,Yj,ZB,show(0:Int)=((0:Nat):Int)from rfl,vL (by simp),ZB,List.set_cons_zero,zq (by omega),zF,if_pos (by simp),qy,YK,Yj,ZB,e2,ZB,qy,YK,Yj,ZB,vL (by simp),ZB,List.set_cons_succ,List.set_cons_zero,zq (by omega),zF,if_neg (by simp)]
 rw[show zF N [T p,T q] N [⟨⟨0,[]⟩,⟨0,[]⟩⟩,⟨⟨0,[]⟩,⟨0,[]⟩⟩] 0=zF N [T p,T q] (K+1+1+1) [⟨⟨0,[]⟩,⟨0,[]⟩⟩,⟨⟨0,[]⟩,⟨0,[]⟩⟩] 0 by rw[<-hK],L,ZB]
theorem qjp {N:Nat} (h:600000<N) {f g:ql} {p q:Rat} (hf:IsF f p) (u:IsF g q) (fp:xW p 3900) (j:xW q 3900):qaj N f g=some (if qjk p=true\/qjk q=true then(⟨[],[]⟩,4)else(⟨T p,T q⟩,0)):=by
 unfold qaj
 rw[qjJ h hf fp,ZB,qjJ h u j]
 cases h1:qjk p with
 |true=>rw[if_pos rfl,ZB,if_pos rfl,if_pos (.inl rfl)]
 |false=>
  rw[if_neg (by simp),ZB,ZB]
  cases h2:qjk q with
  |true=>rw[if_pos rfl,if_pos (.inr rfl)]
  |false=>rw[if_neg (by simp),ql2 h hf fp,ZB,ql2 h u j,ZB,if_neg (by simp)]
theorem qjr: ∀(r:List Rat) (m:Rat),mnL m r=m\/mnL m r∈r
 |[],m=> .inl rfl
 |x::r,m=>by
  rw[mnL]
  by_cases h:x<m
  ·rw[if_pos h]
   rcases qjr r x with e|e
   ·rw[e];simp
   exact .inr (List.mem_cons_of_mem _ e)
  rw[if_neg h]
  rcases qjr r m with e|e
  ·exact .inl e
  exact .inr (List.mem_cons_of_mem _ e)
theorem qjs: ∀(r:List Rat) (m:Rat),mxL m r=m\/mxL m r∈r
 |[],m=> .inl rfl
 |x::r,m=>by
  rw[mxL]
  by_cases h:m<x
  ·rw[if_pos h]
   rcases qjs r x with e|e
   ·rw[e];simp
   exact .inr (List.mem_cons_of_mem _ e)
  rw[if_neg h]
  rcases qjs r m with e|e
  ·exact .inl e
  exact .inr (List.mem_cons_of_mem _ e)
theorem qci {P:Rat->Prop} {m:Rat} {r:List Rat} (h: ∀x∈m::r,P x):P (mnL m r):=by
 rcases qjr r m with e|e
 ·rw[e];exact h m (by simp)
 exact h _ (List.mem_cons_of_mem _ e)
theorem qcv {P:Rat->Prop} {m:Rat} {r:List Rat} (h: ∀x∈m::r,P x):P (mxL m r):=by
 rcases qjs r m with e|e
 ·rw[e];exact h m (by simp)
 exact h _ (List.mem_cons_of_mem _ e)
def qgL (F:Rat->Rat->Rat) (p p' q q':Rat):qJ:=⟨T (mnL (F p q) [F p q',F p' q,F p' q']),T (mxL (F p q) [F p q',F p' q,F p' q'])⟩
theorem qpm {N:Nat} (u:600000<N) {p p' q h:Rat} (hp:Sml p 600) (hp':Sml p' 600) (hq:Sml q 600) (hq':Sml h 600) (l1: ∀x∈[p*q,p*h,p'*q,p'*h],Sml x 600):
 yA N ⟨T p,T p'⟩ ⟨T q,T h⟩=some (qgL (fun x y=>x*y) p p' q h,0):=by
 have fp:=(xG (n:=64) hp (by omega) (by omega))
 have fp':=(xG (n:=64) hp' (by omega) (by omega))
 have fq:=(xG (n:=64) hq (by omega) (by omega))
 have fq':=(xG (n:=64) hq' (by omega) (by omega))
 obtain⟨f,f',e1,i,i'⟩:=qdd u (hp.mono (show 600<=9000 by omega)) (hp'.mono (show 600<=9000 by omega))
 obtain⟨g,g',e2,j,j'⟩:=qdd u (hq.mono (show 600<=9000 by omega)) (hq'.mono (show 600<=9000 by omega))
 obtain⟨a,ea,ia⟩:=qfg u i j (n:=64) (by omega) fp fq
 obtain⟨b,eb,ib⟩:=qfg u i j' (n:=64) (by omega) fp fq'
 obtain⟨c,ec,ic⟩:=qfg u i' j (n:=64) (by omega) fp' fq
 obtain⟨d,ed,id⟩:=qfg u i' j' (n:=64) (by omega) fp' fq'
 obtain⟨K,hK⟩: ∃K,N=K+1+1+1:=⟨N-3,by omega⟩
 have L1: ∀(x y z:ql) (l:List ql),l.length<=10->yC N x g=some y->yC N x g'=some z->qH N x [g,g'] N l 0=some (l++[y]++[z]):=by
  intro x y z l hl h1 h2
  have:qH N x [g,g'] (K+1+1+1) l 0=some (l++[y]++[z]):=by
   rw[qH,if_pos (by simp),xC,Yj,ZB,h1,ZB,qbq (by simp;omega) (by simp;omega),ZB,show w64 (0+1)=((1:Nat):Int)from rfl,qH,if_pos (by simp),qy,YK,Yj,ZB,h2,ZB,qbq (by simp;omega) (by simp;omega),ZB,show w64 (((1:Nat):Int)+1)=2 from rfl,qH,if_neg (by simp)]
  rw[show qH N x [g,g'] N l 0=qH N x [g,g'] (K+1+1+1) l 0 by rw[<-hK],this]
 have L0:qG N ⟨T q,T h⟩ [f,f'] N [] 0=some [a,b,c,d]:=by
  have:qG N ⟨T q,T h⟩ [f,f'] (K+1+1+1) [] 0=some [a,b,c,d]:=by
   rw[qG,if_pos (by simp),xC,Yj,ZB,e2,ZB,L1 f a b [] (by simp) ea eb,ZB,show w64 (0+1)=((1:Nat):Int)from rfl,qG,if_pos (by simp),qy,YK,Yj,ZB,e2,ZB,L1 f' c d _ (by simp) ec ed,ZB,show w64 (((1:Nat):Int)+1)=2 from rfl,qG,if_neg (by simp)]
   rfl
  rw[show qG N ⟨T q,T h⟩ [f,f'] N [] 0=qG N ⟨T q,T h⟩ [f,f'] (K+1+1+1) [] 0 by rw[<-hK],this]
 have hl:IsL [a,b,c,d] [p*q,p*h,p'*q,p'*h]:=⟨ia,ib,ic,id,trivial⟩
 have hf: ∀x∈[p*q,p*h,p'*q,p'*h],xW x 64:=fun x hx=>xG (l1 x hx) (by omega) (by omega)
 obtain⟨m,em,im⟩:=qhP u hl (n:=64) (by omega) (by simp) hf
 obtain⟨w,ew,iw⟩:=qhw u hl (n:=64) (by omega) (by simp) hf
 unfold yA
 rw[e1,ZB,L0,ZB,em,ZB,ew,ZB,qjp u im iw ((qci hf).mono (by omega)) ((qcv hf).mono (by omega)),ZB,if_neg]
 ·rfl
 rw[qcM (qci l1),qcM (qcv l1)]
 simp
theorem qpf {N:Nat} (u:600000<N) {p p' q h:Rat} (hp:Sml p 600) (hp':Sml p' 600) (hq:Sml q 600) (hq':Sml h 600) (h0:q≠0) (h1:h≠0) (l1: ∀x∈[p/q,p/h,p'/q,p'/h],Sml x 600):
 yD N ⟨T p,T p'⟩ ⟨T q,T h⟩=some (qgL (fun x y=>x/y) p p' q h,0):=by
 have fp:=(xG (n:=64) hp (by omega) (by omega))
 have fp':=(xG (n:=64) hp' (by omega) (by omega))
 have fq:=(xG (n:=64) hq (by omega) (by omega))
 have fq':=(xG (n:=64) hq' (by omega) (by omega))
 obtain⟨f,f',e1,i,i'⟩:=qdd u (hp.mono (show 600<=9000 by omega)) (hp'.mono (show 600<=9000 by omega))
 obtain⟨g,g',e2,j,j'⟩:=qdd u (hq.mono (show 600<=9000 by omega)) (hq'.mono (show 600<=9000 by omega))
 obtain⟨a,ea,ia⟩:=qgn u i j (n:=64) (by omega) (by omega) fp fq h0
 obtain⟨b,eb,ib⟩:=qgn u i j' (n:=64) (by omega) (by omega) fp fq' h1
 obtain⟨c,ec,ic⟩:=qgn u i' j (n:=64) (by omega) (by omega) fp' fq h0
 obtain⟨d,ed,id⟩:=qgn u i' j' (n:=64) (by omega) (by omega) fp' fq' h1
 obtain⟨K,hK⟩: ∃K,N=K+1+1+1:=⟨N-3,by omega⟩
 have L1: ∀(x y z:ql) (l:List ql),l.length<=10->xw N x g=some y->xw N x g'=some z->qF N x [g,g'] N l 0=some (l++[y]++[z]):=by
  intro x y z l hl h1 h2
  have:qF N x [g,g'] (K+1+1+1) l 0=some (l++[y]++[z]):=by
   rw[qF,if_pos (by simp),xC,Yj,ZB,h1,ZB,qbq (by simp;omega) (by simp;omega),ZB,show w64 (0+1)=((1:Nat):Int)from rfl,qF,if_pos (by simp),qy,YK,Yj,ZB,h2,ZB,qbq (by simp;omega) (by simp;omega),ZB,show w64 (((1:Nat):Int)+1)=2 from rfl,qF,if_neg (by simp)]
  rw[show qF N x [g,g'] N l 0=qF N x [g,g'] (K+1+1+1) l 0 by rw[<-hK],this]
 have L0:qE N ⟨T q,T h⟩ [f,f'] N [] 0=some [a,b,c,d]:=by
  have:qE N ⟨T q,T h⟩ [f,f'] (K+1+1+1) [] 0=some [a,b,c,d]:=by
   rw[qE,if_pos (by simp),xC,Yj,ZB,e2,ZB,L1 f a b [] (by simp) ea eb,ZB,show w64 (0+1)=((1:Nat):Int)from rfl,qE,if_pos (by simp),qy,YK,Yj,ZB,e2,ZB,L1 f' c d _ (by simp) ec ed,ZB,show w64 (((1:Nat):Int)+1)=2 from rfl,qE,if_neg (by simp)]
   rfl
  rw[show qE N ⟨T q,T h⟩ [f,f'] N [] 0=qE N ⟨T q,T h⟩ [f,f'] (K+1+1+1) [] 0 by rw[<-hK],this]
 have hl:IsL [a,b,c,d] [p/q,p/h,p'/q,p'/h]:=⟨ia,ib,ic,id,trivial⟩
 have hf: ∀x∈[p/q,p/h,p'/q,p'/h],xW x 64:=fun x hx=>xG (l1 x hx) (by omega) (by omega)
 obtain⟨m,em,im⟩:=qhP u hl (n:=64) (by omega) (by simp) hf
 obtain⟨w,ew,iw⟩:=qhw u hl (n:=64) (by omega) (by simp) hf
 unfold yD
 rw[e1,ZB,L0,ZB,em,ZB,ew,ZB,qjp u im iw ((qci hf).mono (by omega)) ((qcv hf).mono (by omega)),ZB,if_neg]
 ·rfl
 rw[qcM (qci l1),qcM (qcv l1)]
 simp
end Go.Av
end
section
namespace Go.Av
theorem qfH: ∀(r:List Rat) (m:Rat),∀x∈m::r,mnL m r<=x
 |[],m=>by simp[mnL]
 |y::r,m=>by
  intro x hx
  rw[mnL]
  by_cases h:y<m
  ·rw[if_pos h]
   have j:=qfH r y
   rcases List.mem_cons.1 hx with e|e
   ·rw[e]
    exact Rat.le_trans (j y (by simp)) (Rat.le_of_lt h)
   exact j x e
  rw[if_neg h]
  have j:=qfH r m
  rcases List.mem_cons.1 hx with e|e
  ·rw[e]
   exact j m (by simp)
  rcases List.mem_cons.1 e with e|e
  ·rw[e]
   exact Rat.le_trans (j m (by simp)) (Rat.not_lt.1 h)
  exact j x (List.mem_cons_of_mem _ e)
theorem qfY: ∀(r:List Rat) (m:Rat),∀x∈m::r,x<=mxL m r
 |[],m=>by simp[mxL]
 |y::r,m=>by
  intro x hx
  rw[mxL]
  by_cases h:m<y
  ·rw[if_pos h]
   have j:=qfY r y
   rcases List.mem_cons.1 hx with e|e
   ·rw[e]
    exact Rat.le_trans (Rat.le_of_lt h) (j y (by simp))
   exact j x e
  rw[if_neg h]
  have j:=qfY r m
  rcases List.mem_cons.1 hx with e|e
  ·rw[e]
   exact j m (by simp)
  rcases List.mem_cons.1 e with e|e
  ·rw[e]
   exact Rat.le_trans (Rat.not_lt.1 h) (j m (by simp))
  exact j x (List.mem_cons_of_mem _ e)
theorem qqk {m v:Rat} {r:List Rat} (h: ∀x∈m::r,v<=x) (j:v∈m::r):mnL m r=v:=Rat.le_antisymm (qfH r m v j) (qci h)
theorem qqH {m v:Rat} {r:List Rat} (h: ∀x∈m::r,x<=v) (j:v∈m::r):mxL m r=v:=Rat.le_antisymm (qcv h) (qfY r m v j)
theorem qkB {q:Rat}:0<q.num↔0<q:=by
 have u:=Rat.num_nonneg (q:=q)
 have j:=Rat.num_eq_zero (q:=q)
 constructor
 ·intro h
  exact Rat.lt_of_le_of_ne (u.1 (by omega)) (fun e=>by have:=j.2 e.symm;omega)
 intro h
 have h3:=u.2 (Rat.le_of_lt h)
 have h4:q.num≠0:=fun e=>Rat.ne_of_gt h (j.1 e)
 omega
theorem qog {f:ql} {q:Rat} (h:IsF f q):xL f=some (if q.num<0 then-1 else if q.num=0 then 0 else 1):=by
 unfold xL
 rw[qdj h.1,ZB]
theorem qfw {q:Rat}:((if q.num<0 then-1 else if q.num=0 then 0 else 1:Int)<=0)↔q<=0:=by
 rw[<-Rat.not_lt,<-qkB]
 constructor
 ·intro h c
  rw[if_neg (by omega),if_neg (by omega)]at h
  omega
 intro h
 split
 ·omega
 rw[if_pos (by omega)]
 omega
theorem qpy {N:Nat} (u:600000<N) {p q x:Rat} {k:Nat} (j:0<k) (hk:k<=4000) (hp:Sml p k) (hq:Sml q k) (hx:Sml x k):qcR N ⟨T p,T q⟩ (T x)=some (decide (p<=x/\x<=q)):=by
 unfold qcR
 simp only
 rw[qex u j hk hp hx,ZB,qex u j hk hx hq,ZB]
 by_cases c:p<=x
 ·rw[if_pos (qfP.2 c),ZB]
  by_cases d:x<=q
  ·rw[decide_eq_true (qfP.2 d),decide_eq_true ⟨c,d⟩]
  rw[decide_eq_false (fun h=>d (qfP.1 h)),decide_eq_false (fun h=>d h.2)]
 rw[if_neg (fun h=>c (qfP.1 h)),ZB,decide_eq_false (fun h=>c h.1)]
section ops
variable {N:Nat} (hN:600000<N)
include hN
variable {p p' q q':Rat} (hp:Sml p 60) (hp':Sml p' 60) (hq:Sml q 60) (hq':Sml q' 60) (cp:chk (T p)=0) (cp':chk (T p')=0) (cq:chk (T q)=0) (cq':chk (T q')=0) (hpp:p<=p') (hqq:q<=q')
include hp hp' hq hq' cp cp' cq cq' hpp hqq
theorem qpj:qY N ⟨T p,T p'⟩=some 0/\qY N ⟨T q,T q'⟩=some 0:=by
 have h:=qbb hp
 have j:=qbb hp'
 have u:=qbb hq
 have l4:=qbb hq'
 rw[xI hN (by simp only;omega) (by simp only;omega),xI hN (by simp only;omega) (by simp only;omega),qdf cp cp',qdf cq cq',if_neg (Rat.not_lt.2 hpp),if_neg (Rat.not_lt.2 hqq)]
 exact⟨rfl,rfl⟩
theorem qo6:vM N ⟨T p,T p'⟩ ⟨T q,T q'⟩=some (qgL (fun x y=>x*y) p p' q q',0):=by
 obtain⟨h,j⟩:=qpj hN hp hp' hq hq' cp cp' cq cq' hpp hqq
 have S: ∀a b:Rat,Sml a 60->Sml b 60->Sml (a*b) 600:=fun a b hA hB=>(qcr (n:=7) (by omega) (hA.mono (by omega)) (hB.mono (by omega))).mono (by omega)
 unfold vM vK
 rw[h,ZB,j,ZB,qfh (by omega),if_pos rfl,ZB,if_neg (by simp),qpm hN (hp.mono (by omega)) (hp'.mono (by omega)) (hq.mono (by omega)) (hq'.mono (by omega)) (by simp only[List.mem_cons,List.not_mem_nil,or_false,forall_eq_or_imp,forall_eq];exact⟨S _ _ hp hq,S _ _ hp hq',S _ _ hp' hq,S _ _ hp' hq'⟩)]
 rfl
end ops
end Go.Av
end
section
namespace Go.Av
theorem qkp (n:Int):T (n:Rat)=Lib.itoa n:=by
 unfold T
 rw[Rat.num_intCast,Rat.den_intCast,if_pos rfl,YQ]
theorem qls (q:Rat):q.abs=if q.num<0 then-q else q:=by
 by_cases h:q.num<0
 ·rw[if_pos h,Rat.abs_of_nonpos]
  rw[<-Rat.not_lt,<-qkB]
  omega
 rw[if_neg h,Rat.abs_of_nonneg]
 rw[<-Rat.num_nonneg]
 omega
theorem qp1 {q:Rat} (h:(T q).length<=100000):qbO (T q)=some (T q.abs):=by
 have j:=qpN (N:=0) h
 unfold qbT at j
 rw[qfQ,ZB]at j
 unfold qbO
 rw[qfQ,ZB,qls]
 by_cases c:q.num<0
 ·simp only[if_pos c]at j⊢
  rw[if_pos (by decide)]at j⊢
  exact j
 simp only[if_neg c]
 rw[if_neg (by split<;>decide)]
def bst (x b y:Rat):Rat:=if(x-y).abs<(x-b).abs then y else b
def cnd (x:Rat) (i:Nat):Rat:=Rat.divInt ((x*((i/2:Nat):Rat)).floor+((i%2:Nat):Int)) ((i/2:Nat):Int)
def Fst (x b:Rat) (n:Nat):Prop:= ∃i,2<=i/\i<n/\b=cnd x i/\ ∀j,2<=j->j<n->(x-b).abs<(x-cnd x j).abs\/((x-b).abs=(x-cnd x j).abs/\i<=j)
theorem Fst.step {x b:Rat} {n:Nat} (h:Fst x b n):Fst x (bst x b (cnd x n)) (n+1):=by
 obtain⟨i,h1,h2,h3,u⟩:=h
 unfold bst
 by_cases c:(x-cnd x n).abs<(x-b).abs
 ·rw[if_pos c]
  refine⟨n,by omega,by omega,rfl,fun j j1 j2=>?_⟩
  by_cases e:j=n
  ·exact .inr ⟨by rw[e],by omega⟩
  rcases u j j1 (by omega)with k|⟨k,_⟩
  ·exact .inl (qpO c k)
  exact .inl (k▸c)
 rw[if_neg c]
 refine⟨i,h1,by omega,h3,fun j j1 j2=>?_⟩
 by_cases e:j=n
 ·rw[e]
  rcases Rat.le_iff_lt_or_eq.1 (Rat.not_lt.1 c)with k|k
  ·exact .inl k
  exact .inr ⟨k,by omega⟩
 exact u j j1 (by omega)
end Go.Av
end
section
namespace Go.Av
theorem qom {n:Nat}:Lib.decDigits n=[48]↔n=0:=by
 constructor
 ·intro h
  exact qle (h.trans (by rw[zX (by decide)];rfl))
 rintro rfl
 rw[zX (by decide)]
 rfl
theorem qqI {n:Nat}:Lib.decDigits n=[49]↔n=1:=by
 constructor
 ·intro h
  exact qle (h.trans (by rw[zX (by decide)];rfl))
 rintro rfl
 rw[zX (by decide)]
 rfl
theorem qcq {q:Rat} (h:Sml q 600):chk (T q)=0:=by
 have a1:=no47 (qa1 q.num.natAbs)
 have es:=qhM a1 q
 have et:(bdy (T q)).take (slA (bdy (T q)))=Lib.decDigits q.num.natAbs:=by
  rw[qjD,es,List.take_append_of_le_length (Nat.le_refl _),List.take_length]
 have hd:=den_pos q
 have ed:slA (bdy (T q))<(bdy (T q)).length↔q.den≠1:=by
  rw[qjD,es,Yq]
  unfold tl
  by_cases c:q.den=1
  ·rw[if_pos c]
   simp[c]
  rw[if_neg c]
  simp[c]
 have er:(bdy (T q)).drop (slA (bdy (T q))+1)=if q.den=1 then[]else Lib.decDigits q.den:=by
  rw[qjD,es]
  unfold tl
  by_cases c:q.den=1
  ·rw[if_pos c,if_pos c,YQ,List.drop_of_length_le (by omega)]
  rw[if_neg c,if_neg c,List.drop_append,List.drop_of_length_le (by omega),List.nil_append,show(Lib.decDigits q.num.natAbs).length+1-(Lib.decDigits q.num.natAbs).length=1 by omega]
  rfl
 have hok:okF (T q)=true:=by
  unfold okF
  rw[et,qjw]
  refine decide_eq_true ⟨qmQ _,?_⟩
  rintro⟨u,j⟩
  have u:=of_decide_eq_true u
  have:=qom.1 j
  omega
 have a0:qhG (T q)=false:=by
  unfold qhG
  refine decide_eq_false ?_
  rintro⟨u,j⟩
  have c:=ed.1 u
  rw[er,if_neg c]at j
  exact j ⟨qmQ _,fun e=>by have:=qom.1 e;omega,fun e=>c (qqI.1 e)⟩
 unfold chk
 rw[if_neg (by rw[hok,a0];simp),et,er,if_neg,if_neg]
 ·rintro⟨u,j⟩
  have c:=ed.1 u
  rw[if_neg c,qbU,qbU]at j
  exact j q.reduced
 have u:=h.1
 have j:=h.2
 split<;>simp<;>omega
theorem Num_T {N:Nat} (hN:100000<N) {q:Rat} (hl:(T q).length<=50000):qcP N (T q)=some (Lib.itoa q.num):=by
 have hs:=qc0 (N:=N) (s:=T q) (by omega) (by omega)
 unfold qcP
 rw[hs,ZB]
 by_cases c:q.den=1
 ·obtain⟨j,h⟩:=qfo q c
  rw[yB (by omega),ZB,h,List.take_length,j]
 obtain⟨j,h,u⟩:=qgC q c
 rw[yB (by omega),ZB,h]
theorem Den_T {N:Nat} (hN:100000<N) {q:Rat} (hl:(T q).length<=50000):qcT N (T q)=some (Lib.decDigits q.den):=by
 have hs:=qc0 (N:=N) (s:=T q) (by omega) (by omega)
 unfold qcT
 rw[hs,ZB]
 by_cases c:q.den=1
 ·obtain⟨j,h⟩:=qfo q c
  rw[if_pos (by omega),c,zX (by decide)]
  rfl
 obtain⟨j,h,u⟩:=qgC q c
 rw[if_neg (by omega),zq (by omega),xS (by omega),ZB,u]
theorem qox {z:Int} (h:(Lib.itoa z).length<=50000):qbO (Lib.itoa z)=some (Lib.decDigits z.natAbs):=by
 have:=qp1 (q:=(z:Rat)) (by rw[qkp];omega)
 rw[qkp]at this
 rw[this,qls,Rat.num_intCast]
 by_cases c:z<0
 ·rw[if_pos c,<-Rat.intCast_neg,qkp,zS (by omega),Int.natAbs_neg]
 rw[if_neg c,qkp,zS c]
theorem dec_T (n:Nat):Lib.decDigits n=T ((n:Int):Rat):=by rw[qkp,qel]
theorem qnx {N:Nat} (j:600000<N) {s:Str} {d:Nat} (hd:0<d) (u:d<=1000): ∃b,qbR N s (d:Int)=some b/\(b=true-> ∃q:Rat,s=T q/\Sml q d/\chk (T q)=0):=by
 unfold qbR
 rw[qh (n:=2*(d:Int)) (by omega) (by omega),qh (n:=2*(d:Int)+2) (by omega) (by omega)]
 by_cases c:(s.length:Int)<=2*(d:Int)+2
 ·rw[if_pos c,qfI j (by omega),ZB]
  by_cases hc:chk s=0
  ·obtain⟨q,rfl,q1,q2⟩:=qdF hc
   have li:=qgl q.num
   rw[if_pos hc,Num_T (by omega) (by omega),ZB,qox (by omega),ZB,Den_T (by omega) (by omega),ZB]
   by_cases e:(Lib.decDigits q.num.natAbs).length<=d
   ·rw[if_pos (by omega),ZB]
    exact⟨_,rfl,fun h=>⟨q,rfl,⟨e,by have:=of_decide_eq_true h;omega⟩,hc⟩⟩
   rw[if_neg (by omega),ZB]
   exact⟨_,rfl,fun h=>by cases h⟩
  rw[if_neg hc,ZB]
  exact⟨_,rfl,fun h=>by cases h⟩
 rw[if_neg c,ZB]
 exact⟨_,rfl,fun h=>by cases h⟩
end Go.Av
end
section
namespace Go.Av
end Go.Av
end
section
namespace Go.Av
theorem qka (r:Rat):r-(r.floor:Rat)=Rat.divInt (r.num%(r.den:Int)) (r.den:Int):=by
 have h:((r.den:Int):Rat)≠0:=by
  rw[Ne,Rat.intCast_eq_zero_iff]
  have:=r.den_pos
  omega
 have e:(r-(r.floor:Rat))*((r.den:Int):Rat)=((r.num%(r.den:Int):Int):Rat):=by
  rw[Rat.sub_eq_add_neg,Rat.add_mul,qgt,Rat.floor_def,Int.emod_def,Rat.intCast_sub,Rat.intCast_mul]
  grind
 rw[Rat.divInt_eq_div,<-e,Rat.mul_div_cancel h]
theorem qmh {r:Rat} {n:Nat} (h:xW r n):xW (r-(r.floor:Rat)) n:=by
 rw[qka]
 have j:=r.den_pos
 refine qe4 (by omega) ?_ h.2
 refine qbi ?_ h.2
 have:=Int.emod_nonneg r.num (show(r.den:Int)≠0 by omega)
 have:=Int.emod_lt_of_pos r.num (show(0:Int)<(r.den:Int)by omega)
 omega
theorem qlb {x:Rat} {n:Nat} (h:xW x n):x<=((W^n:Int):Rat)/\ -((W^n:Int):Rat)<=x:=by
 have hd:=x.den_pos
 have u:(x.num.natAbs:Int)<W^n:=h.1
 have j:(0:Int)<=W^n:=by omega
 have hm:W^n*1<=W^n*(x.den:Int):=Yc (by omega) j
 rw[<-Rat.intCast_neg]
 constructor
 ·rw[Rat.le_iff,Rat.num_intCast,Rat.den_intCast]
  omega
 rw[Rat.le_iff,Rat.num_intCast,Rat.den_intCast,Int.neg_mul]
 omega
theorem qna {x:Rat} {n m:Nat} (u:xW x n) {c d:Int} (h0:0<=d) (hd:d<=m) (hm:m<=1000) (h1:(c:Rat)-x*(d:Rat)<=1) (h2: -1<=(c:Rat)-x*(d:Rat)):Fit c (n+1):=by
 obtain⟨b1,b2⟩:=qlb u
 have h:(0:Rat)<=(d:Rat):=Rat.intCast_nonneg.2 h0
 have hW:(1:Int)<=W^n:=pow_pos (show(0:Int)<W by decide) n
 have m1:=Rat.mul_le_mul_of_nonneg_right b1 h
 have m2:=Rat.mul_le_mul_of_nonneg_right b2 h
 have u1:(c:Rat)<=((W^n*d+1:Int):Rat):=by
  rw[Rat.intCast_add,Rat.intCast_mul,show((1:Int):Rat)=1 from rfl]
  grind
 have j:((-(W^n*d+1):Int):Rat)<=(c:Rat):=by
  rw[Rat.intCast_neg,Rat.intCast_add,Rat.intCast_mul,show((1:Int):Rat)=1 from rfl]
  grind
 rw[Rat.intCast_le_intCast]at u1 j
 have m3:W^n*d<=W^n*1000:=Yc (by omega) (by omega)
 have e:W^(n+1)=W^n*W:=Int.pow_succ ..
 have m4:W^n*1001<W^n*W:=Int.mul_lt_mul_of_pos_left (by decide) (by omega)
 unfold Fit
 omega
structure Cvg (x:Rat) (m:Nat) (a b c d:Int) (r:Rat):Prop where
 b0:0<=b
 d0:0<=d
 bm:b<=m
 dm:d<=m
 st:(b=1/\d=0)\/(1<=d/\1<r)
 fr:xW r 4
 za:Fit a 5
 zc:Fit c 5
 eq:x*((d:Rat)*r+(b:Rat))=(c:Rat)*r+(a:Rat)
 det:c*b-d*a=1\/c*b-d*a= -1
theorem qmx {r:Rat} (h:1<r):1<=r.floor:=by
 rw[Rat.le_floor_iff]
 exact Rat.le_of_lt h
theorem Cvg.next {x:Rat} {m:Nat} {a b c d:Int} {r:Rat} (h:Cvg x m a b c d r) (hm1:1<=m) (hm:m<=1000) (fx:xW x 4) (hd:d*r.floor+b<=m) (hr:r≠(r.floor:Rat)):
 Cvg x m c d (c*r.floor+a) (d*r.floor+b) (r-(r.floor:Rat))⁻¹/\1<=d*r.floor+b/\b+d+1<=d+(d*r.floor+b)+(if d=0 then 1 else 0):=by
 have j:0<r-(r.floor:Rat):=by
  rw[<-Rat.lt_iff_sub_pos]
  exact Rat.lt_of_le_of_ne (Rat.floor_le _) (Ne.symm hr)
 have hlt:r-(r.floor:Rat)<1:=by
  have:=Rat.lt_floor_add_one r
  rw[Rat.intCast_add,show((1:Int):Rat)=1 from rfl]at this
  grind
 have hne:r-(r.floor:Rat)≠0:=Rat.ne_of_gt j
 have k1:1<=d*r.floor+b/\b+d+1<=d+(d*r.floor+b)+(if d=0 then 1 else 0):=by
  rcases h.st with⟨e1,e2⟩|⟨e1,e2⟩
  ·rw[e1,e2]
   simp
  have f1:=qmx e2
  have:=Yc f1 h.d0
  have:=h.b0
  rw[if_neg (by omega)]
  omega
 have u:=Rat.mul_inv_cancel _ hne
 have hs:(1:Rat)<(r-(r.floor:Rat))⁻¹:=by
  have p:=Rat.inv_pos.2 j
  have:=Rat.mul_lt_mul_of_pos_right hlt p
  rw[u,Rat.one_mul]at this
  exact this
 generalize hg:(r-(r.floor:Rat))⁻¹=s at*
 have er:r=(r.floor:Rat)+s⁻¹:=by
  rw[<-hg,Rat.inv_inv]
  grind
 generalize hk:r.floor=k at*
 have es:(r-(k:Rat))*s=1:=u
 have e2:x*(((d*k+b:Int):Rat)*s+(d:Rat))=((c*k+a:Int):Rat)*s+(c:Rat):=by
  have h1:=h.eq
  rw[Rat.intCast_add,Rat.intCast_mul,Rat.intCast_add,Rat.intCast_mul]
  have h2:x*((d:Rat)*r+(b:Rat))*s=((c:Rat)*r+(a:Rat))*s:=by rw[h1]
  have h3:r*s=1+(k:Rat)*s:=by grind
  have h4:x*((d:Rat)*(r*s)+(b:Rat)*s)=(c:Rat)*(r*s)+(a:Rat)*s:=by grind
  rw[h3]at h4
  grind
 have dt:(c*k+a)*d-(d*k+b)*c=1\/(c*k+a)*d-(d*k+b)*c= -1:=by
  have:(c*k+a)*d-(d*k+b)*c= -(c*b-d*a):=by grind
  rcases h.det with e|e
  ·right;rw[this,e]
  left;rw[this,e];rfl
 refine⟨?_,k1⟩
 have D1:(1:Rat)<=((d*k+b:Int):Rat)*s+(d:Rat):=by
  have a1:(1:Rat)<=((d*k+b:Int):Rat):=by
   have:=Rat.intCast_le_intCast.2 k1.1
   exact this
  have a2:(0:Rat)<=(d:Rat):=Rat.intCast_nonneg.2 h.d0
  have a3:=Rat.mul_le_mul_of_nonneg_right a1 (show(0:Rat)<=s from Rat.le_trans (by decide) (Rat.le_of_lt hs))
  rw[Rat.one_mul]at a3
  have:=Rat.le_of_lt hs
  grind
 have zz:(((c*k+a:Int):Rat)-x*((d*k+b:Int):Rat))*(((d*k+b:Int):Rat)*s+(d:Rat))=(((c*k+a)*d-(d*k+b)*c:Int):Rat):=by
  rw[Rat.intCast_sub,Rat.intCast_mul,Rat.intCast_mul]
  generalize ((c*k+a:Int):Rat)=C at*
  generalize ((d*k+b:Int):Rat)=E at*
  generalize (c:Rat)=c' at*
  generalize (d:Rat)=d' at*
  have:(C-x*E)*(E*s+d')=C*(E*s+d')-E*(x*(E*s+d')):=by grind
  rw[this,e2]
  grind
 have hz:((c*k+a:Int):Rat)-x*((d*k+b:Int):Rat)<=1/\ -1<=((c*k+a:Int):Rat)-x*((d*k+b:Int):Rat):=by
  generalize ((c*k+a:Int):Rat)-x*((d*k+b:Int):Rat)=z at*
  generalize ((d*k+b:Int):Rat)*s+(d:Rat)=D at*
  have hD0:(0:Rat)<=D:=Rat.le_trans (by decide) D1
  have hb:z*D=1\/z*D= -1:=by
   rw[zz]
   rcases dt with e|e
   ·left;rw[e];rfl
   right;rw[e];rfl
  constructor
  ·rw[<-Rat.not_lt]
   intro hc
   have:=Rat.mul_lt_mul_of_pos_right hc (show(0:Rat)<D by grind)
   rw[Rat.one_mul]at this
   grind
  rw[<-Rat.not_lt]
  intro hc
  have:=Rat.mul_lt_mul_of_pos_right hc (show(0:Rat)<D by grind)
  grind
 exact {b0:=h.d0,d0:=by omega,bm:=h.dm,dm:=hd,st:= .inr ⟨k1.1,hs⟩,fr:=by rw[<-hg];exact qjH (by rw[<-hk];exact qmh h.fr) (by omega),za:=h.zc,zc:=qna fx (by omega) hd hm hz.1 hz.2,eq:=e2,det:=dt}
end Go.Av
end
section
namespace Go.Av
theorem qgE {p q:Rat}:((if p<q then-1 else if p=q then 0 else 1:Int)=0)↔p=q:=by
 by_cases h:p<q
 ·rw[if_pos h]
  exact⟨fun c=>absurd c (by decide),fun c=>absurd (c▸h) Rat.lt_irrefl⟩
 rw[if_neg h]
 by_cases e:p=q
 ·rw[if_pos e]
  exact⟨fun _=>e,fun _=>rfl⟩
 rw[if_neg e]
 exact⟨fun c=>absurd c (by decide),fun c=>absurd c e⟩
end Go.Av
end
section
namespace Go.Av
theorem pick {x L M:Rat} {d f:Int} (nL:(L.den:Int)=d) (nM:(M.den:Int)=f) {c:Int}
 (j:c=if(if(x-L).abs<(x-M).abs then-1 else if(x-L).abs=(x-M).abs then 0 else 1:Int)=0 then(if(if(d:Rat)<(f:Rat)then-1 else if(d:Rat)=(f:Rat)then 0 else 1:Int)=0 then(if L<M then-1 else if L=M then 0 else 1)else(if(d:Rat)<(f:Rat)then-1 else if(d:Rat)=(f:Rat)then 0 else 1))else(if(x-L).abs<(x-M).abs then-1 else if(x-L).abs=(x-M).abs then 0 else 1)):
 (¬c>0->le3 x L M)/\(c>0->le3 x M L):=by
 by_cases h1:(x-L).abs=(x-M).abs
 ·rw[if_pos (qgE.2 h1)]at j
  by_cases u:(d:Rat)=(f:Rat)
  ·rw[if_pos (qgE.2 u)]at j
   have u:=Rat.intCast_inj.1 u
   constructor
   ·intro h
    rw[j]at h
    exact .inr ⟨h1,.inr ⟨by omega,Rat.not_lt.1 fun k=>h (qbj.2 k)⟩⟩
   intro h
   rw[j]at h
   exact .inr ⟨h1.symm,.inr ⟨by omega,Rat.le_of_lt (qbj.1 h)⟩⟩
  rw[if_neg (fun k=>u (qgE.1 k))]at j
  constructor
  ·intro h
   rw[j]at h
   have h:=Rat.not_lt.1 (fun k=>h (qbj.2 k))
   have h3:d≠f:=fun k=>u (by rw[k])
   have:=Rat.intCast_le_intCast.1 h
   exact .inr ⟨h1,.inl (by omega)⟩
  intro h
  rw[j]at h
  have:=Rat.intCast_lt_intCast.1 (qbj.1 h)
  exact .inr ⟨h1.symm,.inl (by omega)⟩
 rw[if_neg (fun k=>h1 (qgE.1 k))]at j
 constructor
 ·intro h
  rw[j]at h
  have h:=Rat.not_lt.1 (fun k=>h (qbj.2 k))
  exact .inl (Rat.lt_of_le_of_ne h h1)
 intro h
 rw[j]at h
 exact .inl (qbj.1 h)
theorem qnB {z:Int} {n:Nat} (h:Fit z n) (hn:0<n):(Lib.decDigits z.natAbs).length<=20*n:=by
 refine(qam (by omega)).2 ?_
 have h1:(z.natAbs:Int)<W^n:=h
 have j:=(qcI (x:=W) (y:=100000000000000000000) (by decide) (by decide) n).2
 have u:(100000000000000000000:Int)^n=((10^(20*n):Nat):Int):=by
  rw[Nat.pow_mul,Int.natCast_pow]
  rfl
 omega
theorem qjF {q:Rat} {n:Nat} (h:xW q n) (j:0<n):Sml q (20*n):=by
 have:=qnB h.2 j
 rw[Int.natAbs_natCast]at this
 exact⟨qnB h.1 j,this⟩
end Go.Av
end
section
namespace Go.Av
end Go.Av
end
section
namespace Go.Av
theorem qp3 {z:Int} {k:Nat} (u:0<=z) (j:0<k) (h:z<((10^k:Nat):Int)):Sml (z:Rat) k:=by
 constructor
 ·rw[Rat.num_intCast]
  exact(qam j).2 (by omega)
 rw[Rat.den_intCast]
 exact(qam j).2 (Nat.one_lt_pow (by omega) (by decide))
theorem T_2:([50]:Str)=T ((2:Int):Rat):=by
 rw[show((2:Int):Rat)=(((2:Nat):Int):Rat)from rfl,<-dec_T,zX (by decide)]
 rfl
theorem qp2 {m n:Nat} (h:m<=n):((10^m:Nat):Int)<=((10^n:Nat):Int):=Int.ofNat_le.2 (Nat.pow_le_pow_right (by decide) h)
end Go.Av
end
section
namespace Go.Av
theorem qlu {p x j y:Rat} (h:p<=x) (u:x<=j):p*y<=x*y\/j*y<=x*y:=by
 rcases Rat.le_total (a:=0) (b:=y)with c|c
 ·exact .inl (Rat.mul_le_mul_of_nonneg_right h c)
 right
 have:=Rat.mul_le_mul_of_nonneg_right u (show 0<= -y by grind)
 grind
theorem qlt {p x j y:Rat} (h:p<=x) (u:x<=j):x*y<=p*y\/x*y<=j*y:=by
 rcases Rat.le_total (a:=0) (b:=y)with c|c
 ·exact .inr (Rat.mul_le_mul_of_nonneg_right u c)
 left
 have:=Rat.mul_le_mul_of_nonneg_right h (show 0<= -y by grind)
 grind
theorem qqu {p x p' q y u:Rat} (h:p<=x) (h':x<=p') (k:q<=y) (k':y<=u): ∃z∈[p*q,p*u,p'*q,p'*u],z<=x*y:=by
 have j: ∀e:Rat,e*q<=e*y\/e*u<=e*y:=fun e=>by
  have:=qlu (y:=e) k k'
  rw[Rat.mul_comm q e,Rat.mul_comm u e,Rat.mul_comm y e]at this
  exact this
 rcases qlu (y:=y) h h' with c|c
 ·rcases j p with d|d
  ·exact⟨_,by simp,Rat.le_trans d c⟩
  exact⟨p*u,by simp,Rat.le_trans d c⟩
 rcases j p' with d|d
 ·exact⟨p'*q,by simp,Rat.le_trans d c⟩
 exact⟨p'*u,by simp,Rat.le_trans d c⟩
theorem qqw {p x p' q y u:Rat} (h:p<=x) (h':x<=p') (k:q<=y) (k':y<=u): ∃z∈[p*q,p*u,p'*q,p'*u],x*y<=z:=by
 have j: ∀e:Rat,e*y<=e*q\/e*y<=e*u:=fun e=>by
  have:=qlt (y:=e) k k'
  rw[Rat.mul_comm q e,Rat.mul_comm u e,Rat.mul_comm y e]at this
  exact this
 rcases qlt (y:=y) h h' with c|c
 ·rcases j p with d|d
  ·exact⟨p*q,by simp,Rat.le_trans c d⟩
  exact⟨p*u,by simp,Rat.le_trans c d⟩
 rcases j p' with d|d
 ·exact⟨p'*q,by simp,Rat.le_trans c d⟩
 exact⟨p'*u,by simp,Rat.le_trans c d⟩
theorem qoh {m x:Rat} {r:List Rat} (lo: ∃z∈m::r,z<=x) (hi: ∃z∈m::r,x<=z):mnL m r<=x/\x<=mxL m r:=by
 obtain⟨a,h,j⟩:=lo
 obtain⟨b,u,b2⟩:=hi
 exact⟨Rat.le_trans (qfH r m a h) j,Rat.le_trans b2 (qfY r m b u)⟩
theorem qnW (m:Rat) (r:List Rat):mnL m r<=mxL m r:=Rat.le_trans (qfH r m m (by simp)) (qfY r m m (by simp))
theorem qjf {a b:Rat} (h:0<a) (k:a<=b):b⁻¹<=a⁻¹:=by
 have j:0<b:=by grind
 have ia:=Rat.mul_inv_cancel a (Rat.ne_of_gt h)
 have ib:=Rat.mul_inv_cancel b (Rat.ne_of_gt j)
 have pa:=Rat.inv_pos.2 h
 have pb:=Rat.inv_pos.2 j
 have h1:=Rat.mul_le_mul_of_nonneg_right k (Rat.le_of_lt (Rat.mul_pos pa pb))
 generalize a⁻¹=u at*
 generalize b⁻¹=v at*
 have e1:a*(u*v)=v:=by grind
 have e2:b*(u*v)=u:=by grind
 rw[e1,e2]at h1
 exact h1
theorem qgA (a:Rat) (h:a≠0):(-a)⁻¹= -a⁻¹:=by
 refine Rat.inv_eq_of_mul_eq_one ?_
 have:=Rat.mul_inv_cancel a h
 generalize a⁻¹=u at*
 grind
theorem qf4 {q y j:Rat} (h: ¬(q<=0/\0<=j)) (k:q<=y) (k':y<=j):j⁻¹<=y⁻¹/\y⁻¹<=q⁻¹:=by
 rcases Rat.le_total (a:=q) (b:=0)with c|c
 ·have a0:j<0:=by
   rw[<-Rat.not_le]
   exact fun d=>h ⟨c,d⟩
  have hy:y<0:=by grind
  have u:q<0:=by grind
  have a1:=qjf (a:= -j) (b:= -y) (by grind) (by grind)
  have a2:=qjf (a:= -y) (b:= -q) (by grind) (by grind)
  rw[qgA y (Rat.ne_of_lt hy),qgA j (Rat.ne_of_lt a0)]at a1
  rw[qgA y (Rat.ne_of_lt hy),qgA q (Rat.ne_of_lt u)]at a2
  exact⟨Rat.neg_le_neg_iff.1 a1,Rat.neg_le_neg_iff.1 a2⟩
 have u:0<q:=by
  rcases Rat.le_iff_lt_or_eq.1 c with d|d
  ·exact d
  exfalso
  exact h ⟨by rw[<-d];exact Rat.le_refl,Rat.le_trans c (Rat.le_trans k k')⟩
 exact⟨qjf (by grind) k',qjf u k⟩
theorem qp8 {p x u q y j:Rat} (h:p<=x) (h':x<=u) (z: ¬(q<=0/\0<=j)) (k:q<=y) (k':y<=j): ∃z∈[p/q,p/j,u/q,u/j],z<=x/y:=by
 obtain⟨i1,i2⟩:=qf4 z k k'
 obtain⟨w,hw,l⟩:=qqu h h' i1 i2
 simp only[Rat.div_def]
 refine⟨w,?_,l⟩
 simp only[List.mem_cons,List.not_mem_nil,or_false]at hw⊢
 rcases hw with e|e|e|e
 ·exact .inr (.inl e)
 ·exact .inl e
 ·exact .inr (.inr (.inr e))
 exact .inr (.inr (.inl e))
theorem qqE {p x u q y j:Rat} (h:p<=x) (h':x<=u) (z: ¬(q<=0/\0<=j)) (k:q<=y) (k':y<=j): ∃z∈[p/q,p/j,u/q,u/j],x/y<=z:=by
 obtain⟨i1,i2⟩:=qf4 z k k'
 obtain⟨w,hw,l⟩:=qqw h h' i1 i2
 simp only[Rat.div_def]
 refine⟨w,?_,l⟩
 simp only[List.mem_cons,List.not_mem_nil,or_false]at hw⊢
 rcases hw with e|e|e|e
 ·exact .inr (.inl e)
 ·exact .inl e
 ·exact .inr (.inr (.inr e))
 exact .inr (.inr (.inl e))
theorem qkn {N:Nat} (hN:600000<N) {p j q u:Rat} (hp:Sml p 600) (a0:Sml j 600) (hq:Sml q 600) (a4:Sml u 600) (hpp:p<=j) (hqq:q<=u):
 xZ N ⟨T p,T j⟩ ⟨T q,T u⟩=some (if p=q/\j=u/\p=j then(0,0)else if j<q then(-1,0)else if u<p then(1,0)else(0,24)):=by
 have l1:=qbb hp
 have l2:=qbb a0
 have l3:=qbb hq
 have l4:=qbb a4
 obtain⟨f1,g1,a1,a2,a3⟩:=ncmp hN a0 hq
 obtain⟨f2,g2,b1,b2,b3⟩:=ncmp hN a4 hp
 unfold xZ
 rw[xI hN (by simp only;omega) (by simp only;omega),qdf (qcq hp) (qcq a0),if_neg (Rat.not_lt.2 hpp),ZB,xI hN (by simp only;omega) (by simp only;omega),qdf (qcq hq) (qcq a4),if_neg (Rat.not_lt.2 hqq),ZB,qfh (by omega),if_pos rfl,ZB,if_neg (by decide)]
 have B:(if((T p==T q)&&((T j==T u)&&true))=true then some (T p==T j)else some false:Option Bool)=some (decide (p=q/\j=u/\p=j)):=by
  by_cases c1:p=q
  ·by_cases c2:j=u
   ·subst c1 c2
    rw[if_pos (by simp)]
    congr 1
    by_cases c3:p=j
    ·subst c3
     simp
    rw[decide_eq_false (fun h=>c3 h.2.2)]
    exact beq_false_of_ne fun h=>c3 (qiB h)
   rw[if_neg (by intro h;simp only[Bool.and_eq_true,beq_iff_eq,and_true]at h;exact c2 (qiB h.2)),decide_eq_false (fun h=>c2 h.2.1)]
  rw[if_neg (by intro h;simp only[Bool.and_eq_true,beq_iff_eq,and_true]at h;exact c1 (qiB h.1)),decide_eq_false (fun h=>c1 h.1)]
 simp only
 rw[B,ZB]
 by_cases c:p=q/\j=u/\p=j
 ·rw[if_pos (decide_eq_true c),if_pos c]
 rw[if_neg (fun h=>c (of_decide_eq_true h)),if_neg c,a1,ZB,a2,ZB,a3,ZB,b1,ZB,b2,ZB,b3,ZB]
 by_cases d:j<q
 ·rw[if_pos (qf0.2 d),if_pos d]
 rw[if_neg (fun h=>d (qf0.1 h)),if_neg d]
 by_cases e:u<p
 ·rw[if_pos (qf0.2 e),if_pos e]
 rw[if_neg (fun h=>e (qf0.1 h)),if_neg e]
end Go.Av
end
section
namespace Go.Av
end Go.Av
end
section
namespace Go.Av
end Go.Av
end
section
namespace Go.Av
def piD:Str:=[51,49,52,49,53,57,50,54,53,51,53,56,57,55,57,51,50,51,56,52,54,50,54,52,51,51,56,51,50,55,57]
def piN (k:Nat):Nat:=qL 0 (piD.take (k+1))
def tp (k:Nat):Int:=((10^k:Nat):Int)
theorem qm3 (m n:Nat):tp m*tp n=tp (m+n):=by
 unfold tp
 rw[Nat.pow_add]
 exact(Int.natCast_mul ..).symm
theorem qeS (k:Nat):0<tp k:=by
 have:=Nat.pow_pos (n:=k) (show 0<10 by decide)
 unfold tp
 omega
theorem qni {m n:Nat} (h:m<=n):tp m<=tp n:=qp2 h
theorem qkP (k:Nat):Dec (piD.take (k+1)):=by
 refine⟨?_,qfc (by decide) _,fun h=>?_⟩
 ·rw[Ym]
  have:piD.length=31:=rfl
  omega
 exfalso
 rw[show piD=51::piD.drop 1 from rfl,List.take_succ_cons]at h
 simp at h
theorem pi_lt {k:Nat} (j:k<=30):((piN k:Nat):Int)<tp (k+1):=by
 have h:=qdl (piD.take (k+1)) 0 (qkP k).2.1
 rw[Ym,show piD.length=31 from rfl,Nat.min_eq_left (by omega),Nat.zero_add,Nat.one_mul]at h
 unfold tp piN
 exact Int.ofNat_lt.2 h
theorem qiu: ∀k:Nat,qL 0 (List.replicate k 48)=0
 |0=>rfl
 |k+1=>by
  rw[List.replicate_succ,qaM]
  exact qiu k
theorem qmK (k:Nat):qL 0 ([49]++List.replicate k 48)=10^k:=by
 rw[qcu,qiu,List.length_replicate]
 show qL 0 [49]*10^k+0=_
 rw[show qL 0 [49]=1 from rfl]
 omega
theorem qiw: ∀k:Nat,(List.replicate k (48:UInt8)).all vz=true
 |0=>rfl
 |k+1=>by
  rw[List.replicate_succ,List.all_cons,qiw k]
  rfl
theorem qp6 {N:Nat} (h:600000<N) {k:Nat} (h1:1<=k) (h2:k<=30):qbP N (k:Int)=some (⟨T (Rat.divInt (piN k) (tp k)),T (Rat.divInt ((piN k:Int)+1) (tp k))⟩,0)/\Sml (Rat.divInt (piN k) (tp k)) 60/\Sml (Rat.divInt ((piN k:Int)+1) (tp k)) 60:=by
 have hl:=pi_lt h2
 have d1:=qkP k
 obtain⟨g1,g2⟩:=qaC d1.2.1
 obtain⟨r,e1,i1⟩:=qej h (s:=piD.take (k+1)) (by rw[g2];exact d1.2.1) (by rw[g2,Ym];omega)
 rw[qbu d1.2.1]at i1
 have z1:([49]++List.replicate k 48:Str).all vz=true:=by
  rw[List.all_append,qiw]
  rfl
 obtain⟨g3,g4⟩:=qaC z1
 obtain⟨u,e2,i2⟩:=qej h (s:=[49]++List.replicate k 48) (by rw[g4];exact z1) (by rw[g4];simp;omega)
 rw[qbu z1,qmK]at i2
 have i1:IsZ r (piN k:Int):=i1
 have i2:IsZ u (tp k):=i2
 have ht:=qni (show k+1<=32 by omega)
 have ht0:=qni (show k<=32 by omega)
 have hp:=qeS k
 have e10:tp k*tp 1=tp (k+1):=qm3 k 1
 have h10:tp 1=10:=rfl
 rw[h10]at e10
 have fd:Fit (piN k:Int) 2:=qdO (p:=32) (by show _<tp 32;omega) (by omega)
 have ft:Fit (tp k) 2:=qdO (p:=31) (by have:=qni (show k+1<=31 by omega);show _<tp 31;omega) (by omega)
 have j:Fit ((piN k:Int)+1) 3:=qpJ fd (F1 (by omega))
 obtain⟨f,e3,i3⟩:=qgv h i1 i2 (fd.mono (by omega)) (ft.mono (by omega)) (by omega)
 obtain⟨w,e4,i4⟩:=qjg (N:=N) (by omega) i1 (Ud (z:=1) (by decide) (by decide)) (fd.mono (by omega)) ((F1 (n:=2) (by omega)).mono (by omega))
 obtain⟨g,e5,i5⟩:=qgv h i4 i2 (j.mono (by omega)) (ft.mono (by omega)) (by omega)
 have fl:xW (Rat.divInt (piN k) (tp k)) 3:=qe4 (by omega) (fd.mono (by omega)) (ft.mono (by omega))
 have fh:xW (Rat.divInt ((piN k:Int)+1) (tp k)) 3:=qe4 (by omega) j (ft.mono (by omega))
 have sl:Sml (Rat.divInt (piN k) (tp k)) 60:=qjF fl (by omega)
 have sh:Sml (Rat.divInt ((piN k:Int)+1) (tp k)) 60:=qjF fh (by omega)
 refine⟨?_,sl,sh⟩
 have R:qbL [48] (k:Int)=some (List.replicate k 48):=by
  unfold qbL
  rw[if_pos (by simp;omega),Int.toNat_natCast,qiO]
 have C:cat [49] (List.replicate k 48)=some ([49]++List.replicate k 48):=qaY (by simp;omega)
 unfold qbP
 rw[if_neg (by omega),decide_eq_false (by omega),ZB,if_neg (by simp),zq (by omega)]
 rw[show cut [51,49,52,49,53,57,50,54,53,51,53,56,57,55,57,51,50,51,56,52,54,50,54,52,51,51,56,51,50,55,57] 0 ((k+1:Nat):Int)=some (piD.take (k+1))from yB (by show k+1<=31;omega),ZB,e1,ZB,R,ZB,C,ZB,e2,ZB,e3,ZB,qgZ,ZB,e4,ZB,e5,ZB,qjp h i3 i5 (fl.mono (by omega)) (fh.mono (by omega)),qcM (sl.mono (by omega)),qcM (sh.mono (by omega)),if_neg (by simp),ZB]
end Go.Av
end
section
namespace Go.Av
end Go.Av
end
section
namespace Go.Av
end Go.Av
end
section
namespace Go.Av
theorem qk3 {c q j:Rat} (u:0<=c) (h:q<=j):qgL (fun x y=>x*y) c c q j=⟨T (c*q),T (c*j)⟩:=by
 have a:=Rat.mul_le_mul_of_nonneg_left h u
 unfold qgL
 rw[qqk (v:=c*q) (by simp only[List.mem_cons,List.not_mem_nil,or_false,forall_eq_or_imp,forall_eq];exact⟨Rat.le_refl,a,Rat.le_refl,a⟩) (by simp),qqH (v:=c*j) (by simp only[List.mem_cons,List.not_mem_nil,or_false,forall_eq_or_imp,forall_eq];exact⟨a,Rat.le_refl,a,Rat.le_refl⟩) (by simp)]
end Go.Av
end
section
namespace Go.Av
theorem qpi {p q:Rat}:(if p<q then-1 else if p=q then 0 else 1:Int)=if p<q then-1 else if q<p then 1 else 0:=by
 by_cases h:p<q
 ·rw[if_pos h,if_pos h]
 rw[if_neg h,if_neg h]
 by_cases e:p=q
 ·subst e
  rw[if_pos rfl,if_neg Rat.lt_irrefl]
 rw[if_neg e,if_pos (Rat.lt_of_le_of_ne (Rat.not_lt.1 h) (Ne.symm e))]
end Go.Av
end
section
namespace Go.Av
theorem qhE (n:Int) (k:Nat):Rat.divInt n (tp k)*((tp k:Int):Rat)=(n:Rat):=by
 rw[Rat.divInt_eq_div]
 refine Rat.div_mul_cancel ?_
 rw[Ne,Rat.intCast_eq_zero_iff]
 have:=qeS k
 omega
theorem qkg {a b:Int} {j k:Nat}:Rat.divInt a (tp j)<=Rat.divInt b (tp k)↔a*tp k<=b*tp j:=qng (qeS j) (qeS k) (qhE a j) (qhE b k)
theorem qoI {k:Nat} (hk:k<=29): ∃d:Nat,d<=9/\piN (k+1)=piN k*10+d:=by
 have j:k+1<piD.length:=by
  show k+1<31
  omega
 have e:piD.take (k+1+1)=piD.take (k+1)++[piD[k+1]]:=by
  rw[List.take_add_one,Ya j]
  rfl
 have h:vz piD[k+1]=true:=Yp.1 (show piD.all vz=true by decide) _ (List.getElem_mem j)
 unfold vz at h
 rw[Bool.and_eq_true]at h
 have h1:=of_decide_eq_true h.1
 have u:=of_decide_eq_true h.2
 refine⟨piD[k+1].toNat-48,by omega,?_⟩
 unfold piN
 rw[e,qef]
theorem qpA {k:Nat} (j:k<=29):Rat.divInt (piN k) (tp k)<=Rat.divInt (piN (k+1)) (tp (k+1))/\Rat.divInt ((piN (k+1):Int)+1) (tp (k+1))<=Rat.divInt ((piN k:Int)+1) (tp k):=by
 obtain⟨d,h1,h⟩:=qoI j
 have e:tp (k+1)=tp k*10:=(qm3 k 1).symm
 have hp:=qeS k
 have hd:(d:Int)*tp k<=9*tp k:=Int.mul_le_mul_of_nonneg_right (by omega) (by omega)
 have u:0<=(d:Int)*tp k:=Yv (by omega) (by omega)
 rw[qkg,qkg,e,h]
 have c1:((piN k*10+d:Nat):Int)=(piN k:Int)*10+d:=by omega
 rw[c1]
 constructor
 ·have:((piN k:Int)*10+d)*tp k=(piN k:Int)*(tp k*10)+d*tp k:=by grind
  omega
 have a1:((piN k:Int)*10+d+1)*tp k=(piN k:Int)*(tp k*10)+d*tp k+tp k:=by grind
 have a2:((piN k:Int)+1)*(tp k*10)=(piN k:Int)*(tp k*10)+10*tp k:=by grind
 omega
theorem qeO {N:Nat} (hN:600000<N) {p p' q u:Rat} (hp:Sml p 600) (h:Sml p' 600) (hq:Sml q 600) (j:Sml u 600) (h1:q<=p) (h2:p'<=u):jS N ⟨T p,T p'⟩ ⟨T q,T u⟩=some true:=by
 unfold jS
 simp only
 rw[qex hN (k:=600) (by omega) (by omega) hq hp,ZB,if_pos (qfP.2 h1),qex hN (k:=600) (by omega) (by omega) h j,ZB,decide_eq_true (qfP.2 h2),ZB]
end Go.Av
end
section
namespace Go.Av
end Go.Av
end
section
namespace Go.Av
theorem ql8 {q:Rat} {n z:Int} (h:q*(n:Rat)=(z:Rat)):(q.den:Int)∣n:=by
 have j:=qgt q
 have u:q.num*n=z*(q.den:Int):=by
  rw[<-Rat.intCast_inj,Rat.intCast_mul,Rat.intCast_mul,<-j,<-h]
  grind
 refine qjQ (a:=q.num) ⟨z,by rw[u,Int.mul_comm]⟩ ?_
 have:=q.reduced
 rw[Int.gcd,Int.natAbs_natCast,Nat.gcd_comm]
 exact this
theorem qd3 (r:Rat) (c:Int):(r+(c:Rat)).den=r.den:=by
 have j:(r+(c:Rat))*((r.den:Int):Rat)=((r.num+c*(r.den:Int):Int):Rat):=by
  rw[Rat.intCast_add,Rat.intCast_mul,<-qgt r]
  grind
 have h:r*(((r+(c:Rat)).den:Int):Rat)=(((r+(c:Rat)).num-c*((r+(c:Rat)).den:Int):Int):Rat):=by
  rw[Rat.intCast_sub,Rat.intCast_mul,<-qgt (r+(c:Rat))]
  grind
 exact Nat.dvd_antisymm (Int.ofNat_dvd.1 (ql8 j)) (Int.ofNat_dvd.1 (ql8 h))
theorem qmB.move {x r:Rat} {m:Nat} (h:qmB x m r) (c:Int):qmB (x+(c:Rat)) m (r+(c:Rat)):=by
 refine⟨by rw[qd3];exact h.1,fun y hy=>?_⟩
 have j:(y+((-c:Int):Rat)).den<=m:=by rw[qd3];exact hy
 have k:=h.2 _ j
 unfold le3 at*
 rw[qd3]at k⊢
 have e1:x+(c:Rat)-(r+(c:Rat))=x-r:=by grind
 have e2:x+(c:Rat)-y=x-(y+((-c:Int):Rat)):=by
  rw[Rat.intCast_neg]
  grind
 rw[e1,e2]
 rcases k with k|⟨u,k|⟨k2,k3⟩⟩
 ·exact .inl k
 ·exact .inr ⟨u,.inl k⟩
 refine .inr ⟨u,.inr ⟨k2,?_⟩⟩
 rw[Rat.intCast_neg]at k3
 grind
end Go.Av
end
section
namespace Go.Av
def loP (i:Nat):Rat:=Rat.divInt (piN i) (tp i)
def hiP (i:Nat):Rat:=Rat.divInt ((piN i:Int)+1) (tp i)
theorem qgy (i:Nat):0<loP i:=by
 have h0:0<piN i:=qeo (qkP i) (by
  rw[show piD=51::piD.drop 1 from rfl,List.take_succ_cons]
  intro c
  injection c with c _
  exact absurd c (by decide))
 have j:=qhE (piN i:Int) i
 have u:(0:Rat)<((tp i:Int):Rat):=Rat.intCast_pos.2 (qeS i)
 have h:(0:Rat)<(((piN i:Nat):Int):Rat):=Rat.intCast_pos.2 (by omega)
 unfold loP
 rw[<-j]at h
 exact(Rat.mul_pos_iff_of_pos_right u).1 h
theorem qgK (i:Nat):loP i<hiP i:=by
 have u:=qhE (piN i:Int) i
 have h:=qhE ((piN i:Int)+1) i
 have j:(0:Rat)<((tp i:Int):Rat):=Rat.intCast_pos.2 (qeS i)
 unfold loP hiP
 rw[<-Rat.mul_lt_mul_right j,u,h,Rat.intCast_lt_intCast]
 omega
theorem qfF {x y:Rat} (j:Sml x 63) (h:Sml y 63):Sml (x*y) 126:=(qcr (n:=7) (by omega) j h).mono (by omega)
theorem qep {N:Nat} (hN:600000<N) {c q u:Rat} (hc:0<=c) (sc:Sml c 60) (hq:Sml q 60) (j:Sml u 60) (h:q<=u):vM N ⟨T c,T c⟩ ⟨T q,T u⟩=some (⟨T (c*q),T (c*u)⟩,0):=by
 rw[qo6 hN sc sc hq j (qcq (sc.mono (by omega))) (qcq (sc.mono (by omega))) (qcq (hq.mono (by omega))) (qcq (j.mono (by omega))) Rat.le_refl h,qk3 hc h]
theorem qoB {N:Nat} (hN:600000<N) {p p' q q':Rat} (hp:Sml p 126) (u:Sml p' 126) (hq:Sml q 126) (j:Sml q' 126) (hpp:p<=p') (hqq:q<=q') (h0:0<q):qbA N ⟨T p,T p'⟩ ⟨T q,T q'⟩=some (qgL (fun x y=>x/y) p p' q q',0):=by
 have l1:=qbb hp
 have l2:=qbb u
 have l3:=qbb hq
 have l4:=qbb j
 have n0:q≠0:=Rat.ne_of_gt h0
 have n1:q'≠0:=Rat.ne_of_gt (by grind)
 have S: ∀{a b:Rat},Sml a 126->Sml b 126->b≠0->Sml (a/b) 600:=fun {a b} h k z=>by
  rw[Rat.div_def]
  exact(qcr (n:=14) (by omega) h (qiZ k z)).mono (by omega)
 obtain⟨f,e3,i3⟩:=qes hN (hq.mono (show 126<=9000 by omega))
 obtain⟨g,e4,i4⟩:=qes hN (j.mono (show 126<=9000 by omega))
 unfold qbA
 rw[xI hN (by simp only;omega) (by simp only;omega),qdf (qcq (hp.mono (by omega))) (qcq (u.mono (by omega))),if_neg (Rat.not_lt.2 hpp),ZB,xI hN (by simp only;omega) (by simp only;omega),qdf (qcq (hq.mono (by omega))) (qcq (j.mono (by omega))),if_neg (Rat.not_lt.2 hqq),ZB,qfh (by omega),if_pos rfl,ZB,if_neg (by simp)]
 simp only
 rw[e3,ZB,qog i3,ZB,if_neg (fun c=>absurd (qfw.1 c) (by rw[Rat.not_le];exact h0)),ZB,if_neg (by simp),qpf hN (hp.mono (by omega)) (u.mono (by omega)) (hq.mono (by omega)) (j.mono (by omega)) n0 n1 (by simp only[List.mem_cons,List.not_mem_nil,or_false,forall_eq_or_imp,forall_eq];exact⟨S hp hq n0,S hp j n1,S u hq n0,S u j n1⟩)]
 rfl
def loR (a:Rat) (i:Nat):Rat:=mnL (2*a*loP i/(2*loP i)) [2*a*loP i/(2*hiP i),2*a*hiP i/(2*loP i),2*a*hiP i/(2*hiP i)]
def hiR (a:Rat) (i:Nat):Rat:=mxL (2*a*loP i/(2*loP i)) [2*a*loP i/(2*hiP i),2*a*hiP i/(2*loP i),2*a*hiP i/(2*hiP i)]
theorem qps (a:Rat) (i:Nat):loR a i<=a/\a<=hiR a i:=by
 have h:=qgy i
 have e:2*a*loP i/(2*loP i)=a:=by
  rw[show 2*a*loP i=a*(2*loP i)by grind]
  exact Rat.mul_div_cancel (by grind)
 constructor
 ·have:=qfH [2*a*loP i/(2*hiP i),2*a*hiP i/(2*loP i),2*a*hiP i/(2*hiP i)] (2*a*loP i/(2*loP i)) (2*a*loP i/(2*loP i)) (by simp)
  unfold loR
  rw[e]at this⊢
  exact this
 have:=qfY [2*a*loP i/(2*hiP i),2*a*hiP i/(2*loP i),2*a*hiP i/(2*hiP i)] (2*a*loP i/(2*loP i)) (2*a*loP i/(2*loP i)) (by simp)
 unfold hiR
 rw[e]at this⊢
 exact this
theorem qm5 {i:Nat} (hi:i<=29):loP i<=loP (i+1)/\hiP (i+1)<=hiP i:=qpA hi
theorem qmZ {a:Rat} (ha:0<=a) {i:Nat} (hi:i<=29):loR a i<=loR a (i+1)/\hiR a (i+1)<=hiR a i:=by
 obtain⟨n1,n2⟩:=qm5 hi
 have p0:=qgy i
 have l1:=qgK (i+1)
 have a2:0<=2*a:=by grind
 have j:=Rat.mul_le_mul_of_nonneg_left n1 a2
 have u:=Rat.mul_le_mul_of_nonneg_left n2 a2
 have w3:=Rat.mul_le_mul_of_nonneg_left (Rat.le_of_lt l1) a2
 have I: ∀{x y:Rat},2*a*loP i<=x->x<=2*a*hiP i->2*loP i<=y->y<=2*hiP i->loR a i<=x/y/\x/y<=hiR a i:=fun h1 h2 h3 h4=>qoh (qp8 h1 h2 (by grind) h3 h4) (qqE h1 h2 (by grind) h3 h4)
 have h: ∀z∈[2*a*loP (i+1)/(2*loP (i+1)),2*a*loP (i+1)/(2*hiP (i+1)),2*a*hiP (i+1)/(2*loP (i+1)),2*a*hiP (i+1)/(2*hiP (i+1))],loR a i<=z/\z<=hiR a i:=by
  simp only[List.mem_cons,List.not_mem_nil,or_false,forall_eq_or_imp,forall_eq]
  exact⟨I j (Rat.le_trans w3 u) (by grind) (by grind),I j (Rat.le_trans w3 u) (by grind) (by grind),I (Rat.le_trans j w3) u (by grind) (by grind),I (Rat.le_trans j w3) u (by grind) (by grind)⟩
 exact⟨qci (P:=fun z=>loR a i<=z) fun z hz=>(h z hz).1,qcv (P:=fun z=>z<=hiR a i) fun z hz=>(h z hz).2⟩
end Go.Av
end
section
namespace Go.Av
theorem qnf {N:Nat} (u:600000<N) {k:Nat} (j:1<=k) (h:k<=30):qbP N (k:Int)=some (⟨T (loP k),T (hiP k)⟩,0)/\Sml (loP k) 60/\Sml (hiP k) 60:=qp6 u j h
theorem qfj {N:Nat} (hN:600000<N) {l h:Rat} (u:Sml l 600) (j:Sml h 600) (hl:l<=h):zZ N ⟨T l,T h⟩=some 0:=by
 have l1:=qbb u
 have l2:=qbb j
 rw[qia hN (by simp only;omega) (by simp only;omega),qdf (qcq u) (qcq j),if_neg (Rat.not_lt.2 hl)]
def Dcd (a b:Rat) (i:Nat) (n:Int):Prop:=n=2\/(n= -1/\a*a*hiP i<b*b*loP i)\/(n=1/\b*b*hiP i<a*a*loP i)
theorem Dcd.next {a b:Rat} (j:0<=a) (u:0<=b) {i:Nat} (hi:i<=29) {n:Int} (h:Dcd a b i n):Dcd a b (i+1) n:=by
 obtain⟨n1,n2⟩:=qm5 hi
 have a1:=Rat.mul_le_mul_of_nonneg_left n1 (Rat.mul_nonneg j j)
 have a2:=Rat.mul_le_mul_of_nonneg_left n2 (Rat.mul_nonneg j j)
 have b1:=Rat.mul_le_mul_of_nonneg_left n1 (Rat.mul_nonneg u u)
 have b2:=Rat.mul_le_mul_of_nonneg_left n2 (Rat.mul_nonneg u u)
 rcases h with h|⟨h,k⟩|⟨h,k⟩
 ·exact .inl h
 ·exact .inr (.inl ⟨h,by grind⟩)
 exact .inr (.inr ⟨h,by grind⟩)
theorem qht {a b x y:Rat} (u:0<=a) (hb:0<=b) (hx:0<x) (j:x<=y) (h:a*a*y<b*b*x):a<b:=by
 rw[<-Rat.not_le]
 intro c
 have c1:=Rat.mul_le_mul_of_nonneg_left c hb
 have c2:=Rat.mul_le_mul_of_nonneg_right c u
 have c3:b*b<=a*a:=by grind
 have c4:=Rat.mul_le_mul_of_nonneg_right c3 (Rat.le_of_lt hx)
 have c5:=Rat.mul_le_mul_of_nonneg_left j (Rat.mul_nonneg u u)
 grind
theorem T_2':([50]:Str)=T (2:Rat):=T_2
theorem qhZ {N:Nat} (u:600000<N) {a b:Rat} (ha:0<a) (hb:0<b) (sa:Sml a 4) (sb:Sml b 4) {k i:Nat} (hk1:1<=k) (h1:1<=i) (h2:i<=29) (hki:k<=i) {w w' s s' r r':Str} {n:Int}
 (hst:k<i->w=T (2*a*loP (i-1))/\w'=T (2*a*hiP (i-1))/\s=T (a*a*loP (i-1))/\s'=T (a*a*hiP (i-1))/\r=T (loR a (i-1))/\r'=T (hiR a (i-1))) (hd:Dcd a b i n) {K:Nat} (hik:i<=k+2):
 ∃n',Dcd a b i n'/\qA N (T a) (T b) (k:Int) (K+1) w w' s s' r r' n (i:Int)=qA N (T a) (T b) (k:Int) K (T (2*a*loP i)) (T (2*a*hiP i)) (T (a*a*loP i)) (T (a*a*hiP i)) (T (loR a i)) (T (hiR a i)) n' ((i+1:Nat):Int):=by
 obtain⟨p1,p2,p3⟩:=qnf u h1 (by omega:i<=30)
 have pos:=qgy i
 have lt:=qgK i
 have le:=Rat.le_of_lt lt
 have hpos:0<hiP i:=by grind
 have s2:Sml (2:Rat) 4:=qp3 (z:=2) (by decide) (by decide) (by decide)
 have sa2:Sml (2*a) 18:=(qcr (n:=1) (by omega) (s2.mono (by omega)) (sa.mono (by omega))).mono (by omega)
 have saa:Sml (a*a) 18:=(qcr (n:=1) (by omega) (sa.mono (by omega)) (sa.mono (by omega))).mono (by omega)
 have sbb:Sml (b*b) 18:=(qcr (n:=1) (by omega) (sb.mono (by omega)) (sb.mono (by omega))).mono (by omega)
 have ha2:0<=2*a:=by grind
 have haa:=Rat.mul_nonneg (Rat.le_of_lt ha) (Rat.le_of_lt ha)
 have hbb:=Rat.mul_nonneg (Rat.le_of_lt hb) (Rat.le_of_lt hb)
 have P: ∀{c:Rat},Sml c 18->Sml (c*loP i) 126/\Sml (c*hiP i) 126:=fun {c} h=>⟨qfF (h.mono (by omega)) (p2.mono (by omega)),qfF (h.mono (by omega)) (p3.mono (by omega))⟩
 obtain⟨w1,w2⟩:=P sa2
 obtain⟨z1,z2⟩:=P saa
 obtain⟨o1,o2⟩:=P sbb
 obtain⟨t1,t2⟩:=P (s2.mono (show 4<=18 by omega))
 have wle:=Rat.mul_le_mul_of_nonneg_left le ha2
 have zle:=Rat.mul_le_mul_of_nonneg_left le haa
 have ole:=Rat.mul_le_mul_of_nonneg_left le hbb
 have tle:=Rat.mul_le_mul_of_nonneg_left le (show(0:Rat)<=2 by decide)
 have t0:0<2*loP i:=by grind
 have n0:2*loP i≠0:=Rat.ne_of_gt t0
 have n1:2*hiP i≠0:=Rat.ne_of_gt (by grind)
 have lR: ∀x∈[2*a*loP i/(2*loP i),2*a*loP i/(2*hiP i),2*a*hiP i/(2*loP i),2*a*hiP i/(2*hiP i)],Sml x 600:=by
  have S: ∀{a b:Rat},Sml a 126->Sml b 126->b≠0->Sml (a/b) 600:=fun {a b} h k z=>by
   rw[Rat.div_def]
   exact(qcr (n:=14) (by omega) h (qiZ k z)).mono (by omega)
  simp only[List.mem_cons,List.not_mem_nil,or_false,forall_eq_or_imp,forall_eq]
  exact⟨S w1 t1 n0,S w1 t2 n1,S w2 t1 n0,S w2 t2 n1⟩
 have r1:Sml (loR a i) 600:=qci lR
 have r2:Sml (hiR a i) 600:=qcv lR
 have rle:loR a i<=hiR a i:=qnW _ _
 have rh:=qps a i
 have hull:qgL (fun x y=>x/y) (2*a*loP i) (2*a*hiP i) (2*loP i) (2*hiP i)=⟨T (loR a i),T (hiR a i)⟩:=rfl
 rw[qA,qh (n:=(k:Int)+2) (by omega) (by omega),if_pos (by omega),p1,ZB,T_2',qi3 u (k:=4) (by omega) (by omega) s2 sa,ZB]
 unfold xV
 simp only[ZB]
 rw[qep u ha2 (sa2.mono (by omega)) p2 p3 le,ZB,qi3 u (k:=4) (by omega) (by omega) sa sa,ZB,qep u haa (saa.mono (by omega)) p2 p3 le,ZB,qep u (by decide) (s2.mono (by omega)) p2 p3 le,ZB]
 simp only
 rw[qoB u w1 w2 t1 t2 wle tle t0,hull,ZB,qi3 u (k:=4) (by omega) (by omega) sb sb,ZB,qep u hbb (sbb.mono (by omega)) p2 p3 le,ZB]
 simp only
 rw[if_neg (show¬(!decide (w64 (w64 (w64 (w64 (w64 (0+0)+0)+0)+0)+0)=0))=true by decide),qfj u (w1.mono (by omega)) (w2.mono (by omega)) wle,ZB,qfj u (z1.mono (by omega)) (z2.mono (by omega)) zle,ZB,qfj u r1 r2 rle,ZB,qfj u (o1.mono (by omega)) (o2.mono (by omega)) ole,ZB,if_neg (show¬(!decide (w64 (w64 (w64 (0+0)+0)+0)=0))=true by decide),qpy u (k:=600) (by omega) (by omega) r1 r2 (sa.mono (by omega)),ZB,decide_eq_true rh,ZB,if_neg (by decide)]
 have W:(if(i:Int)>(k:Int)then(jS N ⟨T (2*a*loP i),T (2*a*hiP i)⟩ ⟨w,w'⟩).bind fun r49=>if(!r49)=true then some true else(jS N ⟨T (a*a*loP i),T (a*a*hiP i)⟩ ⟨s,s'⟩).bind fun r51=>if(!r51)=true then some true else(jS N ⟨T (loR a i),T (hiR a i)⟩ ⟨r,r'⟩).bind fun r53=>some (!r53)else some false:Option Bool)=some false:=by
  by_cases c:k<i
  ·obtain⟨rfl,rfl,rfl,rfl,rfl,rfl⟩:=hst c
   obtain⟨j,rfl⟩: ∃j,i=j+1:=⟨i-1,by omega⟩
   simp only[Nat.add_sub_cancel]
   by_cases hj:1<=j
   ·obtain⟨m1,m2⟩:=qm5 (i:=j) (by omega)
    obtain⟨m3,m4⟩:=qmZ (Rat.le_of_lt ha) (i:=j) (by omega)
    obtain⟨_,q2,q3⟩:=qnf u hj (by omega:j<=30)
    have Q: ∀{c:Rat},Sml c 18->Sml (c*loP j) 126/\Sml (c*hiP j) 126:=fun {c} h=>⟨qfF (h.mono (by omega)) (q2.mono (by omega)),qfF (h.mono (by omega)) (q3.mono (by omega))⟩
    obtain⟨w3,w4⟩:=Q sa2
    obtain⟨z3,z4⟩:=Q saa
    obtain⟨t3,t4⟩:=Q (s2.mono (show 4<=18 by omega))
    have pj:=qgy j
    have lj:=qgK j
    have lRj: ∀x∈[2*a*loP j/(2*loP j),2*a*loP j/(2*hiP j),2*a*hiP j/(2*loP j),2*a*hiP j/(2*hiP j)],Sml x 600:=by
     have S: ∀{a b:Rat},Sml a 126->Sml b 126->b≠0->Sml (a/b) 600:=fun {a b} h k z=>by
      rw[Rat.div_def]
      exact(qcr (n:=14) (by omega) h (qiZ k z)).mono (by omega)
     have y0:2*loP j≠0:=Rat.ne_of_gt (by grind)
     have y1:2*hiP j≠0:=Rat.ne_of_gt (by grind)
     simp only[List.mem_cons,List.not_mem_nil,or_false,forall_eq_or_imp,forall_eq]
     exact⟨S w3 t3 y0,S w3 t4 y1,S w4 t3 y0,S w4 t4 y1⟩
    have r3:Sml (loR a j) 600:=qci lRj
    have r4:Sml (hiR a j) 600:=qcv lRj
    rw[if_pos (by omega),qeO u (w1.mono (by omega)) (w2.mono (by omega)) (w3.mono (by omega)) (w4.mono (by omega)) (Rat.mul_le_mul_of_nonneg_left m1 ha2) (Rat.mul_le_mul_of_nonneg_left m2 ha2),ZB,if_neg (by decide),qeO u (z1.mono (by omega)) (z2.mono (by omega)) (z3.mono (by omega)) (z4.mono (by omega)) (Rat.mul_le_mul_of_nonneg_left m1 haa) (Rat.mul_le_mul_of_nonneg_left m2 haa),ZB,if_neg (by decide),qeO u r1 r2 r3 r4 m3 m4,ZB]
    rfl
   omega
  rw[if_neg (by omega)]
 have ne: ¬(a*a*loP i=b*b*loP i/\a*a*hiP i=b*b*hiP i/\a*a*loP i=a*a*hiP i):=by
  rintro⟨_,_,h⟩
  have:=Rat.mul_lt_mul_of_pos_left lt (Rat.mul_pos ha ha)
  rw[h]at this
  exact Rat.lt_irrefl this
 rw[W,ZB,if_neg (by decide),qkn u (z1.mono (by omega)) (z2.mono (by omega)) (o1.mono (by omega)) (o2.mono (by omega)) zle ole,if_neg ne,ZB]
 have rc:=qex u (k:=4) (by omega) (by omega) sa sb
 rw[qpi]at rc
 by_cases d1:a*a*hiP i<b*b*loP i
 ·have hab:=qht (Rat.le_of_lt ha) (Rat.le_of_lt hb) pos le d1
  have hn: ¬n<2\/n= -1:=by
   rcases hd with h|⟨h,_⟩|⟨h,k2⟩
   ·left;omega
   ·exact .inr h
   exfalso
   have:=qht (Rat.le_of_lt hb) (Rat.le_of_lt ha) pos le k2
   grind
  refine⟨-1,.inr (.inl ⟨rfl,d1⟩),?_⟩
  rw[if_pos d1,rc,if_pos hab,zq (by omega)]
  rcases hn with hn|hn<;>simp[hn]
 rw[if_neg d1]
 by_cases d2:b*b*hiP i<a*a*loP i
 ·have hab:=qht (Rat.le_of_lt hb) (Rat.le_of_lt ha) pos le d2
  have hnab: ¬a<b:=by grind
  have hn: ¬n<2\/n=1:=by
   rcases hd with h|⟨h,k2⟩|⟨h,_⟩
   ·left;omega
   ·exact absurd k2 d1
   exact .inr h
  refine⟨1,.inr (.inr ⟨rfl,d2⟩),?_⟩
  rw[if_pos d2,rc,if_neg hnab,if_pos hab,zq (by omega)]
  rcases hn with hn|hn<;>simp[hn]
 have hn:n=2:=by
  rcases hd with h|⟨_,k2⟩|⟨_,k2⟩
  ·exact h
  ·exact absurd k2 d1
  exact absurd k2 d2
 subst hn
 refine⟨2,.inl rfl,?_⟩
 rw[if_neg d2,zq (by omega)]
 simp
theorem qfD {N:Nat} (h:600000<N) (s t:Str) (k:Int):yn N s t k=some true:=by
 obtain⟨u,hu,fu⟩:=qnx h (s:=s) (d:=4) (by omega) (by omega)
 obtain⟨v,hv,fv⟩:=qnx h (s:=t) (d:=4) (by omega) (by omega)
 unfold yn
 rw[show(4:Int)=((4:Nat):Int)from rfl,hu,ZB]
 cases u with
 |false=>rw[if_pos (show(!false)=true from rfl),ZB,if_pos rfl];rfl
 |true=>
  rw[if_neg (by simp),hv,ZB]
  cases v with
  |false=>rw[if_pos (show(!false)=true from rfl),ZB,if_pos rfl];rfl
  |true=>
   obtain⟨a,rfl,sa,ca⟩:=fu rfl
   obtain⟨b,rfl,sb,cb⟩:=fv rfl
   rw[if_neg (by simp),qfQ,ZB]
   by_cases h1:a<=0
   ·rw[if_pos (qfw.2 h1),ZB,if_pos rfl];rfl
   rw[if_neg (fun c=>h1 (qfw.1 c)),qfQ,ZB]
   by_cases h2:b<=0
   ·rw[if_pos (qfw.2 h2),ZB,if_pos rfl];rfl
   rw[if_neg (fun c=>h2 (qfw.1 c))]
   by_cases h3:k<1
   ·rw[if_pos h3,ZB,if_pos rfl];rfl
   rw[if_neg h3]
   by_cases h4:k>20
   ·rw[decide_eq_true h4,ZB,if_pos rfl];rfl
   rw[decide_eq_false h4,ZB,if_neg (by simp)]
   obtain⟨m,rfl⟩: ∃m:Nat,k=(m:Int):=⟨k.toNat,by omega⟩
   have ha:0<a:=Rat.not_le.1 h1
   have hb:0<b:=Rat.not_le.1 h2
   have j:=Rat.le_of_lt ha
   have a0:=Rat.le_of_lt hb
   obtain⟨K,hK⟩: ∃K,N=K+1+1+1+1:=⟨N-4,by omega⟩
   obtain⟨n1,d1,e1⟩:=qhZ h ha hb sa sb (k:=m) (i:=m) (by omega) (by omega) (by omega) (Nat.le_refl _) (w:=[]) (w':=[]) (s:=[]) (s':=[]) (r:=[]) (r':=[]) (n:=2) (fun c=>absurd c (Nat.lt_irrefl _)) (.inl rfl) (K:=K+1+1+1) (by omega)
   obtain⟨n2,d2,e2⟩:=qhZ h ha hb sa sb (k:=m) (i:=m+1) (by omega) (by omega) (by omega) (by omega) (w:=T (2*a*loP m)) (w':=T (2*a*hiP m)) (s:=T (a*a*loP m)) (s':=T (a*a*hiP m)) (r:=T (loR a m)) (r':=T (hiR a m)) (n:=n1) (fun _=>⟨rfl,rfl,rfl,rfl,rfl,rfl⟩) (d1.next j a0 (by omega)) (K:=K+1+1) (by omega)
   obtain⟨n3,d3,e3⟩:=qhZ h ha hb sa sb (k:=m) (i:=m+2) (by omega) (by omega) (by omega) (by omega) (w:=T (2*a*loP (m+1))) (w':=T (2*a*hiP (m+1))) (s:=T (a*a*loP (m+1))) (s':=T (a*a*hiP (m+1))) (r:=T (loR a (m+1))) (r':=T (hiR a (m+1))) (n:=n2) (fun _=>⟨rfl,rfl,rfl,rfl,rfl,rfl⟩) (d2.next j a0 (by omega)) (K:=K+1) (by omega)
   have e:qA N (T a) (T b) (m:Int) N [] [] [] [] [] [] 2 (m:Int)=some (.inl ()):=by
    rw[show qA N (T a) (T b) (m:Int) N [] [] [] [] [] [] 2 (m:Int)=qA N (T a) (T b) (m:Int) (K+1+1+1+1) [] [] [] [] [] [] 2 (m:Int)by rw[<-hK],e1,e2,e3,qA,qh (n:=(m:Int)+2) (by omega) (by omega),if_neg (by omega)]
   rw[e,ZB]
   rfl
end Go.Av
end
