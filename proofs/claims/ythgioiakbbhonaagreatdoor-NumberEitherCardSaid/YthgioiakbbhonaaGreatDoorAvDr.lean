/-
  Operations whose order is open: run in the order of the text, each on the blocks that it may look at; if operations that the edges leave
  unordered share no temporary and turn no block of each other, every order does the same.
-/
import Derived.Test.YthgioiakbbhonaaGreatDoorAvEv
set_option linter.unusedSectionVars false
noncomputable section
namespace Go.Av
section
variable [Glob]
open Go.RowKit
def Dom (nu:Nat->Option Nat) (b:Nat):Prop:=nu b≠none
def WF (G:Nat->Prop) (a:AV):Prop:= ∃F nu w v,(∀b,Dom nu b->G b)/\R F nu w a v
open Classical in
noncomputable def restr (nu:Nat->Option Nat) (G:Nat->Prop):Nat->Option Nat:=λb=>if G b then nu b else none
theorem xh {nu:Nat->Option Nat} {G:Nat->Prop} {b r:Nat} (h:restr nu G b=some r):nu b=some r/\G b:=by
 unfold restr at h;split at h
 ·rename_i hg;exact⟨h,hg⟩
 cases h
theorem qbU {nu:Nat->Option Nat} {G:Nat->Prop} {b r:Nat} (h:nu b=some r) (hg:G b):restr nu G b=some r:=by
 unfold restr;rw[ae hg];exact h
section
variable {F:Nat->Prop} {nu:Nat->Option Nat} {w:World}
theorem WF.mono {G G':Nat->Prop} {a:AV} (h:WF G a) (hg: ∀b,G b->G' b):WF G' a:=by
 obtain⟨F,nu,w,v,h1,h2⟩:=h;exact⟨F,nu,w,v,λb hb=>hg b (h1 b hb),h2⟩
theorem WF.list {G:Nat->Prop} {nu:Nat->Option Nat} {F:Nat->Prop} {w:World} (hd: ∀b,Dom nu b->G b) {cs:List AV} {vs:List Value} (hl:vs.length=cs.length) (hR: ∀(j:Nat) (a:AV) (v:Value),cs[j]? =some a->vs[j]? =some v->R F nu w a v):
 ∀(j:Nat) (a:AV),cs[j]? =some a->WF G a:=by
 intro j a ha;have hlt:j<cs.length:=(Yb.1 ha).1;exact⟨F,nu,w,vs[j]'(by omega),hd,hR j a _ ha (Ya (by omega))⟩
theorem R.restr {G:Nat->Prop} {a:AV} {v:Value} (h:R F nu w a v) (hw:WF G a):R F (restr nu G) w a v:=by
 induction h with
 |undef v=>exact .undef v
 |anyb b=>exact .anyb b
 |bool b=>exact .bool b
 |int k n=>exact .int k n
 |str s l h=>exact .str s l h
 |nilptr=>exact .nilptr
 |ptr b off rb h=>
  obtain⟨F0,n0,w0,v0,hd,hr⟩:=hw
  cases hr with
  |ptr _ _ r0 h0=>exact .ptr b off rb (qbU h (hd b (by simp[Dom,h0])))
 |fptr cs off ad vs hF hl hc hR ih=>
  obtain⟨F0,n0,w0,v0,hd,hr⟩:=hw
  cases hr with
  |fptr _ _ ad0 vs0 hF0 hl0 hc0 hR0=>exact .fptr cs off ad vs hF hl hc (λj a v ha hv=>ih j a v ha hv (WF.list hd hl0 hR0 j a ha))
 |nilslice=>exact .nilslice
 |slice b off n cap esz rb h hc=>
  obtain⟨F0,n0,w0,v0,hd,hr⟩:=hw
  cases hr with
  |slice _ _ _ _ _ r0 h0 hc0=>exact .slice b off n cap esz rb (qbU h (hd b (by simp[Dom,h0]))) hc
 |oslice b n esz rb cap e m h hc hs hm hx=>
  obtain⟨F0,n0,w0,v0,hd,hr⟩:=hw
  cases hr with
  |oslice _ _ _ r0 cap0 e0 m0 h0 hc0 hs0 hm0=>exact .oslice b n esz rb cap e m (qbU h (hd b (by simp[Dom,h0]))) hc hs hm hx
 |gslice0 b esz p=>exact .gslice0 b esz p
 |gslice b n esz rb cap e m hp h hc hs hm hx=>
  obtain⟨F0,n0,w0,v0,hd,hr⟩:=hw
  cases hr with
  |gslice0=>exact absurd hp (Nat.lt_irrefl _)
  |gslice _ _ _ r0 cap0 e0 m0 hp0 h0 hc0 hs0 hm0=>exact .gslice b n esz rb cap e m hp (qbU h (hd b (by simp[Dom,h0]))) hc hs hm hx
 |wslice b off n esz rb cap h hc=>
  obtain⟨F0,n0,w0,v0,hd,hr⟩:=hw
  cases hr with
  |wslice _ _ _ _ r0 cap0 h0 hc0=>exact .wslice b off n esz rb cap (qbU h (hd b (by simp[Dom,h0]))) hc
 |fslice0 A cap=>exact .fslice0 A cap
 |fslice n cs ad cap vs hn hF hl hc hR ih=>
  obtain⟨F0,n0,w0,v0,hd,hr⟩:=hw
  cases hr with
  |fslice0=>exact .fslice 0 [] ad cap vs hn hF hl hc (λj a v ha _=>by simp at ha)
  |fslice _ _ ad0 cap0 vs0 hn0 hF0 hl0 hc0 hR0=>exact .fslice n cs ad cap vs hn hF hl hc (λj a v ha hv=>ih j a v ha hv (WF.list hd hl0 hR0 j a ha))
 |nilmap=>exact .nilmap
 |map b rb h=>
  obtain⟨F0,n0,w0,v0,hd,hr⟩:=hw
  cases hr with
  |map _ r0 h0=>exact .map b rb (qbU h (hd b (by simp[Dom,h0])))
 |fmap ks vs rb es clock hF hh hk hv hRk hRv ihk ihv=>
  obtain⟨F0,n0,w0,v0,hd,hr⟩:=hw
  cases hr with
  |fmap _ _ rb0 es0 c0 hF0 hh0 hk0 hv0 hRk0 hRv0=>
   refine .fmap ks vs rb es clock hF hh hk hv (λj a e ha he=>ihk j a e ha he ?_) (λj a e ha he=>ihv j a e ha he ?_)
   ·have hlt:j<ks.length:=(Yb.1 ha).1;exact⟨F0,n0,w0,_,hd,hRk0 j a _ ha (Yi (by omega))⟩
   have hlt:j<vs.length:=(Yb.1 ha).1;exact⟨F0,n0,w0,_,hd,hRv0 j a _ ha (Yi (by omega))⟩
 |func fn fs cs vf vc h1 h2 hf hc ihf ihc=>
  obtain⟨F0,n0,w0,v0,hd,hr⟩:=hw
  cases hr with
  |func _ _ _ vf0 vc0 g1 g2 hf0 hc0=>
   refine .func fn fs cs vf vc h1 h2 (λj a v ha hv=>ihf j a v ha hv ?_) (λj a v ha hv=>ihc j a v ha hv ?_)
   ·have hlt:j<fs.length:=(Yb.1 ha).1;exact⟨F0,n0,w0,_,hd,hf0 j a _ ha (Yi (by omega))⟩
   have hlt:j<cs.length:=(Yb.1 ha).1;exact⟨F0,n0,w0,_,hd,hc0 j a _ ha (Yi (by omega))⟩
 |nilfunc=>exact .nilfunc
 |yld b rb h=>
  obtain⟨F0,n0,w0,v0,hd,hr⟩:=hw
  cases hr with
  |yld _ r0 h0=>exact .yld b rb (qbU h (hd b (by simp[Dom,h0])))
 |iface t a v h ih=>
  obtain⟨F0,n0,w0,v0,hd,hr⟩:=hw
  cases hr with
  |iface _ _ v1 h1=>exact .iface t a v (ih ⟨F0,n0,w0,v1,hd,h1⟩)
 |niliface=>exact .niliface
 |agg cs vs hl hR ih=>
  obtain⟨F0,n0,w0,v0,hd,hr⟩:=hw
  cases hr with
  |agg _ vs0 hl0 hR0=>
   refine .agg cs vs hl (λj a v ha hv=>ih j a v ha hv ?_);have hlt:j<cs.length:=(Yb.1 ha).1;exact⟨F0,n0,w0,_,hd,hR0 j a _ ha (Yi (by omega))⟩
 |tuple cs vs hl hR ih=>
  obtain⟨F0,n0,w0,v0,hd,hr⟩:=hw
  cases hr with
  |tuple _ vs0 hl0 hR0=>
   refine .tuple cs vs hl (λj a v ha hv=>ih j a v ha hv ?_);have hlt:j<cs.length:=(Yb.1 ha).1;exact⟨F0,n0,w0,_,hd,hR0 j a _ ha (Yi (by omega))⟩
def WFE (G:Nat->Prop):Ent->Prop
 | .av a=>WF G a
 | .own _ cs=> ∀(j:Nat) (a:AV),cs[j]? =some a->WF G a
def WFB (G:Nat->Prop):Blk->Prop
 | .cells cs=> ∀(j:Nat) (a:AV),cs[j]? =some a->WF G a
 | .frozen cs=> ∀(j:Nat) (a:AV),cs[j]? =some a->WF G a
 | .map ks vs=>(∀(j:Nat) (a:AV),ks[j]? =some a->WF G a)/\ ∀(j:Nat) (a:AV),vs[j]? =some a->WF G a
 | .loop _ _ fr _ _ _=> ∀(j:Nat),WF G (fr.get j)
 | .bld _ _ cs=> ∀(j:Nat) (a:AV),cs[j]? =some a->WF G a
 | .bag es=> ∀(j:Nat) (x:Ent),es[j]? =some x->WFE G x
 |_=>True
theorem RE.wf {G:Nat->Prop} (hd: ∀b,Dom nu b->G b) {x:Ent} {v:Value} (h:RE F nu w x v):WFE G x:=by
 cases x with
 |av a=>exact⟨F,nu,w,v,hd,h⟩
 |own k cs=>
  obtain⟨rfl,_⟩|⟨g,n,cap,vs,e,rfl,h0,h1,h2,h3,h4,h5,h6,h7⟩:=h
  ·intro j a ha;simp at ha
  intro j a ha;have hlt:j<cs.length:=(Yb.1 ha).1;have:=aN k h2;exact⟨F,nu,w,_,hd,h7 j a _ ha (Yi (by omega))⟩
theorem RE.restr {G:Nat->Prop} {x:Ent} {v:Value} (h:RE F nu w x v) (hw:WFE G x):RE F (restr nu G) w x v:=by
 cases x with
 |av a=>exact R.restr h hw
 |own k cs=>
  obtain h|⟨g,n,cap,vs,e,rfl,h0,h1,h2,h3,h4,h5,h6,h7⟩:=h
  ·exact .inl h
  exact .inr ⟨g,n,cap,vs,e,rfl,h0,h1,h2,h3,h4,h5,h6,λj a v ha hv=>(h7 j a v ha hv).restr (hw j a ha)⟩
theorem RB.wf {G:Nat->Prop} (hd: ∀b,Dom nu b->G b) {rb:Nat} {x:Blk} (h:RB F nu w rb x):WFB G x:=by
 cases x with
 |cells cs=>
  obtain⟨_,vs,e,_,hl,hR⟩:=h;intro j a ha;have hlt:j<cs.length:=(Yb.1 ha).1;exact⟨F,nu,w,_,hd,hR j a _ ha (Yi (by omega))⟩
 |frozen cs=>
  obtain⟨_,vs,e,fr,_,hl,hR⟩:=h;intro j a ha;have hlt:j<cs.length:=(Yb.1 ha).1;exact⟨F,nu,w,_,hd,hR j a _ ha (Yi (by omega))⟩
 |map ks xs=>
  obtain⟨_,es,c,_,h1,h2,h3,h4,_⟩:=h;refine⟨λj a ha=>?_,λj a ha=>?_⟩
  ·have hlt:j<ks.length:=(Yb.1 ha).1;exact⟨F,nu,w,_,hd,h3 j a _ ha (Yi (by omega))⟩
  have hlt:j<xs.length:=(Yb.1 ha).1;exact⟨F,nu,w,_,hd,h4 j a _ ha (Yi (by omega))⟩
 |loop st pend fr ps asg body=>
  obtain⟨_,fn,tmps,dd,_,hfr⟩:=h;intro j;exact⟨F,nu,w,_,hd,hfr.getD j⟩
 |bld T e cs=>
  obtain⟨_,vs,_,hl,hR,_⟩:=h;intro j a ha;have hlt:j<cs.length:=(Yb.1 ha).1;exact⟨F,nu,w,_,hd,hR j a _ ha (Yi (by omega))⟩
 |bag es=>
  obtain⟨_,vs,e,_,hl,hR,_⟩:=h;intro j x hx;have hlt:j<es.length:=(Yb.1 hx).1;exact(hR j x _ hx (Yi (by omega))).wf hd
 |_=>trivial
theorem RB.restr {G:Nat->Prop} {rb:Nat} {x:Blk} (h:RB F nu w rb x) (hw:WFB G x):RB F (restr nu G) w rb x:=by
 cases x with
 |dead=>trivial
 |cells cs=>
  obtain⟨h0,vs,e,h1,h2,h3⟩:=h;exact⟨h0,vs,e,h1,h2,λj a v ha hv=>(h3 j a v ha hv).restr (hw j a ha)⟩
 |frozen cs=>
  obtain⟨h0,vs,e,fr,h1,h2,h3⟩:=h;exact⟨h0,vs,e,fr,h1,h2,λj a v ha hv=>(h3 j a v ha hv).restr (hw j a ha)⟩
 |map ks xs=>
  obtain⟨h0,es,c,h1,h2,h3,h4,h5,h6⟩:=h;exact⟨h0,es,c,h1,h2,h3,λj a e ha he=>(h4 j a e ha he).restr (hw.1 j a ha),λj a e ha he=>(h5 j a e ha he).restr (hw.2 j a ha),h6⟩
 |iter s pos=>exact h
 |bag es=>
  obtain⟨h0,vs,e,h1,h2,h3,h4,h5⟩:=h;exact⟨h0,vs,e,h1,h2,λj a v ha hv=>(h3 j a v ha hv).restr (hw j a ha),h4,h5⟩
 |bld T e cs=>
  obtain⟨h0,vs,h1,h2,h3,h4⟩:=h;exact⟨h0,vs,h1,h2,λj a v ha hv=>(h3 j a v ha hv).restr (hw j a ha),h4⟩
 |loop st pend fr ps asg body=>
  obtain⟨h0,fn,tmps,dd,h1,h2⟩:=h;exact⟨h0,fn,tmps,dd,h1,h2.size,λj v hv=>(h2.at_ j v hv).restr (hw j),h2.out⟩
end
def mask (S:List Nat) (A:Heap):Heap:=A.zipIdx.map λp=>if S.contains p.2 then p.1 else .dead
def merge (S:List Nat) (A B:Heap):Heap:=B.zipIdx.map λp=>if p.2<A.length&&!S.contains p.2 then A.getD p.2 .dead else p.1
theorem xE (S:List Nat) (A:Heap):(mask S A).length=A.length:=by simp[mask]
theorem qc9 (S:List Nat) (A:Heap) (b:Nat):(mask S A)[b]? =(A[b]?).map λx=>if S.contains b then x else .dead:=by
 simp only[mask,YA,List.getElem?_zipIdx,dP,az];rfl
theorem qap (S:List Nat) (A B:Heap):(merge S A B).length=B.length:=by simp[merge]
theorem qcg (S:List Nat) (A B:Heap) (b:Nat):(merge S A B)[b]? =(B[b]?).map λx=>if b<A.length&&!S.contains b then A.getD b .dead else x:=by
 simp only[merge,YA,List.getElem?_zipIdx,dP,az];rfl
section
variable {F F':Nat->Prop} {nu nu':Nat->Option Nat} {w w':World}
structure Mov (F:Nat->Prop) (nu:Nat->Option Nat) (A:Heap) (w:World) (F':Nat->Prop) (nu':Nat->Option Nat) (A':Heap) (w':World):Prop where
 f: ∀b,F b->F' b
 n: ∀b r,nu b=some r->nu' b=some r
 shape: ∀rb s,w.shape? rb=some s->w'.shape? rb=some s
 inv:Inv F' nu' A' w'
 keep: ∀rb,rb<w.heap.size-> ¬qaO nu A w rb->w'.heap[rb]? =w.heap[rb]?
 own: ∀rb,rb<w.heap.size->qaO nu' A' w' rb->qaO nu A w rb
 size:w.heap.size<=w'.heap.size
 os:w'.os=w.os
 tape:w'.tape=w.tape
 output:w'.output=w.output
 newF: ∀rb,F' rb->F rb\/w.heap.size<=rb\/qaO nu A w rb
theorem Mov.refl {A:Heap} (i:Inv F nu A w):Mov F nu A w F nu A w:=
 ⟨λ_ h=>h,λ_ _ h=>h,λ_ _ h=>h,i,λ_ _ _=>rfl,λ_ _ h=>h,ag _,rfl,rfl,rfl,λ_ h=> .inl h⟩
theorem Mov.ext {A A':Heap} (h:Mov F nu A w F' nu' A' w') (i:Inv F nu A w):Ext F nu w F' nu' w':=
 ⟨h.f,h.n,λrb hF=>h.keep rb (i.ltF rb hF) (i.notOwns hF),h.shape⟩
theorem Mov.trans {F'':Nat->Prop} {nu'':Nat->Option Nat} {A A' A'':Heap} {w'':World}
 (h:Mov F nu A w F' nu' A' w') (k:Mov F' nu' A' w' F'' nu'' A'' w''):Mov F nu A w F'' nu'' A'' w'' where
 f b hb:=k.f b (h.f b hb)
 n b r hb:=k.n b r (h.n b r hb)
 shape rb s hs:=k.shape rb s (h.shape rb s hs)
 inv:=k.inv
 keep rb hlt hno:=by
  rw[k.keep rb (by have:=h.size;omega) (λho=>hno (h.own rb hlt ho)),h.keep rb hlt hno]
 own rb hlt ho:=h.own rb hlt (k.own rb (by have:=h.size;omega) ho)
 size:=aX h.size k.size
 os:=k.os.trans h.os
 tape:=k.tape.trans h.tape
 output:=k.output.trans h.output
 newF rb hF:=by
  rcases k.newF rb hF with h1|h1|h1
  ·exact h.newF rb h1
  ·exact .inr (.inl (aX h.size h1))
  rcases ak rb w.heap.size with h2|h2
  ·exact .inr (.inr (h.own rb h2 h1))
  exact .inr (.inl h2)
open Classical in
noncomputable def qar (nu nu':Nat->Option Nat) (lo hi:Nat) (G:Nat->Prop):Nat->Option Nat:=λb=>if lo<=b/\b<hi then(if G b then nu' b else none)else nu b
theorem Stp.part {C C' B B':Heap} {S:List Nat} {G G':Nat->Prop} {lo hi:Nat} (i:Inv F nu C w) (hB:B.length=lo) (hB':B'.length=hi) (hC:hi<=C.length) (hC':C'.length=C.length) (hnone: ∀b,lo<=b->b<hi->nu b=none)
 (hS: ∀b∈S,b<lo)
 (hBin: ∀b,b∈S->B[b]? =C[b]?) (hBout: ∀b y,b∉S->B[b]? =some y->y= .dead)
 (hdom: ∀b,Dom nu b->b<lo->G b) (hGlo: ∀b,G b->b<lo)
 (hwfB: ∀b y,b∈S->Dom nu b->C[b]? =some y->WFB G y)
 (hst:Inv F (restr nu G) B w->Stp F (restr nu G) B w F' nu' B' w')
 (hwfB': ∀b y,(b∈S/\Dom nu b\/lo<=b/\G' b)->B'[b]? =some y->WFB G' y) (hG': ∀b,G' b->b<hi)
 (hCin: ∀b,b<hi->(b∈S\/lo<=b)->C'[b]? =B'[b]?) (hCout: ∀b,b∉S->(b<lo\/hi<=b)->C'[b]? =C[b]?):
 Mov F nu C w F' (qar nu nu' lo hi G') C' w'/\ ∀a v,WF G' a->R F' nu' w' a v->R F' (qar nu nu' lo hi G') w' a v:=by
 have iB:Inv F (restr nu G) B w:=by
  refine⟨λb rb x hb hx=>?_,λb b' rb rb' x x' r hb hb' hx hx' ho ho' hr hr'=>?_,λb hb=>?_,i.ltF,λb rb h=>i.ltN b rb (xh h).1,i.glob⟩
  ·obtain⟨h1,h2⟩:=xh hb;by_cases hs:b∈S
   ·rw[hBin b hs]at hx;exact(i.blk b rb x h1 hx).restr (hwfB b x hs (by simp[Dom,h1]) hx)
   rw[hBout b x hs hx];trivial
  ·have hs:b∈S:=by
    by_cases hs:b∈S
    ·exact hs
    rw[hBout b x hs hx]at ho;cases ho
   have hs':b'∈S:=by
    by_cases hs':b'∈S
    ·exact hs'
    rw[hBout b' x' hs' hx']at ho';cases ho'
   rw[hBin b hs]at hx;rw[hBin b' hs']at hx';exact i.injF b b' rb rb' x x' r (xh hb).1 (xh hb').1 hx hx' ho ho' hr hr'
  unfold restr;split
  ·rename_i hg;have:=hGlo b hg;omega
  rfl
 have st:=hst iB;have hsz:=st.size
 have ownB: ∀r,qaO (restr nu G) B w r-> ∃b x rb,b∈S/\nu b=some rb/\C[b]? =some x/\x.owned=true/\Ft w rb x r:=by
  rintro r ⟨b,x,rb,hb,hx,ho,hf⟩
  have hs:b∈S:=by
   by_cases hs:b∈S
   ·exact hs
   rw[hBout b x hs hx]at ho;cases ho
  rw[hBin b hs]at hx;exact⟨b,x,rb,hs,(xh hb).1,hx,ho,hf⟩
 have hnu': ∀b rb,b<lo->nu b=some rb->nu' b=some rb:=λb rb hb h=>st.n b rb (qbU h (hdom b (by simp[Dom,h]) hb))
 have hnu'r: ∀b rb,b<lo->nu' b=some rb->nu b=some rb:=by
  intro b rb hb h;rw[st.old b (by omega)]at h;exact(xh h).1
 have hsub: ∀b rb,restr nu' G' b=some rb->qar nu nu' lo hi G' b=some rb:=by
  intro b rb h;obtain⟨h1,h2⟩:=xh h;unfold qar;by_cases hb:lo<=b/\b<hi
  ·rw[ae hb,ae h2];exact h1
  rw[aa hb];have:=hG' b h2;exact hnu'r b rb (by omega) h1
 have hn: ∀b r,nu b=some r->qar nu nu' lo hi G' b=some r:=by
  intro b r h;unfold qar;rw[aa (λhb=>by rw[hnone b hb.1 hb.2]at h;cases h)];exact h
 have keepF: ∀rb,F rb->w'.heap[rb]? =w.heap[rb]? :=λrb hF=>st.keep rb (i.ltF rb hF) (iB.notOwns hF)
 have x0:Ext F nu w F' (qar nu nu' lo hi G') w':=⟨st.f,hn,keepF,st.shape⟩;have x1:Ext F' (restr nu' G') w' F' (qar nu nu' lo hi G') w':=⟨λ_ h=>h,hsub,λ_ _=>rfl,λ_ _ h=>h⟩
 have join_cases: ∀b rb,qar nu nu' lo hi G' b=some rb->(lo<=b/\b<hi/\G' b/\nu' b=some rb)\/(¬(lo<=b/\b<hi)/\nu b=some rb):=by
  intro b rb h;unfold qar at h;split at h
  ·rename_i hb;split at h
   ·rename_i hg;exact .inl ⟨hb.1,hb.2,hg,h⟩
   cases h
  rename_i hb;exact .inr ⟨hb,h⟩
 have outS: ∀b rb y r,b∉S->nu b=some rb->C[b]? =some y->y.owned=true->Ft w rb y r-> ¬qaO (restr nu G) B w r:=λb rb y r hs hb hy ho hf hO=>by
  obtain⟨c,z,rc,hcs,hc1,hc2,hc3,hc4⟩:=ownB r hO;exact hs (i.injF b c rb rc y z r hb hc1 hy hc2 ho hc3 hf hc4▸hcs)
 have ftOut: ∀{b rb y r},b∉S->nu b=some rb->C[b]? =some y->y.owned=true->Ft w' rb y r->Ft w rb y r:=λhs hb hy ho hf=>
  hf.same (st.keep _ (i.ltN _ _ hb) (outS _ _ _ _ hs hb hy ho (.inl rfl)))
 have inv:Inv F' (qar nu nu' lo hi G') C' w':=by
  have fromB': ∀b rb y,(b∈S/\Dom nu b\/lo<=b/\G' b)->nu' b=some rb->B'[b]? =some y->RB F' (qar nu nu' lo hi G') w' rb y:=
   λb rb y hc hb hy=>((st.inv.blk b rb y hb hy).restr (hwfB' b y hc hy)).monoF x1 (λ_ _=>rfl) (λ_ _=>id)
  refine⟨λb rb y hb hy=>?_,λb b' rb rb' y y' r hb hb' hy hy' ho ho' hr hr'=>?_,λb hb=>?_,λrb h=>st.inv.ltF rb h,λb rb h=>?_,st.inv.glob⟩
  ·rcases join_cases b rb hb with⟨h1,h2,h3,h4⟩|⟨h1,h2⟩
   ·rw[hCin b h2 (.inr h1)]at hy;exact fromB' b rb y (.inr ⟨h1,h3⟩) h4 hy
   by_cases hs:b∈S
   ·have hlt:=hS b hs;rw[hCin b (by have:=st.len;omega) (.inl hs)]at hy;exact fromB' b rb y (.inl ⟨hs,by simp[Dom,h2]⟩) (hnu' b rb hlt h2) hy
   rw[hCout b hs (by omega)]at hy
   refine i.keepB x0 h2 hy λhyo r hr=>?_
   have hno:=outS b rb y r hs h2 hy hyo hr;have hlt:=(i.ftF h2 hy hyo hr).2;refine⟨st.keep r hlt hno,λhF'=>?_⟩;rcases st.newF r hF' with h3|h3|h3
   ·exact h3
   ·omega
   exact absurd h3 hno
  ·
   have origin: ∀b rb y,qar nu nu' lo hi G' b=some rb->C'[b]? =some y->y.owned=true->(b<hi/\nu' b=some rb/\B'[b]? =some y)\/(b∉S/\(b<lo\/hi<=b)/\nu b=some rb/\C[b]? =some y):=by
    intro b rb y hb hy _;rcases join_cases b rb hb with⟨h1,h2,h3,h4⟩|⟨h1,h2⟩
    ·rw[hCin b h2 (.inr h1)]at hy;exact .inl ⟨h2,h4,hy⟩
    by_cases hs:b∈S
    ·have hlt:=hS b hs;rw[hCin b (by have:=st.len;omega) (.inl hs)]at hy;exact .inl ⟨by have:=st.len;omega,hnu' b rb hlt h2,hy⟩
    have h1':b<lo\/hi<=b:=by omega
    rw[hCout b hs h1']at hy;exact .inr ⟨hs,h1',h2,hy⟩
   have cross: ∀b c rb rc y z r,nu' b=some rb->B'[b]? =some y->y.owned=true->Ft w' rb y r->c∉S->nu c=some rc->C[c]? =some z->z.owned=true->Ft w' rc z r->False:=by
    intro b c rb rc y z r hb hy ho hf hcs hc hz hoz hfz;have hfz':=ftOut hcs hc hz hoz hfz;exact outS c rc z r hcs hc hz hoz hfz' (st.own r (i.ftF hc hz hoz hfz').2 ⟨b,y,rb,hb,hy,ho,hf⟩)
   rcases origin b rb y hb hy ho with⟨_,h2,h3⟩|⟨h1,_,h2,h3⟩
   ·rcases origin b' rb' y' hb' hy' ho' with⟨_,k2,k3⟩|⟨k1,_,k2,k3⟩
    ·exact st.inv.injF b b' rb rb' y y' r h2 k2 h3 k3 ho ho' hr hr'
    exact(cross b b' rb rb' y y' r h2 h3 ho hr k1 k2 k3 ho' hr').elim
   rcases origin b' rb' y' hb' hy' ho' with⟨_,k2,k3⟩|⟨k1,_,k2,k3⟩
   ·exact(cross b' b rb' rb y' y r k2 k3 ho' hr' h1 h2 h3 ho hr).elim
   exact i.injF b b' rb rb' y y' r h2 k2 h3 k3 ho ho' (ftOut h1 h2 h3 ho hr) (ftOut k1 k2 k3 ho' hr')
  ·unfold qar;rw[aa (by omega)];exact i.fresh b (by omega)
  rcases join_cases b rb h with⟨_,_,_,h4⟩|⟨_,h2⟩
  ·exact st.inv.ltN b rb h4
  have:=i.ltN b rb h2;omega
 refine⟨⟨st.f,hn,st.shape,inv,λrb hlt hno=>?_,λr hlt hO=>?_,hsz,st.os,st.tape,st.output,λrb hF'=>?_⟩,λa v hw hR=>(hR.restr hw).mono x1⟩
 ·refine st.keep rb hlt (λhO=>hno ?_);obtain⟨b,x,rc,_,h1,h2,h3,h4⟩:=ownB rb hO;exact⟨b,x,rc,h1,h2,h3,h4⟩
 ·obtain⟨b,y,rb,hb,hy,ho,hf⟩:=hO;rcases join_cases b rb hb with⟨h1,h2,h3,h4⟩|⟨h1,h2⟩
  ·rw[hCin b h2 (.inr h1)]at hy;obtain⟨c,z,rc,_,hc⟩:=ownB r (st.own r hlt ⟨b,y,rb,h4,hy,ho,hf⟩);exact⟨c,z,rc,hc⟩
  by_cases hs:b∈S
  ·have hl:=hS b hs;rw[hCin b (by have:=st.len;omega) (.inl hs)]at hy;obtain⟨c,z,rc,_,hc⟩:=ownB r (st.own r hlt ⟨b,y,rb,hnu' b rb hl h2,hy,ho,hf⟩);exact⟨c,z,rc,hc⟩
  rw[hCout b hs (by omega)]at hy;exact⟨b,y,rb,h2,hy,ho,ftOut hs h2 hy ho hf⟩
 rcases st.newF rb hF' with h1|h1|h1
 ·exact .inl h1
 ·exact .inr (.inl h1)
 obtain⟨b,x,rc,_,h2⟩:=ownB rb h1;exact .inr (.inr ⟨b,x,rc,h2⟩)
end
end
section
variable [Glob]
open Go.RowKit
structure Rec where
 fp:List Nat
 wr:Bool
 lo:Nat
 hi:Nat
def refsOf:AV->List Nat
 | .ptr b _=>[b]
 | .slice b _ _ _ _=>[b]
 | .oslice b _ _=>[b]
 | .gslice b _ _=>[b]
 | .wslice b _ _ _=>[b]
 | .map b=>[b]
 | .yld b=>[b]
 |_=>[]
def yP:Nat->AV->List Nat
 |0,_=>[]
 |d+1,.func _ a b=>a.flatMap (yP d)++b.flatMap (yP d)
 |d+1,.agg cs=>cs.flatMap (yP d)
 |d+1,.iface _ v=>yP d v
 |_+1,a=>refsOf a
def qh8:Tr->List Nat
 | .leaf v=>yP 4 v
 | .node a b c d=>qh8 a++qh8 b++qh8 c++qh8 d
def qng:Blk->List Nat
 | .cells cs=>cs.flatMap (yP 4)
 | .frozen cs=>cs.flatMap (yP 4)
 | .map ks vs=>ks.flatMap (yP 4)++vs.flatMap (yP 4)
 | .loop _ _ (.tree _ tr) _ _ _=>qh8 tr
 |_=>[]
def qf4 (S:List Nat) (xs:List Nat):List Nat:=xs.foldl (λS b=>if S.contains b then S else b::S) S
def qcS (A:Heap):Nat->List Nat->List Nat
 |0,S=>S
 |n+1,S=>if(qf4 S (S.flatMap λb=>qng (A.getD b .dead))).length=S.length then S else qcS A n (qf4 S (S.flatMap λb=>qng (A.getD b .dead)))
def qlE (xs:List Operand):List Tmp:=xs.filterMap fun| .tmp t=>some t|_=>none
def yh (ops:Array Oper) (o:Oper):List Tmp:=
 qlE (o.op.operands.toList)++(match o.guard with
  |some (g,_)=>((ops[g]?).bind (·.dst)).toList
  |none=>[])
def maskF (ts:List Tmp) (fr:Fr):Fr:=ts.foldl (λf t=>f.set t (fr.get t)) fr.blank
def qb5 (f:AV->AV->Bool):List AV->List AV->Bool
 |[],[]=>true
 |a::as,b::bs=>f a b&&qb5 f as bs
 |_,_=>false
def qb6:Nat->AV->AV->Bool
 |0,_,_=>false
 |d+1,a,b=>match a,b with
  | .undef,.undef=>true
  | .bool x,.bool y=>x==y
  | .int k x,.int l y=>decide (k=l)&&decide (x=y)
  | .str x,.str y=>decide (x=y)
  | .nilptr,.nilptr=>true
  | .ptr x y,.ptr u v=>decide (x=u)&&decide (y=v)
  | .fptr x y,.fptr u v=>qb5 (qb6 d) x u&&decide (y=v)
  | .nilslice,.nilslice=>true
  | .slice x1 x2 x3 x4 x5,.slice y1 y2 y3 y4 y5=>decide (x1=y1)&&decide (x2=y2)&&decide (x3=y3)&&decide (x4=y4)&&decide (x5=y5)
  | .oslice x1 x2 x3,.oslice y1 y2 y3=>decide (x1=y1)&&decide (x2=y2)&&decide (x3=y3)
  | .gslice x1 x2 x3,.gslice y1 y2 y3=>decide (x1=y1)&&decide (x2=y2)&&decide (x3=y3)
  | .wslice x1 x2 x3 x4,.wslice y1 y2 y3 y4=>decide (x1=y1)&&decide (x2=y2)&&decide (x3=y3)&&decide (x4=y4)
  | .fslice x y,.fslice u v=>decide (x=u)&&qb5 (qb6 d) y v
  | .nilmap,.nilmap=>true
  | .map x,.map y=>decide (x=y)
  | .fmap x y,.fmap u v=>qb5 (qb6 d) x u&&qb5 (qb6 d) y v
  | .nilfunc,.nilfunc=>true
  | .iface t x,.iface u y=>decide (t=u)&&qb6 d x y
  | .niliface,.niliface=>true
  | .agg x,.agg y=>qb5 (qb6 d) x y
  | .tuple x,.tuple y=>qb5 (qb6 d) x y
  |_,_=>false
theorem qgw {f:AV->AV->Bool} (hf: ∀a b,f a b=true->a=b): ∀(x y:List AV),qb5 f x y=true->x=y
 |[],[],_=>rfl
 |a::as,b::bs,h=>by
  simp only[qb5,aI]at h;rw[hf a b h.1,qgw hf as bs h.2]
 |[],_::_,h=>by simp[qb5]at h
 |_::_,[],h=>by simp[qb5]at h
theorem qiV: ∀(d:Nat) (a b:AV),qb6 d a b=true->a=b:=by
 intro d
 induction d with
 |zero=>intro a b h;simp[qb6]at h
 |succ d ih=>
  intro a b h;have hl:=qgw ih;cases a<;>cases b<;>simp only[qb6,aI,aH,bG,ZF]at h⊢
  all_goals first
   |(rw[h])
   |(rw[hl _ _ h])
   |(rw[hl _ _ h.1,hl _ _ h.2])
   |(rw[hl _ _ h.1,h.2])
   |(rw[h.1,hl _ _ h.2])
   |(rw[h.1,ih _ _ h.2])
   |(rw[h.1,h.2])
   |(obtain⟨⟨h1,h2⟩,h3⟩:=h;rw[h1,h2,h3])
   |(obtain⟨⟨⟨h1,h2⟩,h3⟩,h4⟩:=h;rw[h1,h2,h3,h4])
   |(obtain⟨⟨⟨⟨h1,h2⟩,h3⟩,h4⟩,h5⟩:=h;rw[h1,h2,h3,h4,h5])
def qpv (a b:Blk):Bool:=
 match a,b with
 | .dead,.dead=>true
 | .cells x,.cells y=>qb5 (qb6 30) x y
 | .frozen x,.frozen y=>qb5 (qb6 30) x y
 | .map x y,.map u v=>qb5 (qb6 30) x u&&qb5 (qb6 30) y v
 | .iter x y,.iter u v=>decide (x=u)&&decide (y=v)
 | .bld a b x,.bld c d y=>decide (a=c)&&decide (b=d)&&qb5 (qb6 30) x y
 |_,_=>false
theorem qpt {a b:Blk} (h:qpv a b=true):a=b:=by
 have hl:=qgw (qiV 30);cases a<;>cases b<;>simp only[qpv,aI,aH,ZF]at h⊢
 all_goals first
  |(rw[hl _ _ h])
  |(rw[hl _ _ h.1,hl _ _ h.2])
  |(rw[h.1,h.2])
  |(obtain⟨⟨h1,h2⟩,h3⟩:=h;rw[h1,h2,hl _ _ h3])
def qat (o:Oper) (ρ:Operand->AV) (A:Heap):List Nat:=
 match jM o ρ with
 |some (.fn _,args)=>qcS A 20 (qf4 [] (args.flatMap (yP 4)))
 |some (.mt _ _,args)=>qcS A 20 (qf4 [] (args.flatMap (yP 4)))
 |some (.rd b,args)=>qcS A 20 (qf4 [b] (args.flatMap (yP 4)))
 |none=>match o.op with
  | .load _ p=>refsOf (ρ p)
  | .store _ p _=>refsOf (ρ p)
  | .lookup _ x _ _=>refsOf (ρ x)
  | .mapUpdate _ m _ _=>refsOf (ρ m)
  | .insert _ m _ _=>refsOf (ρ m)
  | .mapEntry _ m _=>refsOf (ρ m)
  | .entryStore _ m _ _=>refsOf (ρ m)
  | .range _ x=>refsOf (ρ x)
  | .next x _=>refsOf (ρ x)
  | .convert _ _ x=>refsOf (ρ x)
  | .call c=>(c.args.toList.map ρ).flatMap refsOf
  |_=>[]
section
variable (P:Program) (call:zP)
def qgi (o:Oper) (fr:Fr) (A:Heap):Option (AV×Heap×Rec):=
 let S:=qat o (yJ fr) A
 if S.all (λb=>decide (b<A.length))then
  match qbi P call o fr (mask S A)with
  |some (v,B,f)=>if A.length<=B.length then some (v,merge S A B,⟨S,f.any (·.2)||(jM o (yJ fr)).isSome&&S.any (λb=>!qpv ((mask S A).getD b .dead) (B.getD b .dead)),A.length,B.length⟩)else none
  |none=>none
 else none
def qfO (ops:Array Oper) (j:Nat) (s:Fr×Heap):Option ((Fr×Heap)×Rec):=
 match ops[j]? with
 |none=>none
 |some o=>
  match qaK ops o (maskF (yh ops o) s.1)with
  |some true=>match qgi P call o (maskF (yh ops o) s.1) s.2 with
   |some (v,A',r)=>some ((qdF s.1 o.dst v,A'),r)
   |none=>none
  |some false=>some ((qdF s.1 o.dst (.tuple []),s.2),⟨[],false,s.2.length,s.2.length⟩)
  |none=>none
def qij (ops:Array Oper):Nat->Nat->Fr×Heap->Option ((Fr×Heap)×List Rec)
 |0,_,s=>some (s,[])
 |m+1,j,s=>match qfO P call ops j s with
  |some (s',r)=>(qij ops m (j+1) s').map λq=>(q.1,r::q.2)
  |none=>none
def qgF (ops:Array Oper) (i j:Nat):Bool:=
 match ops[i]?,ops[j]? with
 |some x,some y=>
  (match x.dst with|some d=>(yh ops y).contains d||y.dst==some d|none=>false)||
  (match y.dst with|some d=>(yh ops x).contains d|none=>false)
 |_,_=>false
def qfn (r q:Rec):Bool:=r.fp.any (λb=>q.fp.contains b)&&(r.wr||q.wr)||q.fp.any (λb=>decide (r.lo<=b)&&decide (b<r.hi))
def masks (ops:List Oper):List Nat:=
 ops.foldl (λacc o=>acc++[o.after.toList.foldl (λs e=>if Region.binds .any e then s|||2^e.on|||acc.getD e.on 0 else s) 0]) []
def qqW (ops:Array Oper):Bool:=ops.toList.zipIdx.all λp=>p.1.after.toList.all λe=>!Region.binds .any e||decide (e.on<p.2)
def qme (ops:Array Oper):Bool:=
 qqW ops&&(List.range ops.size).all λj=>(List.range j).all λi=>((masks ops.toList).getD j 0).testBit i||!qgF ops i j
def qrI (ms:List Nat) (rs:List (Rec×Nat)):Bool:=
 rs.all λq=>q.1.fp.isEmpty||rs.all λr=>Nat.ble q.2 r.2||(ms.getD q.2 0).testBit r.2||!qfn r.1 q.1
def qgb (ops:Array Oper) (rs:List Rec):Bool:=qme ops&&qrI (masks ops.toList) rs.zipIdx
def qeR (ops:Array Oper) (fr:Fr) (A:Heap):Option (Fr×Heap):=
 match qij P call ops ops.size 0 (fr,A)with
 |some (s,rs)=>if qgb ops rs then some s else none
 |none=>none
end
section
variable {P:Program} {call:zP} {ops:Array Oper}
theorem qn9: ∀(m j:Nat) (s t:Fr×Heap) (rs:List Rec),qij P call ops m j s=some (t,rs)->
 ∃(S:Nat->Fr×Heap) (rk:Nat->Rec),S 0=s/\S m=t/\(∀k,k<m->qfO P call ops (j+k) (S k)=some (S (k+1),rk k))/\ ∀k,k<m->rs[k]? =some (rk k):=by
 intro m
 induction m with
 |zero=>
  intro j s t rs h;simp only[qij,ZI,ZP]at h;exact⟨λ_=>s,λ_=>⟨[],false,0,0⟩,rfl,h.1,by omega,by omega⟩
 |succ m ih=>
  intro j s t rs h;simp only[qij]at h;split at h
  ·rename_i s' r hs;obtain⟨q,hq,he⟩:=Yd.1 h;simp only[ZP]at he;obtain⟨rfl,rfl⟩:=he;obtain⟨S,rk,h0,h1,h2,h3⟩:=ih (j+1) s' q.1 q.2 hq;refine⟨λk=>match k with|0=>s|k+1=>S k,λk=>match k with|0=>r|k+1=>rk k,rfl,h1,λk hk=>?_,λk hk=>?_⟩
   ·cases k with
    |zero=>simp only[aY,h0];exact hs
    |succ k=>
     have:=h2 k (by omega);rw[show j+(k+1)=j+1+k by omega];exact this
   cases k with
   |zero=>rfl
   |succ k=>simpa using h3 k (by omega)
  cases h
theorem qjU: ∀(p:Pg) (A:Heap) (f:zG) (v:AV) (A':Heap) (f':zG),exec p A f=some (v,A',f')->(∀x,x∈f->x∈f')/\(f'.any (·.2)=false-> ∀b,b<A.length->A'[b]? =A[b]?)/\A.length<=A'.length:=by
 intro p
 induction p with
 |fail=>intro A f v A' f' h;cases h
 |done v=>intro A f v A' f' h;simp only[exec,ZI,ZP]at h;obtain⟨_,rfl,rfl⟩:=h;exact⟨λ_ h=>h,λ_ _ _=>rfl,ag _⟩
 |get b k ih=>
  intro A f v A' f' h;simp only[exec]at h;split at h
  ·obtain⟨h1,h2,h3⟩:=ih _ _ _ _ _ _ h;exact⟨λx hx=>h1 x (by simp[hx]),h2,h3⟩
  cases h
 |set b x k ih=>
  intro A f v A' f' h;simp only[exec]at h;split at h
  ·obtain⟨h1,h2,h3⟩:=ih _ _ _ _ _ h;refine⟨λy hy=>h1 y (by simp[hy]),λhf=>?_,by simpa using h3⟩;have:=h1 (b,true) (by simp);have h4:f'.any (·.2)=true:=eH.2 ⟨_,this,rfl⟩;rw[hf]at h4;cases h4
  cases h
 |new x k ih=>
  intro A f v A' f' h;simp only[exec]at h;obtain⟨h1,h2,h3⟩:=ih _ _ _ _ _ _ h;refine⟨h1,λhf b hb=>?_,by simp at h3;omega⟩;rw[h2 hf b (by simp;omega),Yf hb]
theorem qir (fr:Fr): ∀(ts:List Tmp) (f:Fr),(ts.foldl (λf t=>f.set t (fr.get t)) f).n=f.n/\ ∀t,(f.get t= .undef\/f.get t=fr.get t)->((ts.foldl (λf t=>f.set t (fr.get t)) f).get t= .undef\/((ts.foldl (λf t=>f.set t (fr.get t)) f).get t=fr.get t/\(t∈ts\/f.get t=fr.get t))):=by
 intro ts
 induction ts with
 |nil=>
  intro f;refine⟨rfl,λt h=>?_⟩;rcases h with h|h
  ·exact .inl h
  exact .inr ⟨h,.inr h⟩
 |cons u ts ih=>
  intro f;obtain⟨h1,h2⟩:=ih (f.set u (fr.get u));refine⟨by simpa using h1,λt h=>?_⟩;simp only[bp];by_cases e:u=t
  ·subst e
   have h3:(f.set u (fr.get u)).get u= .undef\/(f.set u (fr.get u)).get u=fr.get u:=by
    rcases f.get_set_same u (fr.get u)with h3|h3|⟨_,h3⟩
    ·exact .inr h3
    ·exact .inl h3
    rw[h3];exact h
   rcases h2 u h3 with h4|⟨h4,_⟩
   ·exact .inl h4
   exact .inr ⟨h4,.inl (by simp)⟩
  have h3:(f.set u (fr.get u)).get t=f.get t:=Ui e;rcases h2 t (by rw[h3];exact h)with h4|⟨h4,h5⟩
  ·exact .inl h4
  refine .inr ⟨h4,?_⟩;rcases h5 with h5|h5
  ·exact .inl (by simp[h5])
  exact .inr (by rw[<-h3];exact h5)
theorem qhC (ts:List Tmp) (fr:Fr):(maskF ts fr).n=fr.n:=((qir fr ts fr.blank).1.trans fr.blank_n)
theorem qdN (ts:List Tmp) (fr:Fr) (t:Nat):(maskF ts fr).get t= .undef\/((maskF ts fr).get t=fr.get t/\t∈ts):=by
 rcases(qir fr ts fr.blank).2 t (.inl (Fr.get_blank _ _))with h|⟨h1,h2⟩
 ·exact .inl h
 rcases h2 with h2|h2
 ·exact .inr ⟨h1,h2⟩
 rw[Fr.get_blank]at h2;exact .inl (h1.trans h2.symm)
theorem qmk {j:Nat} {s s':Fr×Heap} {r:Rec} (h:qfO P call ops j s=some (s',r)): ∃o,ops[j]? =some o/\
 ((qaK ops o (maskF (yh ops o) s.1)=some false/\s'=(qdF s.1 o.dst (.tuple []),s.2)/\r=⟨[],false,s.2.length,s.2.length⟩)\/
  (qaK ops o (maskF (yh ops o) s.1)=some true/\ ∃v B f,qbi P call o (maskF (yh ops o) s.1) (mask r.fp s.2)=some (v,B,f)/\s'=(qdF s.1 o.dst v,merge r.fp s.2 B)/\(∀b∈r.fp,b<s.2.length)/\s.2.length<=B.length/\r.lo=s.2.length/\r.hi=B.length/\
   (r.wr=false-> ∀b,b∈r.fp->B[b]? =(mask r.fp s.2)[b]?))):=by
 unfold qfO at h;split at h
 ·cases h
 rename_i o ho;refine⟨o,ho,?_⟩;split at h
 ·rename_i hw;split at h
  ·rename_i v A' r' hs;simp only[ZI,ZP]at h;obtain⟨rfl,rfl⟩:=h;refine .inr ⟨hw,?_⟩;unfold qgi at hs;simp only at hs;split at hs
   ·rename_i hall;split at hs
    ·rename_i v2 B f hst;split at hs
     ·rename_i hle;simp only[ZI,ZP]at hs;obtain⟨rfl,rfl,rfl⟩:=hs;refine⟨_,B,f,hst,rfl,λb hb=>aK (Yp.1 hall b hb),hle,rfl,rfl,λhwr b hbS=>?_⟩;have hb:b<s.2.length:=aK (Yp.1 hall b hbS);simp only[cI]at hwr;unfold qbi at hst
      cases hc:jM o (yJ (maskF (yh ops o) s.1))with
      |some q=>
       rw[hc]at hwr;simp only[dW,cN]at hwr;have h1:=List.any_eq_false.1 hwr.2 b hbS;simp only[dc,Bool.not_eq_false']at h1;have h2:=qpt h1
       have hm:b<(mask (qat o (yJ (maskF (yh ops o) s.1)) s.2) s.2).length:=by rw[xE];exact hb
       have hB:b<B.length:=by omega
       rw[Yy,Yy,Ya hm,Ya hB]at h2;rw[Ya hm,Ya hB];exact ap some h2.symm
      |none=>
       rw[hc]at hst;simp only at hst;exact(qjU _ _ _ _ _ _ hst).2.1 hwr.1 b (by rw[xE];exact hb)
     cases hs
    cases hs
   cases hs
  cases h
 ·rename_i hw;simp only[ZI,ZP]at h;obtain⟨rfl,rfl⟩:=h;exact .inl ⟨hw,rfl,rfl⟩
 cases h
theorem qiE {s m i:Nat} (k:Nat) (h:(s|||2^k|||m).testBit i=true):s.testBit i=true\/i=k\/m.testBit i=true:=by
 simp only[Nat.testBit_or,dl]at h;rcases h with(h|h)|h
 ·exact .inl h
 ·right;left;rw[Nat.testBit_two_pow]at h;exact(aK h).symm
 exact .inr (.inr h)
theorem qgy (D:Nat->Prop): ∀(os:List Oper) (acc:List Nat) (n:Nat),acc.length=n->(∀k,k<n+os.length->D k-> ∀o,(n<=k->os[k-n]? =some o-> ∀e∈o.after.toList,Region.binds .any e=true->D e.on))->
 (∀k i,k<n->(acc.getD k 0).testBit i=true->D k->D i)->
 ∀k i,((os.foldl (λacc o=>acc++[o.after.toList.foldl (λs e=>if Region.binds .any e then s|||2^e.on|||acc.getD e.on 0 else s) 0]) acc).getD k 0).testBit i=true->D k->D i:=by
 intro os
 induction os with
 |nil=>
  intro acc n hn _ hacc k i h hk;simp only[eT]at h;rcases ak k n with hlt|hge
  ·exact hacc k i hlt h hk
  rw[Yy,Yg (by omega)]at h;simp at h
 |cons o os ih=>
  intro acc n hn hcl hacc k i h hk;simp only[bp]at h;refine ih (acc++[o.after.toList.foldl (λs e=>if Region.binds .any e then s|||2^e.on|||acc.getD e.on 0 else s) 0]) (n+1) (by simp[hn]) (λk hk1 hD o' hge ho' e he hb=>?_) (λk i hk1 hbit hD=>?_) k i h hk
  ·have h1:k-n=(k-(n+1))+1:=by omega
   exact hcl k (by simp;omega) hD o' (by omega) (by rw[h1];simpa using ho') e he hb
  rcases ak k n with hlt|hge
  ·rw[Yy,Yf (by omega),<-Yy]at hbit;exact hacc k i hlt hbit hD
  have hkn:k=n:=by omega
  subst hkn;rw[Yy,Yo (by omega),hn,bR]at hbit;simp only[Yj,YN]at hbit
  have hedges: ∀e∈o.after.toList,Region.binds .any e=true->D e.on:=λe he hb=>hcl k (by simp) hD o (ag _) (by simp) e he hb
  have hsmall: ∀m i,(acc.getD m 0).testBit i=true->D m->D i:=by
   intro m i hb hm;rcases ak m k with hl|hg
   ·exact hacc m i hl hb hm
   rw[Yy,Yg (by omega)]at hb;simp at hb
  have key: ∀(es:List Edge) (s:Nat),(∀e∈es,Region.binds .any e=true->D e.on)->(∀i,s.testBit i=true->D i)->
   ∀i,(es.foldl (λs e=>if Region.binds .any e then s|||2^e.on|||acc.getD e.on 0 else s) s).testBit i=true->D i:=by
   intro es
   induction es with
   |nil=>intro s _ hs i h;exact hs i h
   |cons e es ihe=>
    intro s hes hs i h;simp only[bp]at h;refine ihe _ (λe' he'=>hes e' (by simp[he'])) (λi h=>?_) i h;split at h
    ·rename_i hb;have hD:=hes e (by simp) hb;rcases qiE e.on h with h1|h1|h1
     ·exact hs i h1
     ·subst h1;exact hD
     exact hsmall e.on i h1 hD
    exact hs i h
  exact key _ 0 hedges (by simp) i hbit
end
end
section
variable [Glob]
open Go.RowKit
section
variable {F:Nat->Prop} {nu:Nat->Option Nat} {w:World}
theorem qlG {C B:Heap} {S:List Nat} {G:Nat->Prop} {lo:Nat} (i:Inv F nu C w) (hB:B.length=lo)
 (hBin: ∀b,b∈S->B[b]? =C[b]?) (hBout: ∀b y,b∉S->B[b]? =some y->y= .dead) (hGlo: ∀b,G b->b<lo)
 (hwfB: ∀b y,b∈S->Dom nu b->C[b]? =some y->WFB G y):Inv F (restr nu G) B w:=by
 refine⟨λb rb x hb hx=>?_,λb b' rb rb' x x' r hb hb' hx hx' ho ho' hr hr'=>?_,λb hb=>?_,i.ltF,λb rb h=>i.ltN b rb (xh h).1,i.glob⟩
 ·obtain⟨h1,h2⟩:=xh hb;by_cases hs:b∈S
  ·rw[hBin b hs]at hx;exact(i.blk b rb x h1 hx).restr (hwfB b x hs (by simp[Dom,h1]) hx)
  rw[hBout b x hs hx];trivial
 ·have hs:b∈S:=by
   by_cases hs:b∈S
   ·exact hs
   rw[hBout b x hs hx]at ho;cases ho
  have hs':b'∈S:=by
   by_cases hs':b'∈S
   ·exact hs'
   rw[hBout b' x' hs' hx']at ho';cases ho'
  rw[hBin b hs]at hx;rw[hBin b' hs']at hx';exact i.injF b b' rb rb' x x' r (xh hb).1 (xh hb').1 hx hx' ho ho' hr hr'
 unfold restr;split
 ·rename_i hg;have:=hGlo b hg;omega
 rfl
theorem WFB.mono {G G':Nat->Prop} {x:Blk} (h:WFB G x) (hg: ∀b,G b->G' b):WFB G' x:=by
 cases x with
 |cells cs=>exact λj a ha=>(h j a ha).mono hg
 |frozen cs=>exact λj a ha=>(h j a ha).mono hg
 |map ks vs=>exact⟨λj a ha=>(h.1 j a ha).mono hg,λj a ha=>(h.2 j a ha).mono hg⟩
 |loop st pend fr ps asg body=>exact λj=>(h j).mono hg
 |bld T e cs=>exact λj a ha=>(h j a ha).mono hg
 |bag es=>
  intro j x hx;have h0:=h j x hx
  cases x with
  |av a=>exact WF.mono h0 hg
  |own k cs=>exact λq a ha=>(h0 q a ha).mono hg
 |_=>trivial
theorem Inv.domLt {A:Heap} (i:Inv F nu A w) {b:Nat} (h:Dom nu b):b<A.length:=by
 rcases ak b A.length with h1|h1
 ·exact h1
 exact absurd (i.fresh b h1) h
def pad (A:Heap) (N:Nat):Heap:=A++List.replicate (N-A.length) .dead
theorem qdk {A:Heap} {N:Nat} (h:A.length<=N):(pad A N).length=N:=by simp[pad];omega
theorem qfw {A:Heap} {N:Nat} {b:Nat} (h:b<A.length):(pad A N)[b]? =A[b]? :=by simp[pad,List.getElem?_append_left h]
theorem qre {A:Heap} {N:Nat} {b:Nat} {y:Blk} (h:A.length<=b) (hy:(pad A N)[b]? =some y):y= .dead:=by
 simp only[pad]at hy;rw[Yo h,List.getElem?_replicate]at hy;split at hy
 ·injection hy with hy;exact hy.symm
 cases hy
theorem Inv.pad {A:Heap} (i:Inv F nu A w) {N:Nat} (h:A.length<=N):Inv F nu (pad A N) w:=by
 have key: ∀b rb y,nu b=some rb->(Go.Av.pad A N)[b]? =some y->A[b]? =some y:=by
  intro b rb y hb hy;have:=i.domLt (b:=b) (by simp[Dom,hb])
  rwa [qfw this]at hy
 refine⟨λb rb x hb hx=>i.blk b rb x hb (key b rb x hb hx),λb b' rb rb' x x' r hb hb' hx hx'=>i.injF b b' rb rb' x x' r hb hb' (key _ _ _ hb hx) (key _ _ _ hb' hx'),λb hb=>i.fresh b (by rw[qdk h]at hb;omega),i.ltF,i.ltN,i.glob⟩
theorem RF.maskF {fr:Fr} {tmps:Array Value} (ts:List Tmp) (h:RF F nu w fr tmps):RF F nu w (maskF ts fr) tmps:=by
 refine⟨by rw[h.size,qhC],λt v hv=>?_,λt ht=>?_⟩
 ·rcases qdN ts fr t with e|⟨e,_⟩
  ·rw[e];exact .undef v
  rw[e];exact h.at_ t v hv
 rcases qdN ts fr t with e|⟨e,_⟩
 ·exact e
 rw[e];exact h.out t (by rwa [qhC]at ht)
theorem RF.restr {G:Nat->Prop} {fr:Fr} {tmps:Array Value} (h:RF F nu w fr tmps) (hw: ∀t,WF G (fr.get t)):RF F (restr nu G) w fr tmps:=
 ⟨h.size,λt v hv=>(h.at_ t v hv).restr (hw t),h.out⟩
end
structure SF (P:Program) (ops:Array Oper) (k:Nat) (s s':Fr×Heap) (r:Rec) (o:Oper) (v:AV):Prop where
 ho:ops[k]? =some o
 fr:s'.1=qdF s.1 o.dst v
 lo:r.lo=s.2.length
 hi:r.hi=s'.2.length
 le:s.2.length<=s'.2.length
 fp: ∀b∈r.fp,b<s.2.length
 quiet: ∀b,b<s.2.length->(b∈r.fp->r.wr=false)->s'.2[b]? =s.2[b]?
 run:(qaK ops o (maskF (yh ops o) s.1)=some false/\v= .tuple []/\s'.2=s.2/\r.fp=[]/\r.wr=false)\/
  (qaK ops o (maskF (yh ops o) s.1)=some true/\ ∃B,(∃call f,zg P call/\qbi P call o (maskF (yh ops o) s.1) (mask r.fp s.2)=some (v,B,f))/\B.length=s'.2.length/\
   ∀b,(b∈r.fp\/s.2.length<=b)->s'.2[b]? =B[b]?)
theorem SF.of {P:Program} {call:zP} (hc:zg P call) {ops:Array Oper} {k:Nat} {s s':Fr×Heap} {r:Rec} (h:qfO P call ops k s=some (s',r)): ∃o v,SF P ops k s s' r o v:=by
 obtain⟨o,ho,⟨hw,rfl,rfl⟩|⟨hw,v,B,f,hst,rfl,hfp,hle,hlo,hhi,hwr⟩⟩:=qmk h
 ·exact⟨o,.tuple [],ho,rfl,rfl,rfl,ag _,by simp,λ_ _ _=>rfl,.inl ⟨hw,rfl,rfl,rfl,rfl⟩⟩
 refine⟨o,v,ho,rfl,hlo,by simp[qap,hhi],by simpa[qap]using hle,hfp,λb hb hq=>?_,.inr ⟨hw,B,⟨call,f,hc,hst⟩,by simp[qap],λb hb=>?_⟩⟩
 ·simp only[qcg]
  have hlt:b<B.length:=by omega
  rw[Ya hlt,Ya hb];simp only[ZM,ZI,hb,decide_true,cN,cV];split
  ·simp[List.getD_eq_getElem?_getD,List.getElem?_eq_getElem hb]
  rename_i hc
  have hin:b∈r.fp:=by simpa using hc
  have h1:=hwr (hq hin) b hin;rw[qc9,Ya hb,Ya hlt]at h1;simpa[hin]using h1
 simp only[qcg];rcases ak b B.length with hlt|hge
 ·rw[Ya hlt];simp only[ZM,ZI];rw[aa];rcases hb with hb|hb
  ·simp[hb]
  simp;omega
 rw[Yg hge];rfl
structure Txt (P:Program) (ops:Array Oper) (S:Nat->Fr×Heap) (rk:Nat->Rec) (ok:Nat->Oper) (vk:Nat->AV):Prop where
 sf: ∀k,k<ops.size->SF P ops k (S k) (S (k+1)) (rk k) (ok k) (vk k)
section
variable {P:Program} {call:zP} {ops:Array Oper} {S:Nat->Fr×Heap} {rk:Nat->Rec} {ok:Nat->Oper} {vk:Nat->AV}
theorem Txt.mono (T:Txt P ops S rk ok vk) {m:Nat}: ∀(d:Nat),m+d<=ops.size->(S m).2.length<=(S (m+d)).2.length:=by
 intro d
 induction d with
 |zero=>intro _;exact ag _
 |succ d ih=>intro h;exact aX (ih (by omega)) (T.sf (m+d) (by omega)).le
theorem Txt.le (T:Txt P ops S rk ok vk) {m m':Nat} (h:m<=m') (h':m'<=ops.size):(S m).2.length<=(S m').2.length:=by
 have:=T.mono (m:=m) (m'-m) (by omega)
 rwa [show m+(m'-m)=m' by omega]at this
theorem Txt.heap (T:Txt P ops S rk ok vk) {m b:Nat} (hb:b<(S m).2.length): ∀(d:Nat),m+d<=ops.size->(∀k,m<=k->k<m+d->b∈(rk k).fp->(rk k).wr=false)->(S (m+d)).2[b]? =(S m).2[b]? :=by
 intro d
 induction d with
 |zero=>intro _ _;rfl
 |succ d ih=>
  intro h hq;rw[<-ih (by omega) (λk h1 h2=>hq k h1 (by omega))];exact(T.sf (m+d) (by omega)).quiet b (by have:=T.mono (m:=m) d (by omega);omega) (hq (m+d) (by omega) (by omega))
theorem qlV {fr:Fr} {dst:Option Tmp} {v:AV} {t:Nat} (h:dst≠some t):(qdF fr dst v).get t=fr.get t:=by
 cases dst with
 |none=>rfl
 |some d=>exact Ui (λe=>h (by rw[e]))
theorem qr6 {fr:Fr} {dst:Option Tmp} {v:AV}:(qdF fr dst v).n=fr.n:=by
 cases dst<;>simp[qdF]
theorem qph {fr:Fr} {dst:Option Tmp} {v:AV} {t:Nat} (h:fr.n<=t):(qdF fr dst v).get t=fr.get t:=by
 cases dst with
 |none=>rfl
 |some d=>
  by_cases e:d=t
  ·subst e;exact Fr.get_set_out h
  exact Ui e
theorem Txt.frame (T:Txt P ops S rk ok vk) {m t:Nat}: ∀(d:Nat),m+d<=ops.size->(∀k,m<=k->k<m+d->(ok k).dst≠some t)->(S (m+d)).1.get t=(S m).1.get t:=by
 intro d
 induction d with
 |zero=>intro _ _;rfl
 |succ d ih=>
  intro h hq;rw[<-ih (by omega) (λk h1 h2=>hq k h1 (by omega))];have:=(T.sf (m+d) (by omega)).fr;rw[show m+(d+1)=m+d+1 by omega,this];exact qlV (hq (m+d) (by omega) (by omega))
theorem Txt.flen (T:Txt P ops S rk ok vk): ∀(d:Nat),d<=ops.size->(S d).1.n=(S 0).1.n:=by
 intro d
 induction d with
 |zero=>intro _;rfl
 |succ d ih=>
  intro h;rw[(T.sf d (by omega)).fr,qr6,ih (by omega)]
theorem Txt.fout (T:Txt P ops S rk ok vk) {t:Nat} (ht:(S 0).1.n<=t): ∀(d:Nat),d<=ops.size->(S d).1.get t=(S 0).1.get t:=by
 intro d
 induction d with
 |zero=>intro _;rfl
 |succ d ih=>
  intro h;rw[(T.sf d (by omega)).fr,qph (by rw[T.flen d (by omega)];exact ht),ih (by omega)]
theorem Txt.place (S:Nat->Fr×Heap) {b:Nat}: ∀(d:Nat),b<(S d).2.length->b<(S 0).2.length\/ ∃k,k<d/\(S k).2.length<=b/\b<(S (k+1)).2.length:=by
 intro d
 induction d with
 |zero=>intro h;exact .inl h
 |succ d ih=>
  intro hb;rcases ak b (S d).2.length with h1|h1
  ·rcases ih h1 with h2|⟨k,h2,h3⟩
   ·exact .inl h2
   exact .inr ⟨k,by omega,h3⟩
  exact .inr ⟨d,by omega,h1,hb⟩
theorem WF.sub {F:Nat->Prop} {nu:Nat->Option Nat} {w:World} {a:AV} {v:Value} (h:R F nu w a v) {G:Nat->Prop} (hG: ∀b,Dom nu b->G b):WF G a:=⟨F,nu,w,v,hG,h⟩
theorem Txt.ghost (T:Txt P ops S rk ok vk) {F0:Nat->Prop} {nu0:Nat->Option Nat} {w0:World} {t0:Array Value} (i0:Inv F0 nu0 (S 0).2 w0) (h0:RF F0 nu0 w0 (S 0).1 t0):
 ∀m,m<=ops.size-> ∃F nu w tmps,Inv F nu (S m).2 w/\RF F nu w (S m).1 tmps/\(∀b,Dom nu0 b->Dom nu b)/\
  ∀k,k<=m->(∀(t:Nat),WF (λb=>Dom nu b/\b<(S k).2.length) ((S k).1.get t))/\ ∀(b:Nat) (y:Blk),Dom nu b->(S k).2[b]? =some y->WFB (λb=>Dom nu b/\b<(S k).2.length) y:=by
 intro m
 induction m with
 |zero=>
  intro _;refine⟨F0,nu0,w0,t0,i0,h0,λ_ h=>h,λk hk=>?_⟩
  obtain rfl:k=0:=by omega
  refine⟨λt=>?_,λb y hb hy=>?_⟩
  ·exact WF.sub (h0.getD t) (λb hb=>⟨hb,i0.domLt hb⟩)
  cases hn:nu0 b with
  |none=>exact absurd hn hb
  |some rb=>exact(i0.blk b rb y hn hy).wf (λb hb=>⟨hb,i0.domLt hb⟩)
 |succ m ih=>
  intro hm;obtain⟨F,nu,w,tmps,i,h,hd,hg⟩:=ih (by omega);have sf:=T.sf m (by omega);have fin: ∀(F':Nat->Prop) (nu':Nat->Option Nat) (w':World) (x:Value),Inv F' nu' (S (m+1)).2 w'->RF F' nu' w' (S (m+1)).1 (Act.put ⟨tmps,[]⟩ (ok m).dst x).tmps->(∀b,Dom nu b->Dom nu' b)->(∀b,b<(S m).2.length->Dom nu' b->Dom nu b)->
   ∃F nu w tmps,Inv F nu (S (m+1)).2 w/\RF F nu w (S (m+1)).1 tmps/\(∀b,Dom nu0 b->Dom nu b)/\
    ∀k,k<=m+1->(∀(t:Nat),WF (λb=>Dom nu b/\b<(S k).2.length) ((S k).1.get t))/\ ∀(b:Nat) (y:Blk),Dom nu b->(S k).2[b]? =some y->WFB (λb=>Dom nu b/\b<(S k).2.length) y:=by
   intro F' nu' w' x i' h' hd1 hd2;refine⟨F',nu',w',_,i',h',λb hb=>hd1 b (hd b hb),λk hk=>?_⟩;rcases ak m k with hk2|hk2
   ·obtain rfl:k=m+1:=by omega
    refine⟨λt=>?_,λb y hb hy=>?_⟩
    ·exact WF.sub (h'.getD t) (λb hb=>⟨hb,i'.domLt hb⟩)
    cases hn:nu' b with
    |none=>exact absurd hn hb
    |some rb=>exact(i'.blk b rb y hn hy).wf (λb hb=>⟨hb,i'.domLt hb⟩)
   have hle:=T.le hk2 (by omega);obtain⟨g1,g2⟩:=hg k hk2;refine⟨λt=>(g1 t).mono λb hb=>⟨hd1 b hb.1,hb.2⟩,λb y hb hy=>?_⟩;have hlt:b<(S k).2.length:=(Yb.1 hy).1;have:=g2 b y (hd2 b (by omega) hb) hy
   exact WFB.mono this λb hb=>⟨hd1 b hb.1,hb.2⟩
  rcases sf.run with⟨_,hv,hA,_,_⟩|⟨_,B,⟨call,f,hc,hst⟩,hBl,hBs⟩
  ·refine fin F nu w undef (by rw[hA];exact i) ?_ (λ_ h=>h) (λ_ _ h=>h);rw[sf.fr,hv];exact h.setDst (a:=⟨tmps,[]⟩) _ qhO
  have gm:=hg m (ag _);have hle:=sf.le;have iC:=i.pad (N:=(S (m+1)).2.length) hle
  have hmask: ∀b,b∈(rk m).fp->(mask (rk m).fp (S m).2)[b]? =(pad (S m).2 (S (m+1)).2.length)[b]? :=by
   intro b hb;rw[qfw (sf.fp b hb),qc9,Ya (sf.fp b hb)];simp[hb]
  have hmaskO: ∀b y,b∉(rk m).fp->(mask (rk m).fp (S m).2)[b]? =some y->y= .dead:=by
   intro b y hb hy;rw[qc9]at hy
   cases hz:(S m).2[b]? with
   |none=>simp[hz]at hy
   |some z=>simp[hz,hb]at hy;exact hy.symm
  have hwfB: ∀b y,b∈(rk m).fp->Dom nu b->(pad (S m).2 (S (m+1)).2.length)[b]? =some y->WFB (λb=>Dom nu b/\b<(S m).2.length) y:=by
   intro b y hb hdb hy;rw[qfw (sf.fp b hb)]at hy;exact gm.2 b y hdb hy
  have iB:=qlG iC (B:=mask (rk m).fp (S m).2) (lo:=(S m).2.length) (xE _ _) hmask hmaskO (λb hb=>hb.2) hwfB;have hB:RF F (restr nu λb=>Dom nu b/\b<(S m).2.length) w (S m).1 tmps:=h.restr gm.1;obtain⟨x,F',nu',w',st,hR⟩:=qpX hc iB (hB.maskF (yh ops (ok m))) hst
  have hdn: ∀b,b<(S m).2.length->Dom nu b->Dom nu' b:=by
   intro b hb hdb
   cases hn:nu b with
   |none=>exact absurd hn hdb
   |some rb=>simp[Dom,st.n b rb (qbU hn ⟨hdb,hb⟩)]
  obtain⟨mv,hR2⟩:=Stp.part (S:=(rk m).fp) (G:=λb=>Dom nu b/\b<(S m).2.length) (G':=λb=>Dom nu' b/\b<(S (m+1)).2.length) (lo:=(S m).2.length) (hi:=(S (m+1)).2.length) (C:=pad (S m).2 (S (m+1)).2.length) (C':=(S (m+1)).2) (B:=mask (rk m).fp (S m).2) (B':=B)
   iC (xE _ _) hBl (by rw[qdk hle];exact ag _) (by rw[qdk hle]) (λb hb _=>i.fresh b hb) sf.fp hmask hmaskO (λb h1 h2=>⟨h1,h2⟩) (λb hb=>hb.2) hwfB (λ_=>st)
   (λb y hb hy=>by
    have hbd:Dom nu' b:=by
     rcases hb with⟨h1,h2⟩|⟨_,h2⟩
     ·exact hdn b (sf.fp b h1) h2
     exact h2.1
    cases hn:nu' b with
    |none=>exact absurd hn hbd
    |some rb=>exact(st.inv.blk b rb y hn hy).wf (λb hb=>⟨hb,by have:=st.inv.domLt hb;omega⟩))
   (λb hb=>hb.2) (λb _ hb=>hBs b hb)
   (λb hb hb2=>by
    rcases hb2 with hb2|hb2
    ·rw[qfw hb2];exact sf.quiet b hb2 (λh=>absurd h hb)
    rw[Yg hb2,Yg (by rw[qdk hle];exact hb2)])
  have hvR:R F' (qar nu nu' (S m).2.length (S (m+1)).2.length λb=>Dom nu' b/\b<(S (m+1)).2.length) w' (vk m) x:=
   hR2 (vk m) x (WF.sub hR λb hb=>⟨hb,by have:=st.inv.domLt hb;omega⟩) hR
  refine fin F' _ w' x mv.inv ?_ (λb hb=>?_) (λb hb hdb=>?_)
  ·rw[sf.fr];exact(h.mono (mv.ext iC)).setDst (a:=⟨tmps,[]⟩) _ hvR
  ·cases hn:nu b with
   |none=>exact absurd hn hb
   |some rb=>intro e;rw[mv.n b rb hn]at e;cases e
  simp only[Dom,qar]at hdb
  rwa [aa (by omega)]at hdb
structure DI (ops:Array Oper) (S:Nat->Fr×Heap) (rk:Nat->Rec) (ok:Nat->Oper) (G:Nat->Prop) (F0:Nat->Prop) (nu0:Nat->Option Nat) (w0:World) (D:Nat->Prop) (C:Heap) (F:Nat->Prop) (nu:Nat->Option Nat) (w:World) (tmps:Array Value):Prop where
 len:C.length=(S ops.size).2.length
 mov:Mov F0 nu0 (pad (S 0).2 (S ops.size).2.length) w0 F nu C w
 dom: ∀b,Dom nu b->G b
 made: ∀b,Dom nu b->b<(S 0).2.length\/ ∃k,k<ops.size/\D k/\(S k).2.length<=b/\b<(S (k+1)).2.length
 nold: ∀b,b<(S 0).2.length->nu b=nu0 b
 cells: ∀m,m<=ops.size-> ∀b,b<(S m).2.length->(b<(S 0).2.length\/ ∃k,k<ops.size/\D k/\(S k).2.length<=b/\b<(S (k+1)).2.length)->
  (∀k,k<ops.size->b∈(rk k).fp->(rk k).wr=true->(k<m↔D k))->C[b]? =(S m).2[b]?
 size:tmps.size=(S 0).1.n
 out: ∀t,(S 0).1.n<=t->(S 0).1.get t= .undef
 temps: ∀m,m<=ops.size-> ∀(t:Nat) (v:Value),(∀k,k<ops.size->(ok k).dst=some t->(k<m↔D k))->tmps[t]? =some v->R F nu w ((S m).1.get t) v
structure qhp (ops:Array Oper) (rk:Nat->Rec) (ok:Nat->Oper) (ord:Nat->Nat->Prop):Prop where
 tmp: ∀i j,i<j->j<ops.size-> ¬ord i j-> ∀t,(ok i).dst=some t->t∉yh ops (ok j)/\(ok j).dst≠some t
 tmp': ∀i j,i<j->j<ops.size-> ¬ord i j-> ∀t,(ok j).dst=some t->t∉yh ops (ok i)
 mem: ∀i j,i<j->j<ops.size-> ¬ord i j->((rk i).wr=true\/(rk j).wr=true)-> ∀b,b∈(rk i).fp->b∉(rk j).fp
 new: ∀i j,i<j->j<ops.size-> ¬ord i j-> ∀b,b∈(rk j).fp-> ¬((rk i).lo<=b/\b<(rk i).hi)
def next (fp:List Nat) (C A':Heap) (lo hi:Nat):Heap:=C.zipIdx.map λp=>if(fp.contains p.2||decide (lo<=p.2))&&decide (p.2<hi)then A'.getD p.2 .dead else p.1
theorem qhn (fp:List Nat) (C A':Heap) (lo hi:Nat):(next fp C A' lo hi).length=C.length:=by simp[next]
theorem qj2 {fp:List Nat} {C A':Heap} {lo hi b:Nat} (hA:A'.length=hi) (hC:hi<=C.length) (hb:b<hi) (h:b∈fp\/lo<=b):(next fp C A' lo hi)[b]? =A'[b]? :=by
 simp only[next,YA,List.getElem?_zipIdx,dP,az];rw[Ya (show b<C.length by omega),Ya (show b<A'.length by omega)]
 have:(fp.contains b||decide (lo<=b))=true:=by
  rcases h with h|h<;>simp[h]
 simp only[ZM,Function.comp,this,hb,decide_true,Bool.and_self,aJ,ZI];rw[Yy,Ya (show b<A'.length by omega)];rfl
theorem qlq {fp:List Nat} {C A':Heap} {lo hi b:Nat} (h1:b∉fp) (h2:b<lo\/hi<=b):(next fp C A' lo hi)[b]? =C[b]? :=by
 simp only[next,YA,List.getElem?_zipIdx,dP,az]
 cases h:C[b]? with
 |none=>rfl
 |some x=>
  have:((fp.contains b||decide (lo<=b))&&decide (b<hi))=false:=by
   have:fp.contains b=false:=by simpa using h1
   simp only[this,Bool.false_or,Bool.and_eq_false_iff,cP];omega
  simp only[ZM,Function.comp,this,ZF,aU]
theorem qh5 (tmps:Array Value) (df:List Deferred) (dst:Option Tmp) (x:Value):(Act.put ⟨tmps,df⟩ dst x).tmps.size=tmps.size:=by
 cases dst<;>simp[Act.put]
theorem qnL {tmps:Array Value} {df:List Deferred} {dst:Option Tmp} {x:Value} {t:Nat} (h:dst≠some t):(Act.put ⟨tmps,df⟩ dst x).tmps[t]? =tmps[t]? :=by
 cases dst with
 |none=>rfl
 |some d=>
  simp only[Act.put];rw[Array.getElem?_setIfInBounds_ne (λe=>h (by rw[e]))]
theorem qo0 {tmps:Array Value} {df:List Deferred} {x v:Value} {t:Nat} (h:(Act.put ⟨tmps,df⟩ (some t) x).tmps[t]? =some v):v=x:=by
 simp only[Act.put]at h;rw[Array.getElem?_setIfInBounds]at h;simp only[aJ]at h;split at h
 ·injection h with h;exact h.symm
 cases h
section
variable {G:Nat->Prop} {F0:Nat->Prop} {nu0:Nat->Option Nat} {w0:World} {D:Nat->Prop} {C:Heap} {F:Nat->Prop} {nu:Nat->Option Nat} {w:World} {tmps:Array Value} {ord:Nat->Nat->Prop}
theorem DI.cut (K:qhp ops rk ok ord) (hcl: ∀i k,ord i k->D k->D i) {j:Nat} (hj:j<ops.size) (hnj: ¬D j) (hord: ∀i,i<j->ord i j->D i) {b:Nat} (hb:b∈(rk j).fp):
 ∀k,k<ops.size->b∈(rk k).fp->(rk k).wr=true->(k<j↔D k):=by
 intro k hk hbk hwk;rcases dE k j with h|h|h
 ·refine⟨λ_=>?_,λ_=>h⟩
  cases Classical.em (ord k j)with
  |inl ho=>exact hord k (by omega) ho
  |inr ho=>exact absurd hb (K.mem k j h hj ho (.inl hwk) b hbk)
 ·subst h;exact⟨λh=>by omega,λh=>absurd h hnj⟩
 refine⟨λh'=>by omega,λhD=>?_⟩
 cases Classical.em (ord j k)with
 |inl ho=>exact absurd (hcl j k ho hD) hnj
 |inr ho=>exact absurd hbk (K.mem j k h hk ho (.inr hwk) b hb)
theorem DI.cutT (K:qhp ops rk ok ord) (hcl: ∀i k,ord i k->D k->D i) {j:Nat} (hj:j<ops.size) (hnj: ¬D j) (hord: ∀i,i<j->ord i j->D i) {t:Nat} (ht:t∈yh ops (ok j)):
 ∀k,k<ops.size->(ok k).dst=some t->(k<j↔D k):=by
 intro k hk hd;rcases dE k j with h|h|h
 ·refine⟨λ_=>?_,λ_=>h⟩
  cases Classical.em (ord k j)with
  |inl ho=>exact hord k (by omega) ho
  |inr ho=>exact absurd ht (K.tmp k j h hj ho t hd).1
 ·subst h;exact⟨λh=>by omega,λh=>absurd h hnj⟩
 refine⟨λh'=>by omega,λhD=>?_⟩
 cases Classical.em (ord j k)with
 |inl ho=>exact absurd (hcl j k ho hD) hnj
 |inr ho=>exact absurd ht (K.tmp' j k h hk ho t hd)
theorem DI.reads (I:DI ops S rk ok G F0 nu0 w0 D C F nu w tmps) (T:Txt P ops S rk ok vk) (K:qhp ops rk ok ord) (hcl: ∀i k,ord i k->D k->D i) {j:Nat} (hj:j<ops.size) (hnj: ¬D j) (hord: ∀i,i<j->ord i j->D i):
 RF F nu w (maskF (yh ops (ok j)) (S j).1) tmps:=by
 refine⟨by rw[qhC,I.size,T.flen j (by omega)],λt v hv=>?_,λt ht=>?_⟩
 ·rcases qdN (yh ops (ok j)) (S j).1 t with e|⟨e,hc⟩
  ·rw[e];exact .undef v
  rw[e];exact I.temps j (by omega) t v (DI.cutT K hcl hj hnj hord hc) hv
 rcases qdN (yh ops (ok j)) (S j).1 t with e|⟨e,_⟩
 ·exact e
 rw[qhC,T.flen j (by omega)]at ht;rw[e,T.fout ht j (by omega)];exact I.out t ht
theorem DI.nextT (I:DI ops S rk ok G F0 nu0 w0 D C F nu w tmps) (T:Txt P ops S rk ok vk) (K:qhp ops rk ok ord) (hcl: ∀i k,ord i k->D k->D i) {j:Nat} (hj:j<ops.size) (hnj: ¬D j)
 {D':Nat->Prop} (hD': ∀k,D' k↔D k\/k=j) {F':Nat->Prop} {nu':Nat->Option Nat} {w':World} (x1:Ext F nu w F' nu' w') {x:Value} (hx:(∃t:Nat,(ok j).dst=some t/\(S (j+1)).1.get t=vk j)->R F' nu' w' (vk j) x) (df:List Deferred):
 ∀m,m<=ops.size-> ∀(t:Nat) (v:Value),(∀k,k<ops.size->(ok k).dst=some t->(k<m↔D' k))->(Act.put ⟨tmps,df⟩ (ok j).dst x).tmps[t]? =some v->R F' nu' w' ((S m).1.get t) v:=by
 intro m hm t v hcut hv;by_cases hd:(ok j).dst=some t
 ·have hjm:j<m:=(hcut j hj hd).2 ((hD' j).2 (.inr rfl))
  have hlt:t<tmps.size:=by
   have:=(YB.1 hv).1
   rwa [qh5]at this
  rw[hd]at hv;obtain rfl:=qo0 hv
  have hq: ∀k,j+1<=k->k<(j+1)+(m-(j+1))->(ok k).dst≠some t:=by
   intro k h1 h2 hdk;have hDk:D' k:=(hcut k (by omega) hdk).1 (by omega);rcases(hD' k).1 hDk with hDk|hDk
   ·cases Classical.em (ord j k)with
    |inl ho=>exact hnj (hcl j k ho hDk)
    |inr ho=>exact(K.tmp j k (by omega) (by omega) ho t hd).2 hdk
   omega
  have h1:=T.frame (m:=j+1) (t:=t) (m-(j+1)) (by omega) hq;rw[show j+1+(m-(j+1))=m by omega]at h1;rw[h1]
  have h2:(S (j+1)).1=(S j).1.set t (vk j):=by rw[(T.sf j hj).fr,hd];rfl
  rcases(S j).1.get_set_same t (vk j)with e|e|⟨hge,_⟩
  ·rw[<-h2]at e;rw[e];exact hx ⟨t,hd,e⟩
  ·rw[<-h2]at e;rw[e];exact .undef _
  rw[T.flen j (by omega),<-I.size]at hge;omega
 rw[qnL hd]at hv;refine(I.temps m hm t v (λk hk hdk=>?_) hv).mono x1;rw[hcut k hk hdk,hD' k];refine⟨λh=>h.elim id λe=>?_,.inl⟩;subst e;exact absurd hdk hd
set_option maxHeartbeats 1000000 in
theorem DI.step (I:DI ops S rk ok G F0 nu0 w0 D C F nu w tmps) (T:Txt P ops S rk ok vk) (K:qhp ops rk ok ord) (hcl: ∀i k,ord i k->D k->D i) {j:Nat} (hj:j<ops.size) (hnj: ¬D j) (hord: ∀i,i<j->ord i j->D i)
 (hG: ∀k,k<=ops.size->(∀(t:Nat),WF (λb=>G b/\b<(S k).2.length) ((S k).1.get t))/\ ∀(b:Nat) (y:Blk),G b->(S k).2[b]? =some y->WFB (λb=>G b/\b<(S k).2.length) y)
 {D':Nat->Prop} (hD': ∀k,D' k↔D k\/k=j) {df:List Deferred} {rr:Option Nat} {n:Nat} {Kn:Act->World->Prop} {Q:Exit->Act->World->Prop}
 (hk: ∀C' F' nu' w' tmps',DI ops S rk ok G F0 nu0 w0 D' C' F' nu' w' tmps'->Kn ⟨tmps',df⟩ w'):wpOpIn (fz rr) n P ops Q j Kn ⟨tmps,df⟩ w:=by
 have sf:=T.sf j hj;have hreads:=I.reads T K hcl hj hnj hord;have hle:=sf.le;have hleN:(S (j+1)).2.length<=(S ops.size).2.length:=T.le (by omega) (ag _)
 have madeUp: ∀b,(b<(S 0).2.length\/ ∃k,k<ops.size/\D k/\(S k).2.length<=b/\b<(S (k+1)).2.length)->(b<(S 0).2.length\/ ∃k,k<ops.size/\D' k/\(S k).2.length<=b/\b<(S (k+1)).2.length):=by
  rintro b (h|⟨k,h1,h2,h3⟩)
  ·exact .inl h
  exact .inr ⟨k,h1,(hD' k).2 (.inl h2),h3⟩
 have sepK: ∀k b,k<ops.size->(S k).2.length<=b->b<(S (k+1)).2.length->(S j).2.length<=b->b<(S (j+1)).2.length->k=j:=by
  intro k b hk h1 h2 h3 h4;rcases dE k j with h|h|h
  ·have:=T.le (m:=k+1) (m':=j) (by omega) (by omega);omega
  ·exact h
  have:=T.le (m:=j+1) (m':=k) (by omega) (by omega);omega
 have hnone: ∀b,(S j).2.length<=b->b<(S (j+1)).2.length->nu b=none:=by
  intro b h1 h2
  cases hn:nu b with
  |none=>rfl
  |some r=>
   rcases I.made b (by simp[Dom,hn])with h|⟨k,hk1,hk2,hk3,hk4⟩
   ·have:=T.le (m:=0) (m':=j) (by omega) (by omega);omega
   obtain rfl:=sepK k b hk1 hk3 hk4 h1 h2;exact absurd hk2 hnj
 have hfpm: ∀b,b∈(rk j).fp->b<(S 0).2.length\/ ∃k,k<ops.size/\D k/\(S k).2.length<=b/\b<(S (k+1)).2.length:=by
  intro b hb;rcases Txt.place S j (sf.fp b hb)with h|⟨k,h1,h2,h3⟩
  ·exact .inl h
  refine .inr ⟨k,by omega,?_,h2,h3⟩
  cases Classical.em (ord k j)with
  |inl ho=>exact hord k (by omega) ho
  |inr ho=>exact absurd ⟨by rw[(T.sf k (by omega)).lo];exact h2,by rw[(T.sf k (by omega)).hi];exact h3⟩ (K.new k j h1 hj ho b hb)
 have hfpC: ∀b,b∈(rk j).fp->C[b]? =(S j).2[b]? :=λb hb=>I.cells j (by omega) b (sf.fp b hb) (hfpm b hb) (DI.cut K hcl hj hnj hord hb)
 unfold wpOpIn;rw[sf.ho];simp only;rcases sf.run with⟨hw,hv,hA,hfp,hwr⟩|⟨hw,B,⟨call,f,hc,hst⟩,hBl,hBs⟩
 ·rw[qce hreads hw];simp only[ZF,aU]
  have:Act.put ⟨tmps,df⟩ (ok j).dst undef=⟨(Act.put ⟨tmps,df⟩ (ok j).dst undef).tmps,df⟩:=by cases(ok j).dst<;>rfl
  rw[this];refine⟨λ_ _=>trivial,?_⟩;refine hk C F nu w _ ⟨I.len,I.mov,I.dom,λb hb=>madeUp b (I.made b hb),I.nold,λm hm b hb hmd hcut=>?_,by rw[qh5];exact I.size,I.out,I.nextT T K hcl hj hnj hD' (Ext.refl _ _ _) (λ_=>by rw[hv];exact qhO) df⟩;refine I.cells m hm b hb ?_ (λk hk1 hk2 hk3=>?_)
  ·rcases hmd with h|⟨k,h1,h2,h3,h4⟩
   ·exact .inl h
   rcases(hD' k).1 h2 with h2|rfl
   ·exact .inr ⟨k,h1,h2,h3,h4⟩
   rw[hA]at h4;omega
  rw[hcut k hk1 hk2 hk3,hD' k];refine⟨λh=>h.elim id λe=>?_,.inl⟩;subst e;rw[hfp]at hk2;cases hk2
 rw[qce hreads hw];simp only[aJ];have iC:=I.mov.inv;obtain⟨gj1,gj2⟩:=hG j (by omega);obtain⟨gn1,gn2⟩:=hG (j+1) (by omega)
 have hmask: ∀b,b∈(rk j).fp->(mask (rk j).fp (S j).2)[b]? =C[b]? :=by
  intro b hb;rw[hfpC b hb,qc9,Ya (sf.fp b hb)];simp[hb]
 have hmaskO: ∀b y,b∉(rk j).fp->(mask (rk j).fp (S j).2)[b]? =some y->y= .dead:=by
  intro b y hb hy;rw[qc9]at hy
  cases hz:(S j).2[b]? with
  |none=>simp[hz]at hy
  |some z=>simp[hz,hb]at hy;exact hy.symm
 have hwfB: ∀b y,b∈(rk j).fp->Dom nu b->C[b]? =some y->WFB (λb=>G b/\b<(S j).2.length) y:=by
  intro b y hb hdb hy;rw[hfpC b hb]at hy;exact gj2 b y (I.dom b hdb) hy
 have iB:=qlG iC (B:=mask (rk j).fp (S j).2) (lo:=(S j).2.length) (xE _ _) hmask hmaskO (λb hb=>hb.2) hwfB
 have hB:RF F (restr nu λb=>G b/\b<(S j).2.length) w (maskF (yh ops (ok j)) (S j).1) tmps:=by
  refine hreads.restr λt=>?_
  rcases qdN (yh ops (ok j)) (S j).1 t with e|⟨e,_⟩
  ·rw[e];exact⟨F,λ_=>none,w,.nilIface,λb hb=>absurd rfl hb,.undef _⟩
  rw[e];exact gj1 t
 refine qjg hc iB hB hst (λx F' nu' w' st hR _=>?_);obtain⟨mv,hR2⟩:=Stp.part (S:=(rk j).fp) (G:=λb=>G b/\b<(S j).2.length) (G':=λb=>G b/\b<(S (j+1)).2.length) (lo:=(S j).2.length) (hi:=(S (j+1)).2.length) (C:=C)
  (C':=next (rk j).fp C (S (j+1)).2 (S j).2.length (S (j+1)).2.length) (B:=mask (rk j).fp (S j).2) (B':=B)
  iC (xE _ _) hBl (by rw[I.len];exact hleN) (qhn _ _ _ _ _) hnone sf.fp hmask hmaskO (λb h1 h2=>⟨I.dom b h1,h2⟩) (λb hb=>hb.2) hwfB (λ_=>st)
  (λb y hb hy=>by
   rcases hb with⟨h1,h2⟩|⟨h1,h2⟩
   ·rw[<-hBs b (.inl h1)]at hy;exact gn2 b y (I.dom b h2) hy
   rw[<-hBs b (.inr h1)]at hy
   exact gn2 b y h2.1 hy)
  (λb hb=>hb.2) (λb hb hb2=>by rw[qj2 rfl (by rw[I.len];exact hleN) hb hb2];exact hBs b hb2)
  (λb hb hb2=>qlq hb hb2)
 have:Act.put ⟨tmps,df⟩ (ok j).dst x=⟨(Act.put ⟨tmps,df⟩ (ok j).dst x).tmps,df⟩:=by cases(ok j).dst<;>rfl
 rw[this]
 have jn: ∀b,Dom (qar nu nu' (S j).2.length (S (j+1)).2.length λb=>G b/\b<(S (j+1)).2.length) b->((S j).2.length<=b/\b<(S (j+1)).2.length/\G b)\/Dom nu b:=by
  intro b hb;simp only[Dom,qar]at hb;split at hb
  ·rename_i h;split at hb
   ·rename_i h2;exact .inl ⟨h.1,h.2,h2.1⟩
   exact absurd rfl hb
  exact .inr hb
 refine hk (next (rk j).fp C (S (j+1)).2 (S j).2.length (S (j+1)).2.length) F' _ w' _ ⟨by rw[qhn];exact I.len,I.mov.trans mv,λb hb=>?_,λb hb=>?_,λb hb=>?_,λm hm b hb hmd hcut=>?_,by rw[qh5];exact I.size,I.out,?_⟩
 ·rcases jn b hb with h|h
  ·exact h.2.2
  exact I.dom b h
 ·rcases jn b hb with h|h
  ·exact .inr ⟨j,hj,(hD' j).2 (.inr rfl),h.1,h.2.1⟩
  exact madeUp b (I.made b h)
 ·have:=T.le (m:=0) (m':=j) (by omega) (by omega);simp only[qar];rw[aa (by omega)];exact I.nold b hb
 ·
  have later:(b∈(rk j).fp/\(rk j).wr=true\/(S j).2.length<=b/\b<(S (j+1)).2.length)->j<m->(S (j+1)).2[b]? =(S m).2[b]? :=by
   intro hcase hjm
   have hbl:b<(S (j+1)).2.length:=by
    rcases hcase with h|h
    ·have:=sf.fp b h.1;omega
    exact h.2
   have:=T.heap (m:=j+1) hbl (m-(j+1)) (by omega) (λk h1 h2 hbk=>by
    cases hwk:(rk k).wr with
    |false=>rfl
    |true=>
     have hDk:=(hD' k).1 ((hcut k (by omega) hbk hwk).1 (by omega));rcases hDk with hDk|hDk
     ·cases Classical.em (ord j k)with
      |inl ho=>exact absurd (hcl j k ho hDk) hnj
      |inr ho=>
       rcases hcase with h|h
       ·exact absurd hbk (K.mem j k (by omega) (by omega) ho (.inl h.2) b h.1)
       exact absurd ⟨by rw[sf.lo];exact h.1,by rw[sf.hi];exact h.2⟩ (K.new j k (by omega) (by omega) ho b hbk)
     omega)
   rw[show j+1+(m-(j+1))=m by omega]at this;exact this.symm
  by_cases hin:b∈(rk j).fp
  ·have hbl:=sf.fp b hin;rw[qj2 rfl (by rw[I.len];exact hleN) (by omega) (.inl hin)]
   cases hwj:(rk j).wr with
   |true=>exact later (.inl ⟨hin,hwj⟩) ((hcut j hj hin hwj).2 ((hD' j).2 (.inr rfl)))
   |false=>
    rw[sf.quiet b hbl (λ_=>hwj),<-hfpC b hin];refine I.cells m hm b hb (hfpm b hin) (λk hk1 hk2 hk3=>?_);rw[hcut k hk1 hk2 hk3,hD' k];refine⟨λh=>h.elim id λe=>?_,.inl⟩;subst e;rw[hwj]at hk3;cases hk3
  by_cases hnew:(S j).2.length<=b/\b<(S (j+1)).2.length
  ·rw[qj2 rfl (by rw[I.len];exact hleN) hnew.2 (.inr hnew.1)];refine later (.inr hnew) ?_;rcases ak j m with h|h
   ·exact h
   have:=T.le h (by omega);omega
  rw[qlq hin (by omega)];refine I.cells m hm b hb ?_ (λk hk1 hk2 hk3=>?_)
  ·rcases hmd with h|⟨k,h1,h2,h3,h4⟩
   ·exact .inl h
   rcases(hD' k).1 h2 with h2|rfl
   ·exact .inr ⟨k,h1,h2,h3,h4⟩
   exact absurd ⟨h3,h4⟩ hnew
  rw[hcut k hk1 hk2 hk3,hD' k];refine⟨λh=>h.elim id λe=>?_,.inl⟩;subst e;exact absurd hk2 hin
 refine I.nextT T K hcl hj hnj hD' (mv.ext iC) (λ⟨t,_,e⟩=>hR2 _ x (e▸gn1 t) hR) df
end
theorem qiG {nu:Nat->Option Nat} {A:Heap} {N rb:Nat} {w:World} (h:qaO nu (pad A N) w rb):qaO nu A w rb:=by
 obtain⟨b,x,rc,h1,h2,h3,h4⟩:=h;rcases ak b A.length with hb|hb
 ·rw[qfw hb]at h2;exact⟨b,x,rc,h1,h2,h3,h4⟩
 rw[qre hb h2]at h3;cases h3
theorem qhp.of {rs:List Rec} (h:qgb ops rs=true) (hr: ∀k,k<ops.size->rs[k]? =some (rk k)) (ho: ∀k,k<ops.size->ops[k]? =some (ok k)):
 qhp ops rk ok λi j=>((masks ops.toList).getD j 0).testBit i=true:=by
 have key: ∀i j,i<j->j<ops.size-> ¬((masks ops.toList).getD j 0).testBit i=true->qgF ops i j=false/\qfn (rk i) (rk j)=false:=by
  intro i j hij hj hno;simp only[qgb,qme,qrI,aI]at h;simp only[dc]at hno;have h1:=Yp.1 (Yp.1 h.1.2 j (cn.2 hj)) i (cn.2 hij);rw[hno]at h1;have hi':(rk i,i)∈rs.zipIdx:=List.mem_zipIdx_iff_getElem?.2 (hr i (by omega));have hj':(rk j,j)∈rs.zipIdx:=List.mem_zipIdx_iff_getElem?.2 (hr j hj);have h2:=Yp.1 h.2 (rk j,j) hj';refine⟨by simpa using h1,?_⟩;simp only[dl]at h2;rcases h2 with h2|h2
  ·have e:(rk j).fp=[]:=dG.1 h2;simp[qfn,e]
  have h3:=Yp.1 h2 (rk i,i) hi'
  have hb:Nat.ble j i=false:=by
   cases hb:Nat.ble j i with
   |false=>rfl
   |true=>have:=Ys hb;omega
  simp only[hno,hb,Bool.false_or]at h3;simpa using h3
 refine⟨λi j hij hj hno t ht=>?_,λi j hij hj hno t ht=>?_,λi j hij hj hno hw b hb hb2=>?_,λi j hij hj hno b hb hb2=>?_⟩
 ·have:=(key i j hij hj hno).1;simp only[qgF,ho i (by omega),ho j hj,ht]at this;simp only[cI]at this;refine⟨by simpa using this.1.1,λe=>?_⟩;have h2:=this.1.2;rw[e]at h2;simp at h2
 ·have:=(key i j hij hj hno).1;simp only[qgF,ho i (by omega),ho j hj,ht]at this;simp only[cI]at this;simpa using this.2
 ·have:=(key i j hij hj hno).2;simp only[qfn,cI,Bool.and_eq_false_iff]at this;rcases this.1 with h1|h1
  ·have h2:((rk i).fp.any λb=>(rk j).fp.contains b)=true:=eH.2 ⟨b,hb,by simpa using hb2⟩;rw[h1]at h2;cases h2
  rcases hw with hw|hw
  ·rw[h1.1]at hw;cases hw
  rw[h1.2]at hw;cases hw
 have:=(key i j hij hj hno).2;simp only[qfn,cI]at this;have h2:((rk j).fp.any λb=>decide ((rk i).lo<=b)&&decide (b<(rk i).hi))=true:=eH.2 ⟨b,hb,by simp[hb2.1,hb2.2]⟩;rw[this.2]at h2;cases h2
theorem qpo {p q:Nat->Bool} {i:Nat}: ∀(l:List Nat),i∈l->(∀k,q k=true->p k=true)->p i=true->q i=false->(l.filter q).length<(l.filter p).length:=by
 intro l
 induction l with
 |nil=>intro h;cases h
 |cons x l ih=>
  intro hi hpq hp hq
  have hle: ∀l:List Nat,(l.filter q).length<=(l.filter p).length:=by
   intro l
   induction l with
   |nil=>exact ag _
   |cons y l ihl=>
    simp only[eG]
    cases hy:q y with
    |true=>simp[hpq y hy,ihl]
    |false=>
     cases p y<;>simp<;>omega
  rcases bK.1 hi with rfl|h
  ·simp only[eG,hp,hq];have:=hle l;simp;omega
  have:=ih h hpq hp hq;simp only[eG]
  cases hx:q x with
  |true=>simp[hpq x hx,this]
  |false=>cases p x<;>simp<;>omega
theorem qeq {listed:Array Bool} {j k:Nat} (hj:j<listed.size):(listed.setIfInBounds j true).getD k false=true↔listed.getD k false=true\/k=j:=by
 simp only[Array.getD_eq_getD_getElem?,Array.getElem?_setIfInBounds];by_cases e:j=k
 ·subst e;simp[hj]
 have e': ¬k=j:=λh=>e h.symm
 simp[e,e']
theorem mem_ready {ops:Array Oper} {listed:Array Bool} {i:Nat}:i∈Region.ready .any ops listed↔i<ops.size/\listed.getD i true=false/\ ∃o,ops[i]? =some o/\ ∀e∈o.after.toList,Region.binds .any e=true->listed.getD e.on false=true:=by
 simp only[Region.ready,eP,cn,aI,cV];refine and_congr Iff.rfl (and_congr Iff.rfl ?_)
 cases h:ops[i]? with
 |none=>simp
 |some o=>
  simp only[ZM,YN,ZI,exists_eq_left'];rw[<-Array.all_toList,Yp]
  refine forall_congr' λe=>forall_congr' λhe=>?_
  cases Region.binds .any e<;>simp
section
variable {F:Nat->Prop} {nu:Nat->Option Nat} {w:World} {A:Heap}
theorem qk9 (i:Inv F nu A w) {fr:Fr} {a:Act} (h:RF F nu w fr a.tmps) {fr':Fr} {A':Heap} {S:Nat->Fr×Heap} {rk:Nat->Rec} {rs:List Rec} (hS0:S 0=(fr,A)) (hSn:S ops.size=(fr',A')) (hex: ∀k,∃o v,k<ops.size->SF P ops k (S k) (S (k+1)) (rk k) o v)
 (hok:qgb ops rs=true) (hrs: ∀k,k<ops.size->rs[k]? =some (rk k)) {rr:Option Nat} {n:Nat} {Q:Exit->Act->World->Prop}
 (hq: ∀F' nu' w' a',a'.defers=a.defers->Stp F nu A w F' nu' A' w'->RF F' nu' w' fr' a'.tmps->Q .normal a' w'):wpAnyIn (fz rr) n P .any ops Q ops.size (Array.replicate ops.size false) a w:=by
 have he:(S ops.size)=(fr',A'):=hSn;obtain⟨ok,hok2⟩:=Classical.axiomOfChoice hex;obtain⟨vk,hvk⟩:=Classical.axiomOfChoice hok2;have T:Txt P ops S rk ok vk:=⟨λk hk=>hvk k hk⟩;have K:=qhp.of hok (λk hk=>hrs k hk) (λk hk=>(T.sf k hk).ho)
 have hA0:(S 0).2=A:=by rw[hS0]
 have hf0:(S 0).1=fr:=by rw[hS0]
 have hAn:(S ops.size).2=A':=by rw[hSn]
 have hfn:(S ops.size).1=fr':=by rw[hSn]
 have i0:Inv F nu (S 0).2 w:=by rw[hA0];exact i
 have h0:RF F nu w (S 0).1 a.tmps:=by rw[hf0];exact h
 obtain⟨Fg,nug,wg,tg,_,_,hd0,hG⟩:=T.ghost i0 h0 ops.size (ag _);have hle:=T.le (aF ops.size) (ag _)
 have hedge: ∀k o,ops[k]? =some o-> ∀e∈o.after.toList,Region.binds .any e=true->e.on<k:=by
  intro k o ho e he hb;simp only[qgb,qme,aI]at hok
  have hmem:(o,k)∈ops.toList.zipIdx:=by
   rw[List.mem_zipIdx_iff_getElem?];simpa using ho
  have h1:=Yp.1 (Yp.1 hok.1.1 (o,k) hmem) e he;simpa[hb]using h1
 have fin: ∀(D:Nat->Prop) C F' nu' w' tmps,(∀k,k<ops.size->D k)->DI ops S rk ok (λb=>Dom nug b) F nu w D C F' nu' w' tmps->Q .normal ⟨tmps,a.defers⟩ w':=by
  intro D C F' nu' w' tmps hD I
  have hC:C=A':=by
   rw[<-hAn]
   refine List.ext_getElem? λb=>?_
   rcases ak b (S ops.size).2.length with hb|hb
   ·refine I.cells ops.size (ag _) b hb ?_ (λk hk _ _=>⟨λ_=>hD k hk,λ_=>hk⟩);rcases Txt.place S ops.size hb with h1|⟨k,h1,h2,h3⟩
    ·exact .inl h1
    exact .inr ⟨k,h1,hD k h1,h2,h3⟩
   rw[Yg hb,Yg (by rw[I.len];exact hb)]
  subst hC;refine hq F' nu' w' _ rfl ?_ ⟨?_,λt v hv=>?_,λt ht=>?_⟩
  ·have mv:=I.mov;rw[hA0]at mv;have hlen:=I.len;rw[hA0]at hle;refine⟨mv.f,mv.n,mv.shape,mv.inv,λrb hlt hno=>mv.keep rb hlt λhO=>hno (qiG hO),λrb hlt hO=>qiG (mv.own rb hlt hO),mv.size,mv.os,mv.tape,mv.output,λb hb=>I.nold b (by rw[hA0];exact hb),by rw[hlen];exact hle,λrb hF=>?_⟩;rcases mv.newF rb hF with h1|h1|h1
   ·exact .inl h1
   ·exact .inr (.inl h1)
   exact .inr (.inr (qiG h1))
  ·rw[I.size,<-hfn,T.flen ops.size (ag _)]
  ·rw[<-hfn];exact I.temps ops.size (ag _) t v (λk hk _=>⟨λ_=>hD k hk,λ_=>hk⟩) hv
  rw[<-hfn]at ht⊢;rw[T.flen ops.size (ag _)]at ht;rw[T.fout ht ops.size (ag _)];exact I.out t ht
 have go: ∀(fuel:Nat) (listed:Array Bool) C F' nu' w' tmps,listed.size=ops.size->((List.range ops.size).filter λk=>!listed.getD k true).length<=fuel->
  (∀k o,listed.getD k false=true->ops[k]? =some o-> ∀e∈o.after.toList,Region.binds .any e=true->listed.getD e.on false=true)->
  DI ops S rk ok (λb=>Dom nug b) F nu w (λk=>listed.getD k false=true) C F' nu' w' tmps->wpAnyIn (fz rr) n P .any ops Q fuel listed ⟨tmps,a.defers⟩ w':=by
  have tf: ∀(listed:Array Bool) k,k<listed.size->listed.getD k true=listed.getD k false:=by
   intro listed k hk;simp[Array.getD,hk]
  intro fuel
  induction fuel with
  |zero=>
   intro listed C F' nu' w' tmps hsz hcount _ I
   have hall: ∀k,k<ops.size->listed.getD k false=true:=by
    intro k hk
    cases hl:listed.getD k false with
    |true=>rfl
    |false=>
     have hm:k∈(List.range ops.size).filter λk=>!listed.getD k true:=by
      simp only[eP,cn,hk,true_and];rw[tf listed k (by omega),hl];rfl
     have:=List.length_pos_of_mem hm;omega
   refine⟨?_,fin _ C F' nu' w' tmps hall I⟩
   refine List.eq_nil_iff_forall_not_mem.2 λk hk=>?_
   obtain⟨h1,h2,_⟩:=mem_ready.1 hk;rw[tf listed k (by omega),hall k h1]at h2;cases h2
  |succ fuel ih=>
   intro listed C F' nu' w' tmps hsz hcount hclo I;refine⟨λhnil=>fin _ C F' nu' w' tmps (λk=>?_) I,λj hj=>?_⟩
   ·induction k using Nat.strongRecOn with
    |_ k ihk=>
     intro hk
     cases hl:listed.getD k false with
     |true=>rfl
     |false=>
      have:k∈Region.ready .any ops listed:=by
       refine mem_ready.2 ⟨hk,by rw[tf listed k (by omega),hl],ok k,(T.sf k hk).ho,λe he hb=>?_⟩;have:=hedge k (ok k) (T.sf k hk).ho e he hb;exact ihk e.on this (by omega)
      rw[hnil]at this;cases this
   obtain⟨hj1,hj2,o,hj3,hj4⟩:=mem_ready.1 hj
   have hjs:j<listed.size:=by omega
   have hnj: ¬listed.getD j false=true:=by rw[<-tf listed j hjs,hj2];simp
   have hclo': ∀k o,(listed.setIfInBounds j true).getD k false=true->ops[k]? =some o-> ∀e∈o.after.toList,Region.binds .any e=true->(listed.setIfInBounds j true).getD e.on false=true:=by
    intro k o' hk ho' e he hb;rw[qeq hjs]at hk⊢;rcases hk with hk|rfl
    ·exact .inl (hclo k o' hk ho' e he hb)
    rw[hj3]at ho';injection ho' with ho';subst ho';exact .inl (hj4 e he hb)
   have hcl: ∀i k,((masks ops.toList).getD k 0).testBit i=true->listed.getD k false=true->listed.getD i false=true:=by
    intro i k hb hk;exact qgy (λk=>listed.getD k false=true) ops.toList [] 0 rfl (λk _ hD o' _ ho' e he hbb=>hclo k o' hD (by simpa using ho') e he hbb) (λk i hk=>by omega) k i hb hk
   have hord: ∀i,i<j->((masks ops.toList).getD j 0).testBit i=true->listed.getD i false=true:=by
    intro i hij hb;have:=qgy (λk=>(listed.setIfInBounds j true).getD k false=true) ops.toList [] 0 rfl (λk _ hD o' _ ho' e he hbb=>hclo' k o' hD (by simpa using ho') e he hbb) (λk i hk=>by omega) j i hb ((qeq hjs).2 (.inr rfl));rcases(qeq hjs).1 this with h1|h1
    ·exact h1
    omega
   refine I.step T K hcl hj1 hnj hord hG (D':=λk=>(listed.setIfInBounds j true).getD k false=true) (λk=>qeq hjs) (λC2 F2 nu2 w2 tmps2 I2=>?_);refine ih _ C2 F2 nu2 w2 tmps2 (by simpa using hsz) ?_ hclo' I2;have:=qpo (p:=λk=>!listed.getD k true) (q:=λk=>!(listed.setIfInBounds j true).getD k true) (i:=j) (List.range ops.size) (cn.2 hj1) (λk hk=>?_) (by simp only[hj2,Bool.not_false]) ?_
   ·omega
   ·simp only[Array.getD_eq_getD_getElem?,Array.getElem?_setIfInBounds]at hk⊢;by_cases e:j=k
    ·subst e;simp[hjs]at hk
    simpa[e]using hk
   simp[Array.getD_eq_getD_getElem?,hjs]
 have:=go ops.size (Array.replicate ops.size false) (pad (S 0).2 (S ops.size).2.length) F nu w a.tmps (by simp) (by
  refine aX (List.length_filter_le _ _) ?_
  simp) (λk o hk=>by
  simp[Array.getD_eq_getD_getElem?,Array.getElem?_replicate]at hk
  split at hk<;>simp at hk) ?_
 ·exact this
 refine⟨qdk hle,.refl (i0.pad hle),hd0,λb hb=> .inl (i0.domLt hb),λ_ _=>rfl,λm hm b hb hmd hcut=>?_,h0.size,h0.out,λm hm t v hcut hv=>?_⟩
 ·have hno: ∀k,¬((Array.replicate ops.size false).getD k false=true):=by
   intro k;simp only[Array.getD_eq_getD_getElem?,Array.getElem?_replicate];split<;>simp
  rcases hmd with h1|⟨k,_,h2,_⟩
  ·rw[qfw h1]
   have:=T.heap (m:=0) h1 m (by omega) (λk _ hk hbk=>by
    cases hwk:(rk k).wr with
    |false=>rfl
    |true=>exact absurd ((hcut k (by omega) hbk hwk).1 (by omega)) (hno k))
   rw[az]at this;exact this.symm
  exact absurd h2 (hno k)
 have hno: ∀k,¬((Array.replicate ops.size false).getD k false=true):=by
  intro k;simp only[Array.getD_eq_getD_getElem?,Array.getElem?_replicate];split<;>simp
 have:=T.frame (m:=0) (t:=t) m (by omega) (λk _ hk hd=>hno k ((hcut k (by omega) hd).1 (by omega)));rw[az]at this;rw[this];exact h0.at_ t v hv
theorem qqg (hc:zg P call) (i:Inv F nu A w) {fr:Fr} {a:Act} (h:RF F nu w fr a.tmps) {fr':Fr} {A':Heap} (he:qeR P call ops fr A=some (fr',A')) {rr:Option Nat} {n:Nat} {Q:Exit->Act->World->Prop}
 (hq: ∀F' nu' w' a',a'.defers=a.defers->Stp F nu A w F' nu' A' w'->RF F' nu' w' fr' a'.tmps->Q .normal a' w'):wpAnyIn (fz rr) n P .any ops Q ops.size (Array.replicate ops.size false) a w:=by
 unfold qeR at he;split at he
 ·rename_i s rs hrun;split at he
  ·rename_i hok;injection he with he;obtain⟨S,rk,hS0,hSn,hstep,hrs⟩:=qn9 _ _ _ _ _ hrun;refine qk9 i h hS0 (hSn.trans he) (λk=>?_) hok hrs hq;by_cases hk:k<ops.size
   ·have:=hstep k hk;rw[az]at this;obtain⟨o,v,sf⟩:=SF.of hc this;exact⟨o,v,λ_=>sf⟩
   exact⟨default,default,λh=>absurd h hk⟩
  cases he
 cases he
end
end
end
end Go.Av
end
