/-
  The steps of a heap: a new block, a block that is written, a draw, blocks that are given up, frozen or renamed.
-/
import Derived.Test.YtppehbboaidbgaaGreatDoorAvBase
import Derived.Laws.Tables
import Derived.Laws.Rows
import Derived.Deep.Draws
noncomputable section
namespace Go.Av
set_option linter.unusedSectionVars false
open Go.RowKit
section
variable [Glob] {F:Nat->Prop} {nu:Nat->Option Nat} {A:Heap} {w:World}
def upd (nu:Nat->Option Nat) (b rb:Nat):Nat->Option Nat:=fun k=>if k=b then some rb else nu k
theorem upd_same (b rb:Nat):upd nu b rb b=some rb:=by simp[upd]
theorem qfm (i:Inv F nu A w) (rb:Nat): ∀b r,nu b=some r->upd nu A.length rb b=some r:=by
 intro b r h
 have:b≠A.length:=fun e=>by rw[i.fresh b (by omega)]at h;cases h
 simp[upd,this,h]
theorem RB.mono {F':Nat->Prop} {nu':Nat->Option Nat} {w':World} (x:Ext F nu w F' nu' w') {rb:Nat} {k:Blk} (hh:w'.heap[rb]? =w.heap[rb]?) (hF:F' rb->F rb) (h:RB F nu w rb k):RB F' nu' w' rb k:=by
 cases k with
 |dead=>trivial
 |cells cs=>
  obtain⟨h0,vs,e,h1,h2,h3⟩:=h;exact⟨fun hf=>h0 (hF hf),vs,e,hh.trans h1,h2,fun i a v ha hv=>(h3 i a v ha hv).mono x⟩
 |frozen cs=>
  obtain⟨h0,vs,e,fr,h1,h2,h3⟩:=h;exact⟨x.f _ h0,vs,e,fr,hh.trans h1,h2,fun i a v ha hv=>(h3 i a v ha hv).mono x⟩
 |map ks xs=>
  obtain⟨h0,es,c,h1,h2,h3,h4,h5,h6⟩:=h;exact⟨fun hf=>h0 (hF hf),es,c,hh.trans h1,h2,h3,fun i a v ha hv=>(h4 i a v ha hv).mono x,fun i a v ha hv=>(h5 i a v ha hv).mono x,h6⟩
 |iter s pos=>
  obtain⟨h0,bs,h1,h2⟩:=h;exact⟨fun hf=>h0 (hF hf),bs,hh.trans h1,h2⟩
 |bld T e cs=>
  obtain⟨h0,vs,h1,h2,h3,h4⟩:=h;exact⟨fun hf=>h0 (hF hf),vs,hh.trans h1,h2,fun i a v ha hv=>(h3 i a v ha hv).mono x,fun i g n cap hv=>x.shape _ _ (h4 i g n cap hv)⟩
 |loop st pend fr ps asg body=>
  obtain⟨h0,fn,tmps,dd,h1,h2⟩:=h;exact⟨fun hf=>h0 (hF hf),fn,tmps,dd,hh.trans h1,h2.mono x⟩
theorem Stp.same (i:Inv F nu A w) {w':World} (hh:w'.heap=w.heap) (ho:w'.os=w.os) (ht:w'.tape=w.tape) (hp:w'.output=w.output):Stp F nu A w F nu A w':=by
 have x:Ext F nu w F nu w':=⟨fun _ h=>h,fun _ _ h=>h,fun _ _=>by rw[hh],fun rb s hs=>by rw[<-hs];simp[World.shape?,hh]⟩
 exact⟨x.f,x.n,x.shape,⟨fun b rb k hb hk=>(i.blk b rb k hb hk).mono x (by rw[hh]) id,i.inj,i.fresh,fun rb h=>by rw[hh];exact i.ltF rb h,fun b rb h=>by rw[hh];exact i.ltN b rb h,Glob.ext i.glob x⟩,
  fun _ _ _=>by rw[hh],fun _ _ h=>h,by rw[hh];exact Nat.le_refl _,ho,ht,hp,fun _ _=>rfl,Nat.le_refl _,fun _ h=> .inl h⟩
theorem Stp.drew (i:Inv F nu A w):Stp F nu A w F nu A w.drew:=Stp.same i rfl rfl rfl rfl
theorem qb5 (o:Obj) (rb:Nat) (s:TypeId×Nat) (h:w.shape? rb=some s):(w.alloc o).shape? rb=some s:=by
 have hlt:rb<w.heap.size:=by
  rcases Nat.lt_or_ge rb w.heap.size with h1|h1
  ·exact h1
  simp[World.shape?,Array.getElem?_eq_none h1]at h
 rw[<-h];simp only[World.shape?,Go.heap_alloc_old w o rb hlt]
theorem Stp.alloc (i:Inv F nu A w) (o:Obj) (k:Blk) (hk:RB F (upd nu A.length w.heap.size) (w.alloc o) w.heap.size k):Stp F nu A w F (upd nu A.length w.heap.size) (A++[k]) (w.alloc o):=by
 have x:Ext F nu w F (upd nu A.length w.heap.size) (w.alloc o):=
  ⟨fun _ h=>h,qfm i _,fun rb h=>Go.heap_alloc_old w o rb (i.ltF rb h),fun rb s hs=>qb5 o rb s hs⟩
 have split: ∀b rb,upd nu A.length w.heap.size b=some rb->(b=A.length/\rb=w.heap.size)\/(nu b=some rb/\b≠A.length):=by
  intro b rb h;simp only[upd]at h;split at h
  ·rename_i e;injection h with h;exact .inl ⟨e,h.symm⟩
  rename_i e;exact .inr ⟨h,e⟩
 have atOld: ∀b y,b≠A.length->(A++[k])[b]? =some y->A[b]? =some y:=by
  intro b y hb hy;rcases Nat.lt_or_ge b A.length with h|h
  ·rwa [Yf h]at hy
  have:(A++[k]).length<=b:=by simp;omega
  rw[Yg this]at hy;cases hy
 have atNew: ∀y,(A++[k])[A.length]? =some y->y=k:=by
  intro y hy;simp at hy;exact hy.symm
 have inv:Inv F (upd nu A.length w.heap.size) (A++[k]) (w.alloc o):=by
  refine⟨fun b rb y hb hy=>?_,fun b b' rb y y' hb hb' hy hy' ho ho'=>?_,fun b hb=>?_,fun rb h=>?_,fun b rb h=>?_,Glob.ext i.glob x⟩
  ·rcases split b rb hb with⟨rfl,rfl⟩|⟨h1,h2⟩
   ·rw[atNew y hy];exact hk
   exact(i.blk b rb y h1 (atOld b y h2 hy)).mono x (Go.heap_alloc_old w o rb (i.ltN b rb h1)) id
  ·rcases split b rb hb with⟨rfl,rfl⟩|⟨h1,h2⟩
   ·rcases split b' _ hb' with⟨rfl,_⟩|⟨h1',_⟩
    ·rfl
    have:=i.ltN _ _ h1';omega
   rcases split b' _ hb' with⟨rfl,rfl⟩|⟨h1',h2'⟩
   ·have:=i.ltN _ _ h1;omega
   exact i.inj b b' rb y y' h1 h1' (atOld b y h2 hy) (atOld b' y' h2' hy') ho ho'
  ·have h1:A.length+1<=b:=by simpa using hb
   simp only[upd];rw[if_neg (by omega)];exact i.fresh b (by omega)
  ·have:=i.ltF rb h;simp;omega
  rcases split b rb h with⟨_,rfl⟩|⟨h1,_⟩
  ·simp
  have:=i.ltN b rb h1;simp;omega
 refine⟨x.f,x.n,x.shape,inv,fun rb hlt _=>Go.heap_alloc_old w o rb hlt,?_,by simp,rfl,rfl,rfl,fun b hb=>by simp only[upd];rw[if_neg (by omega)],by simp,fun _ h=> .inl h⟩;rintro rb hlt ⟨b,y,hb,hy,ho⟩;rcases split b rb hb with⟨rfl,rfl⟩|⟨h1,h2⟩
 ·omega
 exact⟨b,y,h1,atOld b y h2 hy,ho⟩
theorem Uh (i:Inv F nu A w) (vs:Array Value) (e:TypeId) (cs:List AV) (hl:cs.length<=vs.size) (hR: ∀(j:Nat) (a:AV) (v:Value),cs[j]? =some a->vs[j]? =some v->R F nu w a v):
 Stp F nu A w F (upd nu A.length w.heap.size) (A++[.cells cs]) (w.alloc (.cells vs e)):=by
 have x:Ext F nu w F (upd nu A.length w.heap.size) (w.alloc (.cells vs e)):=
  ⟨fun _ h=>h,qfm i _,fun rb h=>Go.heap_alloc_old w _ rb (i.ltF rb h),fun rb s hs=>qb5 _ rb s hs⟩
 exact Stp.alloc i _ _ ⟨fun h=>absurd (i.ltF _ h) (by omega),vs,e,Go.heap_alloc_new w _,hl,fun j a v ha hv=>(hR j a v ha hv).mono x⟩
theorem getElem?_set' {A:Heap} {b c:Nat} {k y:Blk} (h:(A.set b k)[c]? =some y):(b=c/\y=k)\/(b≠c/\A[c]? =some y):=by
 rw[List.getElem?_set]at h;split at h
 ·rename_i e;split at h
  ·injection h with h;exact .inl ⟨e,h.symm⟩
  cases h
 rename_i e;exact .inr ⟨e,h⟩
theorem Stp.write (i:Inv F nu A w) {b rb:Nat} {k0 k:Blk} {w':World} (hb:nu b=some rb) (hA:A[b]? =some k0) (ho0:k0.owned=true) (hok:k.owned=true)
 (hoth: ∀r,r≠rb->w'.heap[r]? =w.heap[r]?) (hsz:w'.heap.size=w.heap.size) (hsh: ∀s,w.shape? rb=some s->w'.shape? rb=some s)
 (hos:w'.os=w.os) (ht:w'.tape=w.tape) (hp:w'.output=w.output) (hk: ¬F rb->RB F nu w' rb k):Stp F nu A w F nu (A.set b k) w':=by
 have hnF: ¬F rb:=fun hF=>i.notOwns hF ⟨b,k0,hb,hA,ho0⟩
 have x:Ext F nu w F nu w':=⟨fun _ h=>h,fun _ _ h=>h,fun r h=>hoth r (fun e=>hnF (e▸h)),fun r s hs=>by
  by_cases e:r=rb
  ·subst e;exact hsh s hs
  rw[<-hs];simp only[World.shape?,hoth r e]⟩
 refine⟨x.f,x.n,x.shape,⟨fun c r y hc hy=>?_,fun c c' r y y' hc hc' hy hy' ho ho'=>?_,fun c hc=>i.fresh c (by simpa using hc),fun r h=>by rw[hsz];exact i.ltF r h,fun c r h=>by rw[hsz];exact i.ltN c r h,Glob.ext i.glob x⟩,
  fun r hlt hno=>hoth r (fun e=>hno ⟨b,k0,e▸hb,hA,ho0⟩),?_,by omega,hos,ht,hp,fun _ _=>rfl,by simp,fun _ h=> .inl h⟩
 ·rcases getElem?_set' hy with⟨rfl,rfl⟩|⟨hne,hy⟩
  ·rw[hb]at hc;injection hc with hc;subst hc;exact hk hnF
  by_cases e:r=rb
  ·subst e;have h0:=i.blk c r y hc hy;by_cases hyo:y.owned=true
   ·exact absurd (i.inj b c r k0 y hb hc hA hy ho0 hyo) hne
   cases y with
   |dead=>trivial
   |frozen cs=>exact absurd h0.1 hnF
   |_=>simp[Blk.owned]at hyo
  exact(i.blk c r y hc hy).mono x (hoth r e) id
 ·rcases getElem?_set' hy with⟨e1,_⟩|⟨_,hy1⟩
  ·rcases getElem?_set' hy' with⟨e2,_⟩|⟨_,hy2⟩
   ·exact e1.symm.trans e2
   exact i.inj _ _ r k0 y' hc hc' (e1▸hA) hy2 ho0 ho'
  rcases getElem?_set' hy' with⟨e2,_⟩|⟨_,hy2⟩
  ·exact i.inj _ _ r y k0 hc hc' hy1 (e2▸hA) ho ho0
  exact i.inj _ _ r y y' hc hc' hy1 hy2 ho ho'
 rintro r hlt ⟨c,y,hc,hy,ho⟩;rcases getElem?_set' hy with⟨rfl,rfl⟩|⟨_,hy⟩
 ·exact⟨b,k0,hc,hA,ho0⟩
 exact⟨c,y,hc,hy,ho⟩
theorem Stp.setRow (i:Inv F nu A w) {b rb:Nat} {cs0 cs:List AV} {vs0 vs:Array Value} {e:TypeId} (hb:nu b=some rb) (hA:A[b]? =some (.cells cs0)) (hw:w.heap[rb]? =some (.cells vs0 e (0,0)))
 (hs:vs.size=vs0.size) (hl:cs.length<=vs.size) (hR: ∀(j:Nat) (a:AV) (v:Value),cs[j]? =some a->vs[j]? =some v->R F nu w a v):Stp F nu A w F nu (A.set b (.cells cs)) (w.setRow rb vs):=by
 have hoth: ∀r,r≠rb->(w.setRow rb vs).heap[r]? =w.heap[r]? :=fun r h=>setRow_other w rb r vs h
 have hsh: ∀r s,w.shape? r=some s->(w.setRow rb vs).shape? r=some s:=by
  intro r s h;by_cases e1:r=rb
  ·subst e1;rw[<-h];simp only[World.shape?,hw,setRow_heap w r vs0 vs e (0,0) hw,hs]
  rw[<-h];simp only[World.shape?,hoth r e1]
 refine Stp.write i hb hA rfl rfl hoth (by simp[World.setRow]) (fun s h=>hsh rb s h) rfl rfl rfl (fun hnF=>?_);refine⟨hnF,vs,e,setRow_heap w rb vs0 vs e (0,0) hw,hl,fun j a v ha hv=>(hR j a v ha hv).mono ⟨fun _ h=>h,fun _ _ h=>h,fun r h=>hoth r (fun e2=>hnF (e2▸h)),hsh⟩⟩
theorem Stp.kill (i:Inv F nu A w) (b:Nat):Stp F nu A w F nu (A.set b .dead) w:=by
 refine⟨fun _ h=>h,fun _ _ h=>h,fun _ _ h=>h,⟨fun c r y hc hy=>?_,fun c c' r y y' hc hc' hy hy' ho ho'=>?_,fun c hc=>i.fresh c (by simpa using hc),i.ltF,i.ltN,i.glob⟩,fun _ _ _=>rfl,?_,Nat.le_refl _,rfl,rfl,rfl,fun _ _=>rfl,by simp,fun _ h=> .inl h⟩
 ·rcases getElem?_set' hy with⟨_,rfl⟩|⟨_,hy⟩
  ·trivial
  exact i.blk c r y hc hy
 ·rcases getElem?_set' hy with⟨_,rfl⟩|⟨_,hy⟩
  ·cases ho
  rcases getElem?_set' hy' with⟨_,rfl⟩|⟨_,hy'⟩
  ·cases ho'
  exact i.inj c c' r y y' hc hc' hy hy' ho ho'
 rintro r _ ⟨c,y,hc,hy,ho⟩;rcases getElem?_set' hy with⟨_,rfl⟩|⟨_,hy⟩
 ·cases ho
 exact⟨c,y,hc,hy,ho⟩
theorem Stp.rename (i:Inv F nu A w) {b rb:Nat} {k:Blk} (hb:nu b=some rb) (hA:A[b]? =some k) (ho0:k.owned=true):Stp F nu A w F (upd nu A.length rb) (A.set b .dead++[k]) w:=by
 have x:Ext F nu w F (upd nu A.length rb) w:=⟨fun _ h=>h,qfm i _,fun _ _=>rfl,fun _ _ h=>h⟩;have hlt:rb<w.heap.size:=i.ltN b rb hb;have hbl:b<A.length:=(Yb.1 hA).1
 have split: ∀c r y,upd nu A.length rb c=some r->(A.set b .dead++[k])[c]? =some y->(c=A.length/\r=rb/\y=k)\/(c≠A.length/\nu c=some r/\((c=b/\y= .dead)\/(c≠b/\A[c]? =some y))):=by
  intro c r y hc hy;by_cases e:c=A.length
  ·subst e;simp only[upd,if_true,ZI]at hc
   have:(A.set b .dead++[k])[A.length]? =some k:=by
    simp
   rw[this]at hy;injection hy with hy;exact .inl ⟨rfl,hc.symm,hy.symm⟩
  simp only[upd,if_neg e]at hc;refine .inr ⟨e,hc,?_⟩;rcases Nat.lt_or_ge c A.length with h|h
  ·rw[Yf (by simpa using h)]at hy;rcases getElem?_set' hy with⟨h1,h2⟩|⟨h1,h2⟩
   ·exact .inl ⟨h1.symm,h2⟩
   exact .inr ⟨fun e=>h1 e.symm,h2⟩
  rw[Yg (by simp;omega)]at hy;cases hy
 refine⟨x.f,x.n,x.shape,⟨fun c r y hc hy=>?_,fun c c' r y y' hc hc' hy hy' ho ho'=>?_,fun c hc=>?_,i.ltF,fun c r h=>?_,Glob.ext i.glob x⟩,fun _ _ _=>rfl,?_,Nat.le_refl _,rfl,rfl,rfl,fun c hc=>by simp only[upd];rw[if_neg (by omega)],by simp,fun _ h=> .inl h⟩
 ·rcases split c r y hc hy with⟨_,rfl,rfl⟩|⟨_,h1,⟨_,rfl⟩|⟨_,h2⟩⟩
  ·exact(i.blk b r _ hb hA).mono x rfl id
  ·trivial
  exact(i.blk c r y h1 h2).mono x rfl id
 ·rcases split c r y hc hy with⟨e1,e2,e3⟩|⟨e0,h1,⟨_,e3⟩|⟨h3,h2⟩⟩
  ·rcases split c' r y' hc' hy' with⟨e1',_,_⟩|⟨_,h1',⟨_,e3'⟩|⟨h3',h2'⟩⟩
   ·rw[e1,e1']
   ·subst e3';cases ho'
   rw[e2]at h1';exact absurd (i.inj b c' rb k y' hb h1' hA h2' ho0 ho').symm h3'
  ·subst e3;cases ho
  rcases split c' r y' hc' hy' with⟨e1',e2',e3'⟩|⟨_,h1',⟨_,e3'⟩|⟨h3',h2'⟩⟩
  ·rw[e2']at h1;exact absurd (i.inj b c rb k y hb h1 hA h2 ho0 ho).symm h3
  ·subst e3';cases ho'
  exact i.inj c c' r y y' h1 h1' h2 h2' ho ho'
 ·have h1:A.length+1<=c:=by simpa using hc
  simp only[upd];rw[if_neg (by omega)];exact i.fresh c (by omega)
 ·simp only[upd]at h;split at h
  ·injection h with h;omega
  exact i.ltN c r h
 rintro r _ ⟨c,y,hc,hy,ho⟩;rcases split c r y hc hy with⟨_,e2,e3⟩|⟨_,h1,⟨_,e3⟩|⟨_,h2⟩⟩
 ·exact⟨b,k,e2▸hb,hA,ho0⟩
 ·subst e3;cases ho
 exact⟨c,y,h1,h2,ho⟩
theorem Stp.hidden (i:Inv F nu A w) (o:Obj):Stp F nu A w F nu A (w.alloc o):=by
 have x:Ext F nu w F nu (w.alloc o):=⟨fun _ h=>h,fun _ _ h=>h,fun rb h=>Go.heap_alloc_old w o rb (i.ltF rb h),fun rb s hs=>qb5 o rb s hs⟩
 refine⟨x.f,x.n,x.shape,⟨fun b rb k hb hk=>(i.blk b rb k hb hk).mono x (Go.heap_alloc_old w o rb (i.ltN b rb hb)) id,i.inj,i.fresh,fun rb h=>?_,fun b rb h=>?_,Glob.ext i.glob x⟩,
  fun rb hlt _=>Go.heap_alloc_old w o rb hlt,fun _ _ h=>h,by simp,rfl,rfl,rfl,fun _ _=>rfl,Nat.le_refl _,fun _ h=> .inl h⟩
 ·have:=i.ltF rb h;simp;omega
 have:=i.ltN b rb h;simp;omega
theorem Stp.touch {F':Nat->Prop} {nu':Nat->Option Nat} {A':Heap} {w':World} (st:Stp F nu A w F' nu' A' w') {r:Nat} {o:Obj} (hr:w.heap.size<=r) (hno: ¬qb7 nu' A' r) (hF: ¬F' r) (hs:w'.shape? r=none):Stp F nu A w F' nu' A' (w'.putObj r o)/\Ext F' nu' w' F' nu' (w'.putObj r o):=by
 have hoth: ∀k,k≠r->(w'.putObj r o).heap[k]? =w'.heap[k]? :=fun k hk=>World.putObj_heap_other hk
 have x:Ext F' nu' w' F' nu' (w'.putObj r o):=⟨fun _ h=>h,fun _ _ h=>h,fun k hk=>hoth k (fun e=>hF (e▸hk)),fun k s hk=>by
  have:k≠r:=fun e=>by rw[e,hs]at hk;cases hk
  rw[<-hk];simp only[World.shape?,hoth k this]⟩
 refine⟨⟨st.f,st.n,fun rb s h=>x.shape rb s (st.shape rb s h),⟨fun b rb k hb hk=>?_,st.inv.inj,st.inv.fresh,fun rb h=>by simpa using st.inv.ltF rb h,fun b rb h=>by simpa using st.inv.ltN b rb h,Glob.ext st.inv.glob x⟩,
  fun rb hlt hn=>(hoth rb (by omega)).trans (st.keep rb hlt hn),st.own,by simpa using st.size,st.os,st.tape,st.output,st.old,st.len,st.newF⟩,x⟩
 by_cases e:rb=r
 ·subst e;have h0:=st.inv.blk b rb k hb hk
  cases k with
  |dead=>trivial
  |frozen cs=>exact absurd h0.1 hF
  |_=>exact absurd ⟨b,_,hb,hk,rfl⟩ hno
 exact(st.inv.blk b rb k hb hk).mono x (hoth rb e) id
theorem Uv (i:Inv F nu A w) {b rb:Nat} {k0:Blk} {r0:Loop} {st:LoopState} {pend:Option Code} {fr:Fr} {ps:Array Tmp} {asg body:Code} {r:Loop} (hb:nu b=some rb) (hA:A[b]? =some k0) (ho0:k0.owned=true)
 (hw:w.heap[rb]? =some (.loop r0)) (hr:r={state:=st,pending:=pend,fn:=r.fn,tmps:=r.tmps,params:=ps,assign:=asg,body:=body,defers:=r.defers}) (hfr:RF F nu w fr r.tmps):Stp F nu A w F nu (A.set b (.loop st pend fr ps asg body)) (w.putObj rb (.loop r)):=by
 have hlt:rb<w.heap.size:=i.ltN b rb hb
 have hoth: ∀k,k≠rb->(w.putObj rb (.loop r)).heap[k]? =w.heap[k]? :=fun k hk=>World.putObj_heap_other hk
 have hsh: ∀s,w.shape? rb=some s->(w.putObj rb (.loop r)).shape? rb=some s:=by
  intro s h;simp[World.shape?,hw]at h
 refine Stp.write i hb hA ho0 rfl hoth (by simp) hsh rfl rfl rfl (fun hnF=>⟨hnF,r.fn,r.tmps,r.defers,?_,hfr.mono ?_⟩)
 ·rw[World.putObj_heap_same hlt];exact congrArg (fun r=>some (Obj.loop r)) hr
 refine⟨fun _ h=>h,fun _ _ h=>h,fun k hk=>hoth k (fun e=>hnF (e▸hk)),fun k s hk=>?_⟩;by_cases e:k=rb
 ·subst e;exact hsh s hk
 rw[<-hk];simp only[World.shape?,hoth k e]
end
end Go.Av
