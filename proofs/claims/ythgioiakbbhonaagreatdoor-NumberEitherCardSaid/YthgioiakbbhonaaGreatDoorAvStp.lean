/-
  The steps of a heap: a new block, a block that is written, a draw, blocks that are given up, frozen or renamed.
-/
import Derived.Test.YthgioiakbbhonaaGreatDoorAvBase
import Derived.Laws.Tables
import Derived.Laws.Rows
import Derived.Deep.Draws
noncomputable section
namespace Go.Av
set_option linter.unusedSectionVars false
open Go.RowKit
section
variable [Glob] {F:Nat->Prop} {nu:Nat->Option Nat} {A:Heap} {w:World}
def upd (nu:Nat->Option Nat) (b rb:Nat):Nat->Option Nat:=λk=>if k=b then some rb else nu k
theorem upd_same (b rb:Nat):upd nu b rb b=some rb:=by simp[upd]
theorem qdv (i:Inv F nu A w) (rb:Nat): ∀b r,nu b=some r->upd nu A.length rb b=some r:=by
 intro b r h
 have:b≠A.length:=λe=>by rw[i.fresh b (by omega)]at h;cases h
 simp[upd,this,h]
theorem RE.mono {F':Nat->Prop} {nu':Nat->Option Nat} {w':World} (x:Ext F nu w F' nu' w') {y:Ent} {v:Value} (hh: ∀g n cap,v= .slice (some ⟨g,0,none⟩) n cap->0<n->(∃k cs,y= .own k cs)->w'.heap[g]? =w.heap[g]? /\(F' g->F g)) (h:RE F nu w y v):RE F' nu' w' y v:=by
 cases y with
 |av a=>exact R.mono x h
 |own k cs=>
  obtain h|⟨g,n,cap,vs,e,rfl,h0,h1,h2,h3,h4,h5,h6,h7⟩:=h
  ·exact .inl h
  obtain⟨q1,q2⟩:=hh g n cap rfl h0 ⟨k,cs,rfl⟩;exact .inr ⟨g,n,cap,vs,e,rfl,h0,h1,h2,h3,λhf=>h4 (q2 hf),q1.trans h5,h6,λi a v ha hv=>(h7 i a v ha hv).mono x⟩
theorem RB.monoF {F':Nat->Prop} {nu':Nat->Option Nat} {w':World} (x:Ext F nu w F' nu' w') {rb:Nat} {k:Blk} (hh: ∀r,Ft w rb k r->w'.heap[r]? =w.heap[r]?) (hF: ∀r,Ft w rb k r->F' r->F r) (h:RB F nu w rb k):RB F' nu' w' rb k:=by
 have hrb:=hh rb (.inl rfl);have hFrb:=hF rb (.inl rfl)
 cases k with
 |dead=>trivial
 |cells cs=>
  obtain⟨h0,vs,e,h1,h2,h3⟩:=h;exact⟨λhf=>h0 (hFrb hf),vs,e,hrb.trans h1,h2,λi a v ha hv=>(h3 i a v ha hv).mono x⟩
 |bag es=>
  obtain⟨h0,vs,e,h1,h2,h3,h4,h5⟩:=h;refine⟨λhf=>h0 (hFrb hf),vs,e,hrb.trans h1,h2,λi a v ha hv=>(h3 i a v ha hv).mono x ?_,h4,h5⟩;rintro g n cap rfl hn ⟨k,cs,rfl⟩;have:Ft w rb (.bag es) g:= .inr ⟨vs,e,i,h1,k,cs,n,cap,ha,hv,hn⟩;exact⟨hh g this,hF g this⟩
 |frozen cs=>
  obtain⟨h0,vs,e,fr,h1,h2,h3⟩:=h;exact⟨x.f _ h0,vs,e,fr,hrb.trans h1,h2,λi a v ha hv=>(h3 i a v ha hv).mono x⟩
 |map ks xs=>
  obtain⟨h0,es,c,h1,h2,h3,h4,h5,h6⟩:=h;exact⟨λhf=>h0 (hFrb hf),es,c,hrb.trans h1,h2,h3,λi a v ha hv=>(h4 i a v ha hv).mono x,λi a v ha hv=>(h5 i a v ha hv).mono x,h6⟩
 |iter s pos=>
  obtain⟨h0,bs,h1,h2⟩:=h;exact⟨λhf=>h0 (hFrb hf),bs,hrb.trans h1,h2⟩
 |bld T e cs=>
  obtain⟨h0,vs,h1,h2,h3,h4⟩:=h;exact⟨λhf=>h0 (hFrb hf),vs,hrb.trans h1,h2,λi a v ha hv=>(h3 i a v ha hv).mono x,λi g n cap hv=>x.shape _ _ (h4 i g n cap hv)⟩
 |loop st pend fr ps asg body=>
  obtain⟨h0,fn,tmps,dd,h1,h2⟩:=h;exact⟨λhf=>h0 (hFrb hf),fn,tmps,dd,hrb.trans h1,h2.mono x⟩
theorem Inv.keepB (i:Inv F nu A w) {F':Nat->Prop} {nu':Nat->Option Nat} {w':World} (x:Ext F nu w F' nu' w') {b rb:Nat} {k:Blk} (hb:nu b=some rb) (hk:A[b]? =some k) (hh:k.owned=true-> ∀r,Ft w rb k r->w'.heap[r]? =w.heap[r]? /\(F' r->F r)):RB F' nu' w' rb k:=by
 have h0:=i.blk b rb k hb hk;by_cases ho:k.owned=true
 ·exact h0.monoF x (λr hr=>(hh ho r hr).1) (λr hr=>(hh ho r hr).2)
 cases k with
 |dead=>trivial
 |frozen cs=>
  refine h0.monoF x (λr hr=>?_) (λr hr=>?_)
  ·have e:=Ft.one (by intro es e;cases e) hr;subst e;exact x.keep _ h0.1
  have e:=Ft.one (by intro es e;cases e) hr
  subst e;exact λ_=>h0.1
 |_=>simp[Blk.owned]at ho
theorem Stp.same (i:Inv F nu A w) {w':World} (hh:w'.heap=w.heap) (ho:w'.os=w.os) (ht:w'.tape=w.tape) (hp:w'.output=w.output):Stp F nu A w F nu A w':=by
 have x:Ext F nu w F nu w':=⟨λ_ h=>h,λ_ _ h=>h,λ_ _=>by rw[hh],λrb s hs=>by rw[<-hs];simp[World.shape?,hh]⟩
 exact⟨x.f,x.n,x.shape,⟨λb rb k hb hk=>i.keepB x hb hk λ_ r _=>⟨by rw[hh],id⟩,λb b' rb rb' y y' r hb hb' hy hy' ho ho' hr hr'=>i.injF b b' rb rb' y y' r hb hb' hy hy' ho ho' (hr.same (by rw[hh])) (hr'.same (by rw[hh])),i.fresh,λrb h=>by rw[hh];exact i.ltF rb h,λb rb h=>by rw[hh];exact i.ltN b rb h,Glob.ext i.glob x⟩,
  λ_ _ _=>by rw[hh],λrb _ ⟨b,y,r,h1,h2,h3,h4⟩=>⟨b,y,r,h1,h2,h3,h4.same (by rw[hh])⟩,by rw[hh];exact ag _,ho,ht,hp,λ_ _=>rfl,ag _,λ_ h=> .inl h⟩
theorem Stp.drew (i:Inv F nu A w):Stp F nu A w F nu A w.drew:=Stp.same i rfl rfl rfl rfl
theorem qbF (o:Obj) (rb:Nat) (s:TypeId×Nat) (h:w.shape? rb=some s):(w.alloc o).shape? rb=some s:=by
 have hlt:rb<w.heap.size:=by
  rcases ak rb w.heap.size with h1|h1
  ·exact h1
  simp[World.shape?,Array.getElem?_eq_none h1]at h
 rw[<-h];simp only[World.shape?,Go.heap_alloc_old w o rb hlt]
theorem Stp.alloc (i:Inv F nu A w) (o:Obj) (k:Blk) (hk:RB F (upd nu A.length w.heap.size) (w.alloc o) w.heap.size k) (hnb: ∀es,k≠ .bag es:=by intro es e;cases e):Stp F nu A w F (upd nu A.length w.heap.size) (A++[k]) (w.alloc o):=by
 have x:Ext F nu w F (upd nu A.length w.heap.size) (w.alloc o):=
  ⟨λ_ h=>h,qdv i _,λrb h=>Go.heap_alloc_old w o rb (i.ltF rb h),λrb s hs=>qbF o rb s hs⟩
 have split: ∀b rb,upd nu A.length w.heap.size b=some rb->(b=A.length/\rb=w.heap.size)\/(nu b=some rb/\b≠A.length):=by
  intro b rb h;simp only[upd]at h;split at h
  ·rename_i e;injection h with h;exact .inl ⟨e,h.symm⟩
  rename_i e;exact .inr ⟨h,e⟩
 have atOld: ∀b y,b≠A.length->(A++[k])[b]? =some y->A[b]? =some y:=by
  intro b y hb hy;rcases ak b A.length with h|h
  ·rwa [Yf h]at hy
  have:(A++[k]).length<=b:=by simp;omega
  rw[Yg this]at hy;cases hy
 have atNew: ∀y,(A++[k])[A.length]? =some y->y=k:=by
  intro y hy;simp at hy;exact hy.symm
 have ftOld: ∀{b rb y r},nu b=some rb->Ft (w.alloc o) rb y r->Ft w rb y r:=λhb hf=>hf.same (Go.heap_alloc_old w o _ (i.ltN _ _ hb))
 have inv:Inv F (upd nu A.length w.heap.size) (A++[k]) (w.alloc o):=by
  refine⟨λb rb y hb hy=>?_,λb b' rb rb' y y' r hb hb' hy hy' ho ho' hr hr'=>?_,λb hb=>?_,λrb h=>?_,λb rb h=>?_,Glob.ext i.glob x⟩
  ·rcases split b rb hb with⟨rfl,rfl⟩|⟨h1,h2⟩
   ·rw[atNew y hy];exact hk
   exact i.keepB x h1 (atOld b y h2 hy) λho r hr=>⟨Go.heap_alloc_old w o r (i.ftF h1 (atOld b y h2 hy) ho hr).2,id⟩
  ·rcases split b rb hb with⟨rfl,rfl⟩|⟨h1,h2⟩
   ·rcases split b' rb' hb' with⟨rfl,_⟩|⟨h1',h2'⟩
    ·rfl
    rw[atNew y hy]at hr;have e:=Ft.one hnb hr;have:=(i.ftF h1' (atOld b' y' h2' hy') ho' (ftOld h1' hr')).2;omega
   rcases split b' rb' hb' with⟨rfl,rfl⟩|⟨h1',h2'⟩
   ·rw[atNew y' hy']at hr';have e:=Ft.one hnb hr';have:=(i.ftF h1 (atOld b y h2 hy) ho (ftOld h1 hr)).2;omega
   exact i.injF b b' rb rb' y y' r h1 h1' (atOld b y h2 hy) (atOld b' y' h2' hy') ho ho' (ftOld h1 hr) (ftOld h1' hr')
  ·have h1:A.length+1<=b:=by simpa using hb
   simp only[upd];rw[aa (by omega)];exact i.fresh b (by omega)
  ·have:=i.ltF rb h;simp;omega
  rcases split b rb h with⟨_,rfl⟩|⟨h1,_⟩
  ·simp
  have:=i.ltN b rb h1;simp;omega
 refine⟨x.f,x.n,x.shape,inv,λrb hlt _=>Go.heap_alloc_old w o rb hlt,?_,by simp,rfl,rfl,rfl,λb hb=>by simp only[upd];rw[aa (by omega)],by simp,λ_ h=> .inl h⟩;rintro r hlt ⟨b,y,rb,hb,hy,ho,hf⟩;rcases split b rb hb with⟨rfl,rfl⟩|⟨h1,h2⟩
 ·rw[atNew y hy]at hf;have e:=Ft.one hnb hf;omega
 exact⟨b,y,rb,h1,atOld b y h2 hy,ho,ftOld h1 hf⟩
theorem Ug (i:Inv F nu A w) (vs:Array Value) (e:TypeId) (cs:List AV) (hl:cs.length<=vs.size) (hR: ∀(j:Nat) (a:AV) (v:Value),cs[j]? =some a->vs[j]? =some v->R F nu w a v):
 Stp F nu A w F (upd nu A.length w.heap.size) (A++[.cells cs]) (w.alloc (.cells vs e)):=by
 have x:Ext F nu w F (upd nu A.length w.heap.size) (w.alloc (.cells vs e)):=
  ⟨λ_ h=>h,qdv i _,λrb h=>Go.heap_alloc_old w _ rb (i.ltF rb h),λrb s hs=>qbF _ rb s hs⟩
 exact Stp.alloc i _ _ ⟨λh=>absurd (i.ltF _ h) (by omega),vs,e,Go.heap_alloc_new w _,hl,λj a v ha hv=>(hR j a v ha hv).mono x⟩
theorem getElem?_set' {A:Heap} {b c:Nat} {k y:Blk} (h:(A.set b k)[c]? =some y):(b=c/\y=k)\/(b≠c/\A[c]? =some y):=by
 rw[List.getElem?_set]at h;split at h
 ·rename_i e;split at h
  ·injection h with h;exact .inl ⟨e,h.symm⟩
  cases h
 rename_i e;exact .inr ⟨e,h⟩
theorem Stp.writeF (i:Inv F nu A w) {b rb:Nat} {k0 k:Blk} {w':World} (hb:nu b=some rb) (hA:A[b]? =some k0) (ho0:k0.owned=true)
 (hoth: ∀r,¬Ft w rb k0 r->w'.heap[r]? =w.heap[r]?) (hsz:w'.heap.size=w.heap.size) (hsh: ∀r,Ft w rb k0 r-> ∀s,w.shape? r=some s->w'.shape? r=some s)
 (hos:w'.os=w.os) (ht:w'.tape=w.tape) (hp:w'.output=w.output) (hft: ∀r,Ft w' rb k r->Ft w rb k0 r) (hk:(∀r,Ft w rb k0 r-> ¬F r)->RB F nu w' rb k):Stp F nu A w F nu (A.set b k) w':=by
 have hnF: ∀r,Ft w rb k0 r-> ¬F r:=λr hr=>(i.ftF hb hA ho0 hr).1
 have x:Ext F nu w F nu w':=⟨λ_ h=>h,λ_ _ h=>h,λr h=>hoth r (λe=>hnF r e h),λr s hs=>by
  by_cases e:Ft w rb k0 r
  ·exact hsh r e s hs
  rw[<-hs];simp only[World.shape?,hoth r e]⟩
 have ftOld: ∀{c rc y r},b≠c->nu c=some rc->A[c]? =some y->y.owned=true->Ft w' rc y r->Ft w rc y r:=λhne hc hy ho hf=>
  hf.same (hoth _ λe=>hne (i.injF b _ rb _ k0 _ _ hb hc hA hy ho0 ho e (.inl rfl)))
 refine⟨x.f,x.n,x.shape,⟨λc r y hc hy=>?_,λc c' rc rc' y y' r hc hc' hy hy' ho ho' hr hr'=>?_,λc hc=>i.fresh c (by simpa using hc),λr h=>by rw[hsz];exact i.ltF r h,λc r h=>by rw[hsz];exact i.ltN c r h,Glob.ext i.glob x⟩,
  λr hlt hno=>hoth r (λe=>hno ⟨b,k0,rb,hb,hA,ho0,e⟩),?_,by omega,hos,ht,hp,λ_ _=>rfl,by simp,λ_ h=> .inl h⟩
 ·rcases getElem?_set' hy with⟨rfl,rfl⟩|⟨hne,hy⟩
  ·rw[hb]at hc;injection hc with hc;subst hc;exact hk hnF
  exact i.keepB x hc hy λhyo q hq=>⟨hoth q λe=>hne (i.injF b c rb r k0 y q hb hc hA hy ho0 hyo e hq),id⟩
 ·rcases getElem?_set' hy with⟨e1,e1'⟩|⟨hne,hy1⟩
  ·rcases getElem?_set' hy' with⟨e2,_⟩|⟨hne',hy2⟩
   ·exact e1.symm.trans e2
   subst e1 e1';rw[hb]at hc;injection hc with hc;subst hc;exact i.injF b c' rb rc' k0 y' r hb hc' hA hy2 ho0 ho' (hft r hr) (ftOld hne' hc' hy2 ho' hr')
  rcases getElem?_set' hy' with⟨e2,e2'⟩|⟨hne',hy2⟩
  ·subst e2 e2';rw[hb]at hc';injection hc' with hc';subst hc';exact i.injF c b rc rb y k0 r hc hb hy1 hA ho ho0 (ftOld hne hc hy1 ho hr) (hft r hr')
  exact i.injF c c' rc rc' y y' r hc hc' hy1 hy2 ho ho' (ftOld hne hc hy1 ho hr) (ftOld hne' hc' hy2 ho' hr')
 rintro r hlt ⟨c,y,rc,hc,hy,ho,hf⟩;rcases getElem?_set' hy with⟨rfl,rfl⟩|⟨hne,hy⟩
 ·rw[hb]at hc;injection hc with hc;subst hc;exact⟨b,k0,rb,hb,hA,ho0,hft r hf⟩
 exact⟨c,y,rc,hc,hy,ho,ftOld hne hc hy ho hf⟩
theorem Stp.write (i:Inv F nu A w) {b rb:Nat} {k0 k:Blk} {w':World} (hb:nu b=some rb) (hA:A[b]? =some k0) (ho0:k0.owned=true) (_hok:k.owned=true)
 (hoth: ∀r,r≠rb->w'.heap[r]? =w.heap[r]?) (hsz:w'.heap.size=w.heap.size) (hsh: ∀s,w.shape? rb=some s->w'.shape? rb=some s)
 (hos:w'.os=w.os) (ht:w'.tape=w.tape) (hp:w'.output=w.output) (hk: ¬F rb->RB F nu w' rb k) (hnb: ∀es,k≠ .bag es:=by intro es e;cases e):Stp F nu A w F nu (A.set b k) w':=by
 refine Stp.writeF i hb hA ho0 (λr hr=>hoth r λe=>hr (.inl e)) hsz (λr hr s hs=>?_) hos ht hp (λr hr=> .inl (Ft.one hnb hr)) λh=>hk (h rb (.inl rfl))
 by_cases e:r=rb
 ·subst e;exact hsh s hs
 rw[<-hs];simp only[World.shape?,hoth r e]
theorem Stp.setRow (i:Inv F nu A w) {b rb:Nat} {cs0 cs:List AV} {vs0 vs:Array Value} {e:TypeId} (hb:nu b=some rb) (hA:A[b]? =some (.cells cs0)) (hw:w.heap[rb]? =some (.cells vs0 e (0,0)))
 (hs:vs.size=vs0.size) (hl:cs.length<=vs.size) (hR: ∀(j:Nat) (a:AV) (v:Value),cs[j]? =some a->vs[j]? =some v->R F nu w a v):Stp F nu A w F nu (A.set b (.cells cs)) (w.setRow rb vs):=by
 have hoth: ∀r,r≠rb->(w.setRow rb vs).heap[r]? =w.heap[r]? :=λr h=>setRow_other w rb r vs h
 have hsh: ∀r s,w.shape? r=some s->(w.setRow rb vs).shape? r=some s:=by
  intro r s h;by_cases e1:r=rb
  ·subst e1;rw[<-h];simp only[World.shape?,hw,setRow_heap w r vs0 vs e (0,0) hw,hs]
  rw[<-h];simp only[World.shape?,hoth r e1]
 refine Stp.write i hb hA rfl rfl hoth (by simp[World.setRow]) (λs h=>hsh rb s h) rfl rfl rfl (λhnF=>?_);refine⟨hnF,vs,e,setRow_heap w rb vs0 vs e (0,0) hw,hl,λj a v ha hv=>(hR j a v ha hv).mono ⟨λ_ h=>h,λ_ _ h=>h,λr h=>hoth r (λe2=>hnF (e2▸h)),hsh⟩⟩
theorem Stp.setBag (i:Inv F nu A w) {b rb off:Nat} {es:List Ent} {a:AV} {vs0 vs:Array Value} {e:TypeId} (hb:nu b=some rb) (hA:A[b]? =some (.bag es)) (hw:w.heap[rb]? =some (.cells vs0 e (0,0)))
 (hs:vs.size=vs0.size) (ho:off<es.length) (hsame: ∀j,j≠off->vs[j]? =vs0[j]?) (hR: ∀v,vs[off]? =some v->R F nu w a v):Stp F nu A w F nu (A.set b (.bag (es.set off (.av a)))) (w.setRow rb vs):=by
 have hoth: ∀r,r≠rb->(w.setRow rb vs).heap[r]? =w.heap[r]? :=λr h=>setRow_other w rb r vs h
 have hsh: ∀r s,w.shape? r=some s->(w.setRow rb vs).shape? r=some s:=by
  intro r s h;by_cases e1:r=rb
  ·subst e1;rw[<-h];simp only[World.shape?,hw,setRow_heap w r vs0 vs e (0,0) hw,hs]
  rw[<-h];simp only[World.shape?,hoth r e1]
 obtain⟨h0,vs1,e1,h1,h2,h3,h4,h5⟩:=i.blk b rb _ hb hA;rw[hw]at h1;simp only[ZI,Obj.cells.injEq]at h1;obtain⟨rfl,rfl,_⟩:=h1
 have own: ∀j r,OwnAt (es.set off (.av a)) vs j r->OwnAt es vs0 j r:=by
  rintro j r ⟨k,cs,n,cap,g1,g2,g3⟩;rw[List.getElem?_set]at g1;split at g1
  ·simp at g1
  rename_i hne;exact⟨k,cs,n,cap,g1,(hsame j (λe=>hne e.symm))▸g2,g3⟩
 have hh:=setRow_heap w rb vs0 vs e (0,0) hw;have x:Ext F nu w F nu (w.setRow rb vs):=⟨λ_ h=>h,λ_ _ h=>h,λr h=>hoth r (λe2=>h0 (e2▸h)),hsh⟩;refine Stp.writeF i hb hA rfl (λr hr=>hoth r λe=>hr (.inl e)) (by simp[World.setRow]) (λr _=>hsh r) rfl rfl rfl (λr hr=>?_) (λ_=>⟨h0,vs,e,hh,by simp only[Yk];omega,λj y v hy hv=>?_,λj r hj=>h4 j r (own j r hj),λj j' r hj hj'=>h5 j j' r (own j r hj) (own j' r hj')⟩)
 ·rcases hr with hr|⟨vs',e',j,g1,g2⟩
  ·exact .inl hr
  rw[hh]at g1;simp only[ZI,Obj.cells.injEq]at g1;obtain⟨rfl,rfl,_⟩:=g1;exact .inr ⟨vs0,e,j,hw,own j r g2⟩
 rw[List.getElem?_set]at hy;split at hy
 ·rename_i ej;subst ej;simp only[ZI]at hy;subst hy;exact(hR v hv).mono x
 rename_i hne;rw[hsame j (λe=>hne e.symm)]at hv;refine(h3 j y v hy hv).mono x ?_;rintro g n cap rfl hn ⟨k,cs,rfl⟩;exact⟨hoth g (h4 j g ⟨k,cs,n,cap,hy,hv,hn⟩),id⟩
theorem Uv (i:Inv F nu A w) (b:Nat):Stp F nu A w F nu (A.set b .dead) w:=by
 refine⟨λ_ h=>h,λ_ _ h=>h,λ_ _ h=>h,⟨λc r y hc hy=>?_,λc c' rc rc' y y' r hc hc' hy hy' ho ho' hr hr'=>?_,λc hc=>i.fresh c (by simpa using hc),i.ltF,i.ltN,i.glob⟩,λ_ _ _=>rfl,?_,ag _,rfl,rfl,rfl,λ_ _=>rfl,by simp,λ_ h=> .inl h⟩
 ·rcases getElem?_set' hy with⟨_,rfl⟩|⟨_,hy⟩
  ·trivial
  exact i.blk c r y hc hy
 ·rcases getElem?_set' hy with⟨_,rfl⟩|⟨_,hy⟩
  ·cases ho
  rcases getElem?_set' hy' with⟨_,rfl⟩|⟨_,hy'⟩
  ·cases ho'
  exact i.injF c c' rc rc' y y' r hc hc' hy hy' ho ho' hr hr'
 rintro r _ ⟨c,y,rc,hc,hy,ho,hf⟩;rcases getElem?_set' hy with⟨_,rfl⟩|⟨_,hy⟩
 ·cases ho
 exact⟨c,y,rc,hc,hy,ho,hf⟩
theorem Ut (i:Inv F nu A w) {b rb:Nat} {k:Blk} (hb:nu b=some rb) (hA:A[b]? =some k) (ho0:k.owned=true):Stp F nu A w F (upd nu A.length rb) (A.set b .dead++[k]) w:=by
 have x:Ext F nu w F (upd nu A.length rb) w:=⟨λ_ h=>h,qdv i _,λ_ _=>rfl,λ_ _ h=>h⟩;have hlt:rb<w.heap.size:=i.ltN b rb hb;have hbl:b<A.length:=(Yb.1 hA).1
 have split: ∀c r y,upd nu A.length rb c=some r->(A.set b .dead++[k])[c]? =some y->(c=A.length/\r=rb/\y=k)\/(c≠A.length/\nu c=some r/\((c=b/\y= .dead)\/(c≠b/\A[c]? =some y))):=by
  intro c r y hc hy;by_cases e:c=A.length
  ·subst e;simp only[upd,aJ,ZI]at hc
   have:(A.set b .dead++[k])[A.length]? =some k:=by
    simp
   rw[this]at hy;injection hy with hy;exact .inl ⟨rfl,hc.symm,hy.symm⟩
  simp only[upd,aa e]at hc;refine .inr ⟨e,hc,?_⟩;rcases ak c A.length with h|h
  ·rw[Yf (by simpa using h)]at hy;rcases getElem?_set' hy with⟨h1,h2⟩|⟨h1,h2⟩
   ·exact .inl ⟨h1.symm,h2⟩
   exact .inr ⟨λe=>h1 e.symm,h2⟩
  rw[Yg (by simp;omega)]at hy;cases hy
 refine⟨x.f,x.n,x.shape,⟨λc r y hc hy=>?_,λc c' r r' y y' q hc hc' hy hy' ho ho' hq hq'=>?_,λc hc=>?_,i.ltF,λc r h=>?_,Glob.ext i.glob x⟩,λ_ _ _=>rfl,?_,ag _,rfl,rfl,rfl,λc hc=>by simp only[upd];rw[aa (by omega)],by simp,λ_ h=> .inl h⟩
 ·rcases split c r y hc hy with⟨_,rfl,rfl⟩|⟨_,h1,⟨_,rfl⟩|⟨_,h2⟩⟩
  ·exact i.keepB x hb hA λ_ _ _=>⟨rfl,id⟩
  ·trivial
  exact i.keepB x h1 h2 λ_ _ _=>⟨rfl,id⟩
 ·rcases split c r y hc hy with⟨e1,e2,e3⟩|⟨e0,h1,⟨_,e3⟩|⟨h3,h2⟩⟩
  ·rcases split c' r' y' hc' hy' with⟨e1',_,_⟩|⟨_,h1',⟨_,e3'⟩|⟨h3',h2'⟩⟩
   ·rw[e1,e1']
   ·subst e3';cases ho'
   subst e2 e3;exact absurd (i.injF b c' _ r' _ y' q hb h1' hA h2' ho0 ho' hq hq').symm h3'
  ·subst e3;cases ho
  rcases split c' r' y' hc' hy' with⟨e1',e2',e3'⟩|⟨_,h1',⟨_,e3'⟩|⟨h3',h2'⟩⟩
  ·subst e2' e3';exact absurd (i.injF b c _ r _ y q hb h1 hA h2 ho0 ho hq' hq).symm h3
  ·subst e3';cases ho'
  exact i.injF c c' r r' y y' q h1 h1' h2 h2' ho ho' hq hq'
 ·have h1:A.length+1<=c:=by simpa using hc
  simp only[upd];rw[aa (by omega)];exact i.fresh c (by omega)
 ·simp only[upd]at h;split at h
  ·injection h with h;omega
  exact i.ltN c r h
 rintro q _ ⟨c,y,r,hc,hy,ho,hf⟩;rcases split c r y hc hy with⟨_,e2,e3⟩|⟨_,h1,⟨_,e3⟩|⟨_,h2⟩⟩
 ·subst e2 e3;exact⟨b,_,_,hb,hA,ho0,hf⟩
 ·subst e3;cases ho
 exact⟨c,y,r,h1,h2,ho,hf⟩
theorem Stp.hidden (i:Inv F nu A w) (o:Obj):Stp F nu A w F nu A (w.alloc o):=by
 have x:Ext F nu w F nu (w.alloc o):=⟨λ_ h=>h,λ_ _ h=>h,λrb h=>Go.heap_alloc_old w o rb (i.ltF rb h),λrb s hs=>qbF o rb s hs⟩
 have ftOld: ∀{b rb y r},nu b=some rb->Ft (w.alloc o) rb y r->Ft w rb y r:=λhb hf=>hf.same (Go.heap_alloc_old w o _ (i.ltN _ _ hb))
 refine⟨x.f,x.n,x.shape,⟨λb rb k hb hk=>i.keepB x hb hk λho r hr=>⟨Go.heap_alloc_old w o r (i.ftF hb hk ho hr).2,id⟩,
  λb b' rb rb' y y' r hb hb' hy hy' ho ho' hr hr'=>i.injF b b' rb rb' y y' r hb hb' hy hy' ho ho' (ftOld hb hr) (ftOld hb' hr'),i.fresh,λrb h=>?_,λb rb h=>?_,Glob.ext i.glob x⟩,
  λrb hlt _=>Go.heap_alloc_old w o rb hlt,λr _ ⟨b,y,rb,h1,h2,h3,h4⟩=>⟨b,y,rb,h1,h2,h3,ftOld h1 h4⟩,by simp,rfl,rfl,rfl,λ_ _=>rfl,ag _,λ_ h=> .inl h⟩
 ·have:=i.ltF rb h;simp;omega
 have:=i.ltN b rb h;simp;omega
theorem Stp.touch {F':Nat->Prop} {nu':Nat->Option Nat} {A':Heap} {w':World} (st:Stp F nu A w F' nu' A' w') {r:Nat} {o:Obj} (hr:w.heap.size<=r) (hno: ¬qaO nu' A' w' r) (hF: ¬F' r) (hs:w'.shape? r=none):Stp F nu A w F' nu' A' (w'.putObj r o)/\Ext F' nu' w' F' nu' (w'.putObj r o):=by
 have hoth: ∀k,k≠r->(w'.putObj r o).heap[k]? =w'.heap[k]? :=λk hk=>World.putObj_heap_other hk
 have x:Ext F' nu' w' F' nu' (w'.putObj r o):=⟨λ_ h=>h,λ_ _ h=>h,λk hk=>hoth k (λe=>hF (e▸hk)),λk s hk=>by
  have:k≠r:=λe=>by rw[e,hs]at hk;cases hk
  rw[<-hk];simp only[World.shape?,hoth k this]⟩
 have ftOld: ∀{b rb y q},nu' b=some rb->A'[b]? =some y->y.owned=true->Ft (w'.putObj r o) rb y q->Ft w' rb y q:=λhb hy ho hf=>
  hf.same (hoth _ λe=>hno (e▸qaO.of hb hy ho))
 refine⟨⟨st.f,st.n,λrb s h=>x.shape rb s (st.shape rb s h),⟨λb rb k hb hk=>st.inv.keepB x hb hk λho q hq=>⟨hoth q λe=>hno (e▸⟨b,k,rb,hb,hk,ho,hq⟩),id⟩,
  λb b' rb rb' y y' q hb hb' hy hy' ho ho' hq hq'=>st.inv.injF b b' rb rb' y y' q hb hb' hy hy' ho ho' (ftOld hb hy ho hq) (ftOld hb' hy' ho' hq'),st.inv.fresh,λrb h=>by simpa using st.inv.ltF rb h,λb rb h=>by simpa using st.inv.ltN b rb h,Glob.ext st.inv.glob x⟩,
  λrb hlt hn=>(hoth rb (by omega)).trans (st.keep rb hlt hn),λq hlt ⟨b,y,rb,h1,h2,h3,h4⟩=>st.own q hlt ⟨b,y,rb,h1,h2,h3,ftOld h1 h2 h3 h4⟩,by simpa using st.size,st.os,st.tape,st.output,st.old,st.len,st.newF⟩,x⟩
theorem Stp.setLoop (i:Inv F nu A w) {b rb:Nat} {k0:Blk} {r0:Loop} {st:LoopState} {pend:Option Code} {fr:Fr} {ps:Array Tmp} {asg body:Code} {r:Loop} (hb:nu b=some rb) (hA:A[b]? =some k0) (ho0:k0.owned=true)
 (hw:w.heap[rb]? =some (.loop r0)) (hr:r={state:=st,pending:=pend,fn:=r.fn,tmps:=r.tmps,params:=ps,assign:=asg,body:=body,defers:=r.defers}) (hfr:RF F nu w fr r.tmps):Stp F nu A w F nu (A.set b (.loop st pend fr ps asg body)) (w.putObj rb (.loop r)):=by
 have hlt:rb<w.heap.size:=i.ltN b rb hb
 have hoth: ∀k,k≠rb->(w.putObj rb (.loop r)).heap[k]? =w.heap[k]? :=λk hk=>World.putObj_heap_other hk
 have hsh: ∀s,w.shape? rb=some s->(w.putObj rb (.loop r)).shape? rb=some s:=by
  intro s h;simp[World.shape?,hw]at h
 refine Stp.write i hb hA ho0 rfl hoth (by simp) hsh rfl rfl rfl (λhnF=>⟨hnF,r.fn,r.tmps,r.defers,?_,hfr.mono ?_⟩)
 ·rw[World.putObj_heap_same hlt];exact ap (λr=>some (Obj.loop r)) hr
 refine⟨λ_ h=>h,λ_ _ h=>h,λk hk=>hoth k (λe=>hnF (e▸hk)),λk s hk=>?_⟩;by_cases e:k=rb
 ·subst e;exact hsh s hk
 rw[<-hk];simp only[World.shape?,hoth k e]
theorem Stp.still (i:Inv F nu A w) {A':Heap} (hl:A'.length=A.length) (hblk: ∀b rb x,nu b=some rb->A'[b]? =some x->RB F nu w rb x)
 (hft: ∀b rb x r,nu b=some rb->A'[b]? =some x->x.owned=true->Ft w rb x r->qaO nu A w r)
 (hinj: ∀b b' rb rb' x x' r,nu b=some rb->nu b'=some rb'->A'[b]? =some x->A'[b']? =some x'->x.owned=true->x'.owned=true->Ft w rb x r->Ft w rb' x' r->b=b'):Stp F nu A w F nu A' w:=
 ⟨λ_ h=>h,λ_ _ h=>h,λ_ _ h=>h,⟨hblk,hinj,λb hb=>i.fresh b (by omega),i.ltF,i.ltN,i.glob⟩,λ_ _ _=>rfl,λr _ ⟨b,x,rb,h1,h2,h3,h4⟩=>hft b rb x r h1 h2 h3 h4,ag _,rfl,rfl,rfl,λ_ _=>rfl,by omega,λ_ h=> .inl h⟩
theorem OwnAt.pre {es:List Ent} {vs0 vs:Array Value} {a:AV} (hsame: ∀j,j<es.length->vs[j]? =vs0[j]?) {j r:Nat} (h:OwnAt (es++[.av a]) vs j r):OwnAt es vs0 j r:=by
 obtain⟨k,cs,n,cap,h1,h2,h3⟩:=h;rcases ak j es.length with hj|hj
 ·rw[Yf hj]at h1;exact⟨k,cs,n,cap,h1,hsame j hj▸h2,h3⟩
 rw[Yo hj]at h1
 cases e:j-es.length with
 |zero=>rw[e]at h1;simp at h1
 |succ q=>rw[e]at h1;simp at h1
theorem Stp.bagGrow (i:Inv F nu A w) {b:Nat} {es:List Ent} (hA:A[b]? =some (.bag es)) (hroom: ∀rb vs e,nu b=some rb->w.heap[rb]? =some (.cells vs e (0,0))->es.length+1<=vs.size):Stp F nu A w F nu (A.set b (.bag (es++[.av .undef]))) w:=by
 have ft: ∀{rb r:Nat},Ft w rb (.bag (es++[.av .undef])) r->Ft w rb (.bag es) r:=by
  rintro rb r (h|⟨vs,e,j,h1,h2⟩)
  ·exact .inl h
  exact .inr ⟨vs,e,j,h1,h2.pre λ_ _=>rfl⟩
 refine Stp.still i (by simp) (λc rb x hc hx=>?_) (λc rb x r hc hx ho hf=>?_) (λc c' rb rb' x x' r hc hc' hx hx' ho ho' hr hr'=>?_)
 ·rcases getElem?_set' hx with⟨rfl,rfl⟩|⟨_,hx⟩
  ·obtain⟨h0,vs,e,h1,h2,h3,h4,h5⟩:=i.blk _ rb _ hc hA;refine⟨h0,vs,e,h1,by have:=hroom rb vs e hc h1;simpa using this,λz y v hy hz=>?_,λz r hz=>h4 z r (hz.pre λ_ _=>rfl),λz z' r hz hz'=>h5 z z' r (hz.pre λ_ _=>rfl) (hz'.pre λ_ _=>rfl)⟩;rcases ak z es.length with hj|hj
   ·rw[Yf hj]at hy;exact h3 z y v hy hz
   rw[Yo hj]at hy;have:=Yn hy;simp at this;subst this;exact .undef v
  exact i.blk c rb x hc hx
 ·rcases getElem?_set' hx with⟨rfl,rfl⟩|⟨_,hx⟩
  ·exact⟨_,_,rb,hc,hA,rfl,ft hf⟩
  exact⟨c,x,rb,hc,hx,ho,hf⟩
 rcases getElem?_set' hx with⟨e1,e1'⟩|⟨_,kx⟩
 ·rcases getElem?_set' hx' with⟨e2,_⟩|⟨_,kx'⟩
  ·exact e1.symm.trans e2
  subst e1 e1';exact i.injF b c' rb rb' _ x' r hc hc' hA kx' rfl ho' (ft hr) hr'
 rcases getElem?_set' hx' with⟨e2,e2'⟩|⟨_,kx'⟩
 ·subst e2 e2';exact i.injF c b rb rb' x _ r hc hc' kx hA ho rfl hr (ft hr')
 exact i.injF c c' rb rb' x x' r hc hc' kx kx' ho ho' hr hr'
theorem Stp.bagMove (i:Inv F nu A w) {b rb:Nat} {es:List Ent} {vs0 vs:Array Value} {e0 e:TypeId} {a:AV} (hb:nu b=some rb) (hA:A[b]? =some (.bag es)) (hh:w.heap[rb]? =some (.cells vs0 e0 (0,0)))
 (hsame: ∀j,j<es.length->vs[j]? =vs0[j]?) (hlen:es.length+1<=vs.size) (hR: ∀v,vs[es.length]? =some v->R F nu w a v):
 Stp F nu A w F (upd nu A.length w.heap.size) (A.set b .dead++[.bag (es++[.av a])]) (w.alloc (.cells vs e)):=by
 have x:Ext F nu w F (upd nu A.length w.heap.size) (w.alloc (.cells vs e)):=
  ⟨λ_ h=>h,qdv i _,λrb h=>Go.heap_alloc_old w _ rb (i.ltF rb h),λrb s hs=>qbF _ rb s hs⟩
 have hnew:=Go.heap_alloc_new w (.cells vs e);obtain⟨h0,vs1,e1,h1,h2,h3,h4,h5⟩:=i.blk b rb _ hb hA;rw[hh]at h1;simp only[ZI,Obj.cells.injEq]at h1;obtain⟨rfl,rfl,_⟩:=h1;have split: ∀c r y,upd nu A.length w.heap.size c=some r->(A.set b .dead++[.bag (es++[.av a])])[c]? =some y->y.owned=true\/True->
  (c=A.length/\r=w.heap.size/\y= .bag (es++[.av a]))\/(c=b/\y= .dead)\/(c≠A.length/\c≠b/\nu c=some r/\A[c]? =some y):=by
  intro c r y hc hy _;by_cases ec:c=A.length
  ·subst ec;simp only[upd,aJ,ZI]at hc;rw[Yo (by simp)]at hy;simp at hy;exact .inl ⟨rfl,hc.symm,hy.symm⟩
  simp only[upd,aa ec]at hc;rcases ak c A.length with h|h
  ·rw[Yf (by simpa using h)]at hy;rcases getElem?_set' hy with⟨rfl,rfl⟩|⟨h6,h7⟩
   ·exact .inr (.inl ⟨rfl,rfl⟩)
   exact .inr (.inr ⟨ec,λe=>h6 e.symm,hc,h7⟩)
  rw[i.fresh c h]at hc;cases hc
 have ftN: ∀{r:Nat},Ft (w.alloc (.cells vs e)) w.heap.size (.bag (es++[.av a])) r->r=w.heap.size\/Ft w rb (.bag es) r:=by
  rintro r (h|⟨vs',e',j,g1,g2⟩)
  ·exact .inl h
  rw[hnew]at g1;simp only[ZI,Obj.cells.injEq]at g1;obtain⟨rfl,rfl,_⟩:=g1;exact .inr (.inr ⟨vs0,e0,j,hh,g2.pre hsame⟩)
 have ftOld: ∀{c rc:Nat} {y:Blk} {r:Nat},nu c=some rc->Ft (w.alloc (.cells vs e)) rc y r->Ft w rc y r:=λhc hf=>hf.same (Go.heap_alloc_old w _ _ (i.ltN _ _ hc))
 have ownLt: ∀j r,OwnAt es vs0 j r->r<w.heap.size:=λj r h=>(i.ftF hb hA rfl (.inr ⟨vs0,e0,j,hh,h⟩)).2
 refine⟨x.f,x.n,x.shape,⟨λc r y hc hy=>?_,λc c' r r' y y' z hc hc' hy hy' ho ho' hz hz'=>?_,λc hc=>?_,λr h=>?_,λc r hc=>?_,Glob.ext i.glob x⟩,λr hlt _=>Go.heap_alloc_old w _ r hlt,?_,by simp,rfl,rfl,rfl,λc hc=>by simp only[upd];rw[aa (by omega)],by simp,λ_ h=> .inl h⟩
 ·rcases split c r y hc hy (.inr trivial)with⟨_,rfl,rfl⟩|⟨_,rfl⟩|⟨_,_,h6,h7⟩
  ·refine⟨λh=>absurd (i.ltF _ h) (by omega),vs,e,hnew,by simpa using hlen,λz y v hy hz=>?_,λz r hz=>?_,λz z' r hz hz'=>h5 z z' r (hz.pre hsame) (hz'.pre hsame)⟩
   ·rcases ak z es.length with hj|hj
    ·rw[Yf hj]at hy;rw[hsame z hj]at hz;refine(h3 z y v hy hz).mono x ?_;rintro g n cap rfl hn ⟨k,cs,rfl⟩;exact⟨Go.heap_alloc_old w _ g (ownLt z g ⟨k,cs,n,cap,hy,hz,hn⟩),id⟩
    have hzl:z=es.length:=by
     have:=(Yb.1 hy).1;simp at this;omega
    subst hzl;rw[Yo (ag _)]at hy;simp at hy;subst hy;exact(hR v hz).mono x
   have:=ownLt z r (hz.pre hsame);omega
  ·trivial
  exact i.keepB x h6 h7 λho z hz=>⟨Go.heap_alloc_old w _ z (i.ftF h6 h7 ho hz).2,id⟩
 ·rcases split c r y hc hy (.inr trivial)with⟨e1,e2,e3⟩|⟨_,e3⟩|⟨g1,g2,h6,h7⟩
  ·rcases split c' r' y' hc' hy' (.inr trivial)with⟨e1',_,_⟩|⟨_,e3'⟩|⟨_,g2',h6',h7'⟩
   ·exact e1.trans e1'.symm
   ·subst e3';cases ho'
   subst e2 e3;have hz2:=ftOld h6' hz';rcases ftN hz with h|h
   ·have:=(i.ftF h6' h7' ho' hz2).2;omega
   exact absurd (i.injF b c' rb r' _ y' z hb h6' hA h7' rfl ho' h hz2).symm g2'
  ·subst e3;cases ho
  rcases split c' r' y' hc' hy' (.inr trivial)with⟨_,e2',e3'⟩|⟨_,e3'⟩|⟨_,g2',h6',h7'⟩
  ·subst e2' e3';have hz2:=ftOld h6 hz;rcases ftN hz' with h|h
   ·have:=(i.ftF h6 h7 ho hz2).2;omega
   exact absurd (i.injF b c rb r _ y z hb h6 hA h7 rfl ho h hz2).symm g2
  ·subst e3';cases ho'
  exact i.injF c c' r r' y y' z h6 h6' h7 h7' ho ho' (ftOld h6 hz) (ftOld h6' hz')
 ·have h6:A.length+1<=c:=by simpa using hc
  simp only[upd];rw[aa (by omega)];exact i.fresh c (by omega)
 ·have:=i.ltF r h;simp;omega
 ·simp only[upd]at hc;split at hc
  ·injection hc with hc;simp;omega
  have:=i.ltN c r hc;simp;omega
 rintro z hlt ⟨c,y,r,hc,hy,ho,hz⟩;rcases split c r y hc hy (.inr trivial)with⟨_,e2,e3⟩|⟨_,e3⟩|⟨_,_,h6,h7⟩
 ·subst e2 e3;rcases ftN hz with h|h
  ·omega
  exact⟨b,_,rb,hb,hA,rfl,h⟩
 ·subst e3;cases ho
 exact⟨c,y,r,h6,h7,ho,ftOld h6 hz⟩
theorem Stp.toBag (i:Inv F nu A w) {b:Nat} {cs:List AV} (hA:A[b]? =some (.cells cs)):Stp F nu A w F nu (A.set b (.bag (cs.map .av))) w:=by
 have noOwn: ∀(vs:Array Value) (j r:Nat),¬OwnAt (cs.map .av) vs j r:=by
  rintro vs j r ⟨k,ds,n,cap,h1,_⟩;rw[YA]at h1;obtain⟨a,_,h2⟩:=Yd.1 h1;cases h2
 have ft: ∀{rb r:Nat},Ft w rb (.bag (cs.map .av)) r->r=rb:=by
  rintro rb r (h|⟨vs,e,j,_,h⟩)
  ·exact h
  exact absurd h (noOwn vs j r)
 refine Stp.still i (by simp) (λc rb x hc hx=>?_) (λc rb x r hc hx ho hf=>?_) (λc c' rb rb' x x' r hc hc' hx hx' ho ho' hr hr'=>?_)
 ·rcases getElem?_set' hx with⟨rfl,rfl⟩|⟨_,hx⟩
  ·obtain⟨h0,vs,e,h1,h2,h3⟩:=i.blk _ rb _ hc hA;refine⟨h0,vs,e,h1,by simpa using h2,λj y v hy hv=>?_,λj r hj=>absurd hj (noOwn vs j r),λj j' r hj=>absurd hj (noOwn vs j r)⟩;rw[YA]at hy;obtain⟨a,ha,rfl⟩:=Yd.1 hy;exact h3 j a v ha hv
  exact i.blk c rb x hc hx
 ·rcases getElem?_set' hx with⟨rfl,rfl⟩|⟨_,hx⟩
  ·exact⟨_,_,rb,hc,hA,rfl,.inl (ft hf)⟩
  exact⟨c,x,rb,hc,hx,ho,hf⟩
 rcases getElem?_set' hx with⟨e1,e1'⟩|⟨_,hx⟩
 ·rcases getElem?_set' hx' with⟨e2,_⟩|⟨_,hx'⟩
  ·exact e1.symm.trans e2
  subst e1 e1';exact i.injF b c' rb rb' _ x' r hc hc' hA hx' rfl ho' (.inl (ft hr)) hr'
 rcases getElem?_set' hx' with⟨e2,e2'⟩|⟨_,hx'⟩
 ·subst e2 e2';exact i.injF c b rb rb' x _ r hc hc' hx hA ho rfl hr (.inl (ft hr'))
 exact i.injF c c' rb rb' x x' r hc hc' hx hx' ho ho' hr hr'
end
end Go.Av
