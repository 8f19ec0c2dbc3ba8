/-
  Functions that are told with the blocks that they are given: their contracts, and their calls from a heap of more blocks.
-/
import Derived.Test.YthgioiakbbhonaaGreatDoorAvTyp
set_option linter.unusedSectionVars false
noncomputable section
namespace Go.Av
section
variable [Glob]
open Go.RowKit
def qfZ [Base] (v:AV) (A:Heap) (v':AV) (A':Heap):Prop:=Sub (ofG 1 [(0,v)],A) (ofG 1 [(0,v')],A')
theorem qfZ.refl [Base] (v:AV) (A:Heap):qfZ v A v A:=Sub.refl _
theorem qfZ.use [Base] {v v':AV} {A A':Heap} (h:qfZ v A v' A') {F0:Nat->Prop} {w0:World} {F:Nat->Prop} {nu:Nat->Option Nat} {w:World} {x:Value} (st:Stp F0 Base.nu Base.A w0 F nu A w) (hR:R F nu w v x):
 ∃F' nu',Stp F0 Base.nu Base.A w0 F' nu' A' w/\R F' nu' w v' x:=by
 have hf:RF F nu w (ofG 1 [(0,v)]) #[x]:=by
  refine⟨rfl,λt y hy=>?_,λt ht=>?_⟩
  ·rcases t with _|t
   ·simp at hy;subst hy;simpa[ofG,Up,qhs,qgm]using hR
   simp at hy
  simp only[ofG,Fr.n]at ht;simp only[ofG,Up,aa (show¬t<1 by omega)]
 obtain⟨F',nu',h1,h2,_⟩:=h F0 w0 F nu ⟨#[x],[]⟩ w st hf ⟨by simp,.nil⟩;refine⟨F',nu',h1,?_⟩;have:=h2.at_ 0 x rfl;simpa[ofG,Up,qhs,qgm]using this
def qiB [Base] (P:Program) (rs:List ResultVar) (v:AV) (A':Heap):XA->St->Prop
 | .exit _,_=>False
 |_,s=> ∃xs,jJ P s.1 s.2 rs=some xs/\qfZ (qgP xs) s.2 v A'
theorem Uu {P:Program} {c:Code} {f:FuncId} {fn:Func} {args:List AV} {A A':Heap} {v:AV} {m:Nat} {l:List (Nat×AV)} {rs:List ResultVar} (hf:P.funcs[f]? =some fn) (hn:(fn.name== "runtime.NumGoroutine")=false) (hb:fn.body=some c) (hm:args.length+(fn.ntmps-args.length)=m) (hr:fn.results.toList=rs)
 (hl:frFn m args=ofG m l) (h: ∀[Base],Base.A=A->Goes P c (ofG m l,A) (qiB P rs v A')):qf P (.fn f) args A v A':=by
 intro F nu w vs i hargs;subst hr
 letI B:Base:=⟨nu,A,i.fresh,none,none,trivial⟩
 have h:=h rfl;rw[<-hl]at h;refine .inl ⟨⟨fn,hf,hn,by rw[hb];rfl⟩,?_⟩;refine(callsIn_wide (n:=0)).1 ?_;refine callsIn_of_wp_marks hf hb trivial ?_;refine h F w 0 F nu _ w (.refl i) (RF.frFn hm hargs) .nil _ (λx s' F' nu' a' w' q st hfr hd=>?_);have post: ∀xs,jJ P s'.1 s'.2 fn.results.toList=some xs->qfZ (qgP xs) s'.2 v A'->
  LeavesInM (fz none) 0 P fn a'.tmps (λe w'=> ∃x F' nu',e= .returned x/\Stp F nu A w F' nu' A' w'/\R F' nu' w' v x) a'.defers .returning w':=by
  intro xs hrs hv;refine qgU hrs a'.defers st hfr hd (λF2 nu2 w2 y st2 hR=>?_);obtain⟨F3,nu3,h1,h2⟩:=hv.use st2 hR;exact⟨y,F3,nu3,rfl,h1,h2⟩
 cases x with
 |normal=>obtain⟨xs,h1,h2⟩:=q;exact post xs h1 h2
 |ret=>obtain⟨xs,h1,h2⟩:=q;exact post xs h1 h2
 |exit k=>exact q.elim
theorem Goes.retH [Base] {P:Program} {s:St} {rs:List ResultVar} {xs:List AV} {v:AV} {A':Heap} (hx:jJ P s.1 s.2 rs=some xs) (hs:qfZ (qgP xs) s.2 v A'):qiB P rs v A' .ret s:=⟨xs,hx,hs⟩
theorem jm.heap {A M:Heap} {m:List (Option Nat)} {a' a:AV} (h:jm A [] m a' a):jm M [] m a' a:=by
 induction h with
 |same h=>exact .same h
 |undef=>exact .undef
 |ptr h=>exact .ptr h
 |slice h=>exact .slice h
 |oslice h=>exact .oslice h
 |gslice h=>exact .gslice h
 |gsliceE h e=>exact .gsliceE h e
 |osliceE h e=>exact .osliceE h e
 |sliceE h e=>exact .sliceE h e
 |wslice h=>exact .wslice h
 |map h=>exact .map h
 |yld h=>exact .yld h
 |grow h hp=>exact .grow h hp
 |own _ _ _ _ _ hs=>cases hs
 |ownL _ _ _ _ _ hs=>cases hs
 |nil=>exact .nil
 |nilv=>exact .nilv
 |frz h hr=>exact .frz ((qix (λb hb=>by cases hb) 12 _).symm.trans h) hr
 |agg hl _ ih=>exact .agg hl ih
 |tuple hl _ ih=>exact .tuple hl ih
 |func hf hl _ ih=>exact .func hf hl ih
theorem qcs.heap {A M:Heap} {m:List (Option Nat)} {l l':List (Nat×AV)} (h:qcs A [] m l l'):qcs M [] m l l':=by
 induction h with
 |nil=>exact .nil
 |keep h _ ih=>exact .keep h.heap ih
 |drop _ ih=>exact .drop ih
theorem qma.heap {A M:Heap} {m:List (Option Nat)} {x y:Ent} (h:qma A [] m x y):qma M [] m x y:=by
 cases h with
 |av h=>exact .av h.heap
 |own h=>exact .own h
theorem vS.heap {A M:Heap} {m:List (Option Nat)} {x y:Blk} (h:vS A [] m x y):vS M [] m x y:=by
 cases h with
 |cells h=>exact .cells ⟨h.1,λj c' c h1 h2=>(h.2 j c' c h1 h2).heap⟩
 |bag hl h=>exact .bag hl λj x' x h1 h2=>(h j x' x h1 h2).heap
 |same h=>exact .same h
 |pre h hl he=>exact .pre h hl he
 |map h1 h2=>exact .map h1 h2
 |iter=>exact .iter
 |bld h=>exact .bld ⟨h.1,λj c' c h1 h2=>(h.2 j c' c h1 h2).heap⟩
 |loop hs h=>exact .loop hs h.heap
theorem vS.RB {A:Heap} {m:List (Option Nat)} {F:Nat->Prop} {nu:Nat->Option Nat} {w:World} (i:Inv F nu A w) {x y:Blk} (h:vS A [] m x y) {rb:Nat} (h0:RB F nu w rb y):RB F (nuM m nu) w rb x:=by
 have hF: ∀rb,FS F nu A [] rb->F rb:=by
  rintro rb (h|⟨b,x,hb,_⟩)
  ·exact h
  cases hb
 cases h with
 |cells hL=>
  obtain⟨hn,vs,e,h1,h2,h3⟩:=h0;refine⟨hn,vs,e,h1,by rw[hL.1];exact h2,λq c' v hc' hv=>?_⟩;have hlt:=(Yb.1 hc').1;rw[hL.1]at hlt;exact((hL.2 q c' _ hc' (Ya hlt)).R i (h3 q _ v (Ya hlt) hv)).growF hF
 |bag hl he=>
  obtain⟨hn,vs,e,h1,h2,h3,h4,h5⟩:=h0;refine⟨hn,vs,e,h1,by rw[hl];exact h2,λq c' v hc' hv=>?_,λq r o=>h4 q r (qcd hl he o),λq q' r o o'=>h5 q q' r (qcd hl he o) (qcd hl he o')⟩;have hlt:=(Yb.1 hc').1;rw[hl]at hlt;obtain⟨c,hc⟩:=(⟨_,Ya hlt⟩: ∃c,_=some c);have hE:=he q c' c hc' hc;have hR:=h3 q c v hc hv
  cases hE with
  |av hV=>exact(hV.R i hR).growF hF
  |@own k cs hN=>exact qkD.re (x:= .own k cs) hN (nuM m nu) hR
 |same hN=>
  obtain⟨hn,vs,e,h1,h2,h3⟩:=h0;exact⟨hn,vs,e,h1,h2,λq c v hc hv=>hN c (Yn hc) F nu (nuM m nu) w v (h3 q c v hc hv)⟩
 |pre hN hl he=>
  obtain⟨hn,vs,e,h1,h2,h3⟩:=h0;exact⟨hn,vs,e,h1,aX hl h2,λq c v hc hv=>hN c (Yn hc) F nu (nuM m nu) w v (h3 q c v (qoL he hc) hv)⟩
 |map hk hv2=>
  obtain⟨hn,es,ck,h1,h2,h3,h4,h5,h6⟩:=h0;exact⟨hn,es,ck,h1,h2,h3,λq c e hc he=>hk c (Yn hc) F nu (nuM m nu) w _ (h4 q c e hc he),λq c e hc he=>hv2 c (Yn hc) F nu (nuM m nu) w _ (h5 q c e hc he),h6⟩
 |iter=>exact h0
 |bld hL=>
  obtain⟨hn,vs,h1,h2,h3,h4⟩:=h0;refine⟨hn,vs,h1,by rw[hL.1];exact h2,λq c' v hc' hv=>?_,h4⟩;have hlt:=(Yb.1 hc').1;rw[hL.1]at hlt;exact((hL.2 q c' _ hc' (Ya hlt)).R i (h3 q _ v (Ya hlt) hv)).growF hF
 |loop hs hfl=>
  obtain⟨hn,fn,tmps,dd,h1,h2⟩:=h0;refine⟨hn,fn,tmps,dd,h1,?_⟩;have h3:=hfl.RF i hs h2;exact⟨h3.size,λt v hv=>(h3.at_ t v hv).growF hF,h3.out⟩
structure Fits (A0 A A1 A':Heap) (m m':List (Option Nat)) (S:List Nat):Prop where
 ren:qdq A [] m m A0
 inS: ∀(i b:Nat),m[i]? =some (some b)->b∈S
 len:A.length<=A'.length
 old: ∀(j i:Nat),m'[j]? =some (some i)->j<A.length->m[i]? =some (some j)
 blk: ∀(j i:Nat) (x:Blk),m'[j]? =some (some i)->A'[j]? =some x-> ∃y,A1[i]? =some y/\vS A1 [] m' x y
 non: ∀(j:Nat) (x:Blk),(∀i,m'[j]? ≠some (some i))->A'[j]? =some x->j∈S\/A.length<=j->x= .dead
 inj: ∀(j j' i:Nat),m'[j]? =some (some i)->m'[j']? =some (some i)->j=j'
 top: ∀(j i:Nat),m'[j]? =some (some i)->j<A'.length
theorem Fits.go {args0 args:List AV} {A0 A A1 A':Heap} {m m':List (Option Nat)} {S:List Nat} {v0 v:AV} (T:Fits A0 A A1 A' m m' S) (ha:qga A [] m args0 args) (hv:jm A1 [] m' v v0)
 {M:Heap} (hM:M.length=A.length) (hMA: ∀b,b∈S->M[b]? =A[b]?) {F:Nat->Prop} {nu:Nat->Option Nat} {w:World} {vs:Array Value} (i:Inv F nu M w) (hargs:RL F nu w args vs):
 Inv F (nuM m nu) A0 w/\RL F (nuM m nu) w args0 vs/\ ∀x F1 nu1 w',Stp F (nuM m nu) A0 w F1 nu1 A1 w'->R F1 nu1 w' v0 x-> ∃F' nu',Stp F nu M w F' nu' (merge S M A') w'/\R F' nu' w' v x:=by
 have hlt0: ∀{a c:Nat} {y:Blk},m[a]? =some (some c)->A0[a]? =some y->y≠ .dead-> ∃x,M[c]? =some x/\vS A [] m y x:=by
  intro a c y h1 h2 h3;obtain⟨_,x,hx,hB⟩:=(T.ren.at_ h1 h2).resolve_left h3;exact⟨x,by rw[hMA c (T.inS a c h1)];exact hx,hB⟩
 have hown0: ∀r,qaO (nuM m nu) A0 w r-> ∃(a c:Nat) (x:Blk) (rb:Nat),m[a]? =some (some c)/\nu c=some rb/\M[c]? =some x/\x.owned=true/\Ft w rb x r:=by
  rintro r ⟨a,y,rb,ha,hy,ho,hf⟩;obtain⟨c,hc,hn⟩:=qbt ha;obtain⟨x,hx,hB⟩:=hlt0 hc hy (λe=>by subst e;cases ho);exact⟨a,c,x,rb,hc,hn,hx,hB.owned,hB.ft hf⟩
 have i0:Inv F (nuM m nu) A0 w:=by
  refine⟨λa rb y ha hy=>?_,λa a' rb rb' y y' r h1 h2 hy hy' ho ho' hr hr'=>?_,λa hl=>?_,i.ltF,λa rb ha=>?_,i.glob⟩
  ·obtain⟨c,hc,hn⟩:=qbt ha;by_cases hd:y= .dead
   ·subst hd;trivial
   obtain⟨x,hx,hB⟩:=hlt0 hc hy hd;exact(hB.heap (M:=M)).RB i (i.blk c rb x hn hx)
  ·obtain⟨c,hc,hn⟩:=qbt h1;obtain⟨c',hc',hn'⟩:=qbt h2;obtain⟨x,hx,hB⟩:=hlt0 hc hy (λe=>by subst e;cases ho);obtain⟨x',hx',hB'⟩:=hlt0 hc' hy' (λe=>by subst e;cases ho');have:=i.injF c c' rb rb' x x' r hn hn' hx hx' hB.owned hB'.owned (hB.ft hr) (hB'.ft hr');subst this;exact T.ren.inj hc hc' hy hy' (λe=>by subst e;cases ho) (λe=>by subst e;cases ho')
  ·have:=T.ren.len;have e:m[a]? =none:=Yg (by omega);simp[nuM,e]
  obtain⟨c,_,hn⟩:=qbt ha;exact i.ltN c rb hn
 have hF0: ∀{F:Nat->Prop} {nu:Nat->Option Nat} {A:Heap} rb,FS F nu A [] rb->F rb:=by
  rintro F nu A rb (h|⟨b,x,hb,_⟩)
  ·exact h
  cases hb
 have hargs0:RL F (nuM m nu) w args0 vs:=by
  refine⟨by rw[hargs.1,ha.1],λj a y h1 h2=>?_⟩;have hlt:=(Yb.1 h1).1;rw[ha.1]at hlt;exact(((ha.2 j a _ h1 (Ya hlt)).heap (M:=M)).R i (hargs.2 j _ y (Ya hlt) h2)).growF (hF0)
 have core: ∀x F1 nu1 w',Stp F (nuM m nu) A0 w F1 nu1 A1 w'->R F1 nu1 w' v0 x-> ∃F' nu',Stp F nu M w F' nu' (merge S M A') w'/\R F' nu' w' v x:=by
  intro x F1 nu1 w' st hR
  have hlenM:M.length<=A'.length:=by rw[hM];exact T.len
  let nu':Nat->Option Nat:=λj=>if j<M.length then nu j else nuM m' nu1 j
  have hback: ∀{j i rb:Nat},m'[j]? =some (some i)->j<M.length->nu1 i=nu j:=by
   intro j a _ hj hlt;have h1:=T.old j a hj (by rw[<-hM];exact hlt)
   have h2:a<A0.length:=by rw[<-T.ren.len];exact(Yb.1 h1).1
   rw[st.old a h2,yj h1]
  have hnu': ∀{j i:Nat},m'[j]? =some (some i)->nu' j=nu1 i:=by
   intro j a hj;simp only[nu'];split
   ·rename_i hlt;exact(hback (rb:=0) hj hlt).symm
   exact yj hj
  have hext: ∀b r,nuM m' nu1 b=some r->nu' b=some r:=by
   intro b r hb;obtain⟨a,ha,hn⟩:=qbt hb;rw[hnu' ha];exact hn
  have xM:Ext F nu w F1 nu' w':=⟨st.f,λb r hb=>by
   have:b<M.length:=by
    rcases ak b M.length with h|h
    ·exact h
    rw[i.fresh b h]at hb;cases hb
   simp only[nu',ae this];exact hb,λrb hb=>st.keep rb (i.ltF rb hb) (i0.notOwns hb),st.shape⟩
  have x1:Ext F1 (nuM m' nu1) w' F1 nu' w':=⟨λ_ h=>h,hext,λ_ _=>rfl,λ_ _ h=>h⟩
  have hget: ∀(j:Nat) (x:Blk),(merge S M A')[j]? =some x->(∃a,m'[j]? =some (some a)/\A'[j]? =some x)\/x= .dead\/(j<M.length/\j∉S/\M[j]? =some x):=by
   intro j x hx;rw[qcg]at hx;obtain⟨y,hy,hx⟩:=Yd.1 hx;by_cases hc:(decide (j<M.length)&&!S.contains j)=true
   ·rw[ae hc]at hx;simp only[aI,aH,cV,List.contains_eq_mem,cP]at hc;refine .inr (.inr ⟨hc.1,hc.2,?_⟩);rw[Yy,Ya hc.1]at hx;rw[Ya hc.1];simpa using hx
   rw[aa hc]at hx;subst hx;by_cases hm: ∃a,m'[j]? =some (some a)
   ·obtain⟨a,ha⟩:=hm;exact .inl ⟨a,ha,hy⟩
   refine .inr (.inl (T.non j y (λa ha=>hm ⟨a,ha⟩) hy ?_));by_cases hj:j∈S
   ·exact .inl hj
   refine .inr ?_;rcases ak j A.length with h|h
   ·exact absurd (by simp[hM,h,hj]) hc
   exact h
  have hS': ∀{j a:Nat},m'[j]? =some (some a)->j<M.length->j∈S:=λh1 h2=>T.inS _ _ (T.old _ _ h1 (by rw[<-hM];exact h2))
  have notOwn: ∀{j rb r:Nat} {y:Blk},j∉S->nu j=some rb->M[j]? =some y->y.owned=true->Ft w rb y r-> ¬qaO (nuM m nu) A0 w r:=by
   intro j rb r y hj hn hy ho hf hO;obtain⟨a,c,x,rc,hc,hn2,hx,ho2,hf2⟩:=hown0 r hO;have:=i.injF j c rb rc y x r hn hn2 hy hx ho ho2 hf hf2;subst this;exact hj (T.inS a _ hc)
  have ftM: ∀{j rb r:Nat} {y:Blk},j∉S->nu j=some rb->M[j]? =some y->y.owned=true->Ft w' rb y r->Ft w rb y r:=λhj hn hy ho hf=>
   hf.same (st.keep _ (i.ltN _ _ hn) (notOwn hj hn hy ho (.inl rfl)))
  have hnuM: ∀{j:Nat},j<M.length->nu' j=nu j:=λh=>by simp only[nu',ae h]
  have iM:Inv F1 nu' (merge S M A') w':=by
   refine⟨λj rb x hj hx=>?_,λj j' rb rb' x x' r hj hj' hx hx' ho ho' hr hr'=>?_,λj hl=>?_,st.inv.ltF,λj rb hj=>?_,st.inv.glob⟩
   ·rcases hget j x hx with⟨a,ha,hA⟩|rfl|⟨hlt,hnS,hMj⟩
    ·obtain⟨y,hy,hB⟩:=T.blk j a x ha hA;rw[hnu' ha]at hj;exact(hB.RB st.inv (st.inv.blk a rb y hj hy)).monoF x1 (λ_ _=>rfl) (λ_ _=>id)
    ·trivial
    rw[hnuM hlt]at hj
    refine i.keepB xM hj hMj λhxo r hr=>?_
    have hno:=notOwn hnS hj hMj hxo hr;have hlr:=(i.ftF hj hMj hxo hr).2;refine⟨st.keep r hlr hno,λhf=>?_⟩;rcases st.newF r hf with h|h|h
    ·exact h
    ·omega
    exact absurd h hno
   ·rcases hget j x hx with⟨a,ha,hA⟩|rfl|⟨hlt,hnS,hMj⟩
    ·obtain⟨y,hy,hB⟩:=T.blk j a x ha hA;rw[hnu' ha]at hj;rcases hget j' x' hx' with⟨a',ha',hA'⟩|rfl|⟨hlt',hnS',hMj'⟩
     ·obtain⟨y',hy',hB'⟩:=T.blk j' a' x' ha' hA';rw[hnu' ha']at hj';have:=st.inv.injF a a' rb rb' y y' r hj hj' hy hy' hB.owned hB'.owned (hB.ft hr) (hB'.ft hr');subst this;exact T.inj j j' a ha ha'
     ·cases ho'
     rw[hnuM hlt']at hj';have hf':=ftM hnS' hj' hMj' ho' hr';exact absurd (st.own r (i.ftF hj' hMj' ho' hf').2 ⟨a,y,rb,hj,hy,hB.owned,hB.ft hr⟩) (notOwn hnS' hj' hMj' ho' hf')
    ·cases ho
    rw[hnuM hlt]at hj;rcases hget j' x' hx' with⟨a',ha',hA'⟩|rfl|⟨hlt',hnS',hMj'⟩
    ·obtain⟨y',hy',hB'⟩:=T.blk j' a' x' ha' hA';rw[hnu' ha']at hj';have hf':=ftM hnS hj hMj ho hr;exact absurd (st.own r (i.ftF hj hMj ho hf').2 ⟨a',y',rb',hj',hy',hB'.owned,hB'.ft hr'⟩) (notOwn hnS hj hMj ho hf')
    ·cases ho'
    rw[hnuM hlt']at hj';exact i.injF j j' rb rb' x x' r hj hj' hMj hMj' ho ho' (ftM hnS hj hMj ho hr) (ftM hnS' hj' hMj' ho' hr')
   ·rw[qap]at hl;simp only[nu',aa (show¬j<M.length by omega)]
    cases hq:m'[j]? with
    |none=>simp[nuM,hq]
    |some q=>
     cases q with
     |none=>simp[nuM,hq]
     |some a=>have:=T.top j a hq;omega
   by_cases hlt:j<M.length
   ·rw[hnuM hlt]at hj;have:=i.ltN j rb hj;have:=st.size;omega
   simp only[nu',aa hlt]at hj;obtain⟨a,_,hn⟩:=qbt hj;exact st.inv.ltN a rb hn
  have hownM: ∀r,r<w.heap.size->qaO (nuM m nu) A0 w r->qaO nu M w r:=by
   intro r _ hO;obtain⟨a,c,x,rb,hc,hn2,hx,ho2,hf2⟩:=hown0 r hO;exact⟨c,x,rb,hn2,hx,ho2,hf2⟩
  refine⟨F1,nu',⟨st.f,xM.n,st.shape,iM,λrb hlt hO=>st.keep rb hlt (λh=>hO (hownM rb hlt h)),?_,st.size,st.os,st.tape,st.output,λb hb=>hnuM hb,by rw[qap];exact hlenM,λrb hf=>?_⟩,((hv.R st.inv hR).growF (hF0)).mono x1⟩
  ·rintro r hlt ⟨j,x,rb,hj,hx,ho,hf⟩;rcases hget j x hx with⟨a,ha,hA⟩|rfl|⟨hltj,hnS,hMj⟩
   ·obtain⟨y,hy,hB⟩:=T.blk j a x ha hA;rw[hnu' ha]at hj;exact hownM r hlt (st.own r hlt ⟨a,y,rb,hj,hy,hB.owned,hB.ft hf⟩)
   ·cases ho
   rw[hnuM hltj]at hj;exact⟨j,x,rb,hj,hMj,ho,ftM hnS hj hMj ho hf⟩
  rcases st.newF rb hf with h|h|h
  ·exact .inl h
  ·exact .inr (.inl h)
  rcases ak rb w.heap.size with hlt|hge
  ·exact .inr (.inr (hownM rb hlt h))
  exact .inr (.inl hge)
 exact⟨i0,hargs0,core⟩
theorem qf.frame {P:Program} {f:FuncId} {args0 args:List AV} {A0 A A1 A':Heap} {m m':List (Option Nat)} {S:List Nat} {v0 v:AV} (h:qf P (.fn f) args0 A0 v0 A1) (T:Fits A0 A A1 A' m m' S) (ha:qga A [] m args0 args) (hv:jm A1 [] m' v v0)
 {M:Heap} (hM:M.length=A.length) (hMA: ∀b,b∈S->M[b]? =A[b]?):qf P (.fn f) args M v (merge S M A'):=by
 intro F nu w vs i hargs;obtain⟨i0,hargs0,core⟩:=T.go ha hv hM hMA i hargs;rcases h _ _ w vs i0 hargs0 with⟨hent,hcalls⟩|⟨x,w',F2,nu2,hrun,st,hRv⟩
 ·refine .inl ⟨hent,hcalls.mono ?_⟩;rintro e w' ⟨x,F2,nu2,rfl,st,hRv⟩;obtain⟨F',nu',h1,h2⟩:=core x F2 nu2 w' st hRv;exact⟨x,F',nu',rfl,h1,h2⟩
 obtain⟨F',nu',h1,h2⟩:=core x F2 nu2 w' st hRv;exact .inr ⟨x,w',F',nu',hrun,h1,h2⟩
theorem jq (j q:Nat):j+1+q=j+(q+1):=by omega
inductive qeb (n:Nat) (A1:Heap) (m m':List (Option Nat)) (S:List Nat):Nat->List (Option Nat)->Heap->Prop
 |nil {j:Nat}:qeb n A1 m m' S j [] []
 |old {j:Nat} {x:Blk} {l:List (Option Nat)} {H:Heap} (hj:Nat.blt j n=true) (hS:S.contains j=false) (h:qeb n A1 m m' S (j+1) l H):qeb n A1 m m' S j (none::l) (x::H)
 |dead {j:Nat} {l:List (Option Nat)} {H:Heap} (h:qeb n A1 m m' S (j+1) l H):qeb n A1 m m' S j (none::l) (.dead::H)
 |back {j i:Nat} {x y:Blk} {l:List (Option Nat)} {H:Heap} (hm:m[i]? =some (some j)) (hy:A1[i]? =some y) (hb:vS A1 [] m' x y) (hl:l.contains (some i)=false) (h:qeb n A1 m m' S (j+1) l H):qeb n A1 m m' S j (some i::l) (x::H)
 |new {j i:Nat} {x y:Blk} {l:List (Option Nat)} {H:Heap} (hj:Nat.ble n j=true) (hy:A1[i]? =some y) (hb:vS A1 [] m' x y) (hl:l.contains (some i)=false) (h:qeb n A1 m m' S (j+1) l H):qeb n A1 m m' S j (some i::l) (x::H)
section
variable {n:Nat} {A1:Heap} {m m':List (Option Nat)} {S:List Nat}
theorem qeb.len {j:Nat} {l:List (Option Nat)} {H:Heap} (h:qeb n A1 m m' S j l H):l.length=H.length:=by
 induction h with
 |nil=>rfl
 |old _ _ _ ih=>simp[ih]
 |dead _ ih=>simp[ih]
 |back _ _ _ _ _ ih=>simp[ih]
 |new _ _ _ _ _ ih=>simp[ih]
theorem qeb.some_ {j:Nat} {l:List (Option Nat)} {H:Heap} (h:qeb n A1 m m' S j l H): ∀{q i:Nat},l[q]? =some (some i)->(j+q<n->m[i]? =some (some (j+q)))/\ ∀x,H[q]? =some x-> ∃y,A1[i]? =some y/\vS A1 [] m' x y:=by
 induction h with
 |nil=>intro q i h;simp at h
 |old _ _ _ ih=>
  intro q i h
  cases q with
  |zero=>simp at h
  |succ q=>have:=ih (q:=q) (by simpa using h);rw[jq]at this;simpa using this
 |dead _ ih=>
  intro q i h
  cases q with
  |zero=>simp at h
  |succ q=>have:=ih (q:=q) (by simpa using h);rw[jq]at this;simpa using this
 |back hm hy hb _ _ ih=>
  intro q i h
  cases q with
  |zero=>simp at h;subst h;exact⟨λ_=>hm,λx hx=>by simp at hx;subst hx;exact⟨_,hy,hb⟩⟩
  |succ q=>have:=ih (q:=q) (by simpa using h);rw[jq]at this;simpa using this
 |new hj hy hb _ _ ih=>
  intro q i h
  cases q with
  |zero=>
   simp at h;subst h;have:=Ys hj;exact⟨λhlt=>by omega,λx hx=>by simp at hx;subst hx;exact⟨_,hy,hb⟩⟩
  |succ q=>have:=ih (q:=q) (by simpa using h);rw[jq]at this;simpa using this
theorem qeb.none_ {j:Nat} {l:List (Option Nat)} {H:Heap} (h:qeb n A1 m m' S j l H): ∀{q:Nat} {x:Blk},(∀i,l[q]? ≠some (some i))->H[q]? =some x->(j+q∈S\/n<=j+q)->x= .dead:=by
 induction h with
 |nil=>intro q x _ h;simp at h
 |old hj hS _ ih=>
  intro q x h hx hq
  cases q with
  |zero=>
   have:=Ys hj;rcases hq with hq|hq
   ·simp only[aY]at hq;simp[hq]at hS
   omega
  |succ q=>exact ih (λi=>by simpa using h i) (by simpa using hx) (by rw[jq];exact hq)
 |dead _ ih=>
  intro q x h hx hq
  cases q with
  |zero=>simp at hx;exact hx.symm
  |succ q=>exact ih (λi=>by simpa using h i) (by simpa using hx) (by rw[jq];exact hq)
 |back _ _ _ _ _ ih=>
  intro q x h hx hq
  cases q with
  |zero=>exact absurd rfl (h _)
  |succ q=>exact ih (λi=>by simpa using h i) (by simpa using hx) (by rw[jq];exact hq)
 |new _ _ _ _ _ ih=>
  intro q x h hx hq
  cases q with
  |zero=>exact absurd rfl (h _)
  |succ q=>exact ih (λi=>by simpa using h i) (by simpa using hx) (by rw[jq];exact hq)
theorem qeb.inj {j:Nat} {l:List (Option Nat)} {H:Heap} (h:qeb n A1 m m' S j l H): ∀{q q' i:Nat},l[q]? =some (some i)->l[q']? =some (some i)->q=q':=by
 have cons: ∀{o:Option Nat} {l:List (Option Nat)},(∀i,o=some i->l.contains (some i)=false)->(∀{q q' i:Nat},l[q]? =some (some i)->l[q']? =some (some i)->q=q')-> ∀{q q' i:Nat},(o::l)[q]? =some (some i)->(o::l)[q']? =some (some i)->q=q':=by
  intro o l ho ih q q' i h1 h2
  cases q with
  |zero=>
   cases q' with
   |zero=>rfl
   |succ q'=>
    simp at h1 h2;have:=ho i h1;have:=Yn h2
    simp_all
  |succ q=>
   cases q' with
   |zero=>
    simp at h1 h2;have:=ho i h2;have:=Yn h1
    simp_all
   |succ q'=>exact ap (· +1) (ih (by simpa using h1) (by simpa using h2))
 induction h with
 |nil=>intro q q' i h;simp at h
 |old _ _ _ ih=>exact cons (by intro i h;cases h) ih
 |dead _ ih=>exact cons (by intro i h;cases h) ih
 |back _ _ _ hl _ ih=>exact cons (by intro i h;injection h with h;subst h;exact hl) ih
 |new _ _ _ hl _ ih=>exact cons (by intro i h;injection h with h;subst h;exact hl) ih
end
def allIn (S:List Nat):List (Option Nat)->Bool
 |[]=>true
 |some b::l=>S.contains b&&allIn S l
 |none::l=>allIn S l
theorem qn8 {S:List Nat}: ∀{l:List (Option Nat)},allIn S l=true-> ∀{i b:Nat},l[i]? =some (some b)->b∈S:=by
 intro l
 induction l with
 |nil=>intro _ i b h;simp at h
 |cons o l ih=>
  intro ha i b h
  cases o with
  |none=>
   cases i with
   |zero=>simp at h
   |succ i=>exact ih ha (by simpa using h)
  |some c=>
   simp only[allIn,aI]at ha
   cases i with
   |zero=>simp at h;subst h;simpa using ha.1
   |succ i=>exact ih ha.2 (by simpa using h)
theorem Fits.of {A0 A A1 A':Heap} {m m':List (Option Nat)} {S:List Nat} (hm:qdq A [] m m A0) (hin:allIn S m=true) (hlen:Nat.ble A.length A'.length=true) (hk:qeb A.length A1 m m' S 0 m' A'):Fits A0 A A1 A' m m' S where
 ren:=hm
 inS _ _ h:=qn8 hin h
 len:=Ys hlen
 old j i h hlt:=by have:=(hk.some_ h).1 (by rw[az];exact hlt);rwa [az]at this
 blk j i x h hx:=(hk.some_ h).2 x hx
 non j x h hx hj:=hk.none_ h hx (by rw[az];exact hj)
 inj _ _ _ h h':=hk.inj h h'
 top j i h:=by rw[<-hk.len];exact(Yb.1 h).1
theorem qbA {P:Program} {g:FuncId} {args0 args:List AV} {A0 A A1 A':Heap} (m m':List (Option Nat)) {S:List Nat} {v0 v:AV} (hc:qf P (.fn g) args0 A0 v0 A1) (hm:qdq A [] m m A0) (hin:allIn S m=true) (hlen:Nat.ble A.length A'.length=true)
 (hk:qeb A.length A1 m m' S 0 m' A') (ha:qga A [] m args0 args) (hv:jm A1 [] m' v v0) (hg:merge S A A'=A'):(Obl.callH (.fn g) args A S v A').Holds P:=
 ⟨Ys hlen,hg,λ_ hM hMA=>hc.frame (.of hm hin hlen hk) ha hv hM hMA⟩
end
section
variable [Glob]
open Go.RowKit
section
variable {F:Nat->Prop} {nu:Nat->Option Nat} {A:Heap} {w:World}
inductive qg7 (b n k:Nat):AV->Prop
 |g:qg7 b n k (.gslice b n k)
 |o (h:0<n):qg7 b n k (.oslice b n k)
 |s (h:n<=9223372036854775807):qg7 b n k (.slice b 0 n n k)
theorem Stp.give (i:Inv F nu A w) {b c j n k:Nat} {es:List Ent} {a:AV} {cs:List AV} (hne:b≠c) (hA:A[b]? =some (.bag es)) (hC:A[c]? =some (.cells cs)) (hj:es[j]? =some (.av a)) (ha:qg7 c n k a) (hn:n*k=cs.length):
 Stp F nu A w F nu ((A.set b (.bag (es.set j (.own k cs)))).set c .dead) w:=by
 have hjl:j<es.length:=(Yb.1 hj).1
 have at_: ∀q x,((A.set b (.bag (es.set j (.own k cs)))).set c .dead)[q]? =some x->(q=c/\x= .dead)\/(q=b/\x= .bag (es.set j (.own k cs)))\/(q≠c/\q≠b/\A[q]? =some x):=by
  intro q x hx;rcases getElem?_set' hx with⟨rfl,rfl⟩|⟨h1,hx⟩
  ·exact .inl ⟨rfl,rfl⟩
  rcases getElem?_set' hx with⟨rfl,rfl⟩|⟨h2,hx⟩
  ·exact .inr (.inl ⟨rfl,rfl⟩)
  exact .inr (.inr ⟨λe=>h1 e.symm,λe=>h2 e.symm,hx⟩)
 have cell: ∀{rb vs e},nu b=some rb->w.heap[rb]? =some (.cells vs e (0,0))-> ∀v,vs[j]? =some v->
  (cs=[]/\ ∃p,v= .slice p 0 0)\/ ∃g cap ds e',v= .slice (some ⟨g,0,none⟩) n cap/\0<n/\n<=cap/\cap<=9223372036854775807/\nu c=some g/\w.heap[g]? =some (.cells ds e' (0,0))/\cap*k<=ds.size/\ ∀(q:Nat) (a:AV) (v:Value),cs[q]? =some a->ds[q]? =some v->R F nu w a v:=by
  intro rb vs e hb hh v hv;obtain⟨_,vs',e',h1,h2,h3,_⟩:=i.blk b rb _ hb hA;rw[hh]at h1;simp only[ZI,Obj.cells.injEq]at h1;obtain⟨rfl,rfl,_⟩:=h1;have hR:R F nu w a v:=h3 j _ v hj hv
  have zero:n=0->cs=[]:=λe=>YL.1 (by rw[<-hn,e,bf])
  cases ha with
  |g=>
   cases hR with
   |gslice0 _ _ p=>exact .inl ⟨zero rfl,p,rfl⟩
   |gslice _ _ _ g cap e2 m hp hg hc hs hm hx=>
    obtain⟨_,ds,e3,q1,q2,q3⟩:=i.blk c g _ hg hC;simp only[World.shape?,q1,ZI,ZP]at hs;obtain⟨_,rfl⟩:=hs;exact .inr ⟨g,cap,ds,e3,rfl,hp,hc,hx,hg,q1,hm,q3⟩
  |o hp=>
   cases hR with
   |oslice _ _ _ g cap e2 m hg hc hs hm hx=>
    obtain⟨_,ds,e3,q1,q2,q3⟩:=i.blk c g _ hg hC;simp only[World.shape?,q1,ZI,ZP]at hs;obtain⟨_,rfl⟩:=hs;exact .inr ⟨g,cap,ds,e3,rfl,hp,hc,hx,hg,q1,hm,q3⟩
  |s hx=>
   cases hR with
   |slice _ _ _ _ _ g hg hc=>
    obtain⟨_,ds,e3,q1,q2,q3⟩:=i.blk c g _ hg hC;rcases bj n with e0|hp
    ·subst e0;exact .inl ⟨zero rfl,_,rfl⟩
    exact .inr ⟨g,n,ds,e3,rfl,hp,hc,hx,hg,q1,by omega,q3⟩
 have own: ∀{rb vs e},nu b=some rb->w.heap[rb]? =some (.cells vs e (0,0))-> ∀q r,OwnAt (es.set j (.own k cs)) vs q r->OwnAt es vs q r\/(q=j/\nu c=some r):=by
  rintro rb vs e hb hh q r ⟨k',ds,n',cap,h1,h2,h3⟩;rw[List.getElem?_set]at h1;split at h1
  ·rename_i e1;subst e1;rcases cell hb hh _ h2 with⟨_,p,h4⟩|⟨g,cap',ds',e',h4,_,_,_,h5,_⟩
   ·simp only[Value.slice.injEq]at h4;omega
   simp only[Value.slice.injEq,ZI,Addr.mk.injEq]at h4;obtain⟨⟨rfl,_⟩,_⟩:=h4;exact .inr ⟨rfl,h5⟩
  exact .inl ⟨k',ds,n',cap,h1,h2,h3⟩
 have ft: ∀{rb r:Nat},nu b=some rb->Ft w rb (.bag (es.set j (.own k cs))) r->Ft w rb (.bag es) r\/nu c=some r:=by
  rintro rb r hb (h|⟨vs,e,q,h1,h2⟩)
  ·exact .inl (.inl h)
  rcases own hb h1 q r h2 with h3|h3
  ·exact .inl (.inr ⟨vs,e,q,h1,h3⟩)
  exact .inr h3.2
 refine Stp.still i (by simp) (λq rb x hq hx=>?_) (λq rb x r hq hx ho hf=>?_) (λq q' rb rb' x x' r hq hq' hx hx' ho ho' hr hr'=>?_)
 ·rcases at_ q x hx with⟨_,rfl⟩|⟨rfl,rfl⟩|⟨_,_,hx⟩
  ·trivial
  ·obtain⟨h0,vs,e,h1,h2,h3,h4,h5⟩:=i.blk _ rb _ hq hA
   have notRow: ∀r,nu c=some r-> ∀z,¬OwnAt es vs z r:=λr hr z hz=>hne (i.injF q c rb r _ _ r hq hr hA hC rfl rfl (.inr ⟨vs,e,z,h1,hz⟩) (.inl rfl))
   refine⟨h0,vs,e,h1,by simpa using h2,λz y v hy hv=>?_,λz r hz=>?_,λz z' r hz hz'=>?_⟩
   ·rw[List.getElem?_set]at hy;split at hy
    ·rename_i ez;subst ez;simp only[ZI]at hy;subst hy;rcases cell hq h1 v hv with h6|⟨g,cap,ds,e',h6,hp,h7,h8,h9,h10,h11,h12⟩
     ·exact .inl h6
     exact .inr ⟨g,n,cap,ds,e',h6,hp,hn,h7,h8,(i.ftF h9 hC rfl (.inl rfl)).1,h10,h11,h12⟩
    exact h3 z y v hy hv
   ·rcases own hq h1 z r hz with h6|⟨_,h6⟩
    ·exact h4 z r h6
    rintro rfl;exact hne (i.inj q c _ _ _ hq h6 hA hC rfl rfl)
   rcases own hq h1 z r hz with h6|⟨e6,h6⟩
   ·rcases own hq h1 z' r hz' with h7|⟨_,h7⟩
    ·exact h5 z z' r h6 h7
    exact absurd h6 (notRow r h7 z)
   rcases own hq h1 z' r hz' with h7|⟨e7,_⟩
   ·exact absurd h7 (notRow r h6 z')
   exact e6.trans e7.symm
  exact i.blk q rb x hq hx
 ·rcases at_ q x hx with⟨_,rfl⟩|⟨rfl,rfl⟩|⟨_,_,hx⟩
  ·cases ho
  ·rcases ft hq hf with h|h
   ·exact⟨_,_,rb,hq,hA,rfl,h⟩
   exact .of h hC rfl
  exact⟨q,x,rb,hq,hx,ho,hf⟩
 rcases at_ q x hx with⟨_,rfl⟩|⟨e1,rfl⟩|⟨g1,g2,kx⟩
 ·cases ho
 ·rcases at_ q' x' hx' with⟨_,rfl⟩|⟨e2,rfl⟩|⟨g1',g2',kx'⟩
  ·cases ho'
  ·exact e1.trans e2.symm
  subst e1;rcases ft hq hr with h|h
  ·exact i.injF q q' rb rb' _ x' r hq hq' hA kx' rfl ho' h hr'
  exact absurd (i.injF c q' r rb' _ x' r h hq' hC kx' rfl ho' (.inl rfl) hr').symm g1'
 rcases at_ q' x' hx' with⟨_,rfl⟩|⟨e2,rfl⟩|⟨g1',g2',kx'⟩
 ·cases ho'
 ·subst e2;rcases ft hq' hr' with h|h
  ·exact i.injF q q' rb rb' x _ r hq hq' kx hA ho rfl hr h
  exact absurd (i.injF q c rb r x _ r hq h kx hC ho rfl hr (.inl rfl)) g1
 exact i.injF q q' rb rb' x x' r hq hq' kx kx' ho ho' hr hr'
theorem Stp.take (i:Inv F nu A w) {b j n k:Nat} {es:List Ent} {cs:List AV} (hA:A[b]? =some (.bag es)) (hj:es[j]? =some (.own k cs)) (hn:n*k=cs.length) (hk:0<k):
 ∃nu',Stp F nu A w F nu' (A.set b (.bag (es.set j (.av (.gslice A.length n k))))++[.cells cs]) w:=by
 have hjl:j<es.length:=(Yb.1 hj).1;have hbl:b<A.length:=(Yb.1 hA).1
 have ownS: ∀{vs:Array Value} {a:AV} {q r:Nat},OwnAt (es.set j (.av a)) vs q r->q≠j/\OwnAt es vs q r:=by
  rintro vs a q r ⟨k',ds,n',cap,h1,h2,h3⟩;rw[List.getElem?_set]at h1;split at h1
  ·simp at h1
  rename_i e1;exact⟨λe=>e1 e.symm,k',ds,n',cap,h1,h2,h3⟩
 have ftS: ∀{a:AV} {rb r:Nat},Ft w rb (.bag (es.set j (.av a))) r->Ft w rb (.bag es) r:=by
  rintro a rb r (h|⟨vs,e,q,h1,h2⟩)
  ·exact .inl h
  exact .inr ⟨vs,e,q,h1,(ownS h2).2⟩
 have plain:(∀rb vs e,nu b=some rb->w.heap[rb]? =some (.cells vs e (0,0))-> ∀v,vs[j]? =some v->R F nu w (.gslice A.length n k) v)-> ∃nu',Stp F nu A w F nu' (A.set b (.bag (es.set j (.av (.gslice A.length n k))))++[.cells cs]) w:=by
  intro hv
  have s1:Stp F nu A w F nu (A.set b (.bag (es.set j (.av (.gslice A.length n k))))) w:=by
   refine Stp.still i (by simp) (λc rb x hc hx=>?_) (λc rb x r hc hx ho hf=>?_) (λc c' rb rb' x x' r hc hc' hx hx' ho ho' hr hr'=>?_)
   ·rcases getElem?_set' hx with⟨rfl,rfl⟩|⟨_,hx⟩
    ·obtain⟨h0,vs,e,h1,h2,h3,h4,h5⟩:=i.blk _ rb _ hc hA;refine⟨h0,vs,e,h1,by simpa using h2,λz y v hy hz=>?_,λz r hz=>h4 z r (ownS hz).2,λz z' r hz hz'=>h5 z z' r (ownS hz).2 (ownS hz').2⟩;rw[List.getElem?_set]at hy;split at hy
     ·rename_i ez;subst ez;simp only[ZI]at hy;subst hy;exact hv rb vs e hc h1 v hz
     exact h3 z y v hy hz
    exact i.blk c rb x hc hx
   ·rcases getElem?_set' hx with⟨rfl,rfl⟩|⟨_,hx⟩
    ·exact⟨_,_,rb,hc,hA,rfl,ftS hf⟩
    exact⟨c,x,rb,hc,hx,ho,hf⟩
   rcases getElem?_set' hx with⟨e1,e1'⟩|⟨_,hx⟩
   ·rcases getElem?_set' hx' with⟨e2,_⟩|⟨_,hx'⟩
    ·exact e1.symm.trans e2
    subst e1 e1';exact i.injF b c' rb rb' _ x' r hc hc' hA hx' rfl ho' (ftS hr) hr'
   rcases getElem?_set' hx' with⟨e2,e2'⟩|⟨_,hx'⟩
   ·subst e2 e2';exact i.injF c b rb rb' x _ r hc hc' hx hA ho rfl hr (ftS hr')
   exact i.injF c c' rb rb' x x' r hc hc' hx hx' ho ho' hr hr'
  exact⟨nu,s1.trans (Stp.more s1.inv _)⟩
 cases hnb:nu b with
 |none=>exact plain λrb vs e h=>by rw[hnb]at h;cases h
 |some rb=>
  obtain⟨h0,vs,e,h1,h2,h3,h4,h5⟩:=i.blk b rb _ hnb hA;have hjv:vs[j]? =some (vs[j]'(by omega)):=Yi (by omega);obtain⟨rfl,p,hv⟩|⟨g,n',cap,ds,e',hv,q0,q1,q2,q3,q4,q5,q6,q7⟩:=h3 j _ _ hj hjv
  ·refine plain λrb' vs' e' hb' hh v hv'=>?_
   rw[hnb]at hb';injection hb' with hb';subst hb';rw[h1]at hh;simp only[ZI,Obj.cells.injEq]at hh;obtain⟨rfl,rfl,_⟩:=hh;rw[hjv]at hv';injection hv' with hv'
   have e0:n=0:=by
    rcases bj n with h|h
    ·exact h
    have:=Nat.mul_pos h hk;simp at hn;omega
   rw[<-hv',hv,e0];exact .gslice0 _ _ _
  have e0:n'=n:=eY hk (q1.trans hn.symm);subst e0;have hown:OwnAt es vs j g:=⟨k,cs,n',cap,hj,by rw[hjv,hv],q0⟩;have hgb:g≠rb:=h4 j g hown;have hFt:Ft w rb (.bag es) g:= .inr ⟨vs,e,j,h1,hown⟩;have x:Ext F nu w F (upd nu A.length g) w:=⟨λ_ h=>h,qdv i _,λ_ _=>rfl,λ_ _ h=>h⟩;have hgl:g<w.heap.size:=(i.ftF hnb hA rfl hFt).2;have split: ∀c r y,upd nu A.length g c=some r->(A.set b (.bag (es.set j (.av (.gslice A.length n' k))))++[.cells cs])[c]? =some y->
   (c=A.length/\r=g/\y= .cells cs)\/(c=b/\r=rb/\y= .bag (es.set j (.av (.gslice A.length n' k))))\/(c≠A.length/\c≠b/\nu c=some r/\A[c]? =some y):=by
   intro c r y hc hy;by_cases ec:c=A.length
   ·subst ec;simp only[upd,aJ,ZI]at hc;rw[Yo (by simp)]at hy;simp at hy;exact .inl ⟨rfl,hc.symm,hy.symm⟩
   simp only[upd,aa ec]at hc;rcases ak c A.length with h|h
   ·rw[Yf (by simpa using h)]at hy;rcases getElem?_set' hy with⟨rfl,rfl⟩|⟨h6,h7⟩
    ·rw[hnb]at hc;injection hc with hc;exact .inr (.inl ⟨rfl,hc.symm,rfl⟩)
    exact .inr (.inr ⟨ec,λe=>h6 e.symm,hc,h7⟩)
   rw[i.fresh c h]at hc;cases hc
  have ftB: ∀{r:Nat},Ft w rb (.bag (es.set j (.av (.gslice A.length n' k)))) r->Ft w rb (.bag es) r/\r≠g:=by
   rintro r (h|⟨vs',e',q,h6,h7⟩)
   ·exact⟨.inl h,λe=>hgb (e.symm.trans h)⟩
   rw[h1]at h6;simp only[ZI,Obj.cells.injEq]at h6;obtain⟨rfl,rfl,_⟩:=h6;obtain⟨h8,h9⟩:=ownS h7;exact⟨.inr ⟨vs,e,q,h1,h9⟩,λe=>h8 (h5 q j g (e▸h9) hown)⟩
  refine⟨upd nu A.length g,x.f,x.n,x.shape,⟨λc r y hc hy=>?_,λc c' r r' y y' z hc hc' hy hy' ho ho' hz hz'=>?_,λc hc=>?_,i.ltF,λc r hc=>?_,Glob.ext i.glob x⟩,λ_ _ _=>rfl,?_,ag _,rfl,rfl,rfl,λc hc=>by simp only[upd];rw[aa (by omega)],by simp,λ_ h=> .inl h⟩
  ·rcases split c r y hc hy with⟨_,rfl,rfl⟩|⟨rfl,rfl,rfl⟩|⟨_,_,h6,h7⟩
   ·have:=aN k q2;exact⟨q4,ds,e',q5,by omega,λz a v ha hv=>(q7 z a v ha hv).mono x⟩
   ·refine⟨h0,vs,e,h1,by simpa using h2,λz y v hy hz=>?_,λz r hz=>h4 z r (ownS hz).2,λz z' r hz hz'=>h5 z z' r (ownS hz).2 (ownS hz').2⟩;rw[List.getElem?_set]at hy;split at hy
    ·rename_i ez;subst ez;simp only[ZI]at hy;subst hy;rw[hjv]at hz;injection hz with hz;rw[<-hz,hv];exact .gslice _ _ _ g cap e' ds.size q0 (upd_same _ _) q2 (by simp[World.shape?,q5]) q6 q3
    exact(h3 z y v hy hz).mono x λ_ _ _ _ _ _=>⟨rfl,id⟩
   exact i.keepB x h6 h7 λ_ _ _=>⟨rfl,id⟩
  ·rcases split c r y hc hy with⟨e1,e2,e3⟩|⟨e1,e2,e3⟩|⟨g1,g2,h6,h7⟩
   ·rcases split c' r' y' hc' hy' with⟨e1',_,_⟩|⟨_,e2',e3'⟩|⟨_,g2',h6',h7'⟩
    ·exact e1.trans e1'.symm
    ·subst e2 e3 e2' e3';exact absurd (Ft.one (by intro es e;cases e) hz) (ftB hz').2
    subst e2 e3;have ez:=Ft.one (by intro es e;cases e) hz;subst ez;exact absurd (i.injF b c' rb r' _ y' _ hnb h6' hA h7' rfl ho' hFt hz').symm g2'
   ·rcases split c' r' y' hc' hy' with⟨_,e2',e3'⟩|⟨e1',_,_⟩|⟨_,g2',h6',h7'⟩
    ·subst e2 e3 e2' e3';exact absurd (Ft.one (by intro es e;cases e) hz') (ftB hz).2
    ·exact e1.trans e1'.symm
    subst e2 e3;exact absurd (i.injF b c' _ r' _ y' z hnb h6' hA h7' rfl ho' (ftB hz).1 hz').symm g2'
   rcases split c' r' y' hc' hy' with⟨_,e2',e3'⟩|⟨_,e2',e3'⟩|⟨_,g2',h6',h7'⟩
   ·subst e2' e3';have ez:=Ft.one (by intro es e;cases e) hz';subst ez;exact absurd (i.injF b c rb r _ y _ hnb h6 hA h7 rfl ho hFt hz).symm g2
   ·subst e2' e3';exact absurd (i.injF b c _ r _ y z hnb h6 hA h7 rfl ho (ftB hz').1 hz).symm g2
   exact i.injF c c' r r' y y' z h6 h6' h7 h7' ho ho' hz hz'
  ·have h6:A.length+1<=c:=by simpa using hc
   simp only[upd];rw[aa (by omega)];exact i.fresh c (by omega)
  ·simp only[upd]at hc;split at hc
   ·injection hc with hc;omega
   exact i.ltN c r hc
  rintro z _ ⟨c,y,r,hc,hy,ho,hz⟩;rcases split c r y hc hy with⟨_,e2,e3⟩|⟨_,e2,e3⟩|⟨_,_,h6,h7⟩
  ·subst e2 e3;have ez:=Ft.one (by intro es e;cases e) hz;subst ez;exact⟨b,_,rb,hnb,hA,rfl,hFt⟩
  ·subst e2 e3;exact⟨b,_,_,hnb,hA,rfl,(ftB hz).1⟩
  exact⟨c,y,r,h6,h7,ho,hz⟩
theorem Stp.freezeBag (i:Inv F nu A w) {b:Nat} {es:List Ent} {fs:List AV} (hA:A[b]? =some (.bag es)) (hl:fs.length=es.length)
 (hfs: ∀(j:Nat) (y:Ent) (a:AV),es[j]? =some y->fs[j]? =some a-> ∃k n cs,y= .own k cs/\n*k=cs.length/\0<k/\a= .fslice n cs):
 ∃F',Stp F nu A w F' nu (A.set b (.frozen fs)) w:=by
 let F':Nat->Prop:=λr=>F r\/ ∃rb,nu b=some rb/\Ft w rb (.bag es) r
 have x:Ext F nu w F' nu w:=⟨λ_ h=> .inl h,λ_ _ h=>h,λ_ _=>rfl,λ_ _ h=>h⟩
 have hF': ∀{c rc:Nat} {y:Blk} {r:Nat},c≠b->nu c=some rc->A[c]? =some y->y.owned=true->Ft w rc y r->F' r->F r:=by
  rintro c rc y r hne hc hy ho hr (h|⟨rb,hb,hf⟩)
  ·exact h
  exact absurd (i.injF c b rc rb y _ r hc hb hy hA ho rfl hr hf) hne
 refine⟨F',x.f,x.n,x.shape,⟨λc rc y hc hy=>?_,λc c' rc rc' y y' r hc hc' hy hy' ho ho' hr hr'=>?_,λc hc=>i.fresh c (by simpa using hc),λr hr=>?_,i.ltN,Glob.ext i.glob x⟩,λ_ _ _=>rfl,?_,ag _,rfl,rfl,rfl,λ_ _=>rfl,by simp,λr hr=>?_⟩
 ·rcases getElem?_set' hy with⟨rfl,rfl⟩|⟨hne,hy⟩
  ·obtain⟨h0,vs,e,h1,h2,h3,h4,h5⟩:=i.blk _ rc _ hc hA;refine⟨.inr ⟨rc,hc,.inl rfl⟩,vs,e,_,h1,by omega,λj a v ha hv=>?_⟩
   have hjl:j<es.length:=by have:=(Yb.1 ha).1;omega
   have hy:es[j]? =some es[j]:=Ya hjl;obtain⟨k,n,cs,ey,hn,hk,rfl⟩:=hfs j _ a hy ha;rw[ey]at hy;obtain⟨rfl,p,rfl⟩|⟨g,n',cap,ds,e',rfl,q0,q1,q2,q3,q4,q5,q6,q7⟩:=h3 j _ _ hy hv
   ·have e0:n=0:=by
     rcases bj n with h|h
     ·exact h
     have:=Nat.mul_pos h hk;simp at hn;omega
    subst e0;exact .fslice0 _ _
   have e0:n'=n:=eY hk (q1.trans hn.symm);subst e0;have hle:=aN k q2;refine .fslice n' cs ⟨g,0,none⟩ cap (ds.toList.take cs.length) q2 (.inr ⟨rc,hc,.inr ⟨vs,e,j,h1,k,cs,n',cap,hy,hv,q0⟩⟩) (by simp;omega) (λz v hz=>?_) (λz a v ha hz=>?_)
   ·rw[Yt]at hz;split at hz
    ·refine cell_of_heap (off:=0) q5 ?_;rw[az];simpa using hz
    cases hz
   rw[Yt]at hz;split at hz
   ·exact(q7 z a v ha (by simpa using hz)).mono x
   cases hz
  exact i.keepB x hc hy λho r hr=>⟨rfl,hF' (λe=>hne e.symm) hc hy ho hr⟩
 ·rcases getElem?_set' hy with⟨_,rfl⟩|⟨_,hy⟩
  ·cases ho
  rcases getElem?_set' hy' with⟨_,rfl⟩|⟨_,hy'⟩
  ·cases ho'
  exact i.injF c c' rc rc' y y' r hc hc' hy hy' ho ho' hr hr'
 ·rcases hr with h|⟨rb,hb,hf⟩
  ·exact i.ltF r h
  exact(i.ftF hb hA rfl hf).2
 ·rintro r _ ⟨c,y,rc,hc,hy,ho,hf⟩;rcases getElem?_set' hy with⟨_,rfl⟩|⟨_,hy⟩
  ·cases ho
  exact⟨c,y,rc,hc,hy,ho,hf⟩
 rcases hr with h|⟨rb,hb,hf⟩
 ·exact .inl h
 exact .inr (.inr ⟨b,_,rb,hb,hA,rfl,hf⟩)
end
end
end Go.Av
end
