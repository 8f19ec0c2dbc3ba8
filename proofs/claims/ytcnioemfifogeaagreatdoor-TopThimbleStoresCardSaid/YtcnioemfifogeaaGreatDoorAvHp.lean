/-
  Functions that are told with the blocks that they are given: their contracts, and their calls from a heap of more blocks.
-/
import Derived.Test.YtcnioemfifogeaaGreatDoorAvTyp
noncomputable section
namespace Go.Av
set_option linter.unusedSectionVars false
variable [Glob]
open Go.RowKit
def qzy [Base] (v:AV) (A:Heap) (v':AV) (A':Heap):Prop:=Sub (ofG 1 [(0,v)],A) (ofG 1 [(0,v')],A')
theorem qzy.norm [Base] {A A':Heap} {v v':AV} (S:List Nat) (m:List (Option Nat)) (hkp:kept m Base.A.length=true) (hv:qkU A S m v' v) (hA:qs6 A S m m A'):qzy v A v' A':=
 Sub.norm S m hkp rfl (.keep hv .nil) hA
theorem qzy.refl [Base] (v:AV) (A:Heap):qzy v A v A:=Sub.refl _
theorem qzy.use [Base] {v v':AV} {A A':Heap} (h:qzy v A v' A') {F0:Nat->Prop} {w0:World} {F:Nat->Prop} {nu:Nat->Option Nat} {w:World} {x:Value} (st:Stp F0 Base.nu Base.A w0 F nu A w) (hR:R F nu w v x):
 ∃F' nu',Stp F0 Base.nu Base.A w0 F' nu' A' w/\R F' nu' w v' x:=by
 have hf:RF F nu w (ofG 1 [(0,v)]) #[x]:=by
  refine⟨rfl,fun t y hy=>?_,fun t ht=>?_⟩
  ·rcases t with _|t
   ·simp at hy
    subst hy
    simpa[ofG,Uj,qzY,qyR]using hR
   simp at hy
  simp only[ofG,Fr.n]at ht
  simp only[ofG,Uj,if_neg (show¬t<1 by omega)]
 obtain⟨F',nu',h1,h2,_⟩:=h F0 w0 F nu ⟨#[x],[]⟩ w st hf ⟨by simp,.nil⟩
 refine⟨F',nu',h1,?_⟩
 have:=h2.at_ 0 x rfl
 simpa[ofG,Uj,qzY,qyR]using this
def qAl [Base] (P:Program) (rs:List ResultVar) (v:AV) (A':Heap):XA->St->Prop
 | .exit _,_=>False
 |_,s=> ∃xs,qiG P s.1 s.2 rs=some xs/\qzy (qyE xs) s.2 v A'
theorem Goes.fnH {P:Program} {c:Code} {f:FuncId} {fn:Func} {args:List AV} {A A':Heap} {v:AV} {m:Nat} {l:List (Nat×AV)} {rs:List ResultVar} (hf:P.funcs[f]? =some fn) (hn:(fn.name== "runtime.NumGoroutine")=false) (hb:fn.body=some c) (hm:args.length+(fn.ntmps-args.length)=m) (hr:fn.results.toList=rs)
 (hl:frFn m args=ofG m l) (h: ∀[Base],Base.A=A->Goes P c (ofG m l,A) (qAl P rs v A')):zu P (.fn f) args A v A':=by
 intro F nu w vs i hargs
 subst hr
 letI B:Base:=⟨nu,A,i.fresh,none,none,trivial⟩
 have h:=h rfl
 rw[<-hl]at h
 refine .inl ⟨⟨fn,hf,hn,by rw[hb];rfl⟩,?_⟩
 refine(callsIn_wide (n:=0)).1 ?_
 refine callsIn_of_wp_marks hf hb trivial ?_
 refine h F w 0 F nu _ w (.refl i) (RF.frFn hm hargs) .nil _ (fun x s' F' nu' a' w' q st hfr hd=>?_)
 have post: ∀xs,qiG P s'.1 s'.2 fn.results.toList=some xs->qzy (qyE xs) s'.2 v A'->
  LeavesInM (fz none) 0 P fn a'.tmps (fun e w'=> ∃x F' nu',e= .returned x/\Stp F nu A w F' nu' A' w'/\R F' nu' w' v x) a'.defers .returning w':=by
  intro xs hrs hv
  refine qxD hrs a'.defers st hfr hd (fun F2 nu2 w2 y st2 hR=>?_)
  obtain⟨F3,nu3,h1,h2⟩:=hv.use st2 hR
  exact⟨y,F3,nu3,rfl,h1,h2⟩
 cases x with
 |normal=>obtain⟨xs,h1,h2⟩:=q;exact post xs h1 h2
 |ret=>obtain⟨xs,h1,h2⟩:=q;exact post xs h1 h2
 |exit k=>exact q.elim
theorem Goes.retH [Base] {P:Program} {s:St} {rs:List ResultVar} {xs:List AV} {v:AV} {A':Heap} (hx:qiG P s.1 s.2 rs=some xs) (hs:qzy (qyE xs) s.2 v A'):qAl P rs v A' .ret s:=⟨xs,hx,hs⟩
theorem qkU.heap {A M:Heap} {m:List (Option Nat)} {a' a:AV} (h:qkU A [] m a' a):qkU M [] m a' a:=by
 induction h with
 |same h=>exact .same h
 |undef=>exact .undef
 |ptr h=>exact .ptr h
 |slice h=>exact .slice h
 |oslice h=>exact .oslice h
 |gslice h=>exact .gslice h
 |gsliceE h e=>exact .gsliceE h e
 |osliceE h e=>exact .osliceE h e
 |sliceE h e=>exact .sliceE h e
 |wslice h=>exact .wslice h
 |map h=>exact .map h
 |yld h=>exact .yld h
 |grow h hp=>exact .grow h hp
 |own _ _ _ _ _ hs=>cases hs
 |ownL _ _ _ _ _ hs=>cases hs
 |nil=>exact .nil
 |nilv=>exact .nilv
 |frz h hr=>exact .frz ((qAI (fun b hb=>by cases hb) 12 _).symm.trans h) hr
 |agg hl _ ih=>exact .agg hl ih
 |tuple hl _ ih=>exact .tuple hl ih
 |func hf hl _ ih=>exact .func hf hl ih
theorem qso.heap {A M:Heap} {m:List (Option Nat)} {l l':List (Nat×AV)} (h:qso A [] m l l'):qso M [] m l l':=by
 induction h with
 |nil=>exact .nil
 |keep h _ ih=>exact .keep h.heap ih
 |drop _ ih=>exact .drop ih
theorem qEo.heap {A M:Heap} {m:List (Option Nat)} {x y:Ent} (h:qEo A [] m x y):qEo M [] m x y:=by
 cases h with
 |av h=>exact .av h.heap
 |own h=>exact .own h
theorem qqM.heap {A M:Heap} {m:List (Option Nat)} {x y:Blk} (h:qqM A [] m x y):qqM M [] m x y:=by
 cases h with
 |cells h=>exact .cells ⟨h.1,fun j c' c h1 h2=>(h.2 j c' c h1 h2).heap⟩
 |bag hl h=>exact .bag hl fun j x' x h1 h2=>(h j x' x h1 h2).heap
 |same h=>exact .same h
 |pre h hl he=>exact .pre h hl he
 |map h1 h2=>exact .map h1 h2
 |iter=>exact .iter
 |bld h=>exact .bld ⟨h.1,fun j c' c h1 h2=>(h.2 j c' c h1 h2).heap⟩
 |loop hs h=>exact .loop hs h.heap
theorem qqM.RB {A:Heap} {m:List (Option Nat)} {F:Nat->Prop} {nu:Nat->Option Nat} {w:World} (i:Inv F nu A w) {x y:Blk} (h:qqM A [] m x y) {rb:Nat} (h0:RB F nu w rb y):RB F (nuM m nu) w rb x:=by
 have hF: ∀rb,FS F nu A [] rb->F rb:=by
  rintro rb (h|⟨b,x,hb,_⟩)
  ·exact h
  cases hb
 cases h with
 |cells hL=>
  obtain⟨hn,vs,e,h1,h2,h3⟩:=h0
  refine⟨hn,vs,e,h1,by rw[hL.1];exact h2,fun q c' v hc' hv=>?_⟩
  have hlt:=(Yb.1 hc').1
  rw[hL.1]at hlt
  exact((hL.2 q c' _ hc' (Ya hlt)).R i (h3 q _ v (Ya hlt) hv)).growF hF
 |bag hl he=>
  obtain⟨hn,vs,e,h1,h2,h3,h4,h5⟩:=h0
  refine⟨hn,vs,e,h1,by rw[hl];exact h2,fun q c' v hc' hv=>?_,fun q r o=>h4 q r (qrn hl he o),fun q q' r o o'=>h5 q q' r (qrn hl he o) (qrn hl he o')⟩
  have hlt:=(Yb.1 hc').1
  rw[hl]at hlt
  obtain⟨c,hc⟩:=(⟨_,Ya hlt⟩: ∃c,_=some c)
  have hE:=he q c' c hc' hc
  have hR:=h3 q c v hc hv
  cases hE with
  |av hV=>exact(hV.R i hR).growF hF
  |@own k cs hN=>exact qCo.re (x:= .own k cs) hN (nuM m nu) hR
 |same hN=>
  obtain⟨hn,vs,e,h1,h2,h3⟩:=h0
  exact⟨hn,vs,e,h1,h2,fun q c v hc hv=>hN c (Yn hc) F nu (nuM m nu) w v (h3 q c v hc hv)⟩
 |pre hN hl he=>
  obtain⟨hn,vs,e,h1,h2,h3⟩:=h0
  exact⟨hn,vs,e,h1,Nat.le_trans hl h2,fun q c v hc hv=>hN c (Yn hc) F nu (nuM m nu) w v (h3 q c v (qGG he hc) hv)⟩
 |map hk hv2=>
  obtain⟨hn,es,ck,h1,h2,h3,h4,h5,h6⟩:=h0
  exact⟨hn,es,ck,h1,h2,h3,fun q c e hc he=>hk c (Yn hc) F nu (nuM m nu) w _ (h4 q c e hc he),fun q c e hc he=>hv2 c (Yn hc) F nu (nuM m nu) w _ (h5 q c e hc he),h6⟩
 |iter=>exact h0
 |bld hL=>
  obtain⟨hn,vs,h1,h2,h3,h4⟩:=h0
  refine⟨hn,vs,h1,by rw[hL.1];exact h2,fun q c' v hc' hv=>?_,h4⟩
  have hlt:=(Yb.1 hc').1
  rw[hL.1]at hlt
  exact((hL.2 q c' _ hc' (Ya hlt)).R i (h3 q _ v (Ya hlt) hv)).growF hF
 |loop hs hfl=>
  obtain⟨hn,fn,tmps,dd,h1,h2⟩:=h0
  refine⟨hn,fn,tmps,dd,h1,?_⟩
  have h3:=hfl.RF i hs h2
  exact⟨h3.size,fun t v hv=>(h3.at_ t v hv).growF hF,h3.out⟩
structure Fits (A0 A A1 A':Heap) (m m':List (Option Nat)) (S:List Nat):Prop where
 ren:qs6 A [] m m A0
 inS: ∀(i b:Nat),m[i]? =some (some b)->b∈S
 len:A.length<=A'.length
 old: ∀(j i:Nat),m'[j]? =some (some i)->j<A.length->m[i]? =some (some j)
 blk: ∀(j i:Nat) (x:Blk),m'[j]? =some (some i)->A'[j]? =some x-> ∃y,A1[i]? =some y/\qqM A1 [] m' x y
 non: ∀(j:Nat) (x:Blk),(∀i,m'[j]? ≠some (some i))->A'[j]? =some x->j∈S\/A.length<=j->x= .dead
 inj: ∀(j j' i:Nat),m'[j]? =some (some i)->m'[j']? =some (some i)->j=j'
 top: ∀(j i:Nat),m'[j]? =some (some i)->j<A'.length
theorem Fits.go {args0 args:List AV} {A0 A A1 A':Heap} {m m':List (Option Nat)} {S:List Nat} {v0 v:AV} (T:Fits A0 A A1 A' m m' S) (ha:qxR A [] m args0 args) (hv:qkU A1 [] m' v v0)
 {M:Heap} (hM:M.length=A.length) (hMA: ∀b,b∈S->M[b]? =A[b]?) {F:Nat->Prop} {nu:Nat->Option Nat} {w:World} {vs:Array Value} (i:Inv F nu M w) (hargs:RL F nu w args vs):
 Inv F (nuM m nu) A0 w/\RL F (nuM m nu) w args0 vs/\ ∀x F1 nu1 w',Stp F (nuM m nu) A0 w F1 nu1 A1 w'->R F1 nu1 w' v0 x-> ∃F' nu',Stp F nu M w F' nu' (merge S M A') w'/\R F' nu' w' v x:=by
 have hlt0: ∀{a c:Nat} {y:Blk},m[a]? =some (some c)->A0[a]? =some y->y≠ .dead-> ∃x,M[c]? =some x/\qqM A [] m y x:=by
  intro a c y h1 h2 h3
  obtain⟨_,x,hx,hB⟩:=(T.ren.at_ h1 h2).resolve_left h3
  exact⟨x,by rw[hMA c (T.inS a c h1)];exact hx,hB⟩
 have hown0: ∀r,qo1 (nuM m nu) A0 w r-> ∃(a c:Nat) (x:Blk) (rb:Nat),m[a]? =some (some c)/\nu c=some rb/\M[c]? =some x/\x.owned=true/\Ft w rb x r:=by
  rintro r ⟨a,y,rb,ha,hy,ho,hf⟩
  obtain⟨c,hc,hn⟩:=qp9 ha
  obtain⟨x,hx,hB⟩:=hlt0 hc hy (fun e=>by subst e;cases ho)
  exact⟨a,c,x,rb,hc,hn,hx,hB.owned,hB.ft hf⟩
 have i0:Inv F (nuM m nu) A0 w:=by
  refine⟨fun a rb y ha hy=>?_,fun a a' rb rb' y y' r h1 h2 hy hy' ho ho' hr hr'=>?_,fun a hl=>?_,i.ltF,fun a rb ha=>?_,i.glob⟩
  ·obtain⟨c,hc,hn⟩:=qp9 ha
   by_cases hd:y= .dead
   ·subst hd;trivial
   obtain⟨x,hx,hB⟩:=hlt0 hc hy hd
   exact(hB.heap (M:=M)).RB i (i.blk c rb x hn hx)
  ·obtain⟨c,hc,hn⟩:=qp9 h1
   obtain⟨c',hc',hn'⟩:=qp9 h2
   obtain⟨x,hx,hB⟩:=hlt0 hc hy (fun e=>by subst e;cases ho)
   obtain⟨x',hx',hB'⟩:=hlt0 hc' hy' (fun e=>by subst e;cases ho')
   have:=i.injF c c' rb rb' x x' r hn hn' hx hx' hB.owned hB'.owned (hB.ft hr) (hB'.ft hr')
   subst this
   exact T.ren.inj hc hc' hy hy' (fun e=>by subst e;cases ho) (fun e=>by subst e;cases ho')
  ·have:=T.ren.len
   have e:m[a]? =none:=Yg (by omega)
   simp[nuM,e]
  obtain⟨c,_,hn⟩:=qp9 ha
  exact i.ltN c rb hn
 have hF0: ∀{F:Nat->Prop} {nu:Nat->Option Nat} {A:Heap} rb,FS F nu A [] rb->F rb:=by
  rintro F nu A rb (h|⟨b,x,hb,_⟩)
  ·exact h
  cases hb
 have hargs0:RL F (nuM m nu) w args0 vs:=by
  refine⟨by rw[hargs.1,ha.1],fun j a y h1 h2=>?_⟩
  have hlt:=(Yb.1 h1).1
  rw[ha.1]at hlt
  exact(((ha.2 j a _ h1 (Ya hlt)).heap (M:=M)).R i (hargs.2 j _ y (Ya hlt) h2)).growF (hF0)
 have core: ∀x F1 nu1 w',Stp F (nuM m nu) A0 w F1 nu1 A1 w'->R F1 nu1 w' v0 x-> ∃F' nu',Stp F nu M w F' nu' (merge S M A') w'/\R F' nu' w' v x:=by
  intro x F1 nu1 w' st hR
  have hlenM:M.length<=A'.length:=by rw[hM];exact T.len
  let nu':Nat->Option Nat:=fun j=>if j<M.length then nu j else nuM m' nu1 j
  have hback: ∀{j i rb:Nat},m'[j]? =some (some i)->j<M.length->nu1 i=nu j:=by
   intro j a _ hj hlt
   have h1:=T.old j a hj (by rw[<-hM];exact hlt)
   have h2:a<A0.length:=by rw[<-T.ren.len];exact(Yb.1 h1).1
   rw[st.old a h2,qkT h1]
  have hnu': ∀{j i:Nat},m'[j]? =some (some i)->nu' j=nu1 i:=by
   intro j a hj
   simp only[nu']
   split
   ·rename_i hlt;exact(hback (rb:=0) hj hlt).symm
   exact qkT hj
  have hext: ∀b r,nuM m' nu1 b=some r->nu' b=some r:=by
   intro b r hb
   obtain⟨a,ha,hn⟩:=qp9 hb
   rw[hnu' ha];exact hn
  have xM:Ext F nu w F1 nu' w':=⟨st.f,fun b r hb=>by
   have:b<M.length:=by
    rcases Nat.lt_or_ge b M.length with h|h
    ·exact h
    rw[i.fresh b h]at hb;cases hb
   simp only[nu',if_pos this];exact hb,fun rb hb=>st.keep rb (i.ltF rb hb) (i0.notOwns hb),st.shape⟩
  have x1:Ext F1 (nuM m' nu1) w' F1 nu' w':=⟨fun _ h=>h,hext,fun _ _=>rfl,fun _ _ h=>h⟩
  have hget: ∀(j:Nat) (x:Blk),(merge S M A')[j]? =some x->(∃a,m'[j]? =some (some a)/\A'[j]? =some x)\/x= .dead\/(j<M.length/\j∉S/\M[j]? =some x):=by
   intro j x hx
   rw[qrU]at hx
   obtain⟨y,hy,hx⟩:=Yd.1 hx
   by_cases hc:(decide (j<M.length)&&!S.contains j)=true
   ·rw[if_pos hc]at hx
    simp only[Bool.and_eq_true,decide_eq_true_eq,Bool.not_eq_true',List.contains_eq_mem,decide_eq_false_iff_not]at hc
    refine .inr (.inr ⟨hc.1,hc.2,?_⟩)
    rw[Yy,Ya hc.1]at hx
    rw[Ya hc.1]
    simpa using hx
   rw[if_neg hc]at hx
   subst hx
   by_cases hm: ∃a,m'[j]? =some (some a)
   ·obtain⟨a,ha⟩:=hm
    exact .inl ⟨a,ha,hy⟩
   refine .inr (.inl (T.non j y (fun a ha=>hm ⟨a,ha⟩) hy ?_))
   by_cases hj:j∈S
   ·exact .inl hj
   refine .inr ?_
   rcases Nat.lt_or_ge j A.length with h|h
   ·exact absurd (by simp[hM,h,hj]) hc
   exact h
  have hS': ∀{j a:Nat},m'[j]? =some (some a)->j<M.length->j∈S:=fun h1 h2=>T.inS _ _ (T.old _ _ h1 (by rw[<-hM];exact h2))
  have notOwn: ∀{j rb r:Nat} {y:Blk},j∉S->nu j=some rb->M[j]? =some y->y.owned=true->Ft w rb y r-> ¬qo1 (nuM m nu) A0 w r:=by
   intro j rb r y hj hn hy ho hf hO
   obtain⟨a,c,x,rc,hc,hn2,hx,ho2,hf2⟩:=hown0 r hO
   have:=i.injF j c rb rc y x r hn hn2 hy hx ho ho2 hf hf2
   subst this
   exact hj (T.inS a _ hc)
  have ftM: ∀{j rb r:Nat} {y:Blk},j∉S->nu j=some rb->M[j]? =some y->y.owned=true->Ft w' rb y r->Ft w rb y r:=fun hj hn hy ho hf=>
   hf.same (st.keep _ (i.ltN _ _ hn) (notOwn hj hn hy ho (.inl rfl)))
  have hnuM: ∀{j:Nat},j<M.length->nu' j=nu j:=fun h=>by simp only[nu',if_pos h]
  have iM:Inv F1 nu' (merge S M A') w':=by
   refine⟨fun j rb x hj hx=>?_,fun j j' rb rb' x x' r hj hj' hx hx' ho ho' hr hr'=>?_,fun j hl=>?_,st.inv.ltF,fun j rb hj=>?_,st.inv.glob⟩
   ·rcases hget j x hx with⟨a,ha,hA⟩|rfl|⟨hlt,hnS,hMj⟩
    ·obtain⟨y,hy,hB⟩:=T.blk j a x ha hA
     rw[hnu' ha]at hj
     exact(hB.RB st.inv (st.inv.blk a rb y hj hy)).monoF x1 (fun _ _=>rfl) (fun _ _=>id)
    ·trivial
    rw[hnuM hlt]at hj
    refine i.keepB xM hj hMj fun hxo r hr=>?_
    have hno:=notOwn hnS hj hMj hxo hr
    have hlr:=(i.ftF hj hMj hxo hr).2
    refine⟨st.keep r hlr hno,fun hf=>?_⟩
    rcases st.newF r hf with h|h|h
    ·exact h
    ·omega
    exact absurd h hno
   ·rcases hget j x hx with⟨a,ha,hA⟩|rfl|⟨hlt,hnS,hMj⟩
    ·obtain⟨y,hy,hB⟩:=T.blk j a x ha hA
     rw[hnu' ha]at hj
     rcases hget j' x' hx' with⟨a',ha',hA'⟩|rfl|⟨hlt',hnS',hMj'⟩
     ·obtain⟨y',hy',hB'⟩:=T.blk j' a' x' ha' hA'
      rw[hnu' ha']at hj'
      have:=st.inv.injF a a' rb rb' y y' r hj hj' hy hy' hB.owned hB'.owned (hB.ft hr) (hB'.ft hr')
      subst this
      exact T.inj j j' a ha ha'
     ·cases ho'
     rw[hnuM hlt']at hj'
     have hf':=ftM hnS' hj' hMj' ho' hr'
     exact absurd (st.own r (i.ftF hj' hMj' ho' hf').2 ⟨a,y,rb,hj,hy,hB.owned,hB.ft hr⟩) (notOwn hnS' hj' hMj' ho' hf')
    ·cases ho
    rw[hnuM hlt]at hj
    rcases hget j' x' hx' with⟨a',ha',hA'⟩|rfl|⟨hlt',hnS',hMj'⟩
    ·obtain⟨y',hy',hB'⟩:=T.blk j' a' x' ha' hA'
     rw[hnu' ha']at hj'
     have hf':=ftM hnS hj hMj ho hr
     exact absurd (st.own r (i.ftF hj hMj ho hf').2 ⟨a',y',rb',hj',hy',hB'.owned,hB'.ft hr'⟩) (notOwn hnS hj hMj ho hf')
    ·cases ho'
    rw[hnuM hlt']at hj'
    exact i.injF j j' rb rb' x x' r hj hj' hMj hMj' ho ho' (ftM hnS hj hMj ho hr) (ftM hnS' hj' hMj' ho' hr')
   ·rw[qot]at hl
    simp only[nu',if_neg (show¬j<M.length by omega)]
    cases hq:m'[j]? with
    |none=>simp[nuM,hq]
    |some q=>
     cases q with
     |none=>simp[nuM,hq]
     |some a=>have:=T.top j a hq;omega
   by_cases hlt:j<M.length
   ·rw[hnuM hlt]at hj
    have:=i.ltN j rb hj
    have:=st.size
    omega
   simp only[nu',if_neg hlt]at hj
   obtain⟨a,_,hn⟩:=qp9 hj
   exact st.inv.ltN a rb hn
  have hownM: ∀r,r<w.heap.size->qo1 (nuM m nu) A0 w r->qo1 nu M w r:=by
   intro r _ hO
   obtain⟨a,c,x,rb,hc,hn2,hx,ho2,hf2⟩:=hown0 r hO
   exact⟨c,x,rb,hn2,hx,ho2,hf2⟩
  refine⟨F1,nu',⟨st.f,xM.n,st.shape,iM,fun rb hlt hO=>st.keep rb hlt (fun h=>hO (hownM rb hlt h)),?_,st.size,st.os,st.tape,st.output,fun b hb=>hnuM hb,by rw[qot];exact hlenM,fun rb hf=>?_⟩,((hv.R st.inv hR).growF (hF0)).mono x1⟩
  ·rintro r hlt ⟨j,x,rb,hj,hx,ho,hf⟩
   rcases hget j x hx with⟨a,ha,hA⟩|rfl|⟨hltj,hnS,hMj⟩
   ·obtain⟨y,hy,hB⟩:=T.blk j a x ha hA
    rw[hnu' ha]at hj
    exact hownM r hlt (st.own r hlt ⟨a,y,rb,hj,hy,hB.owned,hB.ft hf⟩)
   ·cases ho
   rw[hnuM hltj]at hj
   exact⟨j,x,rb,hj,hMj,ho,ftM hnS hj hMj ho hf⟩
  rcases st.newF rb hf with h|h|h
  ·exact .inl h
  ·exact .inr (.inl h)
  rcases Nat.lt_or_ge rb w.heap.size with hlt|hge
  ·exact .inr (.inr (hownM rb hlt h))
  exact .inr (.inl hge)
 exact⟨i0,hargs0,core⟩
theorem zu.frame {P:Program} {f:FuncId} {args0 args:List AV} {A0 A A1 A':Heap} {m m':List (Option Nat)} {S:List Nat} {v0 v:AV} (h:zu P (.fn f) args0 A0 v0 A1) (T:Fits A0 A A1 A' m m' S) (ha:qxR A [] m args0 args) (hv:qkU A1 [] m' v v0)
 {M:Heap} (hM:M.length=A.length) (hMA: ∀b,b∈S->M[b]? =A[b]?):zu P (.fn f) args M v (merge S M A'):=by
 intro F nu w vs i hargs
 obtain⟨i0,hargs0,core⟩:=T.go ha hv hM hMA i hargs
 rcases h _ _ w vs i0 hargs0 with⟨hent,hcalls⟩|⟨x,w',F2,nu2,hrun,st,hRv⟩
 ·refine .inl ⟨hent,hcalls.mono ?_⟩
  rintro e w' ⟨x,F2,nu2,rfl,st,hRv⟩
  obtain⟨F',nu',h1,h2⟩:=core x F2 nu2 w' st hRv
  exact⟨x,F',nu',rfl,h1,h2⟩
 obtain⟨F',nu',h1,h2⟩:=core x F2 nu2 w' st hRv
 exact .inr ⟨x,w',F',nu',hrun,h1,h2⟩
theorem jq (j q:Nat):j+1+q=j+(q+1):=by omega
inductive qvw (n:Nat) (A1:Heap) (m m':List (Option Nat)) (S:List Nat):Nat->List (Option Nat)->Heap->Prop
 |nil {j:Nat}:qvw n A1 m m' S j [] []
 |old {j:Nat} {x:Blk} {l:List (Option Nat)} {H:Heap} (hj:Nat.blt j n=true) (hS:S.contains j=false) (h:qvw n A1 m m' S (j+1) l H):qvw n A1 m m' S j (none::l) (x::H)
 |dead {j:Nat} {l:List (Option Nat)} {H:Heap} (h:qvw n A1 m m' S (j+1) l H):qvw n A1 m m' S j (none::l) (.dead::H)
 |back {j i:Nat} {x y:Blk} {l:List (Option Nat)} {H:Heap} (hm:m[i]? =some (some j)) (hy:A1[i]? =some y) (hb:qqM A1 [] m' x y) (hl:l.contains (some i)=false) (h:qvw n A1 m m' S (j+1) l H):qvw n A1 m m' S j (some i::l) (x::H)
 |new {j i:Nat} {x y:Blk} {l:List (Option Nat)} {H:Heap} (hj:Nat.ble n j=true) (hy:A1[i]? =some y) (hb:qqM A1 [] m' x y) (hl:l.contains (some i)=false) (h:qvw n A1 m m' S (j+1) l H):qvw n A1 m m' S j (some i::l) (x::H)
section
variable {n:Nat} {A1:Heap} {m m':List (Option Nat)} {S:List Nat}
theorem qvw.len {j:Nat} {l:List (Option Nat)} {H:Heap} (h:qvw n A1 m m' S j l H):l.length=H.length:=by
 induction h with
 |nil=>rfl
 |old _ _ _ ih=>simp[ih]
 |dead _ ih=>simp[ih]
 |back _ _ _ _ _ ih=>simp[ih]
 |new _ _ _ _ _ ih=>simp[ih]
theorem qvw.some_ {j:Nat} {l:List (Option Nat)} {H:Heap} (h:qvw n A1 m m' S j l H): ∀{q i:Nat},l[q]? =some (some i)->(j+q<n->m[i]? =some (some (j+q)))/\ ∀x,H[q]? =some x-> ∃y,A1[i]? =some y/\qqM A1 [] m' x y:=by
 induction h with
 |nil=>intro q i h;simp at h
 |old _ _ _ ih=>
  intro q i h
  cases q with
  |zero=>simp at h
  |succ q=>have:=ih (q:=q) (by simpa using h);rw[jq]at this;simpa using this
 |dead _ ih=>
  intro q i h
  cases q with
  |zero=>simp at h
  |succ q=>have:=ih (q:=q) (by simpa using h);rw[jq]at this;simpa using this
 |back hm hy hb _ _ ih=>
  intro q i h
  cases q with
  |zero=>simp at h;subst h;exact⟨fun _=>hm,fun x hx=>by simp at hx;subst hx;exact⟨_,hy,hb⟩⟩
  |succ q=>have:=ih (q:=q) (by simpa using h);rw[jq]at this;simpa using this
 |new hj hy hb _ _ ih=>
  intro q i h
  cases q with
  |zero=>
   simp at h;subst h
   have:=Ys hj
   exact⟨fun hlt=>by omega,fun x hx=>by simp at hx;subst hx;exact⟨_,hy,hb⟩⟩
  |succ q=>have:=ih (q:=q) (by simpa using h);rw[jq]at this;simpa using this
theorem qvw.none_ {j:Nat} {l:List (Option Nat)} {H:Heap} (h:qvw n A1 m m' S j l H): ∀{q:Nat} {x:Blk},(∀i,l[q]? ≠some (some i))->H[q]? =some x->(j+q∈S\/n<=j+q)->x= .dead:=by
 induction h with
 |nil=>intro q x _ h;simp at h
 |old hj hS _ ih=>
  intro q x h hx hq
  cases q with
  |zero=>
   have:=Ys hj
   rcases hq with hq|hq
   ·simp only[Nat.add_zero]at hq;simp[hq]at hS
   omega
  |succ q=>exact ih (fun i=>by simpa using h i) (by simpa using hx) (by rw[jq];exact hq)
 |dead _ ih=>
  intro q x h hx hq
  cases q with
  |zero=>simp at hx;exact hx.symm
  |succ q=>exact ih (fun i=>by simpa using h i) (by simpa using hx) (by rw[jq];exact hq)
 |back _ _ _ _ _ ih=>
  intro q x h hx hq
  cases q with
  |zero=>exact absurd rfl (h _)
  |succ q=>exact ih (fun i=>by simpa using h i) (by simpa using hx) (by rw[jq];exact hq)
 |new _ _ _ _ _ ih=>
  intro q x h hx hq
  cases q with
  |zero=>exact absurd rfl (h _)
  |succ q=>exact ih (fun i=>by simpa using h i) (by simpa using hx) (by rw[jq];exact hq)
theorem qvw.inj {j:Nat} {l:List (Option Nat)} {H:Heap} (h:qvw n A1 m m' S j l H): ∀{q q' i:Nat},l[q]? =some (some i)->l[q']? =some (some i)->q=q':=by
 have cons: ∀{o:Option Nat} {l:List (Option Nat)},(∀i,o=some i->l.contains (some i)=false)->(∀{q q' i:Nat},l[q]? =some (some i)->l[q']? =some (some i)->q=q')-> ∀{q q' i:Nat},(o::l)[q]? =some (some i)->(o::l)[q']? =some (some i)->q=q':=by
  intro o l ho ih q q' i h1 h2
  cases q with
  |zero=>
   cases q' with
   |zero=>rfl
   |succ q'=>
    simp at h1 h2
    have:=ho i h1
    have:=Yn h2
    simp_all
  |succ q=>
   cases q' with
   |zero=>
    simp at h1 h2
    have:=ho i h2
    have:=Yn h1
    simp_all
   |succ q'=>exact congrArg (· +1) (ih (by simpa using h1) (by simpa using h2))
 induction h with
 |nil=>intro q q' i h;simp at h
 |old _ _ _ ih=>exact cons (by intro i h;cases h) ih
 |dead _ ih=>exact cons (by intro i h;cases h) ih
 |back _ _ _ hl _ ih=>exact cons (by intro i h;injection h with h;subst h;exact hl) ih
 |new _ _ _ hl _ ih=>exact cons (by intro i h;injection h with h;subst h;exact hl) ih
end
def allIn (S:List Nat):List (Option Nat)->Bool
 |[]=>true
 |some b::l=>S.contains b&&allIn S l
 |none::l=>allIn S l
theorem qF4 {S:List Nat}: ∀{l:List (Option Nat)},allIn S l=true-> ∀{i b:Nat},l[i]? =some (some b)->b∈S:=by
 intro l
 induction l with
 |nil=>intro _ i b h;simp at h
 |cons o l ih=>
  intro ha i b h
  cases o with
  |none=>
   cases i with
   |zero=>simp at h
   |succ i=>exact ih ha (by simpa using h)
  |some c=>
   simp only[allIn,Bool.and_eq_true]at ha
   cases i with
   |zero=>simp at h;subst h;simpa using ha.1
   |succ i=>exact ih ha.2 (by simpa using h)
theorem Fits.of {A0 A A1 A':Heap} {m m':List (Option Nat)} {S:List Nat} (hm:qs6 A [] m m A0) (hin:allIn S m=true) (hlen:Nat.ble A.length A'.length=true) (hk:qvw A.length A1 m m' S 0 m' A'):Fits A0 A A1 A' m m' S where
 ren:=hm
 inS _ _ h:=qF4 hin h
 len:=Ys hlen
 old j i h hlt:=by have:=(hk.some_ h).1 (by rw[Nat.zero_add];exact hlt);rwa [Nat.zero_add]at this
 blk j i x h hx:=(hk.some_ h).2 x hx
 non j x h hx hj:=hk.none_ h hx (by rw[Nat.zero_add];exact hj)
 inj _ _ _ h h':=hk.inj h h'
 top j i h:=by rw[<-hk.len];exact(Yb.1 h).1
theorem qwd {P:Program} {g:FuncId} {args0 args:List AV} {A0 A A1 A':Heap} (m m':List (Option Nat)) {S:List Nat} {v0 v:AV} (hc:zu P (.fn g) args0 A0 v0 A1) (hm:qs6 A [] m m A0) (hin:allIn S m=true) (hlen:Nat.ble A.length A'.length=true)
 (hk:qvw A.length A1 m m' S 0 m' A') (ha:qxR A [] m args0 args) (hv:qkU A1 [] m' v v0) (hg:merge S A A'=A'):(Obl.callH (.fn g) args A S v A').Holds P:=
 ⟨Ys hlen,hg,fun _ hM hMA=>hc.frame (.of hm hin hlen hk) ha hv hM hMA⟩
end Go.Av
