/-
  The law of plies.
-/
import Derived.Test.YtppehbboaidbgaaGreatDoorMqPb
noncomputable section
namespace Go.Av
set_option linter.unusedVariables false
set_option linter.unusedSimpArgs false
set_option maxRecDepth 100000
theorem qm2 {l:List ql} (hb:l.length*88<=140737488355328): ∀(K i:Nat),i<=l.length->l.length<K+i->yu l K (l.take i) (i:Int)=some l
 |0,i,h,hK=>by omega
 |K+1,i,h,hK=>by
  unfold yu;by_cases hi:i<l.length
  ·rw[if_pos (by omega),qw,Ya hi,ZB,qcA (by simp;omega) (by simp;omega),ZB,qZ (by omega),<-List.take_succ_eq_append_getElem hi];exact qm2 hb K (i+1) (by omega) (by omega)
  rw[if_neg (by omega),List.take_of_length_le (by omega)]
theorem qps {N:Nat} {l:List ql} (hN:l.length<N) (hb:l.length*88<=140737488355328):qbM N l=some l:=by
 unfold qbM;have:=qm2 hb N 0 (by omega) (by omega);rw[show((0:Nat):Int)=0 from rfl,List.take_zero]at this;rw[this,ZB]
structure ShY (y:ql):Prop where
 h1:y.Name.length<=60
 h2:y.Density.length<=60
 h3:y.Twist.length<=60
 h4:y.Dye.length<=60
 h6:y.Strength.length<=259
 hs:qgG y.Strength 0
theorem qkM {N:Nat} (hN:600000<N) {l:List ql} (hb:l.length<=140737488355328): ∀(K i:Nat),i<=l.length->l.length<K+i->(∀j,j<i-> ∀y,l[j]? =some y->ShY y)->(vw N l K (i:Int)=some (.inl ())/\ ∀y∈l,ShY y)\/vw N l K (i:Int)=some (.inr false)
 |0,i,h,hK,hy=>by omega
 |K+1,i,h,hK,hy=>by
  unfold vw;by_cases hi:i<l.length
  ·have hx:l[i]? =some l[i]:=Ya hi;obtain⟨b,hb2,fb⟩:=qnS hN l[i];rw[if_pos (by omega),qw,hx,ZB,hb2,ZB]
   cases b with
   |false=>exact .inr rfl
   |true=>
    obtain⟨h1,h2,h3,h4,h5,h6,hs⟩:=fb rfl;rw[if_neg (by decide),qZ (by omega)];refine qkM hN hb K (i+1) (by omega) (by omega) (fun j hj y hy2=>?_);by_cases c:j=i
    ·subst c;rw[hx]at hy2;obtain rfl:=Ye hy2;exact⟨h1,h2,h3,h4,h6,hs⟩
    exact hy j (by omega) y hy2
  rw[if_neg (by omega)];refine .inl ⟨rfl,fun y hm=>?_⟩;obtain⟨j,hj,rfl⟩:=List.getElem_of_mem hm;exact hy j (by omega) _ (Ya hj)
theorem qnA {N:Nat} (hN:600000<N) {l:List ql} (hb:l.length<=140737488355328) (hl:l.length<N): ∃b,qbT N l=some b/\(b=true->l.length<=14/\ ∀y∈l,ShY y):=by
 unfold qbT;rcases qkM hN hb N 0 (by omega) (by omega) (fun j hj=>by omega)with⟨h1,h2⟩|h1
 ·rw[show((0:Nat):Int)=0 from rfl]at h1;rw[h1];exact⟨decide ((l.length:Int)<=14),rfl,fun h=>⟨by have:=of_decide_eq_true h;omega,h2⟩⟩
 rw[show((0:Nat):Int)=0 from rfl]at h1;rw[h1];exact⟨false,rfl,fun h=>by cases h⟩
def qmK (N:Nat) (y:ql):Prop:=xh N y=some 0/\yA N y=some 0/\Nonempty (qlT y)
theorem qph {N:Nat} (hN:600000<N) {l:List ql} (hl:l.length<=1000) (hs: ∀y∈l,ShY y): ∀(K i:Nat),i<=l.length->l.length<K+i->(∀j,j<i-> ∀y,l[j]? =some y->qmK N y)->
 (kJ N l K (i:Int)=some (.inl ())/\ky N l K (i:Int)=some (.inl ())/\ ∀y∈l,qmK N y)\/ ∃e,e≠0/\kJ N l K (i:Int)=some (.inr e)/\ky N l K (i:Int)=some (.inr e)
 |0,i,h,hK,hy=>by omega
 |K+1,i,h,hK,hy=>by
  unfold kJ ky;by_cases hi:i<l.length
  ·have hx:l[i]? =some l[i]:=Ya hi;have S:=hs _ (List.getElem_mem hi);obtain⟨e,e1,e2,e3⟩:=qnr hN S.h1 S.h2 S.h3 S.h4 S.h6 S.hs;rw[if_pos (by omega),if_pos (by omega),qw,hx,ZB,ZB,yo (by omega),ZB,qcL,e1,ZB,ZB,e2,ZB];by_cases c:e=0
   ·rw[decide_eq_true c,if_neg (by decide),if_neg (by decide),qZ (by omega)];refine qph hN hl hs K (i+1) (by omega) (by omega) (fun j hj y hy2=>?_);by_cases d:j=i
    ·subst d;rw[hx]at hy2;obtain rfl:=Ye hy2;exact⟨by rw[e1,c],by rw[e2,c],e3 c⟩
    exact hy j (by omega) y hy2
   rw[decide_eq_false c,if_pos (by decide),if_pos (by decide)];exact .inr ⟨e,c,rfl,rfl⟩
  rw[if_neg (by omega),if_neg (by omega)];refine .inl ⟨rfl,rfl,fun y hm=>?_⟩;obtain⟨j,hj,rfl⟩:=List.getElem_of_mem hm;exact hy j (by omega) _ (Ya hj)
structure PlyC (N:Nat) (name:Str) (l:List ql) (u f:Rat):Prop where
 l0:0<l.length
 l12:l.length<=12
 su:Sml u 60
 sf:Sml f 60
 f0:0<f
 f1:f<=1
 good: ∀y∈l,qmK N y
 nm:xA N name=some 0
 ct:vO N (T u)=some 0
 pf:vV N (T f)=some 0
 val:qa6 N name l (T u) (T f)=some (plyV name l u f)
theorem PlyC.all {N:Nat} {name:Str} {l:List ql} {u f:Rat} (h:PlyC N name l u f):qna l:=fun y hy=>by
 obtain⟨Y⟩:=(h.good y hy).2.2;exact YC.of Y
theorem qqy {N:Nat} (hN:600000<N) {name tw fa:Str} {l:List ql} (hn:name.length<=60) (ht:tw.length<=60) (hf:fa.length<=60) (hl:l.length<=1000) (hs: ∀y∈l,ShY y):
 ∃r,qan N name l tw fa=some r/\((r≠0/\qa6 N name l tw fa=some (emY,r))\/(r=0/\ ∃u f,tw=T u/\fa=T f/\PlyC N name l u f)):=by
 have n1:=qgP (N:=N) (s:=name) (by omega);have n2:=qfB (N:=N) (s:=name) (by omega) (by omega);have c1:=qe8 hN (s:=tw) (by omega);have c2:=qe1 hN (s:=tw) (by omega);obtain⟨ef,p1,p2,p3⟩:=qkp hN (s:=fa) (by omega)
 have hnm:xA N name=some (if qfd name=true then 0 else 8):=by
  unfold xA zu;rw[n1,ZB];cases qfd name<;>rfl
 have E: ∃e,vH N l 12=some e/\((l.length:Int)>12->e=5)/\(¬(l.length:Int)>12->(e=0/\ky N l N 0=some (.inl ())/\ ∀y∈l,qmK N y)\/(e≠0/\ky N l N 0=some (.inr e))):=by
  unfold vH;by_cases h12:(l.length:Int)>12
  ·exact⟨5,by rw[if_pos h12],fun _=>rfl,fun c=>absurd h12 c⟩
  rcases qph hN hl hs N 0 (by omega) (by omega) (fun j hj=>by omega)with⟨h1,h2,h3⟩|⟨e,e0,h1,h2⟩
  ·rw[show((0:Nat):Int)=0 from rfl]at h1 h2;exact⟨0,by rw[if_neg h12,h1];rfl,fun c=>absurd c h12,fun _=> .inl ⟨rfl,h2,h3⟩⟩
  rw[show((0:Nat):Int)=0 from rfl]at h1 h2;exact⟨e,by rw[if_neg h12,h1];rfl,fun c=>absurd c h12,fun _=> .inr ⟨e0,h2⟩⟩
 obtain⟨ee,E1,E2,E3⟩:=E
 have bad: ∀r,qj5 [if qfd name=true then 0 else 8,if(l.length:Int)=0 then 12 else 0,ee,chk tw,ef]=r->r≠0->qa6 N name l tw fa=some (emY,r):=fun r hr h0=>by
  unfold qa6
  have hw:zu (decide ((l.length:Int)=0)) 12=some (if(l.length:Int)=0 then 12 else 0):=by
   unfold zu;by_cases c:(l.length:Int)=0
   ·rw[decide_eq_true c,if_pos rfl,if_pos c]
   rw[decide_eq_false c,if_neg (by decide),if_neg c]
  rw[hnm,ZB,hw,ZB,E1,ZB,c1,ZB,p1,ZB,qjj (by simp) (by simp;omega),ZB,hr,decide_eq_false h0,if_pos (by decide)];rfl
 unfold qan;rw[n2,ZB]
 cases hb:qfd name with
 |false=>
  rw[if_pos (by decide)];exact⟨8,rfl,.inl ⟨by decide,bad 8 (by rw[hb];rfl) (by decide)⟩⟩
 |true=>
 rw[if_neg (by decide)];by_cases hz:(l.length:Int)=0
 ·rw[if_pos hz];exact⟨12,rfl,.inl ⟨by decide,bad 12 (by rw[hb,if_pos hz];rfl) (by decide)⟩⟩
 rw[if_neg hz];by_cases h12:(l.length:Int)>12
 ·rw[if_pos h12];exact⟨5,rfl,.inl ⟨by decide,bad 5 (by rw[hb,if_neg hz,E2 h12];rfl) (by decide)⟩⟩
 rw[if_neg h12];rcases E3 h12 with⟨rfl,g1,g2⟩|⟨e0,g1⟩
 ·rw[g1,ZB];dsimp only;rw[c2,ZB];by_cases hc:chk tw=0
  ·rw[if_pos hc,p2,ZB,ZB];by_cases he:ef=0
   ·obtain⟨f,efa,_,f0⟩:=p3 he;obtain⟨u,etw,su,_⟩:=qhr (k:=60) (by omega) ht hc;have sf:=qp2 efa hf;have hcmp:=qgb hN (k:=100) (by omega) (by omega) (sf.mono (by omega)) ((qgy (n:=1) (k:=27) (by omega) (by omega) (by omega)).mono (show 27<=100 by omega));rw[show T ((1:Int):Rat)=[49]from T1n,show((1:Int):Rat)=(1:Rat)from rfl]at hcmp
    have all:qna l:=fun y hy=>by
     obtain⟨Y⟩:=(g2 y hy).2.2;exact YC.of Y
    have core:=qoU hN (name:=name) (l:=l) (u:=u) (f:=f) (by omega) (by omega) all (by rw[hnm,hb];rfl) E1 (by rw[<-etw,c1,hc]) (by rw[<-efa,p1,he]) (su.mono (by omega)) (sf.mono (by omega)) f0;rw[if_pos he,efa,hcmp,ZB,ZB];by_cases g:1<f
    ·rw[if_neg (show¬f<1 by grind),if_neg (show¬f=1 by grind),decide_eq_true (show(1:Int)>0 by decide),if_pos rfl,ZB];refine⟨3,rfl,.inl ⟨by decide,?_⟩⟩;rw[etw,core,if_pos g]
    have hd:decide ((if f<1 then(-1:Int)else if f=1 then 0 else 1)>0)=false:=by
     by_cases a:f<1
     ·rw[if_pos a];rfl
     rw[if_neg a,if_pos (show f=1 by grind)];rfl
    rw[hd,if_neg (by decide),ZB,he];refine⟨0,rfl,.inr ⟨rfl,u,f,etw,rfl,by omega,by omega,su,sf,f0,by grind,g2,by rw[hnm,hb];rfl,by rw[<-etw,c1,hc],by rw[<-efa,p1,he],?_⟩⟩;rw[core,if_neg g]
   rw[if_neg he,ZB,if_neg (by decide),ZB];exact⟨ef,rfl,.inl ⟨he,bad ef (by rw[hb,if_neg hz,hc];show(if ef=0 then 0 else ef)=ef;rw[if_neg he]) he⟩⟩
  rw[if_neg hc,ZB,if_neg hc,ZB,if_neg (by decide),ZB];refine⟨chk tw,rfl,.inl ⟨hc,bad _ (by rw[hb,if_neg hz];show(if chk tw=0 then _ else chk tw)=chk tw;rw[if_neg hc]) hc⟩⟩
 rw[g1,ZB];exact⟨ee,rfl,.inl ⟨e0,bad ee (by rw[hb,if_neg hz];show(if ee=0 then _ else ee)=ee;rw[if_neg e0]) e0⟩⟩
theorem qhc {N:Nat} (l:List ql) (p:qhU) (hN:600000+l.length<N) (hb:l.length*88<=140737488355328):qaO N l p=some true:=by
 have hN':600000<N:=by omega
 unfold qaO awk;rw[qps (by omega) hb,ZB];obtain⟨b,b1,b2⟩:=qnA hN' (l:=l) (by omega) (by omega);rw[b1,ZB]
 cases b with
 |false=>rfl
 |true=>
 obtain⟨l14,hs⟩:=b2 rfl;rw[if_neg (by decide)];by_cases a1:(p.Name.length:Int)>60
 ·rw[if_pos a1];rfl
 by_cases a2:(p.Twist.length:Int)>60
 ·rw[if_neg a1,if_pos a2];rfl
 by_cases a3:(p.Factor.length:Int)>60
 ·rw[if_neg a1,if_neg a2,decide_eq_true a3];rfl
 rw[if_neg a1,if_neg a2,decide_eq_false a3,ZB,if_neg (by decide)];obtain⟨r,r1,r2⟩:=qqy hN' (name:=p.Name) (tw:=p.Twist) (fa:=p.Factor) (l:=l) (by omega) (by omega) (by omega) (by omega) hs;have em:=qjt hN' (y:=emY) (by simp[emY]);rcases r2 with⟨r0,h1⟩|⟨rfl,u,f,e1,e2,C⟩
 ·rw[h1,ZB,r1,ZB,if_neg r0,ZB];dsimp only;rw[if_neg r0,ZB];dsimp only;rw[if_pos rfl,show(⟨[],[],[],[],[]⟩:ql)=emY from rfl,em];rfl
 have sq:Sml (qey l/f) 9000:=by
  obtain⟨_,_,_,d3⟩:=qjA hN' C.l12 C.all
  have f0':f≠0:=fun c=>by have:=C.f0;rw[c]at this;exact absurd this (by decide)
  exact(qmI (n:=157) (by omega) d3 (C.sf.mono (by omega)) f0').mono (by omega)
 have rp:=qnj hN' (name:=p.Name) C.l0 C.l12 C.all (C.su.mono (by omega)) (C.sf.mono (by omega)) C.f0;rw[e1,e2]at r1;rw[e1,e2,C.val,ZB,r1,ZB,if_pos rfl,rp,ZB,ZB];unfold plyV plyR;by_cases ha:qfw u l=true
 ·rw[if_pos ha,if_pos ha];dsimp only[emY];rw[if_neg (by decide),ZB];dsimp only;rw[if_pos rfl,show(⟨[],[],[],[],[]⟩:ql)=emY from rfl,em];rfl
 rw[if_neg ha,if_neg ha]
 have ha':qfw u l=false:=by simpa using ha
 have ss:Sml (qfb u l) 9000:=by
  obtain⟨fu,_,i9⟩:=qaC hN' (C.su.mono (show 60<=9000 by omega));obtain⟨_,_,_,s3⟩:=qmj hN' C.l12 C.all (C.su.mono (show 60<=100 by omega)) i9 ha';exact s3.mono (by omega)
 dsimp only;rw[if_pos rfl,qoT hN' sq (C.su.mono (by omega)) ss,ZB];by_cases g:qcE (qey l/f)=true\/qcE (qfb u l)=true
 ·rw[if_pos g,if_pos g,if_pos (by decide),ZB];dsimp only;rw[if_pos rfl,show(⟨[],[],[],[],[]⟩:ql)=emY from rfl,em];rfl
 rw[if_neg g,if_neg g,if_neg (by decide),ZB];dsimp only;rw[if_pos rfl,qjt hN' (by simp)];rfl
end Go.Av
