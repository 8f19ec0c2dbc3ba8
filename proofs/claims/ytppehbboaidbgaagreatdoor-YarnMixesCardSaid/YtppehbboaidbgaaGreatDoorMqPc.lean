/-
  The law of plies.
-/
import Derived.Test.YtppehbboaidbgaaGreatDoorMqPb
noncomputable section
set_option linter.unusedVariables false
set_option linter.unusedSimpArgs false
set_option maxRecDepth 100000
section
namespace Go.Av
theorem qmV {l:List qh} (hb:l.length*88<=140737488355328): ∀(K i:Nat),i<=l.length->l.length<K+i->yu l K (l.take i) (i:Int)=some l
 |0,i,h,hK=>by omega
 |K+1,i,h,hK=>by
  unfold yu;by_cases hi:i<l.length
  ·rw[if_pos (by omega),qw,Ya hi,ZB,qcf (by simp;omega) (by simp;omega),ZB,qQ (by omega),<-List.take_succ_eq_append_getElem hi];exact qmV hb K (i+1) (by omega) (by omega)
  rw[if_neg (by omega),List.take_of_length_le (by omega)]
theorem qpf {N:Nat} {l:List qh} (hN:l.length<N) (hb:l.length*88<=140737488355328):qcc N l=some l:=by
 unfold qcc;have:=qmV hb N 0 (by omega) (by omega);rw[show((0:Nat):Int)=0 from rfl,List.take_zero]at this;rw[this,ZB]
structure ShY (y:qh):Prop where
 h1:y.Name.length<=60
 h2:y.Density.length<=60
 h3:y.Twist.length<=60
 h4:y.Dye.length<=60
 h6:y.Strength.length<=259
 hs:qgN y.Strength 0
theorem qkD {N:Nat} (hN:600000<N) {l:List qh} (hb:l.length<=140737488355328): ∀(K i:Nat),i<=l.length->l.length<K+i->(∀j,j<i-> ∀y,l[j]? =some y->ShY y)->(vH N l K (i:Int)=some (.inl ())/\ ∀y∈l,ShY y)\/vH N l K (i:Int)=some (.inr false)
 |0,i,h,hK,hy=>by omega
 |K+1,i,h,hK,hy=>by
  unfold vH;by_cases hi:i<l.length
  ·have hx:l[i]? =some l[i]:=Ya hi;obtain⟨b,hb2,fb⟩:=qpC hN l[i];rw[if_pos (by omega),qw,hx,ZB,hb2,ZB]
   cases b with
   |false=>exact .inr rfl
   |true=>
    obtain⟨h1,h2,h3,h4,h5,h6,hs⟩:=fb rfl;rw[if_neg (by decide),qQ (by omega)];refine qkD hN hb K (i+1) (by omega) (by omega) (fun j hj y hy2=>?_);by_cases c:j=i
    ·subst c;rw[hx]at hy2;obtain rfl:=Ye hy2;exact⟨h1,h2,h3,h4,h6,hs⟩
    exact hy j (by omega) y hy2
  rw[if_neg (by omega)];refine .inl ⟨rfl,fun y hm=>?_⟩;obtain⟨j,hj,rfl⟩:=List.getElem_of_mem hm;exact hy j (by omega) _ (Ya hj)
theorem qnY {N:Nat} (hN:600000<N) {l:List qh} (hb:l.length<=140737488355328) (hl:l.length<N): ∃b,qb6 N l=some b/\(b=true->l.length<=14/\ ∀y∈l,ShY y):=by
 unfold qb6;rcases qkD hN hb N 0 (by omega) (by omega) (fun j hj=>by omega)with⟨h1,h2⟩|h1
 ·rw[show((0:Nat):Int)=0 from rfl]at h1;rw[h1];exact⟨decide ((l.length:Int)<=14),rfl,fun h=>⟨by have:=of_decide_eq_true h;omega,h2⟩⟩
 rw[show((0:Nat):Int)=0 from rfl]at h1;rw[h1];exact⟨false,rfl,fun h=>by cases h⟩
def qgB (N:Nat) (y:qh):Prop:=zl N y=some 0/\yH N y=some 0/\Nonempty (qlI y)
theorem qoH {N:Nat} (hN:600000<N) {l:List qh} (hl:l.length<=1000) (hs: ∀y∈l,ShY y): ∀(K i:Nat),i<=l.length->l.length<K+i->(∀j,j<i-> ∀y,l[j]? =some y->qgB N y)->
 (qR N l K (i:Int)=some (.inl ())/\kL N l K (i:Int)=some (.inl ())/\ ∀y∈l,qgB N y)\/ ∃e,e≠0/\qR N l K (i:Int)=some (.inr e)/\kL N l K (i:Int)=some (.inr e)
 |0,i,h,hK,hy=>by omega
 |K+1,i,h,hK,hy=>by
  unfold qR kL;by_cases hi:i<l.length
  ·have hx:l[i]? =some l[i]:=Ya hi;have S:=hs _ (List.getElem_mem hi);obtain⟨e,e1,e2,e3⟩:=qnX hN S.h1 S.h2 S.h3 S.h4 S.h6 S.hs;rw[if_pos (by omega),if_pos (by omega),qw,hx,ZB,ZB,vY (by omega),ZB,qce,e1,ZB,ZB,e2,ZB];by_cases c:e=0
   ·rw[decide_eq_true c,if_neg (by decide),if_neg (by decide),qQ (by omega)];refine qoH hN hl hs K (i+1) (by omega) (by omega) (fun j hj y hy2=>?_);by_cases d:j=i
    ·subst d;rw[hx]at hy2;obtain rfl:=Ye hy2;exact⟨by rw[e1,c],by rw[e2,c],e3 c⟩
    exact hy j (by omega) y hy2
   rw[decide_eq_false c,if_pos (by decide),if_pos (by decide)];exact .inr ⟨e,c,rfl,rfl⟩
  rw[if_neg (by omega),if_neg (by omega)];refine .inl ⟨rfl,rfl,fun y hm=>?_⟩;obtain⟨j,hj,rfl⟩:=List.getElem_of_mem hm;exact hy j (by omega) _ (Ya hj)
structure PlyC (N:Nat) (name:Str) (l:List qh) (u f:Rat):Prop where
 l0:0<l.length
 l12:l.length<=12
 su:Sml u 60
 sf:Sml f 60
 f0:0<f
 f1:f<=1
 good: ∀y∈l,qgB N y
 nm:xe N name=some 0
 ct:zP N (T u)=some 0
 pf:ja N (T f)=some 0
 val:qat N name l (T u) (T f)=some (plyV name l u f)
theorem qq3 {N:Nat} (hN:600000<N) {name tw fa:Str} {l:List qh} (hn:name.length<=60) (ht:tw.length<=60) (hf:fa.length<=60) (hl:l.length<=1000) (hs: ∀y∈l,ShY y):
 ∃r,qav N name l tw fa=some r/\((r≠0/\qat N name l tw fa=some (emY,r))\/(r=0/\ ∃u f,tw=T u/\fa=T f/\PlyC N name l u f)):=by
 have n1:=qgH (N:=N) (s:=name) (by omega);have n2:=qfK (N:=N) (s:=name) (by omega) (by omega);have c1:=qbN hN (s:=tw) (by omega);have c2:=qbV hN (s:=tw) (by omega);obtain⟨ef,p1,p2,p3⟩:=qlt hN (s:=fa) (by omega)
 have hnm:xe N name=some (if qfz name=true then 0 else 8):=by
  unfold xe ky;rw[n1,ZB];cases qfz name<;>rfl
 have E: ∃e,zX N l 12=some e/\((l.length:Int)>12->e=5)/\(¬(l.length:Int)>12->(e=0/\kL N l N 0=some (.inl ())/\ ∀y∈l,qgB N y)\/(e≠0/\kL N l N 0=some (.inr e))):=by
  unfold zX;by_cases h12:(l.length:Int)>12
  ·exact⟨5,by rw[if_pos h12],fun _=>rfl,fun c=>absurd h12 c⟩
  rcases qoH hN hl hs N 0 (by omega) (by omega) (fun j hj=>by omega)with⟨h1,h2,h3⟩|⟨e,e0,h1,h2⟩
  ·rw[show((0:Nat):Int)=0 from rfl]at h1 h2;exact⟨0,by rw[if_neg h12,h1];rfl,fun c=>absurd c h12,fun _=> .inl ⟨rfl,h2,h3⟩⟩
  rw[show((0:Nat):Int)=0 from rfl]at h1 h2;exact⟨e,by rw[if_neg h12,h1];rfl,fun c=>absurd c h12,fun _=> .inr ⟨e0,h2⟩⟩
 obtain⟨ee,E1,E2,E3⟩:=E
 have bad: ∀r,qj0 [if qfz name=true then 0 else 8,if(l.length:Int)=0 then 12 else 0,ee,chk tw,ef]=r->r≠0->qat N name l tw fa=some (emY,r):=fun r hr h0=>by
  unfold qat
  have hw:ky (decide ((l.length:Int)=0)) 12=some (if(l.length:Int)=0 then 12 else 0):=by
   unfold ky;by_cases c:(l.length:Int)=0
   ·rw[decide_eq_true c,if_pos rfl,if_pos c]
   rw[decide_eq_false c,if_neg (by decide),if_neg c]
  rw[hnm,ZB,hw,ZB,E1,ZB,c1,ZB,p1,ZB,qjr (by simp) (by simp;omega),ZB,hr,decide_eq_false h0,if_pos (by decide)];rfl
 unfold qav;rw[n2,ZB]
 cases hb:qfz name with
 |false=>
  rw[if_pos (by decide)];exact⟨8,rfl,.inl ⟨by decide,bad 8 (by rw[hb];rfl) (by decide)⟩⟩
 |true=>
 rw[if_neg (by decide)];by_cases hz:(l.length:Int)=0
 ·rw[if_pos hz];exact⟨12,rfl,.inl ⟨by decide,bad 12 (by rw[hb,if_pos hz];rfl) (by decide)⟩⟩
 rw[if_neg hz];by_cases h12:(l.length:Int)>12
 ·rw[if_pos h12];exact⟨5,rfl,.inl ⟨by decide,bad 5 (by rw[hb,if_neg hz,E2 h12];rfl) (by decide)⟩⟩
 rw[if_neg h12];rcases E3 h12 with⟨rfl,g1,g2⟩|⟨e0,g1⟩
 ·rw[g1,ZB];dsimp only;rw[c2,ZB];by_cases hc:chk tw=0
  ·rw[if_pos hc,p2,ZB,ZB];by_cases he:ef=0
   ·obtain⟨f,efa,_,f0⟩:=p3 he;obtain⟨u,etw,su,_⟩:=qhz (k:=60) (by omega) ht hc;have sf:=qqV efa hf;have hcmp:=qfe hN (k:=100) (by omega) (by omega) (sf.mono (by omega)) ((qgO (n:=1) (k:=27) (by omega) (by omega) (by omega)).mono (show 27<=100 by omega));rw[show T ((1:Int):Rat)=[49]from T1n,show((1:Int):Rat)=(1:Rat)from rfl]at hcmp
    have all:qnn l:=fun y hy=>by
     obtain⟨Y⟩:=(g2 y hy).2.2;exact YC.of Y
    have core:=qhX hN (name:=name) (l:=l) (u:=u) (f:=f) (by omega) (by omega) all (by rw[hnm,hb];rfl) E1 (by rw[<-etw,c1,hc]) (by rw[<-efa,p1,he]) (su.mono (by omega)) (sf.mono (by omega)) f0;rw[if_pos he,efa,hcmp,ZB,ZB];by_cases g:1<f
    ·rw[if_neg (show¬f<1 by grind),if_neg (show¬f=1 by grind),decide_eq_true (show(1:Int)>0 by decide),if_pos rfl,ZB];refine⟨3,rfl,.inl ⟨by decide,?_⟩⟩;rw[etw,core,if_pos g]
    have hd:decide ((if f<1 then(-1:Int)else if f=1 then 0 else 1)>0)=false:=by
     by_cases a:f<1
     ·rw[if_pos a];rfl
     rw[if_neg a,if_pos (show f=1 by grind)];rfl
    rw[hd,if_neg (by decide),ZB,he];refine⟨0,rfl,.inr ⟨rfl,u,f,etw,rfl,by omega,by omega,su,sf,f0,by grind,g2,by rw[hnm,hb];rfl,by rw[<-etw,c1,hc],by rw[<-efa,p1,he],?_⟩⟩;rw[core,if_neg g]
   rw[if_neg he,ZB,if_neg (by decide),ZB];exact⟨ef,rfl,.inl ⟨he,bad ef (by rw[hb,if_neg hz,hc];show(if ef=0 then 0 else ef)=ef;rw[if_neg he]) he⟩⟩
  rw[if_neg hc,ZB,if_neg hc,ZB,if_neg (by decide),ZB];refine⟨chk tw,rfl,.inl ⟨hc,bad _ (by rw[hb,if_neg hz];show(if chk tw=0 then _ else chk tw)=chk tw;rw[if_neg hc]) hc⟩⟩
 rw[g1,ZB];exact⟨ee,rfl,.inl ⟨e0,bad ee (by rw[hb,if_neg hz];show(if ee=0 then _ else ee)=ee;rw[if_neg e0]) e0⟩⟩
end Go.Av
end
section
namespace Go.Av
theorem qmZ {N:Nat} (hN:600000<N) {l:List qh} (hl:l.length<=12) (hg: ∀y∈l,qgB N y):zX N l 12=some 0:=by
 have go: ∀(K i:Nat),i<=l.length->l.length<K+i->qR N l K (i:Int)=some (.inl ()):=by
  intro K
  induction K with
  |zero=>intro i h hK;omega
  |succ K ih=>
   intro i h hK;unfold qR;by_cases hi:i<l.length
   ·rw[if_pos (by omega),qw,Ya hi,ZB,vY (by omega),ZB,qce,(hg _ (List.getElem_mem hi)).1,ZB,ZB,if_neg (by decide),qQ (by omega)];exact ih (i+1) (by omega) (by omega)
   rw[if_neg (by omega)]
 unfold zX;have:=go N 0 (by omega) (by omega);rw[show((0:Nat):Int)=0 from rfl]at this;rw[if_neg (by omega),this];rfl
theorem qld {N:Nat} {l:List qh} (hg: ∀y∈l,qgB N y):qnn l:=fun y hy=>by
 obtain⟨Y⟩:=(hg y hy).2.2;exact YC.of Y
theorem qoZ (a b:List qh):vw (a++b)=vw a+vw b:=by
 induction a with
 |nil=>rw[List.nil_append,vw,Rat.zero_add]
 |cons y a ih=>rw[List.cons_append,vw,vw,ih,Rat.add_assoc]
theorem qoV (u:Rat) (a b:List qh):qaj u (a++b)=qaj u a+qaj u b:=by
 induction a with
 |nil=>rw[List.nil_append,qaj,Rat.zero_add]
 |cons y a ih=>rw[List.cons_append,qaj,qaj,ih,Rat.add_assoc]
theorem qpM (l:List qh):vw l.reverse=vw l:=by
 induction l with
 |nil=>rfl
 |cons y l ih=>
  rw[List.reverse_cons,qoZ,ih,vw,vw,vw,Rat.add_zero,Rat.add_comm]
theorem qp1 (u:Rat) (l:List qh):qaj u l.reverse=qaj u l:=by
 induction l with
 |nil=>rfl
 |cons y l ih=>
  rw[List.reverse_cons,qoV,ih,qaj,qaj,qaj,Rat.add_zero,Rat.add_comm]
theorem qor (u:Rat) (l:List qh):qdC u l.reverse=qdC u l:=List.any_reverse
theorem qmC (d0:Str): ∀l:List qh,dyL d0 l []=[]
 |[]=>rfl
 |y::l=>by
  rw[dyL];split<;>exact qmC d0 l
theorem qja (d0:Str): ∀l:List qh,((∀y∈l,y.Dye=d0)->dyL d0 l d0=d0)/\(¬(∀y∈l,y.Dye=d0)->dyL d0 l d0=[])
 |[]=>⟨fun _=>rfl,fun h=>absurd (fun y hy=>by cases hy) h⟩
 |y::l=>by
  obtain⟨h1,h2⟩:=qja d0 l;rw[dyL];by_cases c:y.Dye=d0
  ·rw[if_pos c];refine⟨fun h=>h1 fun z hz=>h z (List.mem_cons_of_mem _ hz),fun h=>h2 fun g=>h fun z hz=>?_⟩;rcases List.mem_cons.1 hz with rfl|hz
   ·exact c
   exact g z hz
  rw[if_neg c,qmC];exact⟨fun h=>absurd (h y (List.mem_cons_self ..)) c,fun _=>rfl⟩
def dyH (l:List qh):Str:=(l.head?.map (·.Dye)).get!
theorem qkb {l:List qh} (h:0<l.length): ∃y∈l,dyH l=y.Dye:=by
 cases l with
 |nil=>simp at h
 |cons y l=>exact⟨y,List.mem_cons_self ..,rfl⟩
theorem qpP {l m:List qh} (hl:0<l.length) (h: ∀y,y∈l↔y∈m):dyL (dyH l) l (dyH l)=dyL (dyH m) m (dyH m):=by
 have hm:0<m.length:=by
  cases m with
  |nil=>
   obtain⟨y,hy,_⟩:=qkb hl;have:=(h y).1 hy;cases this
  |cons z m=>simp
 obtain⟨a,ha,ea⟩:=qkb hl;obtain⟨b,hb,eb⟩:=qkb hm;by_cases c: ∀y∈l,y.Dye=dyH l
 ·have e:dyH m=dyH l:=by rw[eb];exact c b ((h b).2 hb)
  rw[(qja _ l).1 c,e,(qja _ m).1 fun y hy=>c y ((h y).2 hy)]
 have d: ¬ ∀y∈m,y.Dye=dyH m:=fun g=>c fun y hy=>by
  rw[g y ((h y).1 hy),ea,g a ((h a).1 ha)]
 rw[(qja _ l).2 c,(qja _ m).2 d]
theorem qpl (name:Str) (l:List qh) (u f:Rat):plyV name l u f=if qdC u l=true then(emY,7)else if qdv (vw l/f)=true\/qdv (qaj u l)=true then(emY,4)else(⟨name,T (vw l/f),T u,[⟨[48],T (qaj u l)⟩],dyL (dyH l) l (dyH l)⟩,0):=rfl
theorem sml_1:Sml (1:Rat) 1:=qd6 (by omega) (by rw[T1n];simp)
theorem div_1 (q:Rat):q/1=q:=by
 have:=Rat.div_mul_cancel (a:=q) (show(1:Rat)≠0 by decide)
 rwa [Rat.mul_one]at this
theorem qrR {d f:Rat} (d0:0<d) (f0:0<f) (f1:f<=1):d<=d/f/\(d/f=d↔f=1):=by
 have hne:f≠0:=fun c=>by rw[c]at f0;exact absurd f0 (by decide)
 have e:d/f*f=d:=Rat.div_mul_cancel hne;constructor
 ·refine Rat.not_lt.1 fun h=>?_
  have h1:d/f*f<d*f:=Rat.mul_lt_mul_of_pos_right h f0;have h2:d*f<=d*1:=Rat.mul_le_mul_of_nonneg_left f1 (Rat.le_of_lt d0);rw[e]at h1;rw[Rat.mul_one]at h2;exact absurd (Rat.not_le.2 h1) (fun c=>c h2)
 constructor
 ·intro h;rw[h]at e
  have hd:d≠0:=fun c=>by rw[c]at d0;exact absurd d0 (by decide)
  have:d*f=d*1:=by rw[e,Rat.mul_one]
  have h3:d⁻¹*(d*f)=d⁻¹*(d*1):=by rw[this]
  rwa [<-Rat.mul_assoc,<-Rat.mul_assoc,Rat.inv_mul_cancel _ hd,Rat.one_mul,Rat.one_mul]at h3
 intro h;rw[h]at e⊢
 rwa [Rat.mul_one]at e
structure qnC (k:Nat) (y:qh):Prop where
 d: ∃q:Rat,y.Density=T q/\Sml q k
 t: ∃q:Rat,y.Twist=T q/\Sml q k
 p: ∀p∈y.Strength,(∃q:Rat,p.X=T q/\Sml q k)/\ ∃q:Rat,p.Y=T q/\Sml q k
theorem qk7 {k:Nat} (hk:k<=9): ∀{l:List qh},(∀y∈l,qnC k y)->Sml (vw l) (9*(1+2*l.length))
 |[],h=>qmk (by omega)
 |y::l,h=>by
  obtain⟨q,e,s⟩:=(h y (List.mem_cons_self ..)).d;rw[vw,e,qdc,Yr];exact(qb3 (a:=1) (b:=1+2*l.length) (by omega) (by omega) (s.mono (by omega)) (qk7 hk fun z hz=>h z (List.mem_cons_of_mem _ hz))).mono (by omega)
theorem qmP {a:Rat}: ∀{l:List qL} {o:Option Rat} {b:Rat},stq a l o=some b->o=some b\/ ∃p∈l,b=ql5 p.Y
 |[],o,b,h=> .inl h
 |p::l,o,b,h=>by
  rw[stq]at h;split at h
  ·exact .inl h
  rcases qmP h with h|⟨q,hq,e⟩
  ·exact .inr ⟨p,List.mem_cons_self ..,(Ye h).symm⟩
  exact .inr ⟨q,List.mem_cons_of_mem _ hq,e⟩
theorem qmF {k:Nat} {u:Rat} {y:qh} (h:qnC k y) {b:Rat} (hb:stY u y=some b):Sml b k:=by
 rcases qmP hb with h0|⟨p,hp,e⟩
 ·cases h0
 obtain⟨q,eq,sq⟩:=(h.p p hp).2;rw[e,eq,qdc];exact sq
theorem qlh {k:Nat} (hk:k<=9) (u:Rat): ∀{l:List qh},(∀y∈l,qnC k y)->Sml (qaj u l) (9*(1+2*l.length))
 |[],h=>qmk (by omega)
 |y::l,h=>by
  have hs:Sml ((stY u y).getD 0) 9:=by
   cases c:stY u y with
   |none=>exact qmk (by omega)
   |some b=>exact(qmF (h y (List.mem_cons_self ..)) c).mono hk
  rw[qaj,Yr];exact(qb3 (a:=1) (b:=1+2*l.length) (by omega) (by omega) hs (qlh hk u fun z hz=>h z (List.mem_cons_of_mem _ hz))).mono (by omega)
theorem qkX: ∀{l:List qh},qnn l->0<l.length->0<vw l
 |[],h,hl=>by simp at hl
 |y::l,h,hl=>by
  obtain⟨Y⟩:=h y (List.mem_cons_self ..);have d0:=Y.d0;rw[vw,Y.ed,qdc]
  cases l with
  |nil=>rw[vw,Rat.add_zero];exact d0
  |cons z m=>
   have:=qkX (l:=z::m) (fun x hx=>h x (List.mem_cons_of_mem _ hx)) (by simp);grind
theorem qnH {N:Nat} (hN:600000<N) {y:qh} (h:zl N y=some 0) {v:Rat} (sv:Sml v 600):zl N ⟨y.Name,y.Density,T v,y.Strength,y.Dye⟩=some 0:=by
 have c1:=qbN hN (s:=T v) (by have:=qfy sv;omega);rw[qhY sv]at c1;unfold zl at h⊢;dsimp only at h⊢
 cases e1:xe N y.Name with
 |none=>rw[e1]at h;cases h
 |some r1=>
 rw[e1,ZB]at h
 cases e2:ja N y.Density with
 |none=>rw[e2]at h;cases h
 |some r2=>
 rw[e2,ZB]at h
 cases e3:zP N y.Twist with
 |none=>rw[e3]at h;cases h
 |some r3=>
 rw[e3,ZB]at h
 cases e4:ky (decide ((y.Strength.length:Int)=0)) 12 with
 |none=>rw[e4]at h;cases h
 |some r4=>
 rw[e4,ZB]at h
 cases e5:jY N y.Strength 256 with
 |none=>rw[e5]at h;cases h
 |some r5=>
 rw[e5,ZB]at h
 cases e6:qaa N y.Dye with
 |none=>rw[e6]at h;cases h
 |some r6=>
 rw[e6,ZB,qf1 (by omega),ZB]at h;have h:=Ye h;rw[ZB,ZB,c1,ZB,ZB,ZB,ZB,qf1 (by omega),ZB];congr 1;by_cases a1:r1=0
 ·by_cases a2:r2=0
  ·by_cases a3:r3=0
   ·rw[if_pos a1,if_pos a2,if_pos rfl];rw[if_pos a1,if_pos a2,if_pos a3]at h;exact h
   rw[if_pos a1,if_pos a2,if_neg a3]at h;exact absurd h a3
  rw[if_pos a1,if_neg a2]at h;exact absurd h a2
 rw[if_neg a1]at h;exact absurd h a1
theorem qmo {N:Nat} (hN:600000<N) {y:qh} (G:qgB N y) {u:Rat} (su:Sml u 60) (cu:zP N (T u)=some 0) {t:Rat} (et:y.Twist=T t) (st:Sml t 60):
 qbu N y (T u)=some (⟨y.Name,y.Density,T (t+u),y.Strength,y.Dye⟩,0):=by
 obtain⟨Y⟩:=G.2.2;obtain⟨f,e1,i1⟩:=xQ hN (st.mono (show 60<=9000 by omega));obtain⟨g,e2,i2⟩:=xQ hN (su.mono (show 60<=9000 by omega));obtain⟨r,e3,i3⟩:=qf2 hN i1 i2 (n:=200) (by omega) (zR (st.mono (show 60<=108 by omega)) (by omega) (by omega)) (zR (su.mono (show 60<=108 by omega)) (by omega) (by omega));have s3:Sml (t+u) 600:=qnW st su;unfold qbu;rw[G.1,ZB,cu,ZB,qhJ (by omega),ZB,if_pos rfl,if_neg (by decide),et,e1,ZB,e2,ZB,e3,ZB,qd4 hN i3 (zR (s3.mono (show 600<=603 by omega)) (by omega) (by omega)),ZB,qkM s3,if_neg (show¬(!decide ((T (t+u),(0:Int)).2=0))=true by simp),qnV Y.ne (by have:=Y.few;omega)];rfl
theorem qlj {N:Nat} (hN:600000<N) {y:qh} (h:zl N y=some 0) (ok:qi3 y.Strength) (hl:y.Strength.length<=256) {v:Rat} (ev:y.Twist=T v) (sv:Sml v 540):
 qaY N y=some (stR (stA y v))/\ ∀b,stA y v=some b->Sml b 100/\0<=b:=by
 obtain⟨f,e1,i1⟩:=xQ hN (sv.mono (show 540<=9000 by omega));obtain⟨⟨g,e,h1,h2⟩,_⟩:=qhU hN ok (by omega) sv i1;unfold qaY;rw[h,ZB,if_neg (by decide),ev,e1,ZB,h1,ZB];rcases h2 with⟨a1,a2⟩|⟨b,a1,a2,ib,sb,b0⟩
 ·rw[a1,a2];exact⟨rfl,fun b hb=>by cases hb⟩
 rw[a1,a2,if_neg (show¬(!decide ((g,(0:Int)).2=0))=true by simp),qd4 hN ib (zR (sb.mono (show 100<=3800 by omega)) (by omega) (by omega)),ZB,qkM (sb.mono (by omega))];exact⟨rfl,fun c hc=>by obtain rfl:=Ye hc;exact⟨sb,b0⟩⟩
end Go.Av
end
section
namespace Go.Av
def qpA (s:Str):Prop:= ∃q:Rat,s=T q/\Sml q 9
theorem qnv {N:Nat} (hN:600000<N) (s:Str): ∃b,xy N s 9=some b/\(b=true->qpA s):=by
 obtain⟨b,h1,h2⟩:=qrN hN (s:=s) (d:=9) (by omega) (by omega);exact⟨b,h1,fun h=>by obtain⟨q,e,s,_⟩:=h2 h;exact⟨q,e,s⟩⟩
theorem qoq {N:Nat} (hN:600000<N) (x:qh) (hl:x.Strength.length<=1000): ∀(K i:Nat),i<=x.Strength.length->x.Strength.length<K+i->(∀j,j<i-> ∀p,x.Strength[j]? =some p->qpA p.X/\qpA p.Y)->
 zG N x K (i:Int)=some (.inr true)\/(zG N x K (i:Int)=some (.inl ())/\ ∀p∈x.Strength,qpA p.X/\qpA p.Y)
 |0,i,h,hK,hp=>by omega
 |K+1,i,h,hK,hp=>by
  unfold zG;by_cases hi:i<x.Strength.length
  ·have hx:x.Strength[i]? =some x.Strength[i]:=Ya hi;obtain⟨a,a1,a2⟩:=qnv hN x.Strength[i].X;obtain⟨b,b1,b2⟩:=qnv hN x.Strength[i].Y;rw[if_pos (by omega),qw,hx,ZB,a1,ZB]
   cases a with
   |false=>exact .inl rfl
   |true=>
    rw[if_neg (by decide),b1,ZB,ZB]
    cases b with
    |false=>exact .inl rfl
    |true=>
     rw[if_neg (by decide),qQ (by omega)];refine qoq hN x hl K (i+1) (by omega) (by omega) (fun j hj p hp2=>?_);by_cases c:j=i
     ·subst c;rw[hx]at hp2;obtain rfl:=Ye hp2;exact⟨a2 rfl,b2 rfl⟩
     exact hp j (by omega) p hp2
  rw[if_neg (by omega)];refine .inr ⟨rfl,fun p hm=>?_⟩;obtain⟨j,hj,rfl⟩:=List.getElem_of_mem hm;exact hp j (by omega) _ (Ya hj)
theorem qoY {N:Nat} (hN:600000<N) {l:List qh} (hl:l.length<=1000) (hs: ∀y∈l,y.Strength.length<=1000): ∀(K i:Nat),i<=l.length->l.length<K+i->(∀j,j<i-> ∀y,l[j]? =some y->qnC 9 y)->
 zH N l K (i:Int)=some (.inr true)\/(zH N l K (i:Int)=some (.inl ())/\ ∀y∈l,qnC 9 y)
 |0,i,h,hK,hp=>by omega
 |K+1,i,h,hK,hp=>by
  unfold zH;by_cases hi:i<l.length
  ·have hx:l[i]? =some l[i]:=Ya hi;have h3:=hs _ (List.getElem_mem hi);obtain⟨a,a1,a2⟩:=qnv hN l[i].Density;obtain⟨b,b1,b2⟩:=qnv hN l[i].Twist;rw[if_pos (by omega),qw,hx,ZB,a1,ZB]
   cases a with
   |false=>exact .inl rfl
   |true=>
    rw[if_neg (by decide),b1,ZB,ZB]
    cases b with
    |false=>exact .inl rfl
    |true=>
     rw[if_neg (by decide)];rcases qoq hN l[i] h3 N 0 (by omega) (by omega) (fun j hj=>by omega)with g|⟨g1,g2⟩
     ·rw[show((0:Nat):Int)=0 from rfl]at g;rw[g];exact .inl rfl
     rw[show((0:Nat):Int)=0 from rfl]at g1;rw[g1,ZB,qQ (by omega)];refine qoY hN hl hs K (i+1) (by omega) (by omega) (fun j hj y hy=>?_);by_cases c:j=i
     ·subst c;rw[hx]at hy;obtain rfl:=Ye hy;exact⟨a2 rfl,b2 rfl,fun p hp=>g2 p hp⟩
     exact hp j (by omega) y hy
  rw[if_neg (by omega)];refine .inr ⟨rfl,fun y hm=>?_⟩;obtain⟨j,hj,rfl⟩:=List.getElem_of_mem hm;exact hp j (by omega) _ (Ya hj)
theorem qpx {l:List qh} (hb:l.length<=1000): ∀(K i:Nat),i<=l.length->l.length<K+i->jo l K (l.reverse.take i) (i:Int)=some l.reverse
 |0,i,h,hK=>by omega
 |K+1,i,h,hK=>by
  unfold jo;by_cases hi:i<l.length
  ·have e:w64 (w64 ((l.length:Int)-1)-(i:Int))=((l.length-1-i:Nat):Int):=by
    rw[qj (n:=(l.length:Int)-1) (by omega) (by omega),qj (by omega) (by omega)];omega
   have hr:i<l.reverse.length:=by simpa using hi
   have er:l.reverse[i]=l[l.length-1-i]'(by omega):=by rw[List.getElem_reverse]
   rw[if_pos (by omega),e,qw,Ya (by omega),ZB,qcf (by simp;omega) (by simp;omega),ZB,qQ (by omega),<-er,<-List.take_succ_eq_append_getElem hr];exact qpx hb K (i+1) (by omega) (by omega)
  rw[if_neg (by omega),List.take_of_length_le (by simp;omega)]
theorem qpD {N:Nat} (hN:600000<N) {l:List qh} (hl:l.length<=6) (hg: ∀y∈l,qgB N y) (hf: ∀y∈l,qnC 9 y) {u:Rat} (su:Sml u 9) (cu:zP N (T u)=some 0) {r:qh×Int} (hr:qdC u l=true->r.2=7):
 ∀(K i:Nat) (a b:Rat),i<=l.length->l.length<K+i->Sml a (9*(1+2*i))->Sml b (9*(1+2*i))->(qdC u l=true->qdC u (l.drop i)=true)->
 jw N l (T u) r K (i:Int) (T a) (T b)=some (if qdC u (l.drop i)=true then .inr true else .inl (T (a+vw (l.drop i)),T (b+qaj u (l.drop i))))
 |0,i,a,b,h,hK,sa,sb,hm=>by omega
 |K+1,i,a,b,h,hK,sa,sb,hm=>by
  unfold jw;by_cases hi:i<l.length
  ·have hx:l[i]? =some l[i]:=Ya hi;have G:=hg _ (List.getElem_mem hi);have Fw:=hf _ (List.getElem_mem hi);obtain⟨Y⟩:=G.2.2;obtain⟨t,et,st⟩:=Fw.t;obtain⟨d,ed,sd⟩:=Fw.d;have tw:=qmo hN G (su.mono (by omega)) cu et (st.mono (by omega));have sv:Sml (t+u) 27:=(qb3 (a:=1) (b:=1) (by omega) (by omega) st su);have ck:=qnH hN G.1 (v:=t+u) (sv.mono (by omega));obtain⟨s1,s2⟩:=qlj hN (y:=⟨l[i].Name,l[i].Density,T (t+u),l[i].Strength,l[i].Dye⟩) ck (qru Y.pts) Y.few rfl (sv.mono (by omega))
   have hst:stY u l[i]=stA l[i] (t+u):=by unfold stY;rw[et,qdc]
   have hsa:stA ⟨l[i].Name,l[i].Density,T (t+u),l[i].Strength,l[i].Dye⟩ (t+u)=stA l[i] (t+u):=rfl;rw[hsa]at s1 s2;rw[if_pos (by omega),qw,hx,ZB,tw,ZB,s1,ZB,if_neg (show¬(!decide (((⟨l[i].Name,l[i].Density,T (t+u),l[i].Strength,l[i].Dye⟩:qh),(0:Int)).2=0))=true by simp),YG hi,qjI,hst]
   cases c:stA l[i] (t+u)with
   |none=>
    have h7:r.2=7:=hr (by
     unfold qdC;rw[List.any_eq_true]
     exact⟨l[i],List.getElem_mem hi,by rw[hst,c];rfl⟩)
    rw[if_pos (show(!decide ((stR none).2=0))=true from rfl),if_pos (show(stR none).2=7 from rfl),if_pos h7];simp[awk]
   |some e=>
    obtain⟨se1,e0⟩:=s2 e c;have se:Sml e 9:=qmF Fw (by rw[hst,c]);have ha:=qkr hN (k:=200) (by omega) (by omega) (sa.mono (by omega)) (sd.mono (show 9<=200 by omega));have hb:=qkr hN (k:=200) (by omega) (by omega) (sb.mono (by omega)) (se.mono (show 9<=200 by omega));have sa2:=(qb3 (a:=1+2*i) (b:=1) (by omega) (by omega) sa sd).mono (show 9*(1+2*i+1+1)<=9*(1+2*(i+1))by omega);have sb2:=(qb3 (a:=1+2*i) (b:=1) (by omega) (by omega) sb se).mono (show 9*(1+2*i+1+1)<=9*(1+2*(i+1))by omega);rw[if_neg (show¬(!decide ((stR (some e)).2=0))=true by simp[stR]),show(stR (some e)).1=T e from rfl,qoF hN (se.mono (by omega)) e0,ZB,if_neg (by decide),ed,ha,ZB,hb,ZB,qQ (by omega),Option.isNone_some,Bool.false_or,vw,qaj,ed,qdc,hst,c,YN,<-Rat.add_assoc,<-Rat.add_assoc];refine qpD hN hl hg hf su cu hr K (i+1) _ _ (by omega) (by omega) sa2 sb2 (fun ht=>?_);have:=hm ht;rw[YG hi,qjI,hst,c,Option.isNone_some,Bool.false_or]at this;exact this
  rw[if_neg (by omega),List.drop_eq_nil_of_le (by omega),vw,qaj,Rat.add_zero,Rat.add_zero];rfl
theorem qhp {N:Nat} (l:List qh) (twist factor:Str) (hN:600000+l.length<N) (hb:l.length*88<=140737488355328):qa3 N l twist factor=some true:=by
 have hN':600000<N:=by omega
 unfold qa3 awk;rw[qpf (by omega) hb,ZB];by_cases h6:(l.length:Int)>6
 ·rw[if_pos h6];rfl
 rw[if_neg h6];obtain⟨b,b1,b2⟩:=qnY hN' (l:=l) (by omega) (by omega);rw[b1,ZB]
 cases b with
 |false=>rfl
 |true=>
 obtain⟨l14,hs⟩:=b2 rfl;rw[if_neg (by decide)];obtain⟨t,t1,t2⟩:=qnv hN' twist;rw[t1,ZB]
 cases t with
 |false=>rfl
 |true=>
 obtain⟨u,eu,su⟩:=t2 rfl;rw[if_neg (by decide)];obtain⟨t',f1,f2⟩:=qnv hN' factor;rw[f1,ZB]
 cases t' with
 |false=>rfl
 |true=>
 obtain⟨q,eq,sq⟩:=f2 rfl;rw[if_neg (by decide)]
 have lu:(T u).length<=60:=by have:=qfy su;omega
 have lq:(T q).length<=60:=by have:=qfy sq;omega
 obtain⟨r,r1,r2⟩:=qq3 hN' (name:=[112]) (tw:=twist) (fa:=factor) (l:=l) (by simp) (by rw[eu];exact lu) (by rw[eq];exact lq) (by omega) hs;rw[r1,ZB,ZB];rcases r2 with⟨r0,_⟩|⟨r0,u',f,e1,e2,C⟩
 ·rw[decide_eq_false r0];rfl
 subst r0;rw[if_neg (by decide)];obtain rfl:u'=u:=qg7 (by rw[<-e1,<-eu]);obtain rfl:f=q:=qg7 (by rw[<-e2,<-eq]);have su:Sml u' 9:=su;have sf:Sml f 9:=sq;have ha:=qld C.good;rcases qoY hN' (l:=l) (by omega) (fun y hy=>by have:=(hs y hy).h6;omega) N 0 (by omega) (by omega) (fun j hj=>by omega)with g|⟨g,hf⟩
 ·rw[show((0:Nat):Int)=0 from rfl]at g;rw[g];rfl
 rw[show((0:Nat):Int)=0 from rfl]at g;rw[g,ZB];dsimp only
 have hm:mkr 88 (l.length:Int)=some l.length:=by
  unfold mkr;rw[if_pos ⟨by omega,by omega,by omega⟩];simp
 have rv:=qpx (l:=l) (by omega) N 0 (by omega) (by omega);rw[List.take_zero,show((0:Nat):Int)=0 from rfl]at rv;rw[hm,ZB,rv,ZB,e1,e2];have f0:=C.f0
 have hne:f≠0:=fun c=>by rw[c]at f0;exact absurd f0 (by decide)
 have s1:Sml (1:Rat) 9:=sml_1.mono (by omega)
 have gr: ∀y∈l.reverse,qgB N y:=fun y hy=>C.good y (List.mem_reverse.1 hy)
 have pR:=qhX hN' (name:=[112]) (l:=l.reverse) (u:=u') (f:=f) (by have:=C.l0;simpa using this) (by have:=C.l12;simpa using this) (qld gr) C.nm (qmZ hN' (by have:=C.l12;simpa using this) gr) C.ct C.pf (su.mono (by omega)) (sf.mono (by omega)) f0;have p1:=qhX hN' (name:=[112]) (l:=l) (u:=u') (f:=1) C.l0 C.l12 ha C.nm (qmZ hN' C.l12 C.good) C.ct ((qqq hN' (s1.mono (show 9<=600 by omega))).1 (by decide)) (su.mono (by omega)) (s1.mono (by omega)) (by decide);rw[if_neg (by have:=C.f1;grind)]at pR;rw[if_neg (by decide),T1n]at p1;have sd:=qk7 (by omega) hf;have ss:=qlh (by omega) u' hf;have sD:Sml (vw l) 117:=sd.mono (by omega);have sS:Sml (qaj u' l) 117:=ss.mono (by omega);have lD:qdv (vw l/f)=false:=qgf ((qj9 (n:=13) (by omega) sD (sf.mono (by omega)) hne).mono (by omega));have e11:vw l/1=vw l:=div_1 _
 have lD1:qdv (vw l/1)=false:=by rw[e11];exact qgf (sD.mono (by omega))
 have lS:qdv (qaj u' l)=false:=qgf (sS.mono (by omega));have hdye:dyL (dyH l.reverse) l.reverse (dyH l.reverse)=dyL (dyH l) l (dyH l):=(qpP C.l0 fun y=>(List.mem_reverse).symm).symm;have v0:=C.val;rw[qpl]at v0 pR p1;rw[qor,qpM,qp1,hdye]at pR;have loop:=qpD hN' (l:=l) (by omega) C.good hf su C.ct (r:=if qdC u' l=true then(emY,7)else(⟨[112],T (vw l/f),T u',[⟨[48],T (qaj u' l)⟩],dyL (dyH l) l (dyH l)⟩,0)) (fun h=>by rw[if_pos h]) N 0 0 0 (by omega) (by omega) (qmk (by omega)) (qmk (by omega)) (fun h=>h);rw[show((0:Nat):Int)=0 from rfl,YR,T0,Rat.zero_add,Rat.zero_add]at loop
 have q0: ¬(qdv (vw l/f)=true\/qdv (qaj u' l)=true):=by rw[lD,lS];simp
 have q1: ¬(qdv (vw l/1)=true\/qdv (qaj u' l)=true):=by rw[lD1,lS];simp
 rw[if_neg q0]at v0 pR;rw[if_neg q1]at p1;rw[v0,ZB,pR,ZB,p1,ZB];by_cases hany:qdC u' l=true
 ·rw[if_pos hany]at loop;rw[if_pos hany]at loop;rw[if_pos hany,if_pos hany];have z:(if(!((decide (((emY,(7:Int)):qh×Int).2=0))==(decide (((emY,(7:Int)):qh×Int).2=0))))=true then some true else some (!((decide (((emY,(7:Int)):qh×Int).2=0))==(decide (((emY,(7:Int)):qh×Int).2=0)))):Option Bool)=some false:=rfl;rw[z,ZB,if_neg (by decide),loop];rfl
 rw[if_neg hany]at loop;rw[if_neg hany]at loop;rw[if_neg hany,if_neg hany];generalize hP:(⟨[112],T (vw l/f),T u',[⟨[48],T (qaj u' l)⟩],dyL (dyH l) l (dyH l)⟩:qh)=P at*
 have z: ∀Q:qh,(if(!((decide (((P,(0:Int)):qh×Int).2=0))==(decide (((P,(0:Int)):qh×Int).2=0))))=true then some true else some (!((decide (((P,(0:Int)):qh×Int).2=0))==(decide (((Q,(0:Int)):qh×Int).2=0)))):Option Bool)=some false:=fun Q=>rfl
 have hsame:=qnQ hN' (y:=P) (by rw[<-hP];simp);have hd0:=qkX ha C.l0;obtain⟨k1,k2⟩:=qrR hd0 f0 C.f1
 have hp0:0<vw l/f:=by grind
 have sQ:Sml (vw l/f) 600:=(qj9 (n:=13) (by omega) sD (sf.mono (by omega)) hne).mono (by omega);have hpos:=qr2 hN' sQ hp0;have hcmp:=qfe hN' (k:=600) (by omega) (by omega) sQ (sD.mono (show 117<=600 by omega))
 have eP1:P.Density=T (vw l/f):=by rw[<-hP]
 have eP2:P.Strength=[⟨[48],T (qaj u' l)⟩]:=by rw[<-hP]
 rw[z,ZB,if_neg (by decide),loop,ZB];dsimp only;rw[e11,if_neg (show¬(!decide ((0:Int)=0))=true by decide),hsame,ZB,if_neg (by decide),beq_self_eq_true,if_neg (by decide),eP1,hpos,ZB,if_neg (by decide),eP2,if_neg (by simp),show idx ([⟨[48],T (qaj u' l)⟩]:List qL) 0=some ⟨[48],T (qaj u' l)⟩from rfl,ZB];dsimp only;rw[beq_self_eq_true,beq_self_eq_true];rw[show(some (!(true&&(true&&true))):Option Bool)=some false from rfl,ZB,if_neg (by decide),hcmp,ZB,ZB]
 have hge:(if vw l/f<vw l then(-1:Int)else if vw l/f=vw l then 0 else 1)>=0:=by
  rw[if_neg (show¬vw l/f<vw l by grind)];split<;>decide
 rw[if_pos hge,if_neg (show¬vw l/f<vw l by grind)]
 have hfin:((decide ((if vw l/f=vw l then(0:Int)else 1)=0))==(T f==[49]))=true:=by
  by_cases c:f=1
  ·rw[if_pos (k2.2 c),c,T1n];rfl
  rw[if_neg (fun h=>c (k2.1 h))]
  have:(T f==[49])=false:=by
   rw[beq_eq_false_iff_ne];intro h;exact c (qg7 (by rw[h,T1n]))
  rw[this];rfl
 rw[if_pos hfin];rfl
end Go.Av
end
