/-
  Rows changed in place: swaps of ranges, rotations, told by places.
-/
import Derived.Test.YtmblkadpanineaaGreatDoorAvPt
import Derived.Test.YtmblkadpanineaaGreatDoorQGenSh
noncomputable section
set_option linter.unusedVariables false
set_option linter.unusedSimpArgs false
set_option linter.unusedSectionVars false
set_option maxRecDepth 100000
section
namespace Go.Av
open Go.Proofs Go.RowKit
variable [Glob]
structure Mv (lo hi:Nat) (σ:Nat->Nat) (D D':List Int):Prop where
 len:D'.length=D.length
 per:D'.Perm D
 at_: ∀k,k<D.length->D'[k]? =D[σ k]?
 out: ∀k,¬(lo<=k/\k<hi)->σ k=k
 inn: ∀k,lo<=k->k<hi->lo<=σ k/\σ k<hi
theorem Mv.id (lo hi:Nat) (D:List Int):Mv lo hi (fun k=>k) D D:=⟨rfl,.refl _,fun _ _=>rfl,fun _ _=>rfl,fun k h1 h2=>⟨h1,h2⟩⟩
theorem Mv.congr {lo hi:Nat} {σ τ:Nat->Nat} {D D':List Int} (m:Mv lo hi σ D D') (h: ∀k,σ k=τ k):Mv lo hi τ D D':=by
 obtain rfl:σ=τ:=funext h
 exact m
theorem Mv.comp {lo hi:Nat} {σ τ:Nat->Nat} {D E F:List Int} (h:hi<=D.length) (m:Mv lo hi σ D E) (n:Mv lo hi τ E F):Mv lo hi (fun k=>σ (τ k)) D F:=by
 refine⟨n.len.trans m.len,n.per.trans m.per,fun k hk=>?_,fun k hk=>?_,fun k h1 h2=>?_⟩
 ·have hk2:k<E.length:=by rw[m.len];exact hk
  have ht:τ k<D.length:=by
   by_cases c:lo<=k/\k<hi
   ·have:=n.inn k c.1 c.2;omega
   rw[n.out k c];exact hk
  rw[n.at_ k hk2,m.at_ _ ht]
 ·rw[n.out k hk,m.out k hk]
 obtain⟨h3,h4⟩:=n.inn k h1 h2
 exact m.inn _ h3 h4
theorem Mv.wide {lo hi lo' hi':Nat} {σ:Nat->Nat} {D E:List Int} (m:Mv lo hi σ D E) (h1:lo'<=lo) (h2:hi<=hi'):Mv lo' hi' σ D E:=by
 refine⟨m.len,m.per,m.at_,fun k hk=>m.out k (by omega),fun k h3 h4=>?_⟩
 by_cases c:lo<=k/\k<hi
 ·have:=m.inn k c.1 c.2;omega
 rw[m.out k c];omega
theorem qa2 {lo hi i j:Nat} {D:List Int} {x y:Int} (hi1:D[i]? =some x) (hj1:D[j]? =some y) (h1:lo<=i/\i<hi) (h2:lo<=j/\j<hi):Mv lo hi (fun k=>if k=i then j else if k=j then i else k) D ((D.set i y).set j x):=by
 obtain⟨li,rfl⟩:=Yb.1 hi1
 obtain⟨lj,rfl⟩:=Yb.1 hj1
 refine⟨by simp,List.set_set_perm li lj,fun k hk=>?_,fun k hk=>?_,fun k h3 h4=>?_⟩
 ·show _=D[if k=i then j else if k=j then i else k]?
  rw[List.getElem?_set,List.getElem?_set,Yk]
  by_cases c1:j=k
  ·subst c1
   rw[if_pos rfl,if_pos lj]
   by_cases c2:j=i
   ·subst c2
    rw[if_pos rfl,Ya li]
   rw[if_neg c2,if_pos rfl,Ya li]
  rw[if_neg c1]
  by_cases c2:i=k
  ·subst c2
   rw[if_pos rfl,if_pos rfl,if_pos li,Ya lj]
  rw[if_neg c2,if_neg (fun h=>c2 h.symm),if_neg (fun h=>c1 h.symm)]
 ·show(if k=i then j else if k=j then i else k)=k
  by_cases c1:k=i
  ·omega
  rw[if_neg c1]
  by_cases c2:k=j
  ·omega
  rw[if_neg c2]
 show lo<=(if k=i then j else if k=j then i else k)/\(if k=i then j else if k=j then i else k)<hi
 split
 ·exact h2
 split
 ·exact h1
 exact⟨h3,h4⟩
def swp (a b t:Nat) (k:Nat):Nat:=if a<=k/\k<a+t then k-a+b else if b<=k/\k<b+t then k-b+a else k
theorem qdW {a b n:Nat} {D:List Int} (hD:D.length<=1000) (hab:a+n<=b) (hb:b+n<=D.length): ∀(K t:Nat) (E:List Int),t<=n->n<K+t->Mv a (b+n) (swp a b t) D E->
 ∃F,qp (a:Int) (b:Int) (n:Int) K E (t:Int)=some F/\Mv a (b+n) (swp a b n) D F
 |0,t,E,h,hK,m=>by omega
 |K+1,t,E,h,hK,m=>by
  unfold qp
  have hl:=m.len
  by_cases ht:t<n
  ·rw[if_pos (by omega),qM (n:=(b:Int)+t) (by omega) (by omega),qM (n:=(a:Int)+t) (by omega) (by omega),jP (by omega),show((b:Int)+t)=((b+t:Nat):Int)by omega,show((a:Int)+t)=((a+t:Nat):Int)by omega]
   have hx:E[b+t]? =some E[b+t]:=Ya (by omega)
   have hy:E[a+t]? =some E[a+t]:=Ya (by omega)
   rw[qU,hx,ZB,qU,hy,ZB,ve (by omega),ZB,qU,List.getElem?_set_ne (by omega),hx,ZB,ve (by rw[Yk];omega),ZB]
   have s:=qa2 (lo:=a) (hi:=b+n) hy hx (by omega) (by omega)
   refine qdW hD hab hb K (t+1) _ (by omega) (by omega) ((m.comp hb s).congr fun k=>?_)
   simp only[swp]
   repeat' split
   all_goals omega
  obtain rfl:t=n:=by omega
  rw[if_neg (by omega)]
  exact⟨E,rfl,m⟩
theorem qbp {N a b n:Nat} (hN:2000<N) {D:List Int} (hD:D.length<=1000) (hab:a+n<=b) (hb:b+n<=D.length) (x1:Int) (x2:List Int) (x3:Int): ∃F,qC N D (a:Int) (b:Int) (n:Int) x1 x2 x3=some F/\Mv a (b+n) (swp a b n) D F:=by
 unfold qC
 obtain⟨F,h1,h2⟩:=qdW hD hab hb N 0 D (Nat.zero_le _) (by omega) ((Mv.id _ _ D).congr fun k=>by simp only[swp];rw[if_neg (by omega),if_neg (by omega)])
 rw[show((0:Nat):Int)=0 from rfl]at h1
 rw[h1]
 exact⟨F,rfl,h2⟩
def rot (a m b k:Nat):Nat:=if a<=k/\k<a+(b-m)then k-a+m else if a+(b-m)<=k/\k<b then k-(b-m)else k
theorem qeH {m i j:Nat} (hj:j<=i) (hm:i<=m) (k:Nat):swp (m-i) m j (rot (m-(i-j)) m (m+j) k)=rot (m-i) m (m+j) k:=by
 simp only[swp,rot]
 repeat' split
 all_goals omega
theorem qey {m i j:Nat} (hj:i<=j) (hm:i<=m) (k:Nat):swp (m-i) (m+j-i) i (rot (m-i) m (m+(j-i)) k)=rot (m-i) m (m+j) k:=by
 simp only[swp,rot]
 repeat' split
 all_goals omega
theorem qfQ {m i:Nat} (hm:i<=m) (k:Nat):swp (m-i) m i k=rot (m-i) m (m+i) k:=by
 simp only[swp,rot]
 repeat' split
 all_goals omega
theorem qfX {N a m b:Nat} (hN:2000<N) {D:List Int} (hD:D.length<=1000) (ham:a<m) (hmb:m<b) (hb:b<=D.length) (x1:Int) (x2:List Int) (x3:Int): ∀(K i j:Nat) (σ:Nat->Nat) (E:List Int),i+j<K->0<i->0<j->a+i<=m->m+j<=b->Mv a b σ D E->(∀k,σ (rot (m-i) m (m+j) k)=rot a m b k)->
 ∃(F:List Int) (q:Nat) (τ:Nat->Nat),qF N (m:Int) x1 x2 x3 K E (i:Int) (j:Int)=some (F,(q:Int))/\0<q/\a+q<=m/\m+q<=b/\Mv a b τ D F/\ ∀k,τ (rot (m-q) m (m+q) k)=rot a m b k
 |0,i,j,σ,E,hK,hi,hj,h1,h2,mv,hr=>by omega
 |K+1,i,j,σ,E,hK,hi,hj,h1,h2,mv,hr=>by
  unfold qF
  have hl:=mv.len
  by_cases c:i=j
  ·subst c
   rw[if_neg (by simp)]
   exact⟨E,i,σ,rfl,hi,h1,h2,mv,hr⟩
  rw[if_pos (by simp;omega)]
  by_cases d:i>j
  ·obtain⟨F,f1,f2⟩:=qbp hN (a:=m-i) (b:=m) (n:=j) (D:=E) (by omega) (by omega) (by omega) x1 x2 x3
   rw[if_pos (by omega),qM (n:=(m:Int)-i) (by omega) (by omega),show((m:Int)-i)=((m-i:Nat):Int)by omega,f1,ZB,if_pos f2.len.symm,ZB,ZB,qM (by omega) (by omega),show((i:Int)-j)=((i-j:Nat):Int)by omega]
   have f3:=f2.wide (lo':=a) (hi':=b) (by omega) (by omega)
   refine qfX hN hD ham hmb hb x1 x2 x3 K (i-j) j _ F (by omega) (by omega) hj (by omega) h2 (mv.comp hb f3) fun k=>?_
   rw[qeH (by omega) (by omega),hr]
  obtain⟨F,f1,f2⟩:=qbp hN (a:=m-i) (b:=m+j-i) (n:=i) (D:=E) (by omega) (by omega) (by omega) x1 x2 x3
  rw[if_neg (by omega),qM (n:=(m:Int)-i) (by omega) (by omega),qM (n:=(m:Int)+j) (by omega) (by omega),qM (n:=(m:Int)+j-i) (by omega) (by omega),show((m:Int)-i)=((m-i:Nat):Int)by omega,show((m:Int)+j-i)=((m+j-i:Nat):Int)by omega,f1,ZB,if_pos f2.len.symm,ZB,ZB,qM (by omega) (by omega),show((j:Int)-i)=((j-i:Nat):Int)by omega]
  have f3:=f2.wide (lo':=a) (hi':=b) (by omega) (by omega)
  refine qfX hN hD ham hmb hb x1 x2 x3 K i (j-i) _ F (by omega) hi (by omega) h1 (by omega) (mv.comp hb f3) fun k=>?_
  rw[qey (by omega) (by omega),hr]
theorem qhp {N a m b:Nat} (hN:2000<N) {D:List Int} (hD:D.length<=1000) (ham:a<m) (hmb:m<b) (hb:b<=D.length) (x1:Int) (x2:List Int) (x3:Int): ∃F,qQ N D (a:Int) (m:Int) (b:Int) x1 x2 x3=some F/\Mv a b (rot a m b) D F:=by
 unfold qQ
 rw[qM (n:=(m:Int)-a) (by omega) (by omega),qM (n:=(b:Int)-m) (by omega) (by omega),show((m:Int)-a)=((m-a:Nat):Int)by omega,show((b:Int)-m)=((b-m:Nat):Int)by omega]
 obtain⟨F,q,τ,g1,g2,g3,g4,g5,g6⟩:=qfX hN hD ham hmb hb x1 x2 x3 N (m-a) (b-m) (fun k=>k) D (by omega) (by omega) (by omega) (by omega) (by omega) (Mv.id _ _ D) (fun k=>by rw[show m-(m-a)=a by omega,show m+(b-m)=b by omega])
 obtain⟨G,s1,s2⟩:=qbp hN (a:=m-q) (b:=m) (n:=q) (D:=F) (by have:=g5.len;omega) (by omega) (by have:=g5.len;omega) x1 x2 x3
 rw[g1,ZB]
 simp only
 rw[qM (n:=(m:Int)-q) (by omega) (by omega),show((m:Int)-q)=((m-q:Nat):Int)by omega,s1,ZB,if_pos s2.len.symm,ZB]
 refine⟨G,rfl,(g5.comp hb (s2.wide (lo':=a) (hi':=b) (by omega) (by omega))).congr fun k=>?_⟩
 rw[qfQ (by omega),g6]
end Go.Av
end
section
namespace Go.Av
open Go.Proofs Go.RowKit
variable [Glob]
def LTm (ρ:Int->Int) (x y:Int):Prop:=ρ y<ρ x\/(ρ x=ρ y/\x<y)
theorem LTm.le {ρ:Int->Int} {x y:Int} (h:LTm ρ x y):ρ y<=ρ x:=by rcases h with h|⟨h,_⟩<;>omega
theorem LTm.irr {ρ:Int->Int} {x:Int} (h:LTm ρ x x):False:=by rcases h with h|⟨_,h⟩<;>omega
theorem LTm.trans {ρ:Int->Int} {x y z:Int} (h:LTm ρ x y) (k:LTm ρ y z):LTm ρ x z:=by
 unfold LTm at*
 omega
def Sor (ρ:Int->Int) (D:List Int) (lo hi:Nat):Prop:= ∀i j x y,lo<=i->i<j->j<hi->D[i]? =some x->D[j]? =some y->LTm ρ x y
def Crs (D:List Int) (lo m hi:Nat):Prop:= ∀i j x y,lo<=i->i<m->m<=j->j<hi->D[i]? =some x->D[j]? =some y->x<y
theorem Sor.le {ρ:Int->Int} {D:List Int} {lo hi i j:Nat} {x y:Int} (s:Sor ρ D lo hi) (h1:lo<=i) (h2:i<=j) (h3:j<hi) (hx:D[i]? =some x) (hy:D[j]? =some y):ρ y<=ρ x:=by
 by_cases c:i=j
 ·subst c
  rw[hx]at hy
  obtain rfl:=Ye hy
  exact Int.le_refl _
 exact(s i j x y h1 (by omega) h3 hx hy).le
theorem Sor.sub {ρ:Int->Int} {D:List Int} {lo hi lo' hi':Nat} (s:Sor ρ D lo hi) (h1:lo<=lo') (h2:hi'<=hi):Sor ρ D lo' hi':=fun i j x y a b c=>s i j x y (by omega) b (by omega)
theorem Ul {ρ:Int->Int} {D:List Int} {lo hi:Nat} (h:hi<=lo+1):Sor ρ D lo hi:=fun i j x y a b c=>by omega
theorem vQ {ρ:Int->Int} {D:List Int} {lo m hi:Nat} (s1:Sor ρ D lo m) (s2:Sor ρ D m hi) (h: ∀i j x y,lo<=i->i<m->m<=j->j<hi->D[i]? =some x->D[j]? =some y->LTm ρ x y):Sor ρ D lo hi:=by
 intro i j x y a b c hx hy
 by_cases c1:j<m
 ·exact s1 i j x y a b c1 hx hy
 by_cases c2:m<=i
 ·exact s2 i j x y c2 b c hx hy
 exact h i j x y a (by omega) (by omega) c hx hy
def Mx (lo hi:Nat) (D E:List Int):Prop:= ∃σ,Mv lo hi σ D E
theorem Mx.refl (lo hi:Nat) (D:List Int):Mx lo hi D D:=⟨_,Mv.id lo hi D⟩
theorem Mx.trans {lo hi:Nat} {D E F:List Int} (h:hi<=D.length) (a:Mx lo hi D E) (b:Mx lo hi E F):Mx lo hi D F:=by
 obtain⟨σ,a⟩:=a
 obtain⟨τ,b⟩:=b
 exact⟨_,a.comp h b⟩
theorem Mx.wide {lo hi lo' hi':Nat} {D E:List Int} (a:Mx lo hi D E) (h1:lo'<=lo) (h2:hi<=hi'):Mx lo' hi' D E:=by
 obtain⟨σ,a⟩:=a
 exact⟨σ,a.wide h1 h2⟩
theorem Mx.len {lo hi:Nat} {D E:List Int} (a:Mx lo hi D E):E.length=D.length:=by
 obtain⟨σ,a⟩:=a
 exact a.len
theorem Mx.per {lo hi:Nat} {D E:List Int} (a:Mx lo hi D E):E.Perm D:=by
 obtain⟨σ,a⟩:=a
 exact a.per
theorem Mx.out {lo hi k:Nat} {D E:List Int} (a:Mx lo hi D E) (h: ¬(lo<=k/\k<hi)):E[k]? =D[k]? :=by
 obtain⟨σ,a⟩:=a
 by_cases c:k<D.length
 ·rw[a.at_ k c,a.out k h]
 rw[Yg (by rw[a.len];omega),Yg (by omega)]
theorem Mx.inn {lo hi k:Nat} {x:Int} {D E:List Int} (a:Mx lo hi D E) (h1:lo<=k) (h2:k<hi) (hx:E[k]? =some x): ∃j,lo<=j/\j<hi/\D[j]? =some x:=by
 obtain⟨σ,a⟩:=a
 have hk:k<D.length:=by
  have:=(Yb.1 hx).1
  rw[a.len]at this
  exact this
 obtain⟨h3,h4⟩:=a.inn k h1 h2
 exact⟨σ k,h3,h4,by rw[<-a.at_ k hk];exact hx⟩
theorem Sor.same {ρ:Int->Int} {D E:List Int} {lo hi:Nat} (s:Sor ρ D lo hi) (h: ∀k,lo<=k->k<hi->E[k]? =D[k]?):Sor ρ E lo hi:=fun i j x y a b c hx hy=>s i j x y a b c (by rw[<-h i a (by omega)];exact hx) (by rw[<-h j (by omega) c];exact hy)
theorem Crs.same {D E:List Int} {lo m hi:Nat} (s:Crs D lo m hi) (h: ∀k,lo<=k->k<hi->E[k]? =D[k]?):Crs E lo m hi:=fun i j x y a b c d hx hy=>s i j x y a b c d (by rw[<-h i a (by omega)];exact hx) (by rw[<-h j (by omega) d];exact hy)
theorem bsg {p:Nat->Bool} {L:Nat->Int->Int->Option Int} {A B:Nat} (hs: ∀(K lo hi:Nat),A<=lo->lo<hi->hi<=B->L (K+1) (lo:Int) (hi:Int)=if p ((lo+hi)/2)=true then L K (((lo+hi)/2+1:Nat):Int) (hi:Int)else L K (lo:Int) (((lo+hi)/2:Nat):Int))
 (he: ∀(K lo:Nat),L (K+1) (lo:Int) (lo:Int)=some (lo:Int)) (mono: ∀c d,A<=c->c<d->d<B->p d=true->p c=true): ∀(K lo hi:Nat),A<=lo->lo<=hi->hi<=B->hi-lo<K->(∀c,A<=c->c<lo->p c=true)->(∀c,hi<=c->c<B->p c=false)->
 ∃r:Nat,L K (lo:Int) (hi:Int)=some (r:Int)/\lo<=r/\r<=hi/\(∀c,A<=c->c<r->p c=true)/\ ∀c,r<=c->c<B->p c=false
 |0,lo,hi,h1,h2,h3,hK,f1,f2=>by omega
 |K+1,lo,hi,h1,h2,h3,hK,f1,f2=>by
  by_cases c:lo=hi
  ·subst c
   exact⟨lo,he K lo,Nat.le_refl _,Nat.le_refl _,f1,f2⟩
  rw[hs K lo hi h1 (by omega) h3]
  by_cases d:p ((lo+hi)/2)=true
  ·rw[if_pos d]
   obtain⟨r,r1,r2,r3,r4,r5⟩:=bsg hs he mono K ((lo+hi)/2+1) hi (by omega) (by omega) h3 (by omega) (fun c g1 g2=>by
    by_cases e:c=(lo+hi)/2
    ·rw[e];exact d
    exact mono c ((lo+hi)/2) g1 (by omega) (by omega) d) f2
   exact⟨r,r1,by omega,r3,r4,r5⟩
  rw[if_neg d]
  obtain⟨r,r1,r2,r3,r4,r5⟩:=bsg hs he mono K lo ((lo+hi)/2) h1 (by omega) (by omega) (by omega) f1 (fun c g1 g2=>by
   cases e:p c with
   |false=>rfl
   |true=>
    by_cases e2:c=(lo+hi)/2
    ·rw[e2]at e;exact absurd e d
    exact absurd (mono ((lo+hi)/2) c (by omega) (by omega) g2 e) d)
  exact⟨r,r1,r2,by omega,r4,r5⟩
theorem qat {i j:Nat} (hi:i<=1000) (hj:j<=1000):w64 (qj .u64 (IntKind.wrap .u64 (w64 ((i:Int)+(j:Int)))) 1)=(((i+j)/2:Nat):Int):=by
 have e0:w64 ((i:Int)+(j:Int))=(i:Int)+(j:Int):=qM (by omega) (by omega)
 rw[e0]
 have e:IntKind.wrap .u64 ((i:Int)+(j:Int))=(i:Int)+(j:Int):=by
  show((i:Int)+(j:Int))%18446744073709551616=_
  omega
 rw[e]
 show w64 (((i:Int)+(j:Int)).fdiv 2)=_
 rw[Int.fdiv_eq_ediv_of_nonneg _ (by omega),qM (by omega) (by omega)]
 omega
theorem qcw {a i:Nat} {D:List Int} (hD:D.length<=1000) (hi:i<=D.length): ∀(K k:Nat) (E:List Int),a<=k->k+1<=i->i<K+k->Mv a i (rot a (a+1) (k+1)) D E->
 ∃F,qw (i:Int) K E (k:Int)=some F/\Mv a i (rot a (a+1) i) D F
 |0,k,E,h1,h2,hK,m=>by omega
 |K+1,k,E,h1,h2,hK,m=>by
  unfold qw
  have hl:=m.len
  rw[qM (n:=(i:Int)-1) (by omega) (by omega)]
  by_cases c:k+1<i
  ·have hx:E[k+1]? =some E[k+1]:=Ya (by omega)
   have hy:E[k]? =some E[k]:=Ya (by omega)
   rw[if_pos (by omega),jP (by omega),qU,hx,ZB,qU,hy,ZB,ve (by omega),ZB,qU,List.getElem?_set_ne (by omega),hx,ZB,ve (by rw[Yk];omega),ZB]
   have s:=qa2 (lo:=a) (hi:=i) hy hx (by omega) (by omega)
   refine qcw hD hi K (k+1) _ (by omega) (by omega) (by omega) ((m.comp hi s).congr fun q=>?_)
   simp only[rot]
   repeat' split
   all_goals omega
  have e:k+1=i:=by omega
  rw[if_neg (by omega)]
  rw[e]at m
  exact⟨E,rfl,m⟩
theorem qcR {i m:Nat} {D:List Int} (hD:D.length<=1000) (hm:m+1<=D.length) (him:i<=m): ∀(K k:Nat) (E:List Int),i<=k->k<=m->k<K+i->Mv i (m+1) (rot k m (m+1)) D E->
 ∃F,qx (i:Int) K E (k:Int)=some F/\Mv i (m+1) (rot i m (m+1)) D F
 |0,k,E,h1,h2,hK,mv=>by omega
 |K+1,k,E,h1,h2,hK,mv=>by
  unfold qx
  have hl:=mv.len
  by_cases c:i<k
  ·have hx:E[k-1]? =some E[k-1]:=Ya (by omega)
   have hy:E[k]? =some E[k]:=Ya (by omega)
   rw[if_pos (by omega),qM (n:=(k:Int)-1) (by omega) (by omega),show((k:Int)-1)=((k-1:Nat):Int)by omega,qU,hx,ZB,qU,hy,ZB,ve (by omega),ZB,qU,List.getElem?_set_ne (by omega),hx,ZB,ve (by rw[Yk];omega),ZB]
   have s:=qa2 (lo:=i) (hi:=m+1) hy hx (by omega) (by omega)
   refine qcR hD hm him K (k-1) _ (by omega) (by omega) (by omega) ((mv.comp hm s).congr fun q=>?_)
   simp only[rot]
   repeat' split
   all_goals omega
  have e:k=i:=by omega
  rw[if_neg (by omega)]
  rw[e]at mv
  exact⟨E,rfl,mv⟩
def qaU (V:Int->Prop) (ρ:Int->Int) (x1:Int) (x2:List Int) (x3:Int):Prop:= ∀x y,V x->V y-> ∃c,kw x y x1 x2 x3=some c/\decide (c<0)=decide (ρ y<ρ x)
section
variable {V:Int->Prop} {ρ:Int->Int} {x1:Int} {x2:List Int} {x3:Int}
theorem find0 {N a m b:Nat} (hN:2000<N) (hc:qaU V ρ x1 x2 x3) {D:List Int} (hD:D.length<=1000) (hV: ∀x∈D,V x) (hb:b<=D.length) (ham:a<m) (hmb:m<=b) {v:Int} (hv:D[a]? =some v) (s:Sor ρ D m b):
 ∃i:Nat,qf D (a:Int) x1 x2 x3 N (m:Int) (b:Int)=some (i:Int)/\m<=i/\i<=b/\(∀k x,m<=k->k<i->D[k]? =some x->ρ v<ρ x)/\ ∀k x,i<=k->k<b->D[k]? =some x-> ¬ρ v<ρ x:=by
 obtain⟨r,r1,r2,r3,r4,r5⟩:=bsg (p:=fun k=>decide (ρ v<ρ ((D[k]?).getD 0))) (L:=qf D (a:Int) x1 x2 x3) (A:=m) (B:=b) (fun K lo hi h1 h2 h3=>by
  have hk:(lo+hi)/2<D.length:=by omega
  have hx:D[(lo+hi)/2]? =some D[(lo+hi)/2]:=Ya hk
  obtain⟨c,c1,c2⟩:=hc D[(lo+hi)/2] v (hV _ (List.getElem_mem hk)) (hV _ (Yn hv))
  conv=>lhs;unfold qf
  rw[if_pos (by omega),qat (by omega) (by omega),qU,hx,ZB,qU,hv,ZB,c1,ZB,jP (by omega)]
  simp only[YN]
  by_cases d:ρ v<ρ D[(lo+hi)/2]
  ·rw[decide_eq_true d]at c2
   rw[if_pos (of_decide_eq_true c2),ZB,if_pos (decide_eq_true d)]
  ·rw[decide_eq_false d]at c2
   rw[if_neg (of_decide_eq_false c2),ZB,if_neg (by simp;omega)]) (fun K lo=>by
  unfold qf
  rw[if_neg (Int.lt_irrefl _)]) (fun c d h1 h2 h3 h4=>by
  have hx:D[c]? =some D[c]:=Ya (by omega)
  have hy:D[d]? =some D[d]:=Ya (by omega)
  have:=(s c d _ _ h1 h2 h3 hx hy).le
  rw[hy]at h4
  rw[hx]
  have h4:=of_decide_eq_true h4
  simp only[YN]at h4⊢
  exact decide_eq_true (by omega)) N m b (Nat.le_refl _) hmb (Nat.le_refl _) (by omega) (fun c h1 h2=>by omega) (fun c h1 h2=>by omega)
 refine⟨r,r1,r2,r3,fun k x h1 h2 hx=>?_,fun k x h1 h2 hx=>?_⟩
 ·have:=r4 k h1 h2
  rw[hx]at this
  exact of_decide_eq_true this
 have:=r5 k h1 h2
 rw[hx]at this
 exact of_decide_eq_false this
theorem find2 {N a m:Nat} (hN:2000<N) (hc:qaU V ρ x1 x2 x3) {D:List Int} (hD:D.length<=1000) (hV: ∀x∈D,V x) (ham:a<=m) {v:Int} (hv:D[m]? =some v) (s:Sor ρ D a m):
 ∃i:Nat,qh D (m:Int) x1 x2 x3 N (a:Int) (m:Int)=some (i:Int)/\a<=i/\i<=m/\(∀k x,a<=k->k<i->D[k]? =some x-> ¬ρ x<ρ v)/\ ∀k x,i<=k->k<m->D[k]? =some x->ρ x<ρ v:=by
 have hm:=(Yb.1 hv).1
 obtain⟨r,r1,r2,r3,r4,r5⟩:=bsg (p:=fun k=>!decide (ρ ((D[k]?).getD 0)<ρ v)) (L:=qh D (m:Int) x1 x2 x3) (A:=a) (B:=m) (fun K lo hi h1 h2 h3=>by
  have hk:(lo+hi)/2<D.length:=by omega
  have hx:D[(lo+hi)/2]? =some D[(lo+hi)/2]:=Ya hk
  obtain⟨c,c1,c2⟩:=hc v D[(lo+hi)/2] (hV _ (Yn hv)) (hV _ (List.getElem_mem hk))
  conv=>lhs;unfold qh
  rw[if_pos (by omega),qat (by omega) (by omega),qU,hv,ZB,qU,hx,ZB,c1,ZB,jP (by omega),c2]
  simp only[YN]
  by_cases d:ρ D[(lo+hi)/2]<ρ v
  ·rw[if_neg (by simp[d]),ZB,if_neg (by simp[d])]
  ·rw[if_pos (by simp[d]),ZB,if_pos (by simp[d])]) (fun K lo=>by
  unfold qh
  rw[if_neg (Int.lt_irrefl _)]) (fun c d h1 h2 h3 h4=>by
  have hx:D[c]? =some D[c]:=Ya (by omega)
  have hy:D[d]? =some D[d]:=Ya (by omega)
  have:=(s c d _ _ h1 h2 h3 hx hy).le
  rw[hy]at h4
  rw[hx]
  simp only[YN,Bool.not_eq_true',decide_eq_false_iff_not]at h4⊢
  omega) N a m (Nat.le_refl _) ham (Nat.le_refl _) (by omega) (fun c h1 h2=>by omega) (fun c h1 h2=>by omega)
 refine⟨r,r1,r2,r3,fun k x h1 h2 hx=>?_,fun k x h1 h2 hx=>?_⟩
 ·have:=r4 k h1 h2
  rw[hx]at this
  simpa using this
 have:=r5 k h1 h2
 rw[hx]at this
 simpa using this
theorem find4 {N a m b n s0 r0:Nat} (hN:2000<N) (hc:qaU V ρ x1 x2 x3) {D:List Int} (hD:D.length<=1000) (hV: ∀x∈D,V x) (hb:b<=D.length) (sL:Sor ρ D a m) (sR:Sor ρ D m b) (h0:a<=s0) (h1:n<=s0+b) (h2:r0<=m) (h3:r0+m<=n) (h4:s0<=r0) (hn:n=(a+b)/2+m) (ham:a<=m) (hmb:m<=b):
 ∃s:Nat,qg D (a:Int) (m:Int) (b:Int) x1 x2 x3 N (s0:Int) (r0:Int)=some (s:Int)/\s0<=s/\s<=r0/\(∀c x y,s0<=c->c<s->D[c]? =some x->D[n-1-c]? =some y-> ¬ρ x<ρ y)/\ ∀c x y,s<=c->c<r0->D[c]? =some x->D[n-1-c]? =some y->ρ x<ρ y:=by
 obtain⟨r,r1,r2,r3,r4,r5⟩:=bsg (p:=fun k=>!decide (ρ ((D[k]?).getD 0)<ρ ((D[n-1-k]?).getD 0))) (L:=qg D (a:Int) (m:Int) (b:Int) x1 x2 x3) (A:=s0) (B:=r0) (fun K lo hi g1 g2 g3=>by
  have hk:(lo+hi)/2<D.length:=by omega
  have hk2:n-1-(lo+hi)/2<D.length:=by omega
  have hx:D[(lo+hi)/2]? =some D[(lo+hi)/2]:=Ya hk
  have hy:D[n-1-(lo+hi)/2]? =some D[n-1-(lo+hi)/2]:=Ya hk2
  obtain⟨c,c1,c2⟩:=hc D[n-1-(lo+hi)/2] D[(lo+hi)/2] (hV _ (List.getElem_mem hk2)) (hV _ (List.getElem_mem hk))
  conv=>lhs;unfold qg
  rw[if_pos (by omega),qat (i:=a) (j:=b) (by omega) (by omega),qat (i:=lo) (j:=hi) (by omega) (by omega),qM (n:=(((a+b)/2:Nat):Int)+m) (by omega) (by omega),show(((a+b)/2:Nat):Int)+m=(n:Int)by omega,qM (n:=(n:Int)-1) (by omega) (by omega),qM (n:=(n:Int)-1-_) (by omega) (by omega),show(n:Int)-1-(((lo+hi)/2:Nat):Int)=((n-1-(lo+hi)/2:Nat):Int)by omega,qU,hy,ZB,qU,hx,ZB,c1,ZB,jP (by omega),c2]
  simp only[hx,hy,YN]
  by_cases d:ρ D[(lo+hi)/2]<ρ D[n-1-(lo+hi)/2]
  ·rw[if_neg (by simp[d]),ZB,if_neg (by simp[d])]
  ·rw[if_pos (by simp[d]),ZB,if_pos (by simp[d])]) (fun K lo=>by
  unfold qg
  rw[if_neg (Int.lt_irrefl _)]) (fun c d g1 g2 g3 g4=>by
  have hx:D[c]? =some D[c]:=Ya (by omega)
  have hy:D[d]? =some D[d]:=Ya (by omega)
  have hx2:D[n-1-c]? =some D[n-1-c]:=Ya (by omega)
  have hy2:D[n-1-d]? =some D[n-1-d]:=Ya (by omega)
  have e1:=(sL c d _ _ (by omega) g2 (by omega) hx hy).le
  have e2:=(sR (n-1-d) (n-1-c) _ _ (by omega) (by omega) (by omega) hy2 hx2).le
  rw[hy,hy2]at g4
  rw[hx,hx2]
  simp only[YN,Bool.not_eq_true',decide_eq_false_iff_not]at g4⊢
  omega) N s0 r0 (Nat.le_refl _) h4 (Nat.le_refl _) (by omega) (fun c h1 h2=>by omega) (fun c h1 h2=>by omega)
 refine⟨r,r1,r2,r3,fun c x y h1 h2 hx hy=>?_,fun c x y h1 h2 hx hy=>?_⟩
 ·have:=r4 c h1 h2
  rw[hx,hy]at this
  simpa using this
 have:=r5 c h1 h2
 rw[hx,hy]at this
 simpa using this
end
end Go.Av
end
section
namespace Go.Av
open Go.Proofs Go.RowKit
variable [Glob]
section
variable {V:Int->Prop} {ρ:Int->Int} {x1:Int} {x2:List Int} {x3:Int}
structure Cut (ρ:Int->Int) (D:List Int) (a s m e b:Nat):Prop where
 h1:a<=s/\s<=m/\m<=e/\e<=b
 sL:Sor ρ D a m
 sR:Sor ρ D m b
 cr:Crs D a m b
 lo: ∀i j x y,a<=i->i<s->e<=j->j<b->D[i]? =some x->D[j]? =some y->LTm ρ x y
 hi: ∀i j x y,s<=i->i<m->m<=j->j<e->D[i]? =some x->D[j]? =some y->LTm ρ y x
theorem qfV {s m e k:Nat} (h:k<s):rot s m e k=k:=by
 unfold rot
 rw[if_neg (by omega),if_neg (by omega)]
theorem qeX {s m e k:Nat} (h:s<=k/\k<s+(e-m)):rot s m e k=k-s+m:=by
 unfold rot
 rw[if_pos h]
theorem qfD {s m e k:Nat} (h:s+(e-m)<=k/\k<e):rot s m e k=k-(e-m):=by
 unfold rot
 rw[if_neg (by omega),if_pos h]
theorem qfT {s m e k:Nat} (h:e<=k) (h2:s<=m) (h3:m<=e):rot s m e k=k:=by
 unfold rot
 rw[if_neg (by omega),if_neg (by omega)]
theorem qaI {D E:List Int} {a s m e b:Nat} (c:Cut ρ D a s m e b) (hb:b<=D.length) (mv:Mv a b (rot s m e) D E):
 Sor ρ E a s/\Sor ρ E s (s+(e-m))/\Sor ρ E (s+(e-m)) e/\Sor ρ E e b/\Crs E a s (s+(e-m))/\Crs E (s+(e-m)) e b/\
  ∀i j x y,a<=i->i<s+(e-m)->s+(e-m)<=j->j<b->E[i]? =some x->E[j]? =some y->LTm ρ x y:=by
 obtain⟨⟨h1,h2,h3,h4⟩,sL,sR,cr,lo,hi⟩:=c
 have at1: ∀k x,k<s->E[k]? =some x->D[k]? =some x:=fun k x h hx=>by
  rw[mv.at_ k (by omega),qfV h]at hx;exact hx
 have at2: ∀k x,s<=k->k<s+(e-m)->E[k]? =some x->D[k-s+m]? =some x:=fun k x h g hx=>by
  rw[mv.at_ k (by omega),qeX ⟨h,g⟩]at hx;exact hx
 have at3: ∀k x,s+(e-m)<=k->k<e->E[k]? =some x->D[k-(e-m)]? =some x:=fun k x h g hx=>by
  rw[mv.at_ k (by omega),qfD ⟨h,g⟩]at hx;exact hx
 have at4: ∀k x,e<=k->k<b->E[k]? =some x->D[k]? =some x:=fun k x h g hx=>by
  rw[mv.at_ k (by omega),qfT h h2 h3]at hx;exact hx
 refine⟨?_,?_,?_,?_,?_,?_,?_⟩
 ·intro i j x y g1 g2 g3 hx hy
  exact sL i j x y g1 g2 (by omega) (at1 i x (by omega) hx) (at1 j y (by omega) hy)
 ·intro i j x y g1 g2 g3 hx hy
  exact sR _ _ x y (by omega) (by omega) (by omega) (at2 i x (by omega) (by omega) hx) (at2 j y (by omega) (by omega) hy)
 ·intro i j x y g1 g2 g3 hx hy
  exact sL _ _ x y (by omega) (by omega) (by omega) (at3 i x (by omega) (by omega) hx) (at3 j y (by omega) (by omega) hy)
 ·intro i j x y g1 g2 g3 hx hy
  exact sR _ _ x y (by omega) (by omega) (by omega) (at4 i x (by omega) (by omega) hx) (at4 j y (by omega) (by omega) hy)
 ·intro i j x y g1 g2 g3 g4 hx hy
  exact cr _ _ x y (by omega) (by omega) (by omega) (by omega) (at1 i x (by omega) hx) (at2 j y (by omega) (by omega) hy)
 ·intro i j x y g1 g2 g3 g4 hx hy
  exact cr _ _ x y (by omega) (by omega) (by omega) (by omega) (at3 i x (by omega) (by omega) hx) (at4 j y (by omega) (by omega) hy)
 intro i j x y g1 g2 g3 g4 hx hy
 by_cases c1:i<s
 ·by_cases c2:j<e
  ·exact sL _ _ x y (by omega) (by omega) (by omega) (at1 i x c1 hx) (at3 j y g3 c2 hy)
  exact lo i j x y g1 c1 (by omega) g4 (at1 i x c1 hx) (at4 j y (by omega) g4 hy)
 by_cases c2:j<e
 ·exact hi _ _ y x (by omega) (by omega) (by omega) (by omega) (at3 j y g3 c2 hy) (at2 i x (by omega) (by omega) hx)
 exact sR _ _ x y (by omega) (by omega) (by omega) (at2 i x (by omega) (by omega) hx) (at4 j y (by omega) g4 hy)
theorem qd5 {s e k:Nat} (h:s<=e):rot s s e k=k:=by
 unfold rot
 repeat' split
 all_goals omega
theorem qdT {s m k:Nat} (h:s<=m):rot s m m k=k:=by
 unfold rot
 repeat' split
 all_goals omega
theorem qad {lo hi:Nat} {D E:List Int} (hV: ∀x∈D,V x) (m:Mx lo hi D E): ∀x∈E,V x:=fun x hx=>hV x (m.per.mem_iff.1 hx)
theorem symM {N:Nat} (hN:2000<N) (hc:qaU V ρ x1 x2 x3): ∀(K a m b:Nat) (D:List Int),a<m->m<b->b<=D.length->D.length<=1000->b-a<=K->(∀x∈D,V x)->Sor ρ D a m->Sor ρ D m b->Crs D a m b->
 ∃F,qm N K D (a:Int) (m:Int) (b:Int) x1 x2 x3=some F/\Mx a b D F/\Sor ρ F a b
 |0,a,m,b,D,ham,hmb,hb,hD,hK,hV,sL,sR,cr=>by omega
 |K+1,a,m,b,D,ham,hmb,hb,hD,hK,hV,sL,sR,cr=>by
  unfold qm ze
  rw[qM (n:=(m:Int)-a) (by omega) (by omega)]
  by_cases c1:m=a+1
  ·
   have hva:D[a]? =some D[a]:=Ya (by omega)
   obtain⟨i,i1,i2,i3,i4,i5⟩:=find0 hN hc hD hV hb ham (by omega) hva sR
   obtain⟨F,f1,f2⟩:=qcw (a:=a) (i:=i) hD (by omega) N a D (Nat.le_refl _) (by omega) (by omega) ((Mv.id _ _ D).congr fun k=>(qdT (by omega)).symm)
   rw[if_pos (by omega),i1,ZB,f1,ZB]
   have f3:Mv a b (rot a m i) D F:=by
    rw[c1]
    exact f2.wide (Nat.le_refl _) i3
   refine⟨F,rfl,⟨_,f3⟩,?_⟩
   have hcut:Cut ρ D a a m i b:=⟨⟨Nat.le_refl _,by omega,i2,i3⟩,sL,sR,cr,fun p q x y g1 g2=>by omega,fun p q x y g1 g2 g3 g4 hx hy=>by
    have e:p=a:=by omega
    subst e
    rw[hva]at hx
    obtain rfl:=Ye hx
    exact .inl (i4 q y g3 g4 hy)⟩
   obtain⟨p1,p2,p3,p4,p5,p6,p7⟩:=qaI hcut hb f3
   have hm:a+(i-m)+1=i:=by omega
   refine vQ (m:=a+(i-m)) p2 (vQ (m:=i) p3 p4 fun p q x y g1 g2 g3 g4 hx hy=>?_) p7
   have hx2:D[a]? =some x:=by
    rw[f3.at_ p (by omega),qfD ⟨g1,g2⟩,show p-(i-m)=a by omega]at hx;exact hx
   have hy2:D[q]? =some y:=by
    rw[f3.at_ q (by omega),qfT g3 (by omega) i2]at hy;exact hy
   rw[hva]at hx2
   obtain rfl:=Ye hx2
   have n1:=i5 q y g3 g4 hy2
   have n2:=cr a q _ y (Nat.le_refl _) (by omega) (by omega) g4 hva hy2
   unfold LTm
   omega
  rw[if_neg (by omega),qM (n:=(b:Int)-m) (by omega) (by omega)]
  by_cases c2:b=m+1
  ·
   have hvm:D[m]? =some D[m]:=Ya (by omega)
   obtain⟨i,i1,i2,i3,i4,i5⟩:=find2 hN hc hD hV (by omega) hvm sL
   obtain⟨F,f1,f2⟩:=qcR (i:=i) (m:=m) hD (by omega) i3 N m D i3 (Nat.le_refl _) (by omega) ((Mv.id _ _ D).congr fun k=>(qd5 (by omega)).symm)
   rw[if_pos (by omega),i1,ZB,f1,ZB]
   have f3:Mv a b (rot i m b) D F:=by
    rw[c2]
    exact f2.wide i2 (Nat.le_refl _)
   refine⟨F,rfl,⟨_,f3⟩,?_⟩
   have hcut:Cut ρ D a i m b b:=⟨⟨i2,i3,by omega,Nat.le_refl _⟩,sL,sR,cr,fun p q x y g1 g2 g3 g4=>by omega,fun p q x y g1 g2 g3 g4 hx hy=>by
    have e:q=m:=by omega
    subst e
    rw[hvm]at hy
    obtain rfl:=Ye hy
    exact .inl (i5 p x g1 g2 hx)⟩
   obtain⟨p1,p2,p3,p4,p5,p6,p7⟩:=qaI hcut hb f3
   refine vQ (m:=i+(b-m)) (vQ (m:=i) p1 p2 fun p q x y g1 g2 g3 g4 hx hy=>?_) p3 p7
   have hx2:D[p]? =some x:=by
    rw[f3.at_ p (by omega),qfV g2]at hx;exact hx
   have hy2:D[m]? =some y:=by
    rw[f3.at_ q (by omega),qeX ⟨g3,g4⟩,show q-i+m=m by omega]at hy;exact hy
   have n2:=cr p m x y g1 (by omega) (Nat.le_refl _) (by omega) hx2 hy2
   rw[hvm]at hy2
   obtain rfl:=Ye hy2
   have n1:=i4 p x g1 g2 hx2
   unfold LTm
   omega
  rw[if_neg (by omega)]
  obtain⟨mid,hmid⟩: ∃mid,mid=(a+b)/2:=⟨_,rfl⟩
  obtain⟨n,hn⟩: ∃n,n=mid+m:=⟨_,rfl⟩
  obtain⟨s0,hs0⟩: ∃s0,s0=if m>mid then n-b else a:=⟨_,rfl⟩
  obtain⟨r0,hr0⟩: ∃r0,r0=if m>mid then mid else m:=⟨_,rfl⟩
  have hH:w64 (qj .u64 (IntKind.wrap .u64 (w64 ((a:Int)+b))) 1)=(mid:Int):=by rw[qat (by omega) (by omega),hmid]
  have hHn:w64 ((mid:Int)+m)=(n:Int):=by rw[qM (by omega) (by omega)];omega
  rw[hH,hHn]
  have hA:(if(m:Int)>(mid:Int)then some (w64 ((n:Int)-b),(mid:Int))else some ((a:Int),(m:Int)):Option (Int×Int))=some ((s0:Int),(r0:Int)):=by
   by_cases q:m>mid
   ·rw[if_pos q]at hs0 hr0
    rw[if_pos (by omega),qM (by omega) (by omega),hs0,hr0,show((n-b:Nat):Int)=(n:Int)-b by omega]
   rw[if_neg q]at hs0 hr0
   rw[if_neg (by omega),hs0,hr0]
  have hbd:a<=s0/\n<=s0+b/\r0<=m/\r0+m<=n/\s0<=r0:=by
   by_cases q:m>mid
   ·rw[if_pos q]at hs0 hr0;omega
   rw[if_neg q]at hs0 hr0;omega
  rw[hA,ZB]
  simp only
  obtain⟨s,s1,s2,s3,s4,s5⟩:=find4 hN hc hD hV hb sL sR hbd.1 hbd.2.1 hbd.2.2.1 hbd.2.2.2.1 hbd.2.2.2.2 (by omega) (by omega) (by omega)
  obtain⟨e,he⟩: ∃e,e=n-s:=⟨_,rfl⟩
  rw[s1,ZB,qM (n:=(n:Int)-s) (by omega) (by omega),show((n:Int)-s)=(e:Int)by omega]
  have hle:a<=s/\s<=m/\m<=e/\e<=b:=by omega
  have hmd:s+(e-m)=mid:=by omega
  have hcut:Cut ρ D a s m e b:=by
   refine⟨hle,sL,sR,cr,fun i j x y g1 g2 g3 g4 hx hy=>?_,fun i j x y g1 g2 g3 g4 hx hy=>?_⟩
   ·by_cases z:s0<s
    ·have hx2:D[s-1]? =some D[s-1]:=Ya (by omega)
     have hy2:D[e]? =some D[e]:=Ya (by omega)
     have n1:=s4 (s-1) _ _ (by omega) (by omega) hx2 (by rw[show n-1-(s-1)=e by omega];exact hy2)
     have n2:=sL.le (i:=i) (j:=s-1) g1 (by omega) (by omega) hx hx2
     have n3:=sR.le (i:=e) (j:=j) (by omega) g3 g4 hy2 hy
     have n4:=cr i j x y g1 (by omega) (by omega) g4 hx hy
     unfold LTm
     omega
    exfalso
    by_cases q:m>mid
    ·rw[if_pos q]at hs0;omega
    rw[if_neg q]at hs0;omega
   by_cases z:s<r0
   ·have hx2:D[s]? =some D[s]:=Ya (by omega)
    have hy2:D[e-1]? =some D[e-1]:=Ya (by omega)
    have n1:=s5 s _ _ (Nat.le_refl _) z hx2 (by rw[show n-1-s=e-1 by omega];exact hy2)
    have n2:=sL.le (i:=s) (j:=i) (by omega) g1 g2 hx2 hx
    have n3:=sR.le (i:=j) (j:=e-1) g3 (by omega) (by omega) hy hy2
    exact .inl (by omega)
   exfalso
   by_cases q:m>mid
   ·rw[if_pos q]at hr0;omega
   rw[if_neg q]at hr0;omega
  have hbool: ∀(p q:Int) (u v:Int),(if p<q then some (decide (u<v))else some false:Option Bool)=some (decide (p<q/\u<v)):=by
   intro p q u v
   by_cases z:p<q
   ·rw[if_pos z]
    congr 1
    exact decide_eq_decide.2 ⟨fun h=>⟨z,h⟩,fun h=>h.2⟩
   rw[if_neg z,decide_eq_false (fun h=>z h.1)]
  obtain⟨E,e1,e2⟩: ∃E,(if decide ((s:Int)<m/\(m:Int)<e)=true then(qQ N D (s:Int) (m:Int) (e:Int) x1 x2 x3).bind fun l74=>((if D.length=l74.length then some ()else none:Option Unit)).bind fun u75=>some l74 else some D:Option (List Int))=some E/\Mv a b (rot s m e) D E:=by
   by_cases z:s<m/\m<e
   ·obtain⟨E,r1,r2⟩:=qhp hN hD z.1 z.2 (by omega) x1 x2 x3
    refine⟨E,?_,r2.wide hle.1 hle.2.2.2⟩
    rw[if_pos (decide_eq_true (by omega)),r1,ZB,if_pos r2.len.symm,ZB]
   refine⟨D,by rw[if_neg (by simp;omega)],(Mv.id _ _ D).congr fun k=>?_⟩
   by_cases y:s=m
   ·rw[y,qd5 (by omega)]
   rw[show e=m by omega,qdT (by omega)]
  obtain⟨p1,p2,p3,p4,p5,p6,p7⟩:=qaI hcut hb e2
  rw[hmd]at p2 p3 p5 p6 p7
  have hEl:=e2.len
  have hVE:=qad hV ⟨_,e2⟩
  obtain⟨F,f1,f2,f3⟩: ∃F,(if decide ((a:Int)<s/\(s:Int)<mid)=true then(qm N K E (a:Int) (s:Int) (mid:Int) x1 x2 x3).bind fun l83=>((if E.length=l83.length then some ()else none:Option Unit)).bind fun u84=>some l83 else some E:Option (List Int))=some F/\Mx a mid E F/\Sor ρ F a mid:=by
   by_cases z:a<s/\s<mid
   ·obtain⟨F,r1,r2,r3⟩:=symM hN hc K a s mid E z.1 z.2 (by omega) (by omega) (by omega) hVE p1 p2 p5
    refine⟨F,?_,r2,r3⟩
    rw[if_pos (decide_eq_true (by omega)),r1,ZB,if_pos r2.len.symm,ZB]
   refine⟨E,by rw[if_neg (by simp;omega)],Mx.refl _ _ _,?_⟩
   by_cases y:s=a
   ·rw[y]at p2;exact p2
   exact p1.sub (Nat.le_refl _) (by omega)
  have hFl:=f2.len
  have hVF:=qad hVE f2
  have same1: ∀k,mid<=k->k<b->F[k]? =E[k]? :=fun k g1 g2=>f2.out (by omega)
  have p3':Sor ρ F mid e:=p3.same fun k g1 g2=>same1 k g1 (by omega)
  have p4':Sor ρ F e b:=p4.same fun k g1 g2=>same1 k (by omega) g2
  have p6':Crs F mid e b:=p6.same same1
  obtain⟨G,g1,g2,g3⟩: ∃G,(if decide ((mid:Int)<e/\(e:Int)<b)=true then(qm N K F (mid:Int) (e:Int) (b:Int) x1 x2 x3).bind fun l92=>((if F.length=l92.length then some ()else none:Option Unit)).bind fun u93=>some l92 else some F:Option (List Int))=some G/\Mx mid b F G/\Sor ρ G mid b:=by
   by_cases z:mid<e/\e<b
   ·obtain⟨G,r1,r2,r3⟩:=symM hN hc K mid e b F z.1 z.2 (by omega) (by omega) (by omega) hVF p3' p4' p6'
    refine⟨G,?_,r2,r3⟩
    rw[if_pos (decide_eq_true (by omega)),r1,ZB,if_pos r2.len.symm,ZB]
   refine⟨F,by rw[if_neg (by simp;omega)],Mx.refl _ _ _,?_⟩
   by_cases y:e=mid
   ·rw[y]at p4';exact p4'
   exact p3'.sub (Nat.le_refl _) (by omega)
  rw[hbool,ZB,e1,ZB,hbool,ZB,f1,ZB,hbool,ZB,g1,ZB]
  refine⟨G,rfl,?_,?_⟩
  ·exact(Mx.trans hb ⟨_,e2⟩ (Mx.trans (by omega) (f2.wide (Nat.le_refl _) (by omega)) (g2.wide (by omega) (Nat.le_refl _))))
  refine vQ (m:=mid) (f3.same fun k q1 q2=>g2.out (by omega)) g3 fun i j x y q1 q2 q3 q4 hx hy=>?_
  rw[g2.out (by omega)]at hx
  obtain⟨i',i1,i2,hx'⟩:=f2.inn q1 q2 hx
  obtain⟨j',j1,j2,hy'⟩:=g2.inn q3 q4 hy
  rw[same1 j' j1 j2]at hy'
  exact p7 i' j' x y i1 i2 j1 j2 hx' hy'
end
end Go.Av
end
section
namespace Go.Av
open Go.Proofs Go.RowKit
variable [Glob]
section
variable {V:Int->Prop} {ρ:Int->Int} {x1:Int} {x2:List Int} {x3:Int}
structure Ins (ρ:Int->Int) (E:List Int) (a j i:Nat) (v:Int):Prop where
 b:a<=j/\j<=i/\i<E.length
 at_:E[j]? =some v
 s1:Sor ρ E a j
 s2:Sor ρ E (j+1) (i+1)
 s3: ∀p q x y,a<=p->p<j->j<q->q<=i->E[p]? =some x->E[q]? =some y->LTm ρ x y
 s4: ∀q y,j<q->q<=i->E[q]? =some y->LTm ρ v y
 s5: ∀p x,a<=p->p<j->E[p]? =some x->x<v
theorem qgS {a i:Nat} (hc:qaU V ρ x1 x2 x3) {v:Int}: ∀(K j:Nat) (E:List Int),E.length<=1000->(∀x∈E,V x)->j<K->Ins ρ E a j i v->
 ∃F,ql (a:Int) x1 x2 x3 K E (j:Int)=some F/\Mx a (i+1) E F/\Sor ρ F a (i+1)
 |0,j,E,hE,hV,hK,S=>by omega
 |K+1,j,E,hE,hV,hK,S=>by
  unfold ql
  obtain⟨b1,b2,b3⟩:=S.b
  by_cases c:a<j
  ·have hj:E[j]? =some v:=S.at_
   have hw:E[j-1]? =some E[j-1]:=Ya (by omega)
   generalize hww:E[j-1]=w at hw
   obtain⟨q,q1,q2⟩:=hc v w (hV _ (Yn hj)) (hV _ (Yn hw))
   rw[if_pos (by omega),qM (n:=(j:Int)-1) (by omega) (by omega),show((j:Int)-1)=((j-1:Nat):Int)by omega,qU,hj,ZB,qU,hw,ZB,q1,ZB,ZB,q2]
   by_cases d:ρ w<ρ v
   ·rw[if_pos (decide_eq_true d),ZB,ZB,ve (by omega),ZB,qU,List.getElem?_set_ne (by omega),hw,ZB,ve (by rw[Yk];omega),ZB]
    have m:=qa2 (lo:=a) (hi:=i+1) hj hw (by omega) (by omega)
    have hat: ∀k,k<E.length->((E.set j w).set (j-1) v)[k]? =E[if k=j then j-1 else if k=j-1 then j else k]? :=m.at_
    have hne: ∀k x,k<E.length->k≠j->k≠j-1->((E.set j w).set (j-1) v)[k]? =some x->E[k]? =some x:=fun k x h1 h2 h3 hx=>by
     rw[hat k h1,if_neg h2,if_neg h3]at hx;exact hx
    have hatj:((E.set j w).set (j-1) v)[j]? =some w:=by rw[hat j (by omega),if_pos rfl];exact hw
    have hatj1:((E.set j w).set (j-1) v)[j-1]? =some v:=by rw[hat (j-1) (by omega),if_neg (by omega),if_pos rfl];exact hj
    have S':Ins ρ ((E.set j w).set (j-1) v) a (j-1) i v:=by
     refine⟨⟨by omega,by omega,by simpa using b3⟩,hatj1,?_,?_,?_,?_,?_⟩
     ·intro p r x y g1 g2 g3 hx hy
      exact S.s1 p r x y g1 g2 (by omega) (hne p x (by omega) (by omega) (by omega) hx) (hne r y (by omega) (by omega) (by omega) hy)
     ·intro p r x y g1 g2 g3 hx hy
      have hy':=hne r y (by omega) (by omega) (by omega) hy
      by_cases z:p=j
      ·subst z
       rw[hatj]at hx
       obtain rfl:=Ye hx
       exact S.s3 (p-1) r _ y (by omega) (by omega) g2 (by omega) hw hy'
      exact S.s2 p r x y (by omega) g2 g3 (hne p x (by omega) z (by omega) hx) hy'
     ·intro p r x y g1 g2 g3 g4 hx hy
      have hx':=hne p x (by omega) (by omega) (by omega) hx
      by_cases z:r=j
      ·subst z
       rw[hatj]at hy
       obtain rfl:=Ye hy
       exact S.s1 p (r-1) x _ g1 g2 (by omega) hx' hw
      exact S.s3 p r x y g1 (by omega) (by omega) g4 hx' (hne r y (by omega) z (by omega) hy)
     ·intro r y g1 g2 hy
      by_cases z:r=j
      ·subst z
       rw[hatj]at hy
       obtain rfl:=Ye hy
       exact .inl d
      exact S.s4 r y (by omega) g2 (hne r y (by omega) z (by omega) hy)
     intro p x g1 g2 hx
     exact S.s5 p x g1 (by omega) (hne p x (by omega) (by omega) (by omega) hx)
    obtain⟨F,f1,f2,f3⟩:=qgS hc K (j-1) _ (by simpa using hE) (qad hV ⟨_,m⟩) (by omega) S'
    exact⟨F,f1,Mx.trans (by omega) ⟨_,m⟩ f2,f3⟩
   rw[if_neg (by simp[d])]
   refine⟨E,rfl,Mx.refl _ _ _,?_⟩
   have hv: ∀p x,a<=p->p<j->E[p]? =some x->LTm ρ x v:=fun p x g1 g2 hx=>by
    have h1:=S.s1.le (i:=p) (j:=j-1) g1 (by omega) (by omega) hx hw
    have h2:=S.s5 p x g1 g2 hx
    unfold LTm
    omega
   refine vQ (m:=j) S.s1 (vQ (m:=j+1) (Ul (Nat.le_refl _)) S.s2 fun p r x y g1 g2 g3 g4 hx hy=>?_) fun p r x y g1 g2 g3 g4 hx hy=>?_
   ·have e:p=j:=by omega
    subst e
    rw[hj]at hx
    obtain rfl:=Ye hx
    exact S.s4 r y (by omega) (by omega) hy
   by_cases z:r=j
   ·subst z
    rw[hj]at hy
    obtain rfl:=Ye hy
    exact hv p x g1 g2 hx
   exact S.s3 p r x y g1 g2 (by omega) (by omega) hx hy
  rw[if_neg (by omega),ZB,if_neg (by decide)]
  refine⟨E,rfl,Mx.refl _ _ _,?_⟩
  have e:j=a:=by omega
  subst e
  refine vQ (m:=j+1) (Ul (Nat.le_refl _)) S.s2 fun p r x y g1 g2 g3 g4 hx hy=>?_
  have e:p=j:=by omega
  subst e
  rw[S.at_]at hx
  obtain rfl:=Ye hx
  exact S.s4 r y (by omega) (by omega) hy
def Asc (D:List Int) (lo hi:Nat):Prop:= ∀i j x y,lo<=i->i<j->j<hi->D[i]? =some x->D[j]? =some y->x<y
theorem qd1 {N a b:Nat} (hN:2000<N) (hc:qaU V ρ x1 x2 x3) {D:List Int} (hD:D.length<=1000) (hV: ∀x∈D,V x) (hb:b<=D.length) (hA:Asc D a b): ∀(K i:Nat) (E:List Int),a<i->i<=b->b<K+i->Mx a i D E->Sor ρ E a i->
 ∃F,qc N (a:Int) (b:Int) x1 x2 x3 K E (i:Int)=some F/\Mx a b D F/\Sor ρ F a b
 |0,i,E,h1,h2,hK,m,s=>by omega
 |K+1,i,E,h1,h2,hK,m,s=>by
  unfold qc
  have hl:=m.len
  by_cases c:i<b
  ·have hv:E[i]? =some E[i]:=Ya (by omega)
   have hvD:D[i]? =some E[i]:=by rw[<-m.out (k:=i) (by omega)];exact hv
   have S:Ins ρ E a i i E[i]:=⟨⟨by omega,Nat.le_refl _,by omega⟩,hv,s,Ul (by omega),fun p q x y _ _ g1 g2=>by omega,fun q y g1 g2=>by omega,fun p x g1 g2 hx=>by
    obtain⟨p',q1,q2,hx'⟩:=m.inn g1 g2 hx
    exact hA p' i x _ q1 q2 c hx' hvD⟩
   obtain⟨F,f1,f2,f3⟩:=qgS hc N i E (by omega) (qad hV m) (by omega) S
   rw[if_pos (by omega),f1,ZB,jP (by omega)]
   exact qd1 hN hc hD hV hb hA K (i+1) F (by omega) (by omega) (by omega) (Mx.trans (by omega) (m.wide (Nat.le_refl _) (by omega)) f2) f3
  have e:i=b:=by omega
  subst e
  rw[if_neg (by omega)]
  exact⟨E,rfl,m,s⟩
theorem qc9 {N a b:Nat} (hN:2000<N) (hc:qaU V ρ x1 x2 x3) {D:List Int} (hD:D.length<=1000) (hV: ∀x∈D,V x) (hb:b<=D.length) (hA:Asc D a b) (hab:a<=b): ∃F,qz N D (a:Int) (b:Int) x1 x2 x3=some F/\Mx a b D F/\Sor ρ F a b:=by
 unfold qz
 rw[jP (by omega)]
 by_cases c:a<b
 ·obtain⟨F,f1,f2,f3⟩:=qd1 hN hc hD hV hb hA N (a+1) D (by omega) (by omega) (by omega) (Mx.refl _ _ _) (Ul (Nat.le_refl _))
  rw[f1,ZB]
  exact⟨F,rfl,f2,f3⟩
 obtain⟨n,rfl⟩: ∃n,N=n+1:=⟨N-1,by omega⟩
 have:qc (n+1) (a:Int) (b:Int) x1 x2 x3 (n+1) D ((a+1:Nat):Int)=some D:=by
  unfold qc
  rw[if_neg (by omega)]
 rw[this,ZB]
 exact⟨D,rfl,Mx.refl _ _ _,Ul (by omega)⟩
end
end Go.Av
end
section
namespace Go.Av
open Go.Proofs Go.RowKit
variable [Glob]
section
variable {V:Int->Prop} {ρ:Int->Int} {x1:Int} {x2:List Int} {x3:Int}
theorem qck {t a c:Nat} (h1:t∣c) (h2:t∣a) (h:a<c):a+t<=c:=by
 obtain⟨i,rfl⟩:=h1
 obtain⟨j,rfl⟩:=h2
 have:j<i:=by
  rcases Nat.lt_or_ge j i with h'|h'
  ·exact h'
  have:=Nat.mul_le_mul_left t h'
  omega
 have:=Nat.mul_le_mul_left t (show j+1<=i from this)
 rw[Nat.mul_succ]at this
 exact this
theorem qak {E F:List Int} {a b c n:Nat} (m:Mx a b E F) (hb:b<=n) (h:c<=a\/b<=c) (k:Crs E 0 c n):Crs F 0 c n:=by
 intro p q x y g1 g2 g3 g4 hx hy
 have hx': ∃p',p'<c/\E[p']? =some x:=by
  by_cases z:a<=p/\p<b
  ·obtain⟨p',q1,q2,q3⟩:=m.inn z.1 z.2 hx
   exact⟨p',by omega,q3⟩
  exact⟨p,g2,by rw[<-m.out z];exact hx⟩
 have hy': ∃q',c<=q'/\q'<n/\E[q']? =some y:=by
  by_cases z:a<=q/\q<b
  ·obtain⟨q',q1,q2,q3⟩:=m.inn z.1 z.2 hy
   exact⟨q',by omega,by omega,q3⟩
  exact⟨q,g3,g4,by rw[<-m.out z];exact hy⟩
 obtain⟨p',p1,p2⟩:=hx'
 obtain⟨q',q1,q2,q3⟩:=hy'
 exact k p' q' x y (Nat.zero_le _) p1 q1 q2 p2 q3
structure Bks (ρ:Int->Int) (E:List Int) (n s t a:Nat):Prop where
 ln:E.length=n
 cs: ∀c,s∣c->a<=c->Crs E 0 c n
 ct: ∀c,t∣c->Crs E 0 c n
 ss: ∀c,s∣c->a<=c->c<n->Sor ρ E c (min (c+s) n)
 st: ∀c,t∣c->c<a->Sor ρ E c (min (c+t) n)
theorem Bks.same {E F:List Int} {n s t a b:Nat} (hs:s∣a) (ht:t∣a) (hst:s∣t) (B:Bks ρ E n s t a) (hab:a<b) (hbn:b<=n) (hb:b=a+t\/(b=n/\n<=a+t)) (m:Mx a b E F) (so:Sor ρ F a b):Bks ρ F n s t (a+t):=by
 have hl:=m.len
 refine⟨by rw[hl];exact B.ln,fun c h1 h2=>?_,fun c h1=>?_,fun c h1 h2 h3=>?_,fun c h1 h2=>?_⟩
 ·rcases hb with rfl|⟨rfl,hb⟩
  ·exact qak m hbn (.inr h2) (B.cs c h1 (by omega))
  exact qak m hbn (.inr (by omega)) (B.cs c h1 (by omega))
 ·by_cases z:c<=a
  ·exact qak m hbn (.inl z) (B.ct c h1)
  have:=qck h1 ht (by omega)
  rcases hb with rfl|⟨rfl,hb⟩
  ·exact qak m hbn (.inr this) (B.ct c h1)
  exact qak m hbn (.inr (by omega)) (B.ct c h1)
 ·rcases hb with rfl|⟨rfl,hb⟩
  ·exact(B.ss c h1 (by omega) h3).same fun k g1 g2=>m.out (by omega)
  omega
 by_cases z:c<a
 ·have hg:=qck ht h1 z
  exact(B.st c h1 z).same fun k g1 g2=>m.out (by omega)
 by_cases y:c=a
 ·subst y
  refine so.sub (Nat.le_refl _) ?_
  omega
 have:=qck h1 ht (by omega)
 omega
theorem qd7 {N n s:Nat} (hN:2000<N) (hc:qaU V ρ x1 x2 x3) (hn:n<=400) (hs:1<=s) (hs2:s<=1000): ∀(K a:Nat) (E:List Int),a<=n->n<K+a->2*s∣a->(∀x∈E,V x)->Bks ρ E n s (2*s) a->
 ∃(F:List Int) (a':Nat),qA N (n:Int) x1 x2 x3 (s:Int) K E (a:Int) ((a+2*s:Nat):Int)=some (F,(a':Int))/\a'<=n/\n<a'+2*s/\2*s∣a'/\Bks ρ F n s (2*s) a'/\F.Perm E
 |0,a,E,ha,hK,hd,hV,B=>by omega
 |K+1,a,E,ha,hK,hd,hV,B=>by
  unfold qA
  by_cases c:a+2*s<=n
  ·have hds:s∣a:=Nat.dvd_trans (Nat.dvd_mul_left s 2) hd
   have hds2:s∣a+s:=(Nat.dvd_add_right hds).2 (Nat.dvd_refl s)
   have p1:=(B.ss a hds (Nat.le_refl _) (by omega)).sub (lo':=a) (hi':=a+s) (Nat.le_refl _) (by omega)
   have p2:=(B.ss (a+s) hds2 (by omega) (by omega)).sub (lo':=a+s) (hi':=a+2*s) (Nat.le_refl _) (by omega)
   have p3:=B.cs (a+s) hds2 (by omega)
   obtain⟨F,f1,f2,f3⟩:=symM hN hc N a (a+s) (a+2*s) E (by omega) (by omega) (by rw[B.ln];exact c) (by rw[B.ln];omega) (by omega) hV p1 p2 (fun i j x y g1 g2 g3 g4 hx hy=>p3 i j x y (Nat.zero_le _) g2 g3 (by omega) hx hy)
   rw[if_pos (by omega),qM (n:=(a:Int)+s) (by omega) (by omega),show((a:Int)+s)=((a+s:Nat):Int)by omega]
   have f1':qG N E (a:Int) ((a+s:Nat):Int) ((a+2*s:Nat):Int) x1 x2 x3=some F:=f1
   rw[f1',ZB,if_pos f2.len.symm,ZB,qM (n:=2*(s:Int)) (by omega) (by omega),qM (by omega) (by omega),show(((a+2*s:Nat):Int)+2*(s:Int))=((a+2*s+2*s:Nat):Int)by omega]
   have B':=B.same hds hd (Nat.dvd_mul_left s 2) (show a<a+2*s by omega) c (.inl rfl) f2 f3
   obtain⟨G,a',g1,g2,g3,g4,g5,g6⟩:=qd7 hN hc hn hs hs2 K (a+2*s) F c (by omega) ((Nat.dvd_add_right hd).2 (Nat.dvd_refl _)) (qad hV f2) B'
   exact⟨G,a',g1,g2,g3,g4,g5,g6.trans f2.per⟩
  rw[if_neg (by omega)]
  exact⟨E,a,rfl,ha,by omega,hd,B,.refl _⟩
theorem Bks.done {E:List Int} {n s t a:Nat} (B:Bks ρ E n s t a) (h:n<=a):Bks ρ E n t (2*t) 0:=
 ⟨B.ln,fun c h1 _=>B.ct c h1,fun c h1=>B.ct c (Nat.dvd_trans (Nat.dvd_mul_left t 2) h1),fun c h1 _ h3=>B.st c h1 (by omega),fun c _ h2=>by omega⟩
theorem qcN {N n:Nat} (hN:2000<N) (hc:qaU V ρ x1 x2 x3) (hn:n<=400): ∀(K s:Nat) (E:List Int),1<=s->s<=800->1<=K->n+1<=K+s->(∀x∈E,V x)->Bks ρ E n s (2*s) 0->
 ∃F,qB N (n:Int) x1 x2 x3 K E (s:Int)=some F/\F.Perm E/\Sor ρ F 0 n
 |0,s,E,h1,h2,h0,hK,hV,B=>by omega
 |K+1,s,E,h1,h2,h0,hK,hV,B=>by
  unfold qB
  by_cases c:s<n
  ·obtain⟨F,a,f1,f2,f3,f4,f5,f6⟩:=qd7 hN hc hn h1 (by omega) N 0 E (Nat.zero_le _) (by omega) (Nat.dvd_zero _) hV B
   have hVF: ∀x∈F,V x:=fun x hx=>hV x (f6.mem_iff.1 hx)
   rw[show((0:Nat):Int)=0 from rfl,Nat.zero_add]at f1
   rw[if_pos (by omega),qM (n:=2*(s:Int)) (by omega) (by omega),show(2*(s:Int))=((2*s:Nat):Int)by omega,f1,ZB]
   simp only
   rw[qM (n:=(a:Int)+s) (by omega) (by omega)]
   have hds:s∣a:=Nat.dvd_trans (Nat.dvd_mul_left s 2) f4
   obtain⟨G,g1,g2,g3⟩: ∃G,(if(a:Int)+s<n then(qG N F (a:Int) ((a:Int)+s) (n:Int) x1 x2 x3).bind fun l34=>((if F.length=l34.length then some ()else none:Option Unit)).bind fun u35=>some l34 else some F:Option (List Int))=some G/\G.Perm F/\Bks ρ G n (2*s) (2*(2*s)) 0:=by
    by_cases d:a+s<n
    ·have hds2:s∣a+s:=(Nat.dvd_add_right hds).2 (Nat.dvd_refl s)
     have p1:=(f5.ss a hds (Nat.le_refl _) (by omega)).sub (lo':=a) (hi':=a+s) (Nat.le_refl _) (by omega)
     have p2:=(f5.ss (a+s) hds2 (by omega) d).sub (lo':=a+s) (hi':=n) (Nat.le_refl _) (by omega)
     have p3:=f5.cs (a+s) hds2 (by omega)
     obtain⟨G,g1,g2,g3⟩:=symM hN hc N a (a+s) n F (by omega) (by omega) (by rw[f5.ln];exact Nat.le_refl _) (by rw[f5.ln];omega) (by omega) hVF p1 p2 (fun i j x y g1 g2 g3 g4 hx hy=>p3 i j x y (Nat.zero_le _) g2 g3 (by omega) hx hy)
     refine⟨G,?_,g2.per,(f5.same hds f4 (Nat.dvd_mul_left s 2) (show a<n by omega) (Nat.le_refl _) (.inr ⟨rfl,by omega⟩) g2 g3).done (by omega)⟩
     rw[if_pos (by omega),show((a:Int)+s)=((a+s:Nat):Int)by omega]
     have g1':qG N F (a:Int) ((a+s:Nat):Int) (n:Int) x1 x2 x3=some G:=g1
     rw[g1',ZB,if_pos g2.len.symm,ZB]
    refine⟨F,by rw[if_neg (by omega)],.refl _,?_⟩
    by_cases y:a<n
    ·have so:Sor ρ F a n:=(f5.ss a hds (Nat.le_refl _) y).sub (Nat.le_refl _) (by omega)
     exact(f5.same hds f4 (Nat.dvd_mul_left s 2) y (Nat.le_refl _) (.inr ⟨rfl,by omega⟩) (Mx.refl _ _ _) so).done (by omega)
    exact f5.done (by omega)
   rw[g1,ZB,qM (by omega) (by omega),show((s:Int)*2)=((2*s:Nat):Int)by omega]
   obtain⟨H,h3,h4,h5⟩:=qcN hN hc hn K (2*s) G (by omega) (by omega) (by omega) (by omega) (fun x hx=>hVF x (g2.mem_iff.1 hx)) g3
   exact⟨H,h3,h4.trans (g2.trans f6),h5⟩
  rw[if_neg (by omega)]
  refine⟨E,rfl,.refl _,?_⟩
  by_cases z:n=0
  ·subst z
   exact Ul (by omega)
  have:=B.ss 0 (Nat.dvd_zero _) (Nat.le_refl _) (by omega)
  exact this.sub (Nat.le_refl _) (by omega)
end
end Go.Av
end
section
namespace Go.Av
open Go.Proofs Go.RowKit
variable [Glob]
section
variable {V:Int->Prop} {ρ:Int->Int} {x1:Int} {x2:List Int} {x3:Int}
structure IB (ρ:Int->Int) (D E:List Int) (n a:Nat):Prop where
 ln:E.length=n
 cs: ∀c,20∣c->Crs E 0 c n
 so: ∀c,20∣c->c<a->Sor ρ E c (min (c+20) n)
 eq: ∀k,a<=k->E[k]? =D[k]?
 pe:E.Perm D
theorem Asc.same {D E:List Int} {lo hi:Nat} (s:Asc D lo hi) (h: ∀k,lo<=k->k<hi->E[k]? =D[k]?):Asc E lo hi:=fun i j x y a b c hx hy=>s i j x y a b c (by rw[<-h i a (by omega)];exact hx) (by rw[<-h j (by omega) c];exact hy)
theorem IB.next {D E F:List Int} {n a b:Nat} (h:IB ρ D E n a) (ha:20∣a) (hb:b<=n) (hle:a<=b) (hab:b=a+20\/(b=n/\n<a+20)) (m:Mx a b E F) (so:Sor ρ F a b):IB ρ D F n b/\ ∀c,20∣c->c<a+20->Sor ρ F c (min (c+20) n):=by
 have key: ∀c,20∣c->c<a+20->Sor ρ F c (min (c+20) n):=fun c h1 h2=>by
  by_cases z:c<a
  ·exact(h.so c h1 z).same fun k g1 g2=>m.out (by omega)
  have e:c=a:=by omega
  subst e
  exact so.sub (Nat.le_refl _) (by omega)
 refine⟨⟨by rw[m.len];exact h.ln,fun c h1=>?_,fun c h1 h2=>key c h1 (by omega),fun k hk=>by rw[m.out (by omega)];exact h.eq k (by omega),m.per.trans h.pe⟩,key⟩
 by_cases z:c<=a
 ·exact qak m hb (.inl z) (h.cs c h1)
 exact qak m hb (.inr (by omega)) (h.cs c h1)
theorem qcs {N n:Nat} (hN:2000<N) (hc:qaU V ρ x1 x2 x3) (hn:n<=400) {D:List Int} (hA:Asc D 0 n): ∀(K a:Nat) (E:List Int),a<=n->n<K+a->20∣a->(∀x∈E,V x)->IB ρ D E n a->
 ∃(F:List Int) (a':Nat),qD N (n:Int) x1 x2 x3 K E (a:Int) ((a+20:Nat):Int)=some (F,(a':Int))/\a'<=n/\n<a'+20/\20∣a'/\(∀x∈F,V x)/\IB ρ D F n a'
 |0,a,E,ha,hK,hd,hV,h=>by omega
 |K+1,a,E,ha,hK,hd,hV,h=>by
  unfold qD
  have hl:=h.ln
  by_cases c:a+20<=n
  ·obtain⟨F,f1,f2,f3⟩:=qc9 (a:=a) (b:=a+20) hN hc (by omega) hV (by omega) (Asc.same (fun i j x y g1 g2 g3 hx hy=>hA i j x y (Nat.zero_le _) g2 (by omega) hx hy) fun k g1 g2=>h.eq k g1) (by omega)
   rw[if_pos (by omega),f1,ZB,if_pos f2.len.symm,ZB,qM (by omega) (by omega),show(((a+20:Nat):Int)+20)=((a+20+20:Nat):Int)by omega]
   exact qcs hN hc hn hA K (a+20) F c (by omega) ((Nat.dvd_add_right hd).2 (Nat.dvd_refl _)) (qad hV f2) (h.next hd c (by omega) (.inl rfl) f2 f3).1
  rw[if_neg (by omega)]
  exact⟨E,a,rfl,ha,by omega,hd,hV,h⟩
theorem qei {N n:Nat} (hN:2000<N) (hc:qaU V ρ x1 x2 x3) (hn:n<=400) {D:List Int} (hl:D.length=n) (hA:Asc D 0 n) (hV: ∀x∈D,V x): ∃F,qP N D x1 x2 x3=some F/\F.Perm D/\Sor ρ F 0 n:=by
 have h0:IB ρ D D n 0:=⟨hl,fun c _ i j x y g1 g2 g3 g4 hx hy=>hA i j x y g1 (by omega) g4 hx hy,fun c _ h=>by omega,fun _ _=>rfl,.refl _⟩
 obtain⟨E,a,e1,e2,e3,e4,e5,e6⟩:=qcs hN hc hn hA N 0 D (Nat.zero_le _) (by omega) (Nat.dvd_zero _) hV h0
 have hEl:=e6.ln
 obtain⟨F,f1,f2,f3⟩:=qc9 (a:=a) (b:=n) hN hc (by omega) e5 (by omega) (Asc.same (fun i j x y g1 g2 g3 hx hy=>hA i j x y (Nat.zero_le _) g2 (by omega) hx hy) fun k g1 g2=>e6.eq k g1) e2
 obtain⟨g1,g2⟩:=e6.next e4 (Nat.le_refl _) e2 (.inr ⟨rfl,e3⟩) f2 f3
 have hB:Bks ρ F n 20 (2*20) 0:=⟨g1.ln,fun c h1 _=>g1.cs c h1,fun c h1=>g1.cs c (Nat.dvd_trans (by decide) h1),fun c h1 _ h3=>g2 c h1 (by omega),fun c _ h=>by omega⟩
 obtain⟨G,q1,q2,q3⟩:=qcN hN hc hn N 20 F (by omega) (by omega) (by omega) (by omega) (qad e5 f2) hB
 rw[show((0:Nat):Int)=0 from rfl,show((0+20:Nat):Int)=20 from rfl]at e1
 rw[show((20:Nat):Int)=20 from rfl]at q1
 unfold qP zt
 rw[hl,e1,ZB]
 simp only
 rw[f1,ZB,if_pos f2.len.symm,ZB,q1,ZB,ZB]
 have hG:G.length=n:=by rw[q2.length_eq,f2.len,hEl]
 rw[if_pos hG.symm]
 exact⟨G,rfl,q2.trans (f2.per.trans e6.pe),q3⟩
end
end Go.Av
end
section
namespace Go.Av
open Go.Proofs Go.RowKit
variable [Glob]
theorem qfC {n:Nat} (hn:n<=256): ∀(K i:Nat) (o:Option (List Int)) (x:Int),i<=n->n<K+i->(hof o).length=i->0<=x->x<=2147483646->
 ∃o',jc (n:Int) K o (i:Int) x=some o'/\zL (n:Int) K x (hof o) (i:Int)=some (hof o')/\(hof o').length=n
 |0,i,o,x,h1,h2,h3,x0,x1=>by omega
 |K+1,i,o,x,h1,h2,h3,x0,x1=>by
  unfold jc zL
  by_cases c:i<n
  ·have e1:w64 (39373*x)=39373*x:=qM (by omega) (by omega)
   have e2:(39373*x).tmod 2147483647=39373*x%2147483647:=Int.tmod_eq_emod_of_nonneg (by omega)
   obtain⟨y,hy⟩: ∃y,y=39373*x%2147483647:=⟨_,rfl⟩
   have y0:0<=y/\y<=2147483646:=by omega
   obtain⟨q,hq⟩: ∃q:Nat,q=(y%((i:Int)+1)).toNat:=⟨_,rfl⟩
   have hm0:0<=y%((i:Int)+1):=Int.emod_nonneg _ (by omega)
   have hm1:y%((i:Int)+1)<(i:Int)+1:=Int.emod_lt_of_pos _ (by omega)
   have hqi:q<=i:=by omega
   have e3:qby .i64 y (((i+1:Nat):Int))=some (q:Int):=by
    unfold qby
    rw[if_neg (by omega),Int.tmod_eq_emod_of_nonneg y0.1,show(((i+1:Nat):Int))=(i:Int)+1 by omega]
    congr 1
    omega
   rw[if_pos (by omega),if_pos (by omega),e1,e2,<-hy,jP (by omega),e3,ZB,ZB]
   have href:((cut (hof o) 0 (q:Int)).bind fun s8=>(app 8 ([]:List Int) s8).bind fun l9=>(app 8 l9 [(i:Int)]).bind fun l10=>(cut (hof o) (q:Int) ((hof o).length:Int)).bind fun s11=>(app 8 l10 s11).bind fun l12=>zL (n:Int) K y l12 ((i+1:Nat):Int))=zL (n:Int) K y ((hof o).take q++[(i:Int)]++(hof o).drop q) ((i+1:Nat):Int):=by
    rw[qco (by omega),ZB,qaB (by simp;omega) (by simp;omega),ZB,List.nil_append,qaB (by simp;omega) (by simp;omega),ZB]
    have hcd:cut (hof o) (q:Int) ((hof o).length:Int)=some ((hof o).drop q):=by
     unfold cut
     rw[if_pos ⟨by omega,by omega,by omega⟩]
     simp only[Int.toNat_natCast]
     rw[List.take_of_length_le (by simp)]
    rw[hcd,ZB,qaB (by simp;omega) (by simp;omega),ZB]
   rw[href]
   have hlen:((hof o).take q++[(i:Int)]++(hof o).drop q).length=i+1:=by simp;omega
   have fin:=qfC hn K (i+1) (some ((hof o).take q++[(i:Int)]++(hof o).drop q)) y (by omega) (by omega) hlen y0.1 y0.2
   cases o with
   |none=>
    have hi0:i=0:=h3.symm
    have hq0:q=0:=by omega
    subst hi0
    rw[hq0]at fin⊢
    exact fin
   |some l=>
    have h3:l.length=i:=h3
    have e:qeE l (if(l.length:Int)<(q:Int)then(l.length:Int)else(q:Int)) (i:Int)=some (l.take q++[(i:Int)]++l.drop q):=by
     rw[if_neg (by omega)]
     unfold qeE
     rw[if_pos ⟨by omega,by omega,by omega⟩]
     rfl
    simp only[e,ZB]
    exact fin
  rw[if_neg (by omega),if_neg (by omega)]
  exact⟨o,rfl,rfl,by omega⟩
def qaS (key n:Int):Bool:=decide (key<1)||(decide (key>2147483646)||(decide (n<0)||decide (n>256)))
theorem qeU (key n:Int):(if key<1 then some true else if key>2147483646 then some true else if n<0 then some true else some (decide (n>256)):Option Bool)=some (qaS key n):=by
 unfold qaS
 by_cases c1:key<1
 ·rw[if_pos c1,decide_eq_true c1];rfl
 by_cases c2:key>2147483646
 ·rw[if_neg c1,if_pos c2,decide_eq_false c1,decide_eq_true c2];rfl
 by_cases c3:n<0
 ·rw[if_neg c1,if_neg c2,if_pos c3,decide_eq_false c1,decide_eq_false c2,decide_eq_true c3];rfl
 rw[if_neg c1,if_neg c2,if_neg c3,decide_eq_false c1,decide_eq_false c2,decide_eq_false c3];rfl
theorem qfz {a:List Int} (hl:a.length<=1000): ∀(K i:Nat),i<=a.length->a.length<K+i->zy a a K (i:Int)=some (.inl ())
 |0,i,h,hK=>by omega
 |K+1,i,h,hK=>by
  unfold zy
  by_cases hi:i<a.length
  ·rw[if_pos (by omega),qU,Ya hi,ZB,ZB,if_neg (by simp),jP (by omega)]
   exact qfz hl K (i+1) (by omega) (by omega)
  rw[if_neg (by omega)]
theorem same_eq {N:Nat} (hN:2000<N) {a:List Int} (hl:a.length<=1000):jK N a a=some true:=by
 unfold jK
 rw[if_neg (by simp),show(0:Int)=((0:Nat):Int)from rfl,qfz hl N 0 (by omega) (by omega)]
 rfl
theorem qeg {N:Nat} (hN:2000<N) (key n:Int): ∃r:List Int×Int,jY N key n=some r/\je key n=some (if qaS key n=true then 3 else 0)/\(qaS key n=true->r=([],3))/\(qaS key n=false->r.2=0/\r.1.length<=1000/\vM N key n=some r.1):=by
 unfold jY je vM
 rw[qeU,ZB,ZB]
 cases c:qaS key n with
 |true=>exact⟨([],3),rfl,rfl,fun _=>rfl,fun h=>(by cases h)⟩
 |false=>
  unfold qaS at c
  simp only[Bool.or_eq_false_iff,decide_eq_false_iff_not]at c
  obtain⟨m,rfl⟩: ∃m:Nat,n=(m:Int):=⟨n.toNat,by omega⟩
  obtain⟨o,o1,o2,o3⟩:=qfC (n:=m) (by omega) N 0 none key (Nat.zero_le _) (by omega) rfl (by omega) (by omega)
  rw[show((0:Nat):Int)=0 from rfl]at o1 o2
  rw[show hof (none:Option (List Int))=[]from rfl]at o2
  rw[if_neg (by decide),if_neg (by decide),o1,o2,ZB]
  exact⟨(hof o,0),rfl,rfl,fun h=>(by cases h),fun _=>⟨rfl,by show(hof o).length<=_;omega,rfl⟩⟩
theorem qex {N:Nat} (hN:2000<N) (a b:Int):zi N [a,b]=some (if a=0 then b else a):=by
 obtain⟨K,rfl⟩: ∃K,N=K+3:=⟨N-3,by omega⟩
 by_cases h:a=0
 ·by_cases g:b=0
  ·simp[zi,zA,idx,qM,h,g]
  simp[zi,zA,idx,qM,h,g]
 simp[zi,zA,idx,qM,h]
theorem qfk {N:Nat} (hN:2000<N) (a b:Int):ja N [a,b]=some (if a=0 then b else a):=by
 obtain⟨K,rfl⟩: ∃K,N=K+3:=⟨N-3,by omega⟩
 by_cases h:a=0
 ·by_cases g:b=0
  ·simp[ja,zN,idx,qM,h,g]
  simp[ja,zN,idx,qM,h,g]
 simp[ja,zN,idx,qM,h]
end Go.Av
end
section
namespace Go.Av
open Go.Proofs Go.RowKit
variable [Glob]
def sm:List Int->Int
 |[]=>0
 |x::l=>x+sm l
theorem qb4: ∀a b:List Int,sm (a++b)=sm a+sm b
 |[],b=>by simp[sm]
 |x::a,b=>by
  rw[List.cons_append]
  simp only[sm,qb4 a b]
  omega
theorem qaO: ∀{l:List Int},(∀x∈l,0<=x)->0<=sm l
 |[],_=>Int.le_refl _
 |x::l,h=>by
  have:=h x List.mem_cons_self
  have:=qaO fun y hy=>h y (List.mem_cons_of_mem _ hy)
  simp only[sm];omega
theorem qbB: ∀{l:List Int},(∀x∈l,x<=999999999)->sm l<=999999999*(l.length:Int)
 |[],_=>by simp[sm]
 |x::l,h=>by
  have:=h x List.mem_cons_self
  have:=qbB fun y hy=>h y (List.mem_cons_of_mem _ hy)
  simp only[sm,Yr];omega
theorem qef: ∀{l:List Int},(∀x∈l,0<=x)->sm l=0-> ∀x∈l,x=0
 |[],_,_,x,hx=>by cases hx
 |y::l,h,h0,x,hx=>by
  have h1:=h y List.mem_cons_self
  have h2:=qaO fun z hz=>h z (List.mem_cons_of_mem _ hz)
  simp only[sm]at h0
  rcases List.mem_cons.1 hx with rfl|hx
  ·omega
  exact qef (fun z hz=>h z (List.mem_cons_of_mem _ hz)) (by omega) x hx
def xB (x:Int):Bool:=decide (x<0)||decide (x>999999999)
theorem qd8 (x:Int):(if x<0 then some true else some (decide (x>999999999)):Option Bool)=some (xB x):=by
 unfold xB
 by_cases c:x<0
 ·rw[if_pos c,decide_eq_true c];rfl
 rw[if_neg c,decide_eq_false c];rfl
theorem qhs (x:Int):zw x=some (xB x):=by
 unfold zw
 rw[qd8]
 rfl
theorem yo {x:Int} (h:xB x=false):0<=x/\x<=999999999:=by
 unfold xB at h
 simp only[Bool.or_eq_false_iff,decide_eq_false_iff_not]at h
 omega
theorem qfv {w:List Int} (hl:w.length<=400): ∀(K i:Nat),i<=w.length->w.length<K+i->((w.drop i).any xB=false/\qI w K (i:Int)=some (.inl ()))\/((w.drop i).any xB=true/\ ∃j:Nat,qI w K (i:Int)=some (.inr (j:Int)))
 |0,i,h1,h2=>by omega
 |K+1,i,h1,h2=>by
  unfold qI
  by_cases hi:i<w.length
  ·rw[if_pos (by omega),qU,Ya hi,ZB,qhs,ZB,List.drop_eq_getElem_cons hi,List.any_cons,jP (by omega)]
   cases c:xB w[i]with
   |true=>
    rw[if_pos rfl,Bool.true_or]
    exact .inr ⟨rfl,i,rfl⟩
   |false=>
    rw[if_neg (by decide),Bool.false_or]
    exact qfv hl K (i+1) (by omega) (by omega)
  rw[if_neg (by omega),List.drop_eq_nil_of_le (by omega)]
  exact .inl ⟨rfl,rfl⟩
theorem qgK {w:List Int} (hl:w.length<=400): ∀(K i:Nat),i<=w.length->w.length<K+i->(∀x∈w.take i,xB x=false)->((w.drop i).any xB=false/\qR w K (sm (w.take i)) (i:Int)=some (.inl (sm w)))\/((w.drop i).any xB=true/\qR w K (sm (w.take i)) (i:Int)=some (.inr 3))
 |0,i,h1,h2,h3=>by omega
 |K+1,i,h1,h2,h3=>by
  unfold qR
  by_cases hi:i<w.length
  ·have hx:w[i]? =some w[i]:=Ya hi
   rw[if_pos (by omega),qU,hx,ZB,qd8,ZB,ZB,List.drop_eq_getElem_cons hi,List.any_cons]
   cases c:xB w[i]with
   |true=>
    rw[if_pos rfl,Bool.true_or]
    exact .inr ⟨rfl,rfl⟩
   |false=>
    have hb:=yo c
    have e:sm (w.take (i+1))=sm (w.take i)+w[i]:=by rw[List.take_succ_eq_append_getElem hi,qb4];simp[sm]
    have hc:=qbB fun x hx=>(yo (h3 x hx)).2
    have hn:=qaO fun x hx=>(yo (h3 x hx)).1
    rw[Ym]at hc
    rw[if_neg (by decide),Bool.false_or,qM (by omega) (by omega),jP (by omega),<-e]
    refine qgK hl K (i+1) (by omega) (by omega) fun x hx=>?_
    rw[List.take_succ_eq_append_getElem hi]at hx
    rcases List.mem_append.1 hx with hx|hx
    ·exact h3 x hx
    rw[List.mem_singleton.1 hx];exact c
  rw[if_neg (by omega),List.drop_eq_nil_of_le (by omega),List.take_of_length_le (by omega)]
  exact .inl ⟨rfl,rfl⟩
theorem qgT {w:List Int} (hl:w.length<=400): ∀(K i:Nat) (m:Int),i<=w.length->w.length<K+i-> ∃r,zx w K m (i:Int)=some r/\m<=r/\(∀x∈w.drop i,x<=r)/\(r=m\/r∈w.drop i)
 |0,i,m,h1,h2=>by omega
 |K+1,i,m,h1,h2=>by
  unfold zx
  by_cases hi:i<w.length
  ·rw[if_pos (by omega),qU,Ya hi,ZB,jP (by omega),List.drop_eq_getElem_cons hi]
   obtain⟨r,r1,r2,r3,r4⟩:=qgT hl K (i+1) (if w[i]>m then w[i]else m) (by omega) (by omega)
   refine⟨r,r1,?_,fun x hx=>?_,?_⟩
   ·split at r2<;>omega
   ·rcases List.mem_cons.1 hx with rfl|hx
    ·split at r2<;>omega
    exact r3 x hx
   rcases r4 with r4|r4
   ·split at r4
    ·exact .inr (r4▸List.mem_cons_self)
    exact .inl r4
   exact .inr (List.mem_cons_of_mem _ r4)
  rw[if_neg (by omega)]
  exact⟨m,rfl,Int.le_refl _,fun x hx=>(by rw[List.drop_eq_nil_of_le (by omega)]at hx;cases hx),.inl rfl⟩
theorem qg6 {N:Nat} (hN:2000<N) {w:List Int} (hl:w.length<=400) (h1:1<=w.length): ∃r,slices_Max_int N w=some r/\(∀x∈w,x<=r)/\r∈w:=by
 unfold slices_Max_int
 have h0:w[0]? =some w[0]:=Ya (by omega)
 obtain⟨r,r1,r2,r3,r4⟩:=qgT hl N 1 w[0] h1 (by omega)
 rw[if_neg (by omega),ZB,show(0:Int)=((0:Nat):Int)from rfl,qU,h0,ZB]
 rw[show((1:Nat):Int)=1 from rfl]at r1
 rw[r1,ZB]
 have hw:w=w[0]::w.drop 1:=by
  conv=>lhs;rw[<-YR (l:=w),List.drop_eq_getElem_cons (show 0<w.length by omega)]
 refine⟨r,rfl,fun x hx=>?_,?_⟩
 ·rw[hw]at hx
  rcases List.mem_cons.1 hx with rfl|hx
  ·exact r2
  exact r3 x hx
 rcases r4 with rfl|r4
 ·exact List.getElem_mem _
 exact List.mem_of_mem_drop r4
def wE (w:List Int):Int:=if(w.length:Int)=0 then 12 else if(w.length:Int)>256 then 5 else if w.any xB=true then 3 else if sm w=0 then 6 else 0
theorem qdi {N:Nat} (hN:2000<N) {w:List Int} (hl:w.length<=400):zb N w=some (wE w):=by
 unfold zb wE
 by_cases c1:(w.length:Int)=0
 ·rw[if_pos c1,if_pos c1]
 by_cases c2:(w.length:Int)>256
 ·rw[if_neg c1,if_neg c1,if_pos c2,if_pos c2]
 rw[if_neg c1,if_neg c1,if_neg c2,if_neg c2]
 have h:=qgK hl N 0 (Nat.zero_le _) (by omega) (fun x hx=>by simp at hx)
 rw[YR,List.take_zero,show((0:Nat):Int)=0 from rfl,show sm []=0 from rfl]at h
 rcases h with⟨h1,h2⟩|⟨h1,h2⟩
 ·rw[h1,h2,if_neg (by decide),ZB]
  simp only
  by_cases z:sm w=0
  ·rw[if_pos z,if_pos z]
  rw[if_neg z,if_neg z]
 rw[h1,h2,if_pos rfl]
 rfl
theorem qdy {N:Nat} (hN:2000<N) {w:List Int} (hl:w.length<=400):ku N w=some (wE w):=by
 unfold ku zC wE zz zR
 by_cases c1:(w.length:Int)=0
 ·rw[decide_eq_true c1,if_pos c1]
  simp only[if_true,ZB,ite_self]
  by_cases c2:(w.length:Int)>256
  ·omega
  rw[decide_eq_false c2]
  simp only[ZF,if_false,ZB,qex hN]
  rfl
 by_cases c2:(w.length:Int)>256
 ·rw[decide_eq_false c1,decide_eq_true c2,if_neg c1,if_pos c2]
  simp only[ZF,if_false,if_true,ZB,qex hN]
  rfl
 rw[decide_eq_false c1,decide_eq_false c2,if_neg c1,if_neg c2]
 simp only[ZF,if_false,ZB,qex hN]
 simp only[if_true,decide_true,Bool.not_true,ZF,if_false]
 obtain⟨r,r1,r2,r3⟩:=qg6 hN hl (by omega)
 have h:=qfv hl N 0 (Nat.zero_le _) (by omega)
 rw[YR,show((0:Nat):Int)=0 from rfl]at h
 rcases h with⟨h1,h2⟩|⟨h1,j,h2⟩
 ·rw[h2,h1]
  simp only[ZB,r1]
  rw[if_neg (show¬(decide ((-1:Int)>=0))=true by decide)]
  simp only[ZB,ZF,if_false]
  have hin: ∀x∈w,0<=x/\x<=999999999:=fun x hx=>yo (by
   cases q:xB x with
   |false=>rfl
   |true=>
    have:w.any xB=true:=List.any_eq_true.2 ⟨x,hx,q⟩
    rw[h1]at this
    cases this)
  have hz:r=0↔sm w=0:=by
   constructor
   ·intro h0
    have: ∀{l:List Int},(∀x∈l,x=0)->sm l=0:=by
     intro l
     induction l with
     |nil=>intro _;rfl
     |cons x l ih=>
      intro h
      have:=h x List.mem_cons_self
      have:=ih fun y hy=>h y (List.mem_cons_of_mem _ hy)
      simp only[sm];omega
    exact this fun x hx=>by
     have:=r2 x hx
     have:=(hin x hx).1
     omega
   intro h0
   exact qef (fun x hx=>(hin x hx).1) h0 r r3
  by_cases z:r=0
  ·rw[decide_eq_true z,if_pos (hz.1 z)]
   simp only[if_true,ZB]
  rw[decide_eq_false z,if_neg (fun q=>z (hz.2 q))]
  simp only[ZF,if_false,ZB,ite_self]
 rw[h2,h1]
 simp only[ZB,r1]
 rw[if_pos (show(decide ((j:Int)>=0))=true from decide_eq_true (by omega))]
 simp only[ZB,if_true]
 by_cases z:r=0
 ·rw[decide_eq_true z]
  simp only[if_true,ZB]
  rfl
 rw[decide_eq_false z]
 simp only[ZF,if_false,ZB]
 rfl
end Go.Av
end
section
namespace Go.Av
open Go.Proofs Go.RowKit
variable [Glob]
structure WOK (t:Int) (w:List Int):Prop where
 t:0<=t/\t<=999999999
 one:1<=w.length
 few:w.length<=256
 rng: ∀x∈w,0<=x/\x<=999999999
 sum:0<sm w
theorem WOK.cap {t:Int} {w:List Int} (h:WOK t w):sm w<=999999999*(w.length:Int):=qbB fun x hx=>(h.rng x hx).2
theorem qfd: ∀{l:List Int} {x:Int},(∀y∈l,0<=y)->x∈l->x<=sm l
 |y::l,x,h,hx=>by
  have h1:=h y List.mem_cons_self
  have h2:=qaO fun z hz=>h z (List.mem_cons_of_mem _ hz)
  simp only[sm]
  rcases List.mem_cons.1 hx with rfl|hx
  ·omega
  have:=qfd (fun z hz=>h z (List.mem_cons_of_mem _ hz)) hx
  omega
def qE (t s x:Int):Int:=t*x/s
def rE (t s x:Int):Int:=t*x%s
theorem qfw {t:Int} {w:List Int} (h:WOK t w) {x:Int} (hx:x∈w):0<=t*x/\t*x<=999999998000000001:=by
 have h1:=h.rng x hx
 refine⟨Int.mul_nonneg h.t.1 h1.1,?_⟩
 have:=Int.mul_le_mul h.t.2 h1.2 h1.1 (show(0:Int)<=999999999 by decide)
 omega
theorem q_bd {t:Int} {w:List Int} (h:WOK t w) {x:Int} (hx:x∈w):0<=qE t (sm w) x/\qE t (sm w) x<=999999999:=by
 have hb:=qfw h hx
 refine⟨Int.ediv_nonneg hb.1 (by have:=h.sum;omega),?_⟩
 have h1:t*x<=t*sm w:=Int.mul_le_mul_of_nonneg_left (qfd (fun y hy=>(h.rng y hy).1) hx) h.t.1
 have h2:t*x/sm w<=t*sm w/sm w:=Int.ediv_le_ediv h.sum h1
 rw[Int.mul_ediv_cancel _ (by have:=h.sum;omega)]at h2
 unfold qE
 have:=h.t
 omega
theorem r_bd {t:Int} {w:List Int} (h:WOK t w) (x:Int):0<=rE t (sm w) x/\rE t (sm w) x<sm w:=⟨Int.emod_nonneg _ (by have:=h.sum;omega),Int.emod_lt_of_pos _ h.sum⟩
theorem qhe {t:Int} {w:List Int} (h:WOK t w) {x:Int} (hx:x∈w):qeJ .i64 (w64 (t*x)) (sm w)=some (qE t (sm w) x):=by
 have hb:=qfw h hx
 have hq:=q_bd h hx
 have hs:=h.sum
 rw[qM (by omega) (by omega)]
 unfold qeJ
 rw[if_neg (by omega),Int.tdiv_eq_ediv_of_nonneg hb.1]
 show some (w64 _)=_
 unfold qE at hq⊢
 rw[qM (by omega) (by omega)]
theorem qdI {t:Int} {w:List Int} (h:WOK t w) {x:Int} (hx:x∈w):qby .i64 (w64 (t*x)) (sm w)=some (rE t (sm w) x):=by
 have hb:=qfw h hx
 have hs:=h.sum
 rw[qM (by omega) (by omega)]
 unfold qby
 rw[if_neg (by omega),Int.tmod_eq_emod_of_nonneg hb.1]
 rfl
theorem qf9 {t:Int} {w:List Int} (h:WOK t w): ∀(K i:Nat),i<=w.length->w.length<K+i->zm w K (sm (w.take i)) (i:Int)=some (sm w)/\zV w K (sm (w.take i)) (i:Int)=some (sm w)
 |0,i,h1,h2=>by omega
 |K+1,i,h1,h2=>by
  have h12:=h.few
  unfold zm zV
  by_cases hi:i<w.length
  ·have hx:=h.rng w[i] (List.getElem_mem hi)
   have e:sm (w.take (i+1))=sm (w.take i)+w[i]:=by rw[List.take_succ_eq_append_getElem hi,qb4];simp[sm]
   have hs:=qbB fun x hx=>(h.rng x (List.mem_of_mem_take (i:=i) hx)).2
   have hn:=qaO fun x hx=>(h.rng x (List.mem_of_mem_take (i:=i) hx)).1
   rw[Ym]at hs
   rw[if_pos (by omega),if_pos (by omega),qU,Ya hi,ZB,ZB,jP (by omega),qM (by omega) (by omega),<-e]
   exact qf9 h K (i+1) (by omega) (by omega)
  rw[if_neg (by omega),if_neg (by omega),List.take_of_length_le (by omega)]
  exact⟨rfl,rfl⟩
def rng (n:Nat):List Int:=(List.range n).map Int.ofNat
theorem qfM (n:Nat):rng (n+1)=rng n++[(n:Int)]:=by unfold rng;rw[List.range_succ,List.map_append];rfl
theorem qau (n:Nat):(rng n).length=n:=by simp[rng]
theorem qgB {n j:Nat} (h:j<n):(rng n)[j]? =some (j:Int):=by simp[rng,h]
theorem qaY {n:Nat} {x:Int}:x∈rng n↔0<=x/\x<n:=by
 unfold rng
 rw[List.mem_map]
 constructor
 ·rintro⟨k,hk,rfl⟩
  have:=List.mem_range.1 hk
  exact⟨Int.natCast_nonneg _,by show(k:Int)<n;omega⟩
 rintro⟨h1,h2⟩
 exact⟨x.toNat,List.mem_range.2 (by omega),by show((x.toNat:Nat):Int)=x;omega⟩
theorem qcE {t:Int} {w:List Int} (h:WOK t w): ∀(K i:Nat),i<=w.length->w.length<K+i->
 zn t w (sm w) K ((w.take i).map (qE t (sm w))) (rng i) (t-sm ((w.take i).map (qE t (sm w)))) (i:Int)=some (w.map (qE t (sm w)),rng w.length,t-sm (w.map (qE t (sm w))))/\
 zT t w (sm w) K ((w.take i).map (qE t (sm w))) ((w.take i).map (rE t (sm w))) (i:Int) (t-sm ((w.take i).map (qE t (sm w))))=some (w.map (qE t (sm w)),w.map (rE t (sm w)),t-sm (w.map (qE t (sm w))))
 |0,i,h1,h2=>by omega
 |K+1,i,h1,h2=>by
  have h12:=h.few
  have ht:=h.t
  unfold zn zT
  by_cases hi:i<w.length
  ·have hm:=List.getElem_mem hi
   have hq:=q_bd h hm
   have e1:(w.take (i+1))=w.take i++[w[i]]:=List.take_succ_eq_append_getElem hi
   have el:(w.take i).length=i:=by rw[Ym];omega
   have hqs: ∀x∈(w.take i).map (qE t (sm w)),0<=x/\x<=999999999:=fun x hx=>by
    obtain⟨y,hy,rfl⟩:=List.mem_map.1 hx
    exact q_bd h (List.mem_of_mem_take hy)
   have c1:=qbB fun x hx=>(hqs x hx).2
   have c2:=qaO fun x hx=>(hqs x hx).1
   rw[List.length_map,el]at c1
   have hi2:((w.take i).map (qE t (sm w))++[qE t (sm w) w[i]])[i]? =some (qE t (sm w) w[i]):=by
    rw[Yo (by rw[List.length_map,el];exact Nat.le_refl _),List.length_map,el,Nat.sub_self]
    rfl
   have r1:=qau i
   have hrec:=qcE h K (i+1) (by omega) (by omega)
   rw[e1,List.map_append,List.map_append,qb4,qfM]at hrec
   simp only[List.map_cons,List.map_nil,sm,Int.add_zero]at hrec
   rw[if_pos (by omega),if_pos (by omega),qU,Ya hi,ZB,ZB,qhe h hm,ZB,ZB,qdI h hm]
   rw[qaB (by rw[List.length_map,el,List.length_singleton];omega) (by rw[List.length_map,el,List.length_singleton];omega),ZB,ZB,ZB,qaB (by rw[r1,List.length_singleton];omega) (by rw[r1,List.length_singleton];omega),ZB,qaB (by rw[List.length_map,el,List.length_singleton];omega) (by rw[List.length_map,el,List.length_singleton];omega),ZB,qU,hi2,ZB,ZB,qM (by omega) (by omega),jP (by omega)]
   rw[show t-(sm ((w.take i).map (qE t (sm w)))+qE t (sm w) w[i])=t-sm ((w.take i).map (qE t (sm w)))-qE t (sm w) w[i]by omega]at hrec
   exact hrec
  have e:i=w.length:=by omega
  rw[if_neg (by omega),if_neg (by omega),e,List.take_length]
  exact⟨rfl,rfl⟩
theorem qec (t s:Int): ∀l:List Int,t*sm l=s*sm (l.map (qE t s))+sm (l.map (rE t s))
 |[]=>by simp[sm]
 |x::l=>by
  have h1:=qec t s l
  have h2:s*qE t s x+rE t s x=t*x:=Int.mul_ediv_add_emod (t*x) s
  simp only[List.map_cons,sm]
  rw[Int.mul_add,Int.mul_add]
  omega
theorem qgP: ∀{l:List Int} {B:Int},(∀x∈l,x<=B)->sm l<=B*(l.length:Int)
 |[],B,_=>by simp[sm]
 |x::l,B,h=>by
  have h1:=h x List.mem_cons_self
  have h2:=qgP fun y hy=>h y (List.mem_cons_of_mem _ hy)
  simp only[sm,Yr]
  rw[show((l.length+1:Nat):Int)=(l.length:Int)+1 by omega,Int.mul_add]
  omega
theorem qgk {t:Int} {w:List Int} (h:WOK t w):0<=t-sm (w.map (qE t (sm w)))/\t-sm (w.map (qE t (sm w)))<w.length:=by
 have hd:=qec t (sm w) w
 have hs:=h.sum
 have hr: ∀x∈w.map (rE t (sm w)),0<=x/\x<=sm w-1:=fun x hx=>by
  obtain⟨y,hy,rfl⟩:=List.mem_map.1 hx
  have:=r_bd h y
  omega
 have h1:=qaO fun x hx=>(hr x hx).1
 have h2:=qgP fun x hx=>(hr x hx).2
 rw[List.length_map]at h2
 generalize sm (w.map (rE t (sm w)))=R at*
 obtain⟨Q,hQ⟩: ∃Q,Q=sm (w.map (qE t (sm w))):=⟨_,rfl⟩
 rw[<-hQ]at hd⊢
 have e:sm w*(t-Q)=R:=by
  rw[Int.mul_sub,Int.mul_comm (sm w) t]
  omega
 constructor
 ·rcases Int.lt_or_le (t-Q) 0 with c|c
  ·have:=Int.mul_le_mul_of_nonneg_left (show t-Q<= -1 by omega) (show 0<=sm w by omega)
   rw[e]at this
   omega
  exact c
 rcases Int.lt_or_le (t-Q) w.length with c|c
 ·exact c
 have:=Int.mul_le_mul_of_nonneg_left c (show 0<=sm w by omega)
 rw[e]at this
 rw[Int.sub_mul]at h2
 have:=h.one
 omega
end Go.Av
end
section
namespace Go.Av
open Go.Proofs Go.RowKit
variable [Glob]
def qev (t:Int) (w:List Int) (x:Int):Int:=rE t (sm w) ((w[x.toNat]?).getD 0)
def VI (w:List Int) (x:Int):Prop:=0<=x/\x<w.length
theorem qfu {w:List Int} {x:Int} (h:VI w x): ∃v,idx w x=some v/\v∈w/\(w[x.toNat]?).getD 0=v:=by
 obtain⟨h1,h2⟩:=h
 obtain⟨k,rfl⟩: ∃k:Nat,x=(k:Int):=⟨x.toNat,by omega⟩
 have hk:k<w.length:=by omega
 refine⟨w[k],by rw[qU,Ya hk],List.getElem_mem hk,?_⟩
 rw[Int.toNat_natCast,Ya hk]
 rfl
theorem qhk {t:Int} {w:List Int} (h:WOK t w):qaU (VI w) (qev t w) t w (sm w):=by
 intro x y hx hy
 obtain⟨u,u1,u2,u3⟩:=qfu hx
 obtain⟨v,v1,v2,v3⟩:=qfu hy
 have b1:=r_bd h u
 have b2:=r_bd h v
 have hc:=h.cap
 have hf:=h.few
 unfold kw qev
 rw[u3,v3,v1,ZB,qdI h v2,ZB,u1,ZB,qdI h u2,ZB,qM (by omega) (by omega)]
 exact⟨_,rfl,decide_eq_decide.2 ⟨fun h=>by omega,fun h=>by omega⟩⟩
def inc (l:List Int) (x:Int):List Int:=l.set x.toNat ((l[x.toNat]?).getD 0+1)
theorem qch (l:List Int) (x:Int):(inc l x).length=l.length:=Yk
theorem qeb {l:List Int} {x y B:Int} (h: ∀z∈l,0<=z/\z<=B) (hB:0<=B) (hy:y∈inc l x):0<=y/\y<=B+1:=by
 unfold inc at hy
 rcases List.mem_or_eq_of_mem_set hy with hy|rfl
 ·have:=h y hy;omega
 cases c:l[x.toNat]? with
 |none=>simp;omega
 |some v=>
  have:=h v (Yn c)
  simp;omega
theorem qf8 {s:List Int} {n:Nat} (hs: ∀x∈s,0<=x/\x<n) (hl:s.length<=300): ∀(K i:Nat) (l:List Int),i<=s.length->s.length<K+i->l.length=n->(∀y∈l,0<=y/\y<=1000000000+(i:Int))->zo s K l (i:Int)=some ((s.drop i).foldl inc l)
 |0,i,l,h1,h2,h3,h4=>by omega
 |K+1,i,l,h1,h2,h3,h4=>by
  unfold zo
  by_cases hi:i<s.length
  ·have hx:=hs _ (List.getElem_mem hi)
   rw[if_pos (by omega),qU,Ya hi,ZB,List.drop_eq_getElem_cons hi,List.foldl_cons,jP (by omega)]
   generalize s[i]=x at*
   obtain⟨k,rfl⟩: ∃k:Nat,x=(k:Int):=⟨x.toNat,by omega⟩
   have hk:l[k]? =some l[k]:=Ya (by omega)
   have hb:=h4 _ (List.getElem_mem (show k<l.length by omega))
   have e:inc l (k:Int)=l.set k (l[k]+1):=by
    unfold inc
    rw[Int.toNat_natCast,hk]
    rfl
   rw[qU,hk,ZB,qM (by omega) (by omega),ve (by omega),ZB,<-e]
   refine qf8 hs hl K (i+1) _ (by omega) (by omega) (by rw[qch];exact h3) fun y hy=>?_
   have:=qeb h4 (by omega) hy
   omega
  rw[if_neg (by omega),List.drop_eq_nil_of_le (by omega)]
  rfl
theorem qdM {w R:List Int} (hw:w.length<=300) (hR:R.length=w.length): ∀(K i b:Nat),b<i->i<=w.length->w.length<K+i->(∀k x y,k<i->R[k]? =some x->R[b]? =some y->x<=y)->(∀k x y,k<b->R[k]? =some x->R[b]? =some y->x<y)->
 ∃r:Nat,zU w R K (b:Int) (i:Int)=some (r:Int)/\r<w.length/\(∀k x y,k<w.length->R[k]? =some x->R[r]? =some y->x<=y)/\ ∀k x y,k<r->R[k]? =some x->R[r]? =some y->x<y
 |0,i,b,h1,h2,h3,h4,h5=>by omega
 |K+1,i,b,h1,h2,h3,h4,h5=>by
  unfold zU
  by_cases hi:i<w.length
  ·have hx:R[i]? =some R[i]:=Ya (by omega)
   have hy:R[b]? =some R[b]:=Ya (by omega)
   rw[if_pos (by omega),qU,hx,ZB,qU,hy,ZB,jP (by omega)]
   by_cases c:R[i]>R[b]
   ·rw[if_pos c,ZB]
    refine qdM hw hR K (i+1) i (by omega) (by omega) (by omega) (fun k x y g1 g2 g3=>?_) fun k x y g1 g2 g3=>?_
    ·rw[hx]at g3
     obtain rfl:=Ye g3
     by_cases z:k=i
     ·subst z
      rw[hx]at g2
      obtain rfl:=Ye g2
      exact Int.le_refl _
     have:=h4 k x _ (by omega) g2 hy
     omega
    rw[hx]at g3
    obtain rfl:=Ye g3
    have:=h4 k x _ g1 g2 hy
    omega
   rw[if_neg c,ZB]
   refine qdM hw hR K (i+1) b (by omega) (by omega) (by omega) (fun k x y g1 g2 g3=>?_) h5
   by_cases z:k=i
   ·subst z
    rw[hx]at g2
    obtain rfl:=Ye g2
    rw[hy]at g3
    obtain rfl:=Ye g3
    omega
   exact h4 k x y (by omega) g2 g3
  have e:i=w.length:=by omega
  rw[if_neg (by omega)]
  exact⟨b,rfl,by omega,fun k x y g1=>h4 k x y (by omega),h5⟩
theorem qf3 {N:Nat} (hN:2000<N) {t:Int} {w:List Int} (h:WOK t w) {F:List Int} (hp:F.Perm (rng w.length)) (so:Sor (qev t w) F 0 w.length) {L:Nat} (hL:L<w.length): ∀(K j:Nat) (l R:List Int),j<=L->L<K+j->l.length=w.length->(∀y∈l,0<=y/\y<=1000000000+(j:Int))->R.length=w.length->(∀k:Nat,k<w.length->R[k]? =some (if(k:Int)∈F.take j then-1 else qev t w (k:Int)))->
 zS N w K l R ((L-j:Nat):Int)=some (((F.take L).drop j).foldl inc l)
 |0,j,l,R,h1,h2,h3,h4,h5,h6=>by omega
 |K+1,j,l,R,h1,h2,h3,h4,h5,h6=>by
  have hf:=h.few
  have hFl:F.length=w.length:=by rw[hp.length_eq,qau]
  unfold zS
  by_cases c:j<L
  ·have hfj:F[j]? =some F[j]:=Ya (by omega)
   have hfm:=qaY.1 (hp.mem_iff.1 (List.getElem_mem (show j<F.length by omega)))
   have htk:F.take (j+1)=F.take j++[F[j]]:=List.take_succ_eq_append_getElem (by omega)
   have hdr:(F.take L).drop j=F[j]::(F.take L).drop (j+1):=by
    rw[List.drop_eq_getElem_cons (by rw[Ym];omega)]
    congr 1
    exact List.getElem_take
   generalize hv:F[j]=v at*
   obtain⟨f,rfl⟩: ∃f:Nat,v=(f:Int):=⟨v.toNat,by omega⟩
   have hfn:f<w.length:=by omega
   have nin: ∀p,j<=p->p<w.length-> ∀x,F[p]? =some x->x∉F.take j:=by
    intro p g1 g2 x hx hm
    obtain⟨q,hq,hqx⟩:=List.getElem_of_mem hm
    rw[Ym]at hq
    rw[List.getElem_take]at hqx
    have hq2:F[q]? =some x:=by rw[Ya (by omega),hqx]
    exact(so q p x x (Nat.zero_le _) (by omega) g2 hq2 hx).irr
   obtain⟨r,r1,r2,r3,r4⟩:=qdM (by omega) h5 N 1 0 (by omega) h.one (by omega) (fun k x y g1 g2 g3=>by
    have e:k=0:=by omega
    subst e
    rw[g2]at g3
    obtain rfl:=Ye g3
    exact Int.le_refl _) (fun k x y g1=>by omega)
   rw[show((0:Nat):Int)=0 from rfl,show((1:Nat):Int)=1 from rfl]at r1
   have hRf:=h6 f hfn
   rw[if_neg (nin j (Nat.le_refl _) (by omega) _ hfj)]at hRf
   have kf:=r_bd h ((w[(f:Int).toNat]?).getD 0)
   have hRr:=h6 r r2
   have hrf:r=f:=by
    have hle:=r3 f _ _ hfn hRf hRr
    by_cases z:(r:Int)∈F.take j
    ·rw[if_pos z]at hle
     have:0<=qev t w (f:Int):=kf.1
     omega
    rw[if_neg z]at hle hRr
    have hrm:(r:Int)∈F:=hp.mem_iff.2 (qaY.2 ⟨Int.natCast_nonneg _,by omega⟩)
    obtain⟨p,hpl,hpx⟩:=List.getElem_of_mem hrm
    have hp2:F[p]? =some (r:Int):=by rw[Ya hpl,hpx]
    rcases Nat.lt_trichotomy p j with g|g|g
    ·exact absurd (Yn (by rw[List.getElem?_take_of_lt g];exact hp2)) z
    ·subst g
     rw[hfj]at hp2
     have:=Ye hp2
     omega
    have hlt:=so j p _ _ (Nat.zero_le _) g (by omega) hfj hp2
    rcases hlt with q|⟨q,q2⟩
    ·omega
    have:=r4 f _ _ (by omega) hRf hRr
    omega
   subst hrf
   have hlr:l[r]? =some l[r]:=Ya (by omega)
   have hb:=h4 _ (List.getElem_mem (show r<l.length by omega))
   have e:inc l (r:Int)=l.set r (l[r]+1):=by
    unfold inc
    rw[Int.toNat_natCast,hlr]
    rfl
   rw[if_pos (by omega),r1,ZB,qU,hlr,ZB,qM (n:=l[r]+1) (by omega) (by omega),ve (by omega),ZB,qU,hRf,ZB,ve (by omega),ZB,<-e,qM (by omega) (by omega),show((L-j:Nat):Int)-1=((L-(j+1):Nat):Int)by omega,hdr,List.foldl_cons]
   refine qf3 hN h hp so hL K (j+1) _ _ (by omega) (by omega) (by rw[qch];exact h3) (fun y hy=>?_) (by rw[Yk];exact h5) fun k hk=>?_
   ·have:=qeb h4 (by omega) hy
    omega
   rw[htk,List.getElem?_set]
   by_cases z:r=k
   ·subst z
    rw[if_pos rfl,if_pos (by omega),if_pos (List.mem_append_right _ (List.mem_singleton.2 rfl))]
   rw[if_neg z,h6 k hk]
   congr 1
   by_cases y:(k:Int)∈F.take j
   ·rw[if_pos y,if_pos (List.mem_append_left _ y)]
   rw[if_neg y,if_neg]
   intro q
   rcases List.mem_append.1 q with q|q
   ·exact y q
   have:=List.mem_singleton.1 q
   omega
  have e:j=L:=by omega
  rw[if_neg (by omega),e,List.drop_eq_nil_of_le (by rw[Ym];omega)]
  rfl
theorem qcv {N:Nat} (hN:2000<N) {t:Int} {w:List Int} (h:WOK t w): ∃r:List Int,((zm w N 0 0).bind fun n15=>(zn t w n15 N ([]:List Int) ([]:List Int) t 0).bind fun(l23,l24,n25)=>(qP N l24 t w n15).bind fun l34=>((if l24.length=l34.length then some ()else none:Option Unit)).bind fun u35=>(cut l34 0 n25).bind fun s36=>(zo s36 N l23 0).bind fun l39=>some (l39,(0:Int)):Option (List Int×Int))=some (r,0)/\jr N t w=some r/\r.length<=1000:=by
 have hf:=h.few
 have s0:=qf9 h N 0 (Nat.zero_le _) (by omega)
 have s1:=qcE h N 0 (Nat.zero_le _) (by omega)
 rw[List.take_zero,show((0:Nat):Int)=0 from rfl]at s0 s1
 rw[show sm ([]:List Int)=0 from rfl]at s0
 simp only[List.map_nil,sm,Int.sub_zero]at s1
 rw[show rng 0=[]from rfl]at s1
 have hA:Asc (rng w.length) 0 w.length:=by
  intro i j x y g1 g2 g3 hx hy
  rw[qgB (by omega)]at hx hy
  have:=Ye hx
  have:=Ye hy
  omega
 obtain⟨F,f1,f2,f3⟩:=qei hN (qhk h) (by omega) (qau w.length) hA (fun x hx=>qaY.1 hx)
 have hFl:F.length=w.length:=by rw[f2.length_eq,qau]
 obtain⟨l1,l2⟩:=qgk h
 obtain⟨L,hL⟩: ∃L:Nat,t-sm (w.map (qE t (sm w)))=(L:Int):=⟨(t-sm (w.map (qE t (sm w)))).toNat,by omega⟩
 rw[hL]at s1 l1 l2
 have hq: ∀y∈w.map (qE t (sm w)),0<=y/\y<=1000000000+((0:Nat):Int):=fun y hy=>by
  obtain⟨x,hx,rfl⟩:=List.mem_map.1 hy
  have:=q_bd h hx
  omega
 have hp:=qf8 (s:=F.take L) (n:=w.length) (fun x hx=>qaY.1 (f2.mem_iff.1 (List.mem_of_mem_take hx))) (by rw[Ym];omega) N 0 (w.map (qE t (sm w))) (Nat.zero_le _) (by rw[Ym];omega) (by simp) hq
 have hr:=qf3 hN h f2 f3 (L:=L) (by omega) N 0 (w.map (qE t (sm w))) (w.map (rE t (sm w))) (Nat.zero_le _) (by omega) (by simp) hq (by simp) (fun k hk=>by
  rw[List.take_zero,if_neg (by simp),YA,Ya hk]
  unfold qev
  rw[Int.toNat_natCast,Ya hk]
  rfl)
 rw[show((0:Nat):Int)=0 from rfl,YR]at hp
 rw[YR,Nat.sub_zero]at hr
 refine⟨(F.take L).foldl inc (w.map (qE t (sm w))),?_,?_,?_⟩
 ·rw[s0.1,ZB,s1.1,ZB]
  simp only
  rw[f1,ZB,if_pos (by rw[qau,hFl]),ZB,qco (by omega),ZB,hp,ZB]
 ·unfold jr
  rw[s0.2,ZB,s1.2,ZB]
  simp only
  rw[hr,ZB]
 have: ∀(s l:List Int),(s.foldl inc l).length=l.length:=by
  intro s
  induction s with
  |nil=>intro l;rfl
  |cons x s ih=>intro l;rw[List.foldl_cons,ih,qch]
 rw[this,List.length_map]
 omega
end Go.Av
end
section
namespace Go.Av
open Go.Proofs Go.RowKit
variable [Glob]
def tE (t:Int):Int:=if t<0 then 3 else if t>999999999 then 3 else 0
def eE (t:Int) (w:List Int):Int:=if tE t=0 then wE w else tE t
theorem qgy {N:Nat} (hN:2000<N) {w:List Int} (hl:w.length<=400) (t:Int):(if t<0 then(zC true 3).bind fun r2=>(ku N w).bind fun r3=>(zi N ([r2,r3]:List Int)).bind fun r4=>some (r2,r3,r4)
 else(zC (decide (t>999999999)) 3).bind fun r5=>(ku N w).bind fun r6=>(zi N ([r5,r6]:List Int)).bind fun r7=>some (r5,r6,r7):Option (Int×Int×Int))=some (tE t,wE w,eE t w):=by
 unfold eE tE zC
 by_cases c:t<0
 ·rw[if_pos c,if_pos c,if_pos rfl,ZB,qdy hN hl,ZB,qex hN]
  rfl
 rw[if_neg c,if_neg c]
 by_cases d:t>999999999
 ·rw[decide_eq_true d,if_pos d,if_pos rfl,ZB,qdy hN hl,ZB,qex hN]
  rfl
 rw[decide_eq_false d,if_neg d,if_neg (by decide),ZB,qdy hN hl,ZB,qex hN]
 rfl
theorem qgD {N:Nat} (hN:2000<N) {w:List Int} (hl:w.length<=400) (t:Int):(if t<0 then(jW true 3).bind fun r2=>(zb N w).bind fun r3=>(ja N ([r2,r3]:List Int)).bind fun r4=>some (r2,r3,r4)
 else(jW (decide (t>999999999)) 3).bind fun r5=>(zb N w).bind fun r6=>(ja N ([r5,r6]:List Int)).bind fun r7=>some (r5,r6,r7):Option (Int×Int×Int))=some (tE t,wE w,eE t w):=by
 unfold eE tE jW
 by_cases c:t<0
 ·rw[if_pos c,if_pos c,if_pos rfl,ZB,qdi hN hl,ZB,qfk hN]
  rfl
 rw[if_neg c,if_neg c]
 by_cases d:t>999999999
 ·rw[decide_eq_true d,if_pos d,if_pos rfl,ZB,qdi hN hl,ZB,qfk hN]
  rfl
 rw[decide_eq_false d,if_neg d,if_neg (by decide),ZB,qdi hN hl,ZB,qfk hN]
 rfl
theorem qg9 {t:Int} {w:List Int} (h:eE t w=0):WOK t w:=by
 have ht:tE t=0:=by
  unfold eE at h
  by_cases c:tE t=0
  ·exact c
  rw[if_neg c]at h;exact absurd h c
 have hw:wE w=0:=by
  unfold eE at h
  rw[if_pos ht]at h
  exact h
 have ht2:0<=t/\t<=999999999:=by
  unfold tE at ht
  by_cases c:t<0
  ·rw[if_pos c]at ht;cases ht
  rw[if_neg c]at ht
  by_cases d:t>999999999
  ·rw[if_pos d]at ht;cases ht
  omega
 unfold wE at hw
 by_cases c1:(w.length:Int)=0
 ·rw[if_pos c1]at hw;cases hw
 rw[if_neg c1]at hw
 by_cases c2:(w.length:Int)>256
 ·rw[if_pos c2]at hw;cases hw
 rw[if_neg c2]at hw
 by_cases c3:w.any xB=true
 ·rw[if_pos c3]at hw;cases hw
 rw[if_neg c3]at hw
 by_cases c4:sm w=0
 ·rw[if_pos c4]at hw;cases hw
 have hin: ∀x∈w,0<=x/\x<=999999999:=fun x hx=>yo (by
  cases q:xB x with
  |false=>rfl
  |true=>exact absurd (List.any_eq_true.2 ⟨x,hx,q⟩) c3)
 have hs:=qaO fun x hx=>(hin x hx).1
 exact⟨ht2,by omega,by omega,hin,by omega⟩
theorem qdc {N:Nat} (hN:2000<N) {w:List Int} (hl:w.length<=400) (t:Int): ∃r:List Int,jR N t w=some (r,eE t w)/\(eE t w≠0->r=[])/\(eE t w=0->jr N t w=some r/\r.length<=1000):=by
 unfold jR
 rw[qgy hN hl,ZB]
 simp only
 by_cases z:eE t w=0
 ·obtain⟨r,r1,r2,r3⟩:=qcv hN (qg9 z)
  rw[if_neg (by simp[z]),z]
  exact⟨r,r1,fun h=>absurd rfl h,fun _=>⟨r2,r3⟩⟩
 rw[if_pos (by simp[z])]
 exact⟨[],rfl,fun _=>rfl,fun h=>absurd h z⟩
theorem qcD {N:Nat} {e:Int} (h:e≠0) (want:List Int):zI N [] e e want=some true:=by
 unfold zI
 rw[if_pos (by simp[h]),if_pos (by rfl),decide_eq_true rfl]
 rfl
theorem qd9 {N:Nat} (hN:2000<N) {r:List Int} (h:r.length<=1000):zI N r 0 0 r=some true:=by
 unfold zI
 rw[if_neg (by decide),if_pos rfl,same_eq hN h]
 rfl
theorem qab {N:Nat} (hN:600000<N) (total:Int) (w:List Int) (pair:Int×Int):jw N total w pair=some true:=by
 have hN2:2000<N:=by omega
 unfold jw awk
 rw[ZB,if_neg (by decide),ZB]
 by_cases t:(w.length:Int)>260
 ·rw[if_pos (decide_eq_true t)];rfl
 rw[if_neg (by simp;omega)]
 have hl:w.length<=400:=by omega
 obtain⟨r,r1,r2,r3⟩:=qdc hN2 hl total
 rw[r1,ZB,qgD hN2 hl,ZB]
 simp only
 obtain⟨d,d1,d2,d3,d4⟩:=qeg hN2 pair.1 pair.2
 have hfin:((jY N pair.1 pair.2).bind fun r31=>(je pair.1 pair.2).bind fun r32=>if(!decide (r32=0))=true then(zI N r31.1 r31.2 r32 []).bind fun r34=>some r34 else(vM N pair.1 pair.2).bind fun r35=>(zI N r31.1 r31.2 0 r35).bind fun r36=>some r36:Option Bool)=some true:=by
  rw[d1,ZB,d2,ZB]
  cases c:qaS pair.1 pair.2 with
  |true=>
   rw[if_pos rfl,if_pos (by decide),d3 c]
   rw[qcD (by decide)]
   rfl
  |false=>
   obtain⟨e1,e2,e3⟩:=d4 c
   rw[if_neg (show¬(false=true)by decide),if_neg (by decide),e3,ZB,e1,qd9 hN2 e2]
   rfl
 by_cases z:eE total w=0
 ·obtain⟨q1,q2⟩:=r3 z
  rw[z,if_neg (by decide),if_pos rfl,q1,ZB,qd9 hN2 q2,ZB,ZB,if_neg (by decide)]
  exact hfin
 rw[r2 z,if_pos (by simp[z]),qcD z,ZB,if_neg (by decide),if_neg z,ZB,if_neg (by decide)]
 exact hfin
end Go.Av
end
