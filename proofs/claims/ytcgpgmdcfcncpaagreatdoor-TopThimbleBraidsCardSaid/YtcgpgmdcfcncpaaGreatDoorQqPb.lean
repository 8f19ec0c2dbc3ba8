/-
  Normal forms are forms; their words have the permutation of the word.
-/
import Derived.Test.YtcgpgmdcfcncpaaGreatDoorQqPa
noncomputable section
set_option linter.unusedVariables false
set_option linter.unusedSimpArgs false
set_option linter.unusedSectionVars false
set_option maxRecDepth 100000
section
namespace Go.Av
theorem qqc {n:Nat} (n12:n<=12) (n1:1<=n) {s:SB} (hs:s.Ok n) (fs:s.Fix n) (h: ∀q,q+1<n-> ¬s.Begs q):s=Uf:=by
 refine SB.ext fun k=>?_
 by_cases hk:k<n
 ·have:=(qke n12 n1 hs).1 h
  rw[<-U1]at this
  exact U3 this hk
 exact fs k (by omega)
theorem qrp {n:Nat} (n12:n<=12) (n1:1<=n) {s:SB} {W:List Int} (h:WdB n s W):s.Ok n->s.Fix n-> ∀t:SB,pmF t W=t.comp s:=by
 induction h with
 |@nil s h=>
  intro hs fs t
  rw[qqc n12 n1 hs fs h]
  exact SB.ext fun k=>rfl
 |@cons s i W hi hb hm h ih=>
  intro hs fs t
  show pmF (t.bk (((i+1:Nat):Int).natAbs-1)) W=_
  rw[Int.natAbs_natCast,Nat.add_sub_cancel,ih (hs.fr hi) (fs.fr hi)]
  refine SB.ext fun k=>?_
  show s.f (tr5 i (tr5 i (t.f k)))=s.f (t.f k)
  rw[qey]
theorem qpo {w:List Int} (h0:0<w.length): ∀(k i:Nat),i<w.length*k->((List.replicate k w).flatten)[i]? =w[i%w.length]?
 |0,i,h=>by omega
 |k+1,i,h=>by
  rw[List.replicate_succ,List.flatten_cons]
  by_cases c:i<w.length
  ·rw[Yf c,Nat.mod_eq_of_lt c]
  rw[Nat.mul_succ]at h
  rw[Yo (by omega),qpo h0 k (i-w.length) (by omega),<-Nat.mod_eq_sub_mod (by omega)]
theorem qpb {w r:List Int} {k:Nat} (h0:0<w.length) (hl:r.length=w.length*k) (h:Rep w r (w.length*k)):r=(List.replicate k w).flatten:=by
 apply List.ext_getElem?
 intro i
 by_cases c:i<w.length*k
 ·rw[h i c,qpo h0 k i c]
 have e:((List.replicate k w).flatten).length=w.length*k:=by
  simp[List.length_flatten,Nat.mul_comm]
 rw[Yg (by omega),Yg (by omega)]
theorem qmL {t d:SB} {w:List Int} (hw: ∀s,pmF s w=s.comp d) (n:Nat) (hd:d=Ue n): ∀k,pmF t ((List.replicate k w).flatten)=t.comp (hpS n k)
 |0=>rfl
 |k+1=>by
  have e1:Ue n=hpS n 1:=by unfold hpS;rw[if_neg (by decide)]
  rw[List.replicate_succ',List.flatten_append,qkp,qmL hw n hd k]
  show pmF _ (w++[])=_
  rw[List.append_nil,hw,hd,e1,qcA,qkk]
theorem qmT: ∀(w:List Int) (t:SB),pmF (pmF t w) (w.map fun x=> -x).reverse=t
 |[],t=>rfl
 |c::w,t=>by
  rw[List.map_cons,List.reverse_cons,qkp]
  show pmF (pmF (pmF (t.bk (c.natAbs-1)) w) _) [-c]=t
  rw[qmT w]
  show(t.bk (c.natAbs-1)).bk ((-c).natAbs-1)=t
  rw[Int.natAbs_neg,bk_bk]
theorem qqt {n:Nat} {w:List Int} (h:xO n w):xO n (w.map fun x=> -x).reverse:=fun c hc=>by
 obtain⟨d,hd,rfl⟩:=List.mem_map.1 (List.mem_reverse.1 hc)
 have:=h d hd
 omega
theorem qqP {n:Nat} {w:List Int} (h:xO n w) (k:Nat):xO n ((List.replicate k w).flatten):=fun c hc=>by
 obtain⟨l,hl,hc⟩:=List.mem_flatten.1 hc
 rw[(List.mem_replicate.1 hl).2]at hc
 exact h c hc
section
variable {n:Nat} (n12:n<=12) (n2:2<=n) {N:Nat} (hN:200000<N) {M:Nat} (hM:M<=60) {B:Nat->SB} (hB: ∀q,q<M->(B q).Ok n) (fB: ∀q,(B q).Fix n)
include n12 n2 hN hM hB fB
theorem qm3 (hf:Nf n M B) (hne: ∀q,q<M->(B q).li n≠(Ue n).li n/\(B q).li n≠ve n) (h:Int): ∀(K i:Nat),i<=M->M<K+i->jE N (n:Int) ⟨h,je n M B⟩ K (i:Int)=some (.inl ())
 |0,i,h0,hK=>by omega
 |K+1,i,h0,hK=>by
  unfold jE
  dsimp only
  rw[qC]
  by_cases hi:i<M
  ·have ok:=hB i hi
   have hc:qaa N (n:Int) ((B i).li n)=some 0:=by
    unfold qaa
    rw[Ud,decide_eq_true rfl,qdv,ql7 (by omega) (qdM (by omega) ok)]
    simp only[Bool.not_true,ZF,if_false,ZB]
    rw[qjm (by simp) (by simp;omega),ZB,qmi,qqh]
   rw[if_pos (by omega),qx,jc hi]
   simp only[ZB]
   rw[hc]
   simp only[ZB,decide_true,Bool.not_true,ZF,if_false]
   have before:(if(i:Int)>0 then(idx (je n M B) (w64 ((i:Int)-1))).bind fun x34=>(yH N x34 ((B i).li n)).bind fun r35=>some r35.2 else some false:Option Bool)=some false:=by
    by_cases i0:(i:Int)>0
    ·obtain⟨j,rfl⟩: ∃j,i=j+1:=⟨i-1,by omega⟩
     rw[if_pos i0,show w64 (((j+1:Nat):Int)-1)=(j:Int)by rw[z8 (by omega) (by omega)];omega,qx,jc (by omega),ZB]
     rcases qi3 (n:=n) (by omega) (N:=N) (by omega) (by omega) (s:=B j) (t:=B (j+1)) (hB j (by omega))with⟨q,q1,q2,q3,q4⟩|⟨_,q4⟩
     ·exact absurd ⟨by omega,q1,q2,q3⟩ (hf j q)
     rw[q4];rfl
    rw[if_neg i0]
   rw[before]
   simp only[ZB,ZF,if_false]
   obtain⟨b,b1,b2⟩:=qls n12 (by omega) (N:=N) (by omega) (B i)
   have bf:b=false:=by
    cases b with
    |false=>rfl
    |true=>exact absurd ((qke n12 (by omega) ok).1 (b2.1 rfl)) (hne i hi).2
   subst bf
   rw[b1]
   simp only[ZB,ZF,if_false]
   rw[qhV (by omega) (by omega),ZB,qnp (by rw[Ud];omega) (by rw[Ud];omega),decide_eq_false (hne i hi).1]
   simp only[ZB,ZF,if_false]
   rw[qA (by omega)]
   exact qm3 hf hne h K (i+1) (by omega) (by omega)
  rw[if_neg (by omega)]
theorem qoa (hf:Nf n M B) (hne: ∀q,q<M->(B q).li n≠(Ue n).li n/\(B q).li n≠ve n) {h:Int} (hh: -200<=h/\h<=200):xZ N (n:Int) ⟨h,je n M B⟩=some 0:=by
 unfold xZ
 have:=qm3 n12 n2 hN hM hB fB hf hne h N 0 (Nat.zero_le _) (by omega)
 rw[show((0:Nat):Int)=0 from rfl]at this
 dsimp only
 rw[qlI,if_neg (by omega),ZB,qhR (by omega),ZB,if_neg (by omega),if_neg (by omega),if_neg (by omega),qdv,qdv,qC,decide_eq_false (by omega)]
 simp only[ZB,ZF,if_false]
 rw[qjm (by simp) (by simp;omega)]
 simp only[ZB]
 rw[qmi,qmi,qqh,decide_eq_true rfl]
 simp only[Bool.not_true,ZF,if_false]
 rw[this]
 rfl
theorem qni (h:Int): ∀(K i:Nat) (l:List Int) (X:SB),pmF Uf l=X.comp (cmN B i)->xO n l->l.length<=10000+144*i->i<=M->M<K+i-> ∃r,yP N ⟨h,je n M B⟩ K l (i:Int)=some r/\pmF Uf r=X.comp (cmN B M)/\xO n r
 |0,i,l,X,hX,hl,hb,h0,hK=>by omega
 |K+1,i,l,X,hX,hl,hb,h0,hK=>by
  unfold yP
  dsimp only
  rw[qC]
  by_cases hi:i<M
  ·have ok:=hB i hi
   obtain⟨W,w1,w2⟩:=qqj (n:=n) (n*n) (B i) (SB.inv_le n _)
   have nn:n*n<=12*12:=Nat.mul_le_mul n12 n12
   rw[if_pos (by omega),qx,jc hi,ZB,qnx n12 (by omega) (by omega) w1 (by omega),ZB,qb8 (by omega) (by omega),ZB,qA (by omega)]
   refine qni h K (i+1) _ X ?_ (hl.app w1.pos.2) (by rw[Yq];omega) (by omega) (by omega)
   rw[qkp,hX,qrp n12 (by omega) w1 ok (fB i),cmN,qcA]
  rw[if_neg (by omega)]
  have:i=M:=by omega
  subst this
  exact⟨l,rfl,hX,hl⟩
theorem qnX (hf:Nf n M B) (hne: ∀q,q<M->(B q).li n≠(Ue n).li n/\(B q).li n≠ve n) {h:Int} (hh: -60<=h/\h<=60): ∃u e,qaR N (n:Int) ⟨h,je n M B⟩=some (u,e)/\(e=5\/(e=0/\pmF Uf u=(hpS n h.natAbs).comp (cmN B M)/\xO n u)):=by
 obtain⟨H,h1,h2⟩:=qqj (n:=n) (n*n) (Ue n) (SB.inv_le n _)
 have nn:n*n<=12*12:=Nat.mul_le_mul n12 n12
 have h0:0<H.length:=by
  cases h1 with
  |nil h=>
   exfalso
   refine h 0 (by omega) ?_
   show rv5 n 1<rv5 n 0
   rw[qaw (by omega),qaw (by omega)]
   omega
  |cons=>simp
 have pmH: ∀s,pmF s H=s.comp (Ue n):=qrp n12 (by omega) h1 (Uq n) (Uv n)
 have pmI: ∀s,pmF s (H.map fun x=> -x).reverse=s.comp (Ue n):=fun s=>by
  have:=qmT H (s.comp (Ue n))
  rw[pmH,qcA,qhn,qil]at this
  exact this
 have tw: ∃T:List Int,(if h<0 then(yJ N H).bind fun l9=>some l9 else some H:Option (List Int))=some T/\T.length=H.length/\(∀s,pmF s T=s.comp (Ue n))/\xO n T:=by
  by_cases c:h<0
  ·rw[if_pos c,qml (by omega) (by omega)]
   have e:(H.map fun x=>w64 (0-x))=H.map fun x=> -x:=List.map_congr_left fun x hx=>by
    have:=h1.pos.2 x hx
    rw[z8 (by omega) (by omega)];omega
   rw[e]
   exact⟨_,rfl,by simp,pmI,qqt h1.pos.2⟩
  rw[if_neg c]
  exact⟨H,rfl,rfl,pmH,h1.pos.2⟩
 obtain⟨T,t1,t2,t3,t4⟩:=tw
 obtain⟨r,r1,r2,r3⟩:=qnN (N:=N) (by omega) (w:=T) (k:=h.natAbs) (by omega) (by omega) (by omega)
 have rf:=qpb (by omega) r2 r3
 have hTk:T.length*h.natAbs<=144*60:=Nat.mul_le_mul (by omega) (by omega)
 obtain⟨u,u1,u2,u3⟩:=qni n12 n2 hN hM hB fB h N 0 r (hpS n h.natAbs) (by rw[rf,qmL t3 n rfl,qgC];rfl) (by rw[rf];exact qqP t4 _) (by omega) (Nat.zero_le _) (by omega)
 rw[show((0:Nat):Int)=0 from rfl]at u1
 have key:qaR N (n:Int) ⟨h,je n M B⟩=some (if 200<u.length then([],5)else(u,0)):=by
  unfold qaR
  rw[qoa n12 n2 hN hM hB fB hf hne (by omega),ZB,decide_eq_true rfl]
  simp only[Bool.not_true,ZF,if_false]
  rw[qhV (by omega) (by omega),ZB,qnx n12 (by omega) (by omega) h1 (by omega),ZB]
  rw[t1,ZB,qhR (by omega),ZB,r1,ZB,if_pos (by omega),ZB,u1,ZB,qmc]
  rfl
 rw[key]
 by_cases c:200<u.length
 ·rw[if_pos c];exact⟨_,_,rfl,.inl rfl⟩
 rw[if_neg c];exact⟨_,_,rfl,.inr ⟨rfl,u2,u3⟩⟩
end
theorem qoZ {N n:Nat} (hN:600000<N) (n2:2<=n) (n6:n<=6) {w:List Int} (W:qa7 n w) (hl:w.length<=30): ∃f u e,qa0 N (n:Int) w=some f/\qaR N (n:Int) f=some (u,e)/\(e=5\/(e=0/\pmF Uf u=pmF Uf w/\xO n u)):=by
 obtain⟨f,f1,f2,_,_⟩:=nform n2 n6 (N:=N) (by omega) W (by omega)
 obtain⟨A,a1,a2,rfl⟩:=f2
 have hw:xO n w:=W.let_
 have lok:=qet (n:=n) (l:=fac n w) fun s hs=>(qgn hw s hs).ok
 have lfx:=qja (n:=n) (l:=fac n w) fun s hs=>(qgn hw s hs).fix
 have fA:=a1.fix lfx
 have okA:OkM n w.length A:=by
  have:=(a1.flip (by rw[<-qbr n w];exact lok)).2
  exact this
 obtain⟨c,M,e,e1,e2,e3⟩:=qmE (by omega) n2 okA a2 fA (-((ngs w:Nat):Int))
 have hg:ngs w<=w.length:=List.countP_le_length
 have nfB:Nf n M (fun j=>A (c+j)):=fun k i q=>a2 (c+k) i ⟨by have:=q.k_;omega,q.i_,q.b_,q.e_⟩
 obtain⟨u,v,u1,u2⟩:=qnX (n:=n) (by omega) n2 (N:=N) (by omega) (M:=M) (by omega) (B:=fun j=>A (c+j)) (fun q hq=>okA _ (by omega)) (fun q=>fA _) nfB e3 (h:= -((ngs w:Nat):Int)+(c:Int)) (by omega)
 refine⟨_,u,v,f1,by rw[e1];exact u1,?_⟩
 rcases u2 with u2|⟨u2,u3,u4⟩
 ·exact .inl u2
 refine .inr ⟨u2,?_,u4⟩
 have p:=qoq w hw [] Uf 0 rfl
 rw[Nat.zero_add]at p
 have p2:pmF Uf w=(hpS n (ngs w)).comp (cmN (y9 (fac n w)) w.length):=by
  rw[p]
  show(hpS n (ngs w)).comp (cmN (y9 (fac n w)) (fac n w).length)=_
  rw[qbr]
 rw[p2,<-a1.cm,e2,<-qcA,qkk,u3]
 rw[qqT (n:=n) (a:=(-((ngs w:Nat):Int)+(c:Int)).natAbs) (b:=ngs w+c) (by omega)]
end Go.Av
end
section
namespace Go.Av
theorem qmZ {n:Nat} (hn:n<=256) {s:SB} (hs:s.Ok n): ∀(m x:Nat),x<n->itP (s.li n) (itP (s.rev.li n) x m) m=x
 |0,x,hx=>rfl
 |m+1,x,hx=>by
  have hp:=qdM hn hs.rev
  have hy:itP (s.rev.li n) x m<n:=by have:=qgs hp (x:=x) (by rw[Ud];exact hx) m;rwa [Ud]at this
  have e1:itP (s.rev.li n) x (m+1)=s.g (itP (s.rev.li n) x m):=by
   show nxP (s.rev.li n) _=_
   rw[qj6 hy]
   rfl
  have hz:=hs.g_ _ hy
  rw[e1,Nat.add_comm m 1,qfH]
  have e2:itP (s.li n) (s.g (itP (s.rev.li n) x m)) 1=itP (s.rev.li n) x m:=by
   show nxP (s.li n) _=_
   rw[show itP (s.li n) (s.g (itP (s.rev.li n) x m)) 0=s.g (itP (s.rev.li n) x m)from rfl,qj6 hz,s.fg]
  rw[e2,qmZ hn hs m x hx]
theorem qqD {n:Nat} (hn:n<=256) {s:SB} (hs:s.Ok n) {P:Nat} (h: ∀t,t<n->itP (s.li n) t P=t) {x L:Nat} (hx:x<n) (hL:qhD (s.rev.li n) x L):L∣P:=by
 refine hL.dvd ?_
 have hp:=qdM hn hs.rev
 have hz:itP (s.rev.li n) x P<n:=by have:=qgs hp (x:=x) (by rw[Ud];exact hx) P;rwa [Ud]at this
 have a:=qmZ hn hs P x hx
 rw[h _ hz]at a
 exact a
section
variable {n:Nat} (hn:n<=12) {N:Nat} (hN:2000<N)
include hn hN
theorem qi5: ∀{w:List Int} {s:SB},s.Ok n->xO n w-> ∀v∈qcX s w,∃x:Nat,x<n/\v=(x:Int)
 |[],s,hs,hw,v,hv=>by cases hv
 |c::w,s,hs,hw,v,hv=>by
  have hc:=hw c (List.mem_cons_self ..)
  rw[qcX]at hv
  rcases List.mem_cons.1 hv with rfl|hv
  ·refine⟨_,?_,rfl⟩
   split
   ·exact hs.g_ _ (by omega)
   exact hs.g_ _ (by omega)
  exact qi5 (w:=w) (hs.bk (by omega)) (fun d hd=>hw d (List.mem_cons_of_mem _ hd)) v hv
theorem qnn {l2:List Int} (h2:l2.length=n): ∀(K i:Nat) (l:List Int),l.length=n->i<=n->n<K+i->(∀k,k<i->l[k]? =some (k:Int))->qL l2 K l (i:Int)=some (ve n)
 |0,i,l,hl,h,hK,hk=>by omega
 |K+1,i,l,hl,h,hK,hk=>by
  unfold qL
  rw[h2]
  by_cases hi:i<n
  ·rw[if_pos (by omega),qx,Ya (by omega),ZB,jB (by omega),ZB,qA (by omega)]
   refine qnn h2 K (i+1) _ (by simpa using hl) (by omega) (by omega) (fun k hk1=>?_)
   by_cases e:k=i
   ·subst e;rw[List.getElem?_set_self (by omega)]
   rw[Yw (fun z=>e z.symm),hk k (by omega)]
  rw[if_neg (by omega)]
  congr 1
  apply List.ext_getElem?
  intro k
  by_cases hkn:k<n
  ·rw[hk k (by omega),qcr hkn]
  rw[Yg (by omega),Yg (by rw[xh];omega)]
theorem qmJ {sn:List Int} (hl:sn.length<=300) (hs: ∀v∈sn,∃x:Nat,x<n/\v=(x:Int)): ∀(K i:Nat),i<=sn.length->sn.length<K+i->qJ sn (ve n) K (sn.take i) (i:Int)=some sn
 |0,i,h,hK=>by omega
 |K+1,i,h,hK=>by
  unfold qJ
  by_cases hi:i<sn.length
  ·obtain⟨x,hx,e⟩:=hs _ (List.getElem_mem hi)
   have ix:idx (ve n) (x:Int)=some (x:Int):=by rw[qx,qcr hx]
   rw[if_pos (by omega),qx,Ya hi,ZB,e,ix,ZB,qb8 (by simp;omega) (by simp;omega),ZB,qA (by omega),<-e,<-List.take_succ_eq_append_getElem hi]
   exact qmJ hl hs K (i+1) (by omega) (by omega)
  rw[if_neg (by omega),List.take_of_length_le (by omega)]
theorem qmU {q:SB} (hq:q.Ok n): ∀(K i:Nat) (l:List Int),l.length=n->i<=n->n<K+i-> ∃r,qK (q.li n) (ve n) K l (i:Int)=some r
 |0,i,l,hl,h,hK=>by omega
 |K+1,i,l,hl,h,hK=>by
  unfold qK
  rw[Ud]
  by_cases hi:i<n
  ·have ix:idx (ve n) ((q.f i:Nat):Int)=some ((q.f i:Nat):Int):=by rw[qx,qcr (hq.f_ i hi)]
   rw[if_pos (by omega),Ug hi,ZB,ix,ZB,qx,Ya (by omega),ZB,jB (by omega),ZB,qA (by omega)]
   exact qmU hq K (i+1) _ (by simpa using hl) (by omega) (by omega)
  rw[if_neg (by omega)]
  exact⟨l,rfl⟩
theorem qkt {q:SB} (hq:q.Ok n) {sn:List Int} (hl:sn.length<=300) (hs: ∀v∈sn,∃x:Nat,x<n/\v=(x:Int)):jZ N ⟨sn,q.li n⟩ 1=some [sn]:=by
 unfold jZ vw yG
 dsimp only
 have a:=qnn hn hN (l2:=List.replicate n 0) (by simp) N 0 (List.replicate n 0) (by simp) (Nat.zero_le _) (by omega) (fun k hk=>by omega)
 have b:=qmJ hn hN hl hs N 0 (Nat.zero_le _) (by omega)
 obtain⟨r,c⟩:=qmU hn hN hq N 0 (List.replicate n 0) (by simp) (Nat.zero_le _) (by omega)
 rw[show((0:Nat):Int)=0 from rfl]at a b c
 rw[List.take_zero]at b
 rw[ZB,Ud,qgq (by omega),ZB,a,ZB]
 obtain⟨K,rfl⟩: ∃K,N=K+1+1:=⟨N-2,by omega⟩
 have w1:w64 (0+1)=1:=rfl
 rw[qI,if_pos (by decide),b,ZB]
 unfold vz
 simp only[ZB]
 rw[xh,qgq (by omega),ZB,c,ZB,w1,qI,if_neg (by decide)]
 rfl
theorem seen_eq {w:List Int} (h:qdk n w):qa3 N (n:Int) w 1=some ([qcX Uf w],0):=by
 have hw:=h.word
 have h24:=h.w24
 unfold qa3 qaz
 rw[qhX (by omega) h,ZB,qfJ (by decide) (by decide)]
 simp only[ZB]
 rw[qfx (by omega) (by simp) (by simp),ZB,decide_eq_true rfl]
 simp only[Bool.not_true,ZF,if_false]
 rw[qgS hn hN hw,ZB,qkt hn hN (qin (Un n) h.let_).rev (by rw[qdj];omega) (qi5 hn hN (Un n) h.let_)]
 rfl
end
theorem qiW: ∀(w:List Int) (s:SB) (i:Nat) (h:i<w.length),(qcX s w)[i]? =some ((if 0<w[i]then(pmF s (w.take i)).g (w[i].natAbs-1)else(pmF s (w.take i)).g w[i].natAbs:Nat):Int)
 |[],s,i,h=>by simp at h
 |c::w,s,0,h=>rfl
 |c::w,s,i+1,h=>by
  rw[qcX,YK,qiW w _ i (by simpa using h)]
  rfl
theorem qlU {N:Nat} (hN:2000<N) {n:Nat} {w:List Int} (W:qa7 n w):qbS N (n:Int) w=some (w.map (fun x=> -x),0):=by
 have wl:=W.len
 unfold qbS
 rw[qg0 hN (by omega),qmD W,ZB,decide_eq_true rfl]
 simp only[Bool.not_true,ZF,if_false]
 rw[qjs hN (by omega)]
 have e:(w.map fun x=>w64 (0-x))=w.map fun x=> -x:=List.map_congr_left fun x hx=>by
  have:=W.let_ x hx
  have:=W.n2
  rw[z8 (by omega) (by omega)];omega
 rw[e]
 rfl
theorem qmH: ∀(w:List Int) (s:SB),pmF s (w.map fun x=> -x)=pmF s w
 |[],s=>rfl
 |c::w,s=>by
  show pmF (s.bk ((-c).natAbs-1)) _=pmF (s.bk (c.natAbs-1)) w
  rw[Int.natAbs_neg,qmH w]
theorem qqV {n:Nat} {w:List Int} (h:qdk n w):qdk n (w.map fun x=> -x):=
 ⟨h.n2,h.n12,by rw[List.length_map];exact h.w1,by rw[List.length_map];exact h.w24,fun c hc=>by
  obtain⟨d,hd,rfl⟩:=List.mem_map.1 hc
  have:=h.let_ d hd
  omega⟩
theorem qlE {N:Nat} (hN:2000<N) {n:Nat} {w:List Int} (W:qa7 n w):qck N (n:Int) w=some ((pmF Uf w).li n,0):=by
 have wl:=W.len
 unfold qck
 rw[qg0 hN (by omega),qmD W,ZB,decide_eq_true rfl]
 simp only[Bool.not_true,ZF,if_false]
 rw[qqK W.n2 hN W]
 rfl
theorem qkS {N:Nat} (hN:2000<N) {n:Nat} (hn:n<=256) {s:SB} (hs:s.Ok n):yg N (s.li n)=some 0:=by
 obtain⟨e,e1,e2,_,_⟩:=qnZ hN (p:=s.li n) (by rw[Ud];omega)
 rw[ql7 hN (qdM hn hs)]at e1
 rw[e2,<-e1]
theorem qpM {n:Nat} (hn:n<=12) {s:SB} (hs:s.Ok n) {c r:List Int} (hr:r.length=n) (hc:c.length=n) (h: ∀k,k<n->r[k]? =c[s.g k]?): ∀(K i:Nat),i<=n->n<K+i->qG (n:Int) c (s.li n,0) (r,0) K (i:Int)=some (.inl ())
 |0,i,h0,hK=>by omega
 |K+1,i,h0,hK=>by
  unfold qG
  by_cases hi:i<n
  ·have g:=hs.f_ i hi
   have e:=h (s.f i) g
   rw[s.gf,Ya (show i<c.length by omega)]at e
   rw[if_pos (by omega),Ug hi,ZB,qx,e,ZB,qx,Ya (show i<c.length by omega),ZB,decide_eq_true rfl,if_neg (by decide),qA (by omega)]
   exact qpM hn hs hr hc h K (i+1) (by omega) (by omega)
  rw[if_neg (by omega)]
theorem qlG {N:Nat} (hN:2000<N) {n:Nat} {w:List Int} (h:qdk n w): ∀(K i:Nat),i<=w.length->w.length<K+i->qE N (n:Int) w ([qcX Uf w],0) ([qcX Uf (w.map fun x=> -x)],0) K (i:Int)=some (.inl ())
 |0,i,h0,hK=>by omega
 |K+1,i,h0,hK=>by
  have h24:=h.w24
  have h12:=h.n12
  unfold qE
  by_cases hi:i<w.length
  ·have hc:=h.let_ _ (List.getElem_mem hi)
   have ht:xO n (w.take i):=fun d hd=>h.let_ d (List.mem_of_mem_take hd)
   have WT:qa7 n (w.take i):=⟨by have:=h.n2;omega,h12,by rw[Ym];omega,ht⟩
   have ok:=qin (Un n) ht
   have a:=qiW w Uf i hi
   have b:=qiW (w.map fun x=> -x) Uf i (by rw[List.length_map];exact hi)
   rw[<-List.map_take,qmH,List.getElem_map]at b
   have ew:idx w (i:Int)=some w[i]:=by rw[qx];exact Ya hi
   rw[if_pos (by omega),qql (by omega),ZB,qlE hN WT]
   simp only[ZB,decide_true,Bool.not_true,ZF,if_false]
   rw[Ud,decide_eq_true rfl]
   simp only[Bool.not_true,ZF,if_false]
   rw[qkS hN (by omega) ok]
   simp only[ZB,decide_true,Bool.not_true,ZF,if_false]
   rw[show∀l:List Int,idx [l] 0=some l from fun l=>rfl,show∀l:List Int,idx [l] 0=some l from fun l=>rfl]
   simp only[ZB]
   rw[ew]
   generalize w[i]=c at*
   generalize pmF Uf (w.take i)=s at*
   obtain⟨m,hm⟩: ∃m:Nat,c.natAbs=m+1:=⟨c.natAbs-1,by omega⟩
   have hm2:m+1<n:=by omega
   have g0:=ok.g_ m (by omega)
   have g1:=ok.g_ (m+1) hm2
   rw[Int.natAbs_neg]at b
   rw[hm,Nat.add_sub_cancel]at a b
   by_cases p:0<c
   ·rw[if_pos p]at a
    rw[if_neg (show¬0< -c by omega)]at b
    have ec:c=((m+1:Nat):Int):=by omega
    rw[qx,a,qx,b]
    simp only[ZB]
    rw[if_neg (by omega),if_neg (by omega),if_neg (by omega),decide_eq_false (by omega)]
    simp only[ZB,ZF,if_false]
    rw[Ug g0,Ug g1,s.fg,s.fg]
    simp only[ZB]
    rw[qA (by omega),qA (by omega),ec,qA (by omega),if_pos (by omega),decide_eq_true rfl,decide_eq_true rfl]
    simp only[Bool.not_true,ZF,if_false]
    rw[if_neg (by omega)]
    simp only[ZB,ZF,if_false]
    rw[qA (by omega)]
    exact qlG hN h K (i+1) (by omega) (by omega)
   rw[if_neg p]at a
   rw[if_pos (show 0< -c by omega)]at b
   have ec:c= -((m+1:Nat):Int):=by omega
   rw[qx,a,qx,b]
   simp only[ZB]
   rw[if_neg (by omega),if_neg (by omega),if_neg (by omega),decide_eq_false (by omega)]
   simp only[ZB,ZF,if_false]
   rw[Ug g0,Ug g1,s.fg,s.fg]
   simp only[ZB]
   have z1:w64 (1-c)=((m+1+1:Nat):Int):=by rw[z8 (by omega) (by omega)];omega
   have z2:w64 (0-c)=((m+1:Nat):Int):=by rw[z8 (by omega) (by omega)];omega
   rw[qA (by omega),qA (by omega),if_neg (by omega),if_pos (by omega),z1,z2,decide_eq_true rfl,decide_eq_true rfl]
   simp only[Bool.not_true,ZF,if_false,ZB]
   rw[qA (by omega)]
   exact qlG hN h K (i+1) (by omega) (by omega)
  rw[if_neg (by omega)]
theorem qr2 {n:Nat} {N:Nat} (hN:600000<N) {w:List Int} (h:qdk n w) {P:Nat} (hP:0<P) (hP6:P<=60) (hall: ∀x L,x<n->qhD ((pmF Uf w).rev.li n) x L->L∣P) {c:Int} (c1:1<=c) (c2:c<=8): ∃r,∀u,qdk n u->pmF Uf u=pmF Uf w->xg N (n:Int) u c=some (r,0):=by
 obtain⟨r,hr⟩:=qqL h.n12 hN (qin (Un n) h.let_).rev hP hP6 hall c
 refine⟨r,fun u hu e=>?_⟩
 unfold xg xn
 rw[qhX (by omega) hu,ZB,qfJ c1 c2]
 simp only[ZB]
 rw[qfx (by omega) (by simp) (by simp),ZB,decide_eq_true rfl]
 simp only[Bool.not_true,ZF,if_false]
 rw[qgS h.n12 (by omega) hu.word,ZB,e,hr]
 rfl
theorem qpe {n:Nat} {N:Nat} (hN:600000<N) {w u:List Int} (h:qdk n w) (hu:qdk n u) (e:pmF Uf u=pmF Uf w) {P:Nat} (hP:0<P) (hP6:P<=60) (hall: ∀x L,x<n->qhD ((pmF Uf w).rev.li n) x L->L∣P): ∀(K i:Nat),1<=i->i<=5->5<K+i->qD N (n:Int) w (u,0) K (i:Int)=some (.inl ())
 |0,i,h1,h2,hK=>by omega
 |K+1,i,h1,h2,hK=>by
  unfold qD
  by_cases hi:i<=4
  ·obtain⟨r,hr⟩:=qr2 hN h hP hP6 hall (c:=(i:Int)) (by omega) (by omega)
   rw[if_pos (by omega),hr w h rfl,ZB,hr u hu e]
   simp only[ZB,decide_true,Bool.not_true,ZF,if_false]
   rw[qA (by omega)]
   exact qpe hN h hu e hP hP6 hall K (i+1) (by omega) (by omega) (by omega)
  rw[if_neg (by omega)]
end Go.Av
end
section
namespace Go.Av
def d60:List Nat:=[1,2,3,4,5,6,10,12,15,20,30,60]
def frN (a:Nat):jm:=⟨⟨(a:Int),[]⟩,⟨1,[]⟩⟩
def isFr (r:jm) (a:Nat):Bool:=decide (r.Num.s=(a:Int))&&r.Num.w.isEmpty&&decide (r.Den.s=1)&&r.Den.w.isEmpty
theorem qmR {r:jm} {a:Nat} (h:isFr r a=true):r=frN a:=by
 obtain⟨⟨s,w⟩,⟨t,v⟩⟩:=r
 unfold isFr at h
 simp only[Bool.and_eq_true,decide_eq_true_eq,List.isEmpty_iff]at h
 obtain⟨⟨⟨rfl,rfl⟩,rfl⟩,rfl⟩:=h
 rfl
def qrF (N a k:Nat):Option jm:=(qf3 (k:Int)).bind fun r18=>(xX N (frN a) r18).bind fun r19=>(qcq r19.Num).bind fun r20=>(xS N r20 r18).bind fun r21=>some r21
def qru (N a k:Nat):Bool:=match qrF N a k with
 |some r=>isFr r (Nat.lcm a k)
 |none=>false
def qoX:Bool:=match qf3 1 with
 |some r=>isFr r 1
 |none=>false
def endB (N a h:Nat):Bool:=match qal N (frN a)with
 |some (s,e)=>decide (e=0)&&(match qbM N s with
  |some c=>decide (c=0)&&(match qar N (h:Int)with
   |some t=>match qdi N s t with
    |some x=>match qas N x with
     |some b=>b
     |none=>false
    |none=>false
   |none=>false)
  |none=>false)
 |none=>false
theorem qpq:qoX=true:=by kernel_rfl
theorem qpv:(d60.all fun a=>[1,2,3,4,5,6].all fun k=>qru 2000000 a k)=true:=by kernel_rfl
theorem qqw:(d60.all fun a=>d60.all fun h=>!(Nat.beq (a%h) 0)||endB 2000000 a h)=true:=by kernel_rfl
def d60B:Bool:=(d60.all fun a=>[1,2,3,4,5,6].all fun k=>d60.contains (Nat.lcm a k))&&(d60.all fun a=>(List.range 61).all fun h=>Nat.beq h 0||!(Nat.beq (a%h) 0)||d60.contains h)&&(d60.all fun a=>Nat.ble a 60&&Nat.blt 0 a)
theorem qlP:d60B=true:=by kernel_rfl
theorem qq1 {a k:Nat} (ha:a∈d60) (h1:1<=k) (h6:k<=6):Nat.lcm a k∈d60:=by
 have h:=qlP
 unfold d60B at h
 simp only[Bool.and_eq_true]at h
 have:=Yp.1 (Yp.1 h.1.1 a ha) k (by simp;omega)
 exact List.contains_iff_mem.1 this
theorem qq6 {a h:Nat} (ha:a∈d60) (h0:0<h) (h1:h<=60) (hd:h∣a):h∈d60:=by
 have g:=qlP
 unfold d60B at g
 simp only[Bool.and_eq_true]at g
 have:=Yp.1 (Yp.1 g.1.2 a ha) h (List.mem_range.2 (by omega))
 rw[Nat.mod_eq_zero_of_dvd hd]at this
 have hb:Nat.beq h 0=false:=by
  cases c:Nat.beq h 0 with
  |false=>rfl
  |true=>have:=Nat.eq_of_beq_eq_true c;omega
 rw[hb]at this
 exact List.contains_iff_mem.1 (by simpa using this)
theorem qqQ {a:Nat} (ha:a∈d60):a<=60/\0<a:=by
 have g:=qlP
 unfold d60B at g
 simp only[Bool.and_eq_true]at g
 have:=Yp.1 g.2 a ha
 simp only[Bool.and_eq_true,Nat.ble_eq,Nat.blt_eq]at this
 exact this
theorem qqN {a k:Nat} (ha:a∈d60) (h1:1<=k) (h6:k<=6): ∃r18 r19 r20,qf3 (k:Int)=some r18/\xX 2000000 (frN a) r18=some r19/\qcq r19.Num=some r20/\xS 2000000 r20 r18=some (frN (Nat.lcm a k)):=by
 have h:=Yp.1 (Yp.1 qpv a ha) k (by simp;omega)
 unfold qru qrF at h
 cases e1:qf3 (k:Int)with
 |none=>rw[e1]at h;cases h
 |some r18=>
  rw[e1,ZB]at h
  cases e2:xX 2000000 (frN a) r18 with
  |none=>rw[e2]at h;cases h
  |some r19=>
   rw[e2,ZB]at h
   cases e3:qcq r19.Num with
   |none=>rw[e3]at h;cases h
   |some r20=>
    rw[e3,ZB]at h
    cases e4:xS 2000000 r20 r18 with
    |none=>rw[e4]at h;cases h
    |some r21=>
     rw[e4,ZB]at h
     exact⟨r18,r19,r20,rfl,e2,e3,by rw[e4,qmR h]⟩
theorem qmG {ls:List (List Int)} (hls:ls.length<=256) (hm: ∀l∈ls,1<=l.length/\l.length<=6): ∀(K i a:Nat),i<=ls.length->ls.length<K+i->a∈d60->
 ∃b:Nat,jJ 2000000 ls K (a:Int) [] 1 [] (i:Int)=some ((b:Int),[],1,[])/\b∈d60/\a∣b/\ ∀(j:Nat) l,i<=j->ls[j]? =some l->l.length∣b
 |0,i,a,h,hK,ha=>by omega
 |K+1,i,a,h,hK,ha=>by
  unfold jJ
  by_cases hi:i<ls.length
  ·have hl:=hm _ (List.getElem_mem hi)
   obtain⟨r18,r19,r20,e1,e2,e3,e4⟩:=qqN ha hl.1 hl.2
   rw[if_pos (by omega),qx,Ya hi,ZB,e1,ZB]
   have e2':xX 2000000 (⟨(⟨(a:Int),[]⟩:qB),(⟨1,[]⟩:qB)⟩:jm) r18=some r19:=e2
   rw[e2',ZB,e3,ZB,e4,ZB,qA (by omega)]
   obtain⟨b,b1,b2,b3,b4⟩:=qmG hls hm K (i+1) (Nat.lcm a ls[i].length) (by omega) (by omega) (qq1 ha hl.1 hl.2)
   refine⟨b,b1,b2,Nat.dvd_trans (Nat.dvd_lcm_left ..) b3,fun j l hj hjl=>?_⟩
   by_cases e:j=i
   ·subst e
    rw[Ya hi]at hjl
    obtain rfl:=Ye hjl
    exact Nat.dvd_trans (Nat.dvd_lcm_right ..) b3
   exact b4 j l (by omega) hjl
  rw[if_neg (by omega)]
  refine⟨a,rfl,ha,Nat.dvd_refl _,fun j l hj hjl=>?_⟩
  have:=(Yb.1 hjl).1
  omega
theorem perT {p:List Int} (hp:IsP p) (hl:p.length<=6): ∃(P:Nat) (s:Str),qbi 2000000 p=some (s,0)/\0<P/\P<=60/\(∀t,t<p.length->itP p t P=t)/\
 ∀h,0<h->h∣P->qbM 2000000 s=some 0/\ ∃t x,qar 2000000 (h:Int)=some t/\qdi 2000000 s t=some x/\qas 2000000 x=some true:=by
 obtain⟨ls,g1,g2,g3,g4,g5,g6⟩:=qib (N:=2000000) (by omega) hp
 have hm: ∀l∈ls,1<=l.length/\l.length<=6:=fun l h=>by
  obtain⟨s,b0,b1,_⟩:=g3 l h
  omega
 obtain⟨P,b1,b2,_,b4⟩:=qmG (ls:=ls) (by omega) hm 2000000 0 1 (Nat.zero_le _) (by omega) (by decide)
 rw[show((0:Nat):Int)=0 from rfl,show((1:Nat):Int)=1 from rfl]at b1
 have hP:=qqQ b2
 have f1:qf3 1=some (frN 1):=by
  have h:=qpq
  unfold qoX at h
  cases e:qf3 1 with
  |none=>rw[e]at h;cases h
  |some r=>rw[e]at h;rw[qmR h]
 have ends: ∀h,h∈d60->h∣P->endB 2000000 P h=true:=fun h hh hd=>by
  have g:=Yp.1 (Yp.1 qqw P b2) h hh
  rw[Nat.mod_eq_zero_of_dvd hd]at g
  simpa using g
 have e0:=ends P b2 (Nat.dvd_refl _)
 unfold endB at e0
 cases er:qal 2000000 (frN P)with
 |none=>rw[er]at e0;cases e0
 |some r=>
  obtain⟨s,e⟩:=r
  rw[er]at e0
  simp only[Bool.and_eq_true,decide_eq_true_eq]at e0
  obtain⟨rfl,_⟩:=e0
  refine⟨P,s,?_,hP.2,hP.1,fun t ht=>?_,fun h h0 hd=>?_⟩
  ·unfold qbi
   rw[ql7 (by omega) hp,ZB,decide_eq_true rfl]
   simp only[Bool.not_true,ZF,if_false]
   rw[f1,ZB,g1,ZB]
   show(jJ 2000000 ls 2000000 1 [] 1 [] 0).bind _=_
   rw[b1,ZB]
   show(qal 2000000 (frN P)).bind _=_
   rw[er]
   rfl
  ·obtain⟨c,c1,c2⟩:=List.mem_flatten.1 (g5 t ht)
   obtain⟨z,q0,q1,q2,q3,q4,q5⟩:=g3 c c1
   obtain⟨j,hj⟩:=List.mem_iff_getElem?.1 c2
   have hjl:=(Yb.1 hj).1
   have e:=q3 j hjl
   rw[hj]at e
   have e:t=itP p z j:=by have:=Ye e;omega
   obtain⟨i,hi⟩:=List.mem_iff_getElem?.1 c1
   obtain⟨m,rfl⟩:=b4 i c (Nat.zero_le _) hi
   rw[e]
   exact qkc ((qjb hp q2 j c.length).2 q4) m
  have hh:=Nat.le_trans (Nat.le_of_dvd hP.2 hd) hP.1
  have g:=ends h (qq6 b2 h0 hh hd) hd
  unfold endB at g
  rw[er]at g
  simp only[Bool.and_eq_true,decide_true,true_and]at g
  cases k1:qbM 2000000 s with
  |none=>rw[k1]at g;cases g
  |some c=>
   rw[k1]at g
   simp only[Bool.and_eq_true,decide_eq_true_eq]at g
   obtain⟨rfl,g⟩:=g
   refine⟨rfl,?_⟩
   cases k2:qar 2000000 (h:Int)with
   |none=>rw[k2]at g;cases g
   |some t=>
    rw[k2]at g
    dsimp only at g
    cases k3:qdi 2000000 s t with
    |none=>rw[k3]at g;cases g
    |some x=>
     rw[k3]at g
     dsimp only at g
     cases k4:qas 2000000 x with
     |none=>rw[k4]at g;cases g
     |some b=>
      rw[k4]at g
      dsimp only at g
      subst g
      exact⟨t,x,rfl,k3,k4⟩
end Go.Av
end
section
namespace Go.Av
theorem qeT (n:Int) (w c:List Int):jY 2000000 n w c=some true:=by
 obtain⟨N,hNe⟩: ∃N:Nat,N=2000000:=⟨_,rfl⟩
 have hN:1000000<N:=by omega
 rw[<-hNe]
 unfold jY awk
 by_cases a1:n<2
 ·rw[if_pos a1];rfl
 by_cases a2:n>6
 ·rw[if_neg a1,if_pos a2];rfl
 by_cases a3:(w.length:Int)>10
 ·rw[if_neg a1,if_neg a2,if_pos a3];rfl
 rw[if_neg a1,if_neg a2,if_neg a3,qj4 (by omega) (by omega)]
 simp only[ZB]
 by_cases z:qks n w=0
 ·obtain⟨k,rfl⟩: ∃k:Nat,n=k:=⟨n.toNat,by omega⟩
  have h:=qpA z
  have n2:=h.n2
  rw[z]
  simp only[decide_true,Bool.not_true,ZF,if_false]
  by_cases a4:(c.length:Int)>30
  ·rw[if_pos a4];rfl
  rw[if_neg a4]
  obtain⟨e,e1,e2⟩:=qq4 (N:=N) (by omega) n2 h.n12 c
  rw[e1]
  simp only[ZB]
  by_cases e0:e=0
  ·subst e0
   have hc:=e2 rfl
   have hcl:=hc.len
   simp only[decide_true,Bool.not_true,ZF,if_false]
   have hw:=h.word
   have ok:=qin (Un k) h.let_
   have ip:=qdM (n:=k) (by omega) ok
   obtain⟨P,sP,p1,p2,p3,p4,p5⟩:=perT ip (by rw[Ud];omega)
   rw[Ud]at p4
   rw[<-hNe]at p1 p5
   have hall: ∀x L,x<k->qhD ((pmF Uf w).rev.li k) x L->L∣P:=fun x L hx hL=>qqD (by omega) ok p4 hx hL
   obtain⟨r,r1,r2,r3⟩:=qjN (N:=N) (by omega) h.n12 ok.rev hcl (qcX Uf w)
   have eM:qbe N (k:Int) w c=some (r,0):=by
    unfold qbe
    rw[qnO (by omega) h hc,ZB,decide_eq_true rfl]
    simp only[Bool.not_true,ZF,if_false]
    rw[qgS h.n12 (by omega) hw,ZB,r1]
    rfl
   obtain⟨hh,q1,q2,q3⟩:=qjA h.n12 (N:=N) (by omega) ok.rev (by omega) p3 hall (qcX Uf w) (qi5 h.n12 (N:=N) (by omega) (Un k) h.let_) (by rw[qdj];omega) N 0 1 (Nat.zero_le _) (by rw[qdj];omega) (by omega) (Nat.one_dvd _)
   rw[show((0:Nat):Int)=0 from rfl,show((1:Nat):Int)=1 from rfl]at q1
   have eP:qaJ N (k:Int) w=some ((hh:Int),0):=by
    unfold qaJ y7
    rw[qhX (by omega) h,ZB,decide_eq_true rfl]
    simp only[Bool.not_true,ZF,if_false]
    rw[qgS h.n12 (by omega) hw,ZB,q1]
    rfl
   have hP:hh<=60:=Nat.le_trans (Nat.le_of_dvd (by omega) q3) p3
   rw[qlE (by omega) hw,eM,eP]
   simp only[ZB]
   rw[p1]
   simp only[ZB,decide_true,Bool.not_true,ZF,if_false]
   rw[Ud,decide_eq_true rfl]
   simp only[Bool.not_true,ZF,if_false]
   rw[qkS (by omega) (by omega) ok]
   simp only[ZB,decide_true,Bool.not_true,ZF,if_false]
   rw[r2,decide_eq_true rfl]
   simp only[Bool.not_true,ZF,if_false]
   obtain⟨y1,t1,x1,y2,y3,y4⟩:=p5 hh q2 q3
   rw[if_neg (show¬(hh:Int)<1 by omega),y1]
   simp only[ZB,decide_true,Bool.not_true,ZF,if_false]
   rw[y2,ZB,y3,ZB,y4]
   simp only[ZB,Bool.not_true,ZF,if_false]
   have l0:=qpM h.n12 ok r2 hcl (fun j hj=>r3 j hj) N 0 (Nat.zero_le _) (by omega)
   rw[show((0:Nat):Int)=0 from rfl]at l0
   rw[l0]
   simp only[ZB]
   have hm:=qqV h
   rw[qlU (by omega) hw]
   simp only[ZB,decide_true,Bool.not_true,ZF,if_false]
   rw[qj4 (by omega) (by rw[List.length_map];omega),qqu hm]
   simp only[ZB,decide_true,Bool.not_true,ZF,if_false]
   rw[List.length_map,decide_eq_true rfl]
   simp only[Bool.not_true,ZF,if_false]
   rw[seen_eq h.n12 (by omega) h,seen_eq h.n12 (by omega) hm]
   simp only[ZB,decide_true,Bool.not_true,ZF,if_false]
   have i1: ∀l:List Int,idx [l] 0=some l:=fun l=>rfl
   have len1: ∀l:List Int,(([l]:List (List Int)).length:Int)=1:=fun l=>rfl
   rw[len1,len1,i1,i1]
   simp only[ZB,decide_true,Bool.not_true,ZF,if_false]
   rw[qdj,qdj,List.length_map,decide_eq_true rfl]
   simp only[ZB,Bool.not_true,ZF,if_false]
   have l1:=qlG (N:=N) (by omega) h N 0 (Nat.zero_le _) (by omega)
   rw[show((0:Nat):Int)=0 from rfl]at l1
   rw[l1]
   simp only[ZB]
   obtain⟨f,u,v,f1,f2,f3⟩:=qoZ (N:=N) (by omega) n2 (by omega) hw (by omega)
   have eN:qbZ N (k:Int) w=some (f,0):=by
    unfold qbZ
    rw[qg0 (by omega) (by omega),qmD hw,ZB,decide_eq_true rfl]
    simp only[Bool.not_true,ZF,if_false]
    rw[f1]
    rfl
   rw[eN]
   simp only[ZB]
   rw[f2]
   simp only[ZB,decide_true,Bool.not_true,ZF,if_false]
   rcases f3 with rfl|⟨rfl,f4,f5⟩
   ·rfl
   simp only[decide_true,Bool.not_true,ZF,if_false,ZB]
   by_cases ul:u.length<=300
   ·rw[qj4 (by omega) ul]
    simp only[ZB]
    by_cases zu:qks (k:Int) u=0
    ·rw[zu]
     simp only[decide_true,Bool.not_true,ZF,if_false]
     have l2:=qpe (N:=N) (by omega) h (qpA zu) f4 (by omega) p3 hall N 1 (Nat.le_refl _) (by omega) (by omega)
     rw[show((1:Nat):Int)=1 from rfl]at l2
     rw[l2]
     rfl
    rw[decide_eq_false zu]
    rfl
   have e5:zO N (k:Int) u=some 5:=by
    unfold zO
    rw[qgW,ZB,if_neg (by simp only[Bool.or_eq_true,decide_eq_true_eq];omega),if_neg (by omega),if_pos (by omega)]
   rw[e5]
   rfl
  rw[decide_eq_false e0];rfl
 rw[decide_eq_false z];rfl
end Go.Av
end
