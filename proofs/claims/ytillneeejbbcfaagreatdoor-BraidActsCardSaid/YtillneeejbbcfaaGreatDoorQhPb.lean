/-
  The program's normal form of a word, by numbers.
-/
import Derived.Test.YtillneeejbbcfaaGreatDoorQhPa
import Derived.KernelRfl
noncomputable section
set_option linter.unusedVariables false
set_option linter.unusedSimpArgs false
set_option linter.unusedSectionVars false
set_option maxRecDepth 100000
section
namespace Go.Av
section
variable {n:Nat} (hn:n<=12) {N:Nat} (hN:2000<N)
include hn hN
theorem qfs {w:List Int} (W:qg6 n w) (n2:2<=n): ∀(K i k:Nat) (l:List SB),l.length=i->(∀s∈l,s.Ok n)->k<=i->i<=w.length->w.length<K+i->
 jV N (n:Int) w K (-(k:Int)) (xg n l) (i:Int)=some (-(((w.drop i).foldl ngN k:Nat):Int),xg n ((w.drop i).foldl (qdI n) l))
 |0,i,k,l,hl,ho,h1,hi,hK=>by omega
 |K+1,i,k,l,hl,ho,h1,hiw,hK=>by
  have wl:=W.len
  unfold jV
  by_cases hi:i<w.length
  ·have hx:w[i]? =some w[i]:=Ya hi
   have hc:=W.let_ _ (List.getElem_mem hi)
   rw[YG hi,List.foldl_cons,List.foldl_cons]
   generalize w[i]=c at*
   obtain⟨m,hm⟩: ∃m:Nat,c.natAbs=m+1:=⟨c.natAbs-1,by omega⟩
   have hm2:m+1<n:=by omega
   have q1:w64 (((m+1:Nat):Int)-1)=(m:Int):=by rw[zy (by omega) (by omega)];omega
   rw[if_pos (by omega),qh,hx]
   simp only[ZB,qjN (show-1000<c/\c<1000 by omega),hm,q1]
   unfold ngN qdI
   rw[hm,Nat.add_sub_cancel]
   by_cases pos:c>0
   ·rw[if_pos pos,qiq hN (by omega),ZB,<-SB.id_li,qb4 (by omega) SB.id hm2]
    simp only[ZB]
    rw[y9 (by rw[xR];simp;omega) (by rw[xR];simp;omega)]
    simp only[ZB]
    rw[qB (by omega),show xg n l++[(SB.id.fr m).li n]=xg n (l++[SB.id.fr m])by simp[xg],if_pos (show 0<c from pos),if_pos (show 0<c from pos)]
    exact qfs W n2 K (i+1) k _ (by simp[hl]) (fun s hs=>by
     rcases List.mem_append.1 hs with hs|hs
     ·exact ho s hs
     rw[List.mem_singleton.1 hs];exact(SB.id_ok n).fr hm2) (by omega) (by omega) (by omega)
   rw[if_neg pos,qiE hn hN (by omega) ho,ZB,qdx hN (by omega),ZB,qgo (by omega) hN (SB.half_ok n) hm2]
   simp only[ZB]
   rw[y9 (by rw[xR];simp;omega) (by rw[xR];simp;omega)]
   simp only[ZB]
   rw[qB (by omega),zy (n:= -(k:Int)-1) (by omega) (by omega),if_neg (show¬0<c from pos),if_neg (show¬0<c from pos),show-(k:Int)-1= -((k+1:Nat):Int)by omega,show xg n (l.map (SB.flip n))++[((SB.half n).bk m).li n]=xg n (l.map (SB.flip n)++[(SB.half n).bk m])by simp[xg]]
   exact qfs W n2 K (i+1) (k+1) _ (by simp[hl]) (fun s hs=>by
    rcases List.mem_append.1 hs with hs|hs
    ·obtain⟨u,hu,rfl⟩:=List.mem_map.1 hs
     exact(ho u hu).flip
    rw[List.mem_singleton.1 hs];exact(SB.half_ok n).bk hm2) (by omega) (by omega) (by omega)
  rw[if_neg (by omega),List.drop_eq_nil_of_le (by omega)]
  rfl
end
theorem qir {T:QTb} (hT:T.Ok): ∀(w:List Int) (l:List SB) (R:List Nat) (k:Nat) (s:FmN),qK T.n w->QOK T.n l (R.map T.dec)->RS T k R s->k+w.length<=15->
 QOK T.n (w.foldl (qdI T.n) l) ((w.foldl (rwN T) R).map T.dec)/\RS T (w.foldl ngN k) (w.foldl (rwN T) R) (w.foldl (fmL T) s)/\(w.foldl (qdI T.n) l).length=l.length+w.length
 |[],l,R,k,s,hw,q,r,hk=>⟨q,r,rfl⟩
 |c::w,l,R,k,s,hw,q,r,hk=>by
  have hc:=hw c (List.mem_cons_self ..)
  simp only[Yr]at hk
  have e:=r.sh
  have h1:1<=s.1:=by
   obtain⟨d,h,_,e⟩:=r.sh
   omega
  have q2:=q.step hc
  rw[qoF hT r.cod hc]at q2
  have r2:=r.step hT hc h1
  have:=qir hT w _ _ _ _ (fun d hd=>hw d (List.mem_cons_of_mem _ hd)) q2.1 r2 (by unfold ngN;split<;>omega)
  rw[q2.2]at this
  rw[List.foldl_cons,List.foldl_cons,List.foldl_cons,List.foldl_cons,Yr]
  exact⟨this.1,this.2.1,by rw[this.2.2];omega⟩
theorem qkl {T:QTb} (hT:T.Ok) (hW:T.Wd): ∀(w u:List Int) (k:Nat) (R:List Nat),qK T.n u->qK T.n w->Cod T R->BE T.n u (rpw T.dn k++wsN T R)->BE T.n (u++w) (rpw T.dn (w.foldl ngN k)++wsN T (w.foldl (rwN T) R))
 |[],u,k,R,hu,hw,hR,h=>by rw[YQ];exact h
 |c::w,u,k,R,hu,hw,hR,h=>by
  have hc:=hw c (List.mem_cons_self ..)
  have h2:=qk6 hT hW hR hu h hc
  have lu:qK T.n (u++[c]):=hu.app fun d hd=>by rw[List.mem_singleton.1 hd];exact hc
  have hR2:Cod T (rwN T R c):=by
   unfold rwN
   have hi:c.natAbs-1+1<T.n:=by omega
   split
   ·exact qbV hT (hT.po _ hi).2 hR
   exact qbV hT (hT.ne _ hi).2 (qe0 hT hR)
  have:=qkl hT hW w (u++[c]) _ _ lu (fun d hd=>hw d (List.mem_cons_of_mem _ hd)) hR2 h2
  rw[Yz]at this
  exact this
theorem qke (T:QTb): ∀(w:List Int) (s:LS),(w.foldl (lsL T) s).1=w.foldl (fmL T) s.1
 |[],s=>rfl
 |c::w,s=>by rw[List.foldl_cons,List.foldl_cons,qke T w];rfl
def fmW (T:QTb) (w:List Int):FmN:=w.foldl (fmL T) (16,[])
theorem qhp (T:QTb) (w:List Int):(lsW T w).1=fmW T w:=qke T w _
theorem qoi (n:Nat):QOK n [] []:=⟨fun s h=>(by cases h),⟨qdD [],Pst.refl,fun q hq=>absurd hq (Nat.not_lt_zero q),rfl⟩⟩
theorem qfu {T:QTb} (hT:T.Ok) {w:List Int} (hw:qK T.n w) (hl:w.length<=15):
 QOK T.n (w.foldl (qdI T.n) []) ((w.foldl (rwN T) []).map T.dec)/\RS T (w.foldl ngN 0) (w.foldl (rwN T) []) (fmW T w)/\(w.foldl (qdI T.n) []).length=w.length:=by
 have:=qir hT w [] [] 0 (16,[]) hw (qoi T.n) (RS.nil T) (by omega)
 exact⟨this.1,this.2.1,by rw[this.2.2];simp⟩
theorem qhb {T:QTb} (hT:T.Ok) (hW:T.Wd) {w:List Int} (hw:qK T.n w) (hl:w.length<=15):BE T.n w (qbi T (fmW T w)):=by
 have h:=qkl hT hW w [] 0 [] (qK.nil _) hw (Cod.nil T) BE.rfl_
 rw[List.nil_append]at h
 exact h.trans (qpE hT hW (qfu hT hw hl).2.1)
theorem qj8 {T:QTb} (hT:T.Ok) {w:List Int} (hw:qK T.n w) (hl:w.length<=15):Cod T (fmW T w).2:=by
 obtain⟨c,d,h,e,_⟩:=(qfu hT hw hl).2.1
 rw[e]at c
 exact c.right.left
def QTb.cI (T:QTb) (c:Nat):List Int:=(T.dec c).map fun v:Nat=>(v:Int)
def fmI (T:QTb) (s:FmN):jf:=⟨(s.1:Int)-16,s.2.reverse.map T.cI⟩
theorem qgY (n:Nat) (s:SB):s.li n=(s.row n).map fun v:Nat=>(v:Int):=by
 unfold SB.li SB.row
 rw[List.map_map]
 rfl
theorem qdZ (n:Nat) (L:Nat->SB): ∀k,(xH n L k).reverse=(List.range k).map fun q=>(L q).row n
 |0=>rfl
 |k+1=>by rw[xH,List.reverse_cons,qdZ n L k,List.range_succ,List.map_append];rfl
theorem qlp (n m:Nat) (L:Nat->SB):jP n m L=(xH n L m).reverse.map fun p=>p.map fun v:Nat=>(v:Int):=by
 rw[qdZ,List.map_map]
 unfold jP
 congr 1
 funext q
 exact qgY n (L q)
theorem qhP: ∀(a b:List Nat),a.map (fun v:Nat=>(v:Int))=b.map (fun v:Nat=>(v:Int))->a=b
 |[],[],h=>rfl
 |x::a,y::b,h=>by
  rw[List.map_cons,List.map_cons]at h
  injection h with h1 h2
  rw[qhP a b h2,Int.ofNat.inj h1]
 |[],y::b,h=>by cases h
 |x::a,[],h=>by cases h
theorem qfN {T:QTb} (hT:T.Ok) {c d:Nat} (hc:c<T.cnt) (hd:d<T.cnt) (h:T.cI c=T.cI d):c=d:=hT.inj c d hc hd (qhP _ _ h)
theorem qj0 {T:QTb} (hT:T.Ok):T.cI T.idc=ve T.n:=by
 unfold QTb.cI
 rw[hT.id]
 rfl
theorem qeJ {T:QTb} (hT:T.Ok):T.cI T.half=(SB.half T.n).li T.n:=by
 unfold QTb.cI
 rw[hT.ha,qgY,qfw]
theorem qf2 {T:QTb} (hT:T.Ok): ∀{a b:List Nat},Cod T a->Cod T b->a.map T.cI=b.map T.cI->a=b
 |[],[],ha,hb,h=>rfl
 |x::a,y::b,ha,hb,h=>by
  rw[List.map_cons,List.map_cons]at h
  injection h with h1 h2
  rw[qf2 hT ha.tl hb.tl h2,qfN hT ha.hd hb.hd h1]
 |[],y::b,ha,hb,h=>by cases h
 |x::a,[],ha,hb,h=>by cases h
theorem Cod.rev {T:QTb} {R:List Nat} (h:Cod T R):Cod T R.reverse:=fun c hc=>h c (List.mem_reverse.1 hc)
theorem qol {T:QTb} (hT:T.Ok) {s t:FmN} (hs:Cod T s.2) (ht:Cod T t.2) (h:fmI T s=fmI T t):s=t:=by
 unfold fmI at h
 injection h with h1 h2
 have e:=qf2 hT hs.rev ht.rev h2
 obtain⟨s1,s2⟩:=s
 obtain⟨t1,t2⟩:=t
 have:s2=t2:=by simpa using e
 rw[this,show s1=t1 by dsimp only at h1;omega]
structure qjx (T:QTb) (s:FmN) (L:Nat->SB):Prop where
 ok:OkM T.n s.2.length L
 nf:Nf T.n s.2.length L
 row: ∀j (hj:j<s.2.length),(L j).row T.n=T.dec (s.2.reverse[j]'(by simpa using hj))
theorem qi7 {T:QTb}: ∀{M:List Nat},noN T M=true-> ∀c∈M,c≠T.idc/\c≠T.half
 |[],h,c,hc=>by cases hc
 |x::r,h,c,hc=>by
  unfold noN at h
  cases e:Nat.beq x T.idc with
  |true=>rw[e]at h;cases h
  |false=>
   rw[e,cond_false]at h
   cases e2:Nat.beq x T.half with
   |true=>rw[e2]at h;cases h
   |false=>
    rw[e2,cond_false]at h
    rcases List.mem_cons.1 hc with rfl|hc
    ·exact⟨qm5 e,qm5 e2⟩
    exact qi7 h c hc
theorem qcN {T:QTb} (hT:T.Ok) (n2:2<=T.n) (n4:T.n<=12) {N:Nat} (hN:100000<N) {w:List Int} (W:qg6 T.n w) (hl:w.length<=14) (hf:nfN T (fmW T w).2=true) (hno:noN T (fmW T w).2=true):
 yC N (T.n:Int) w=some (fmI T (fmW T w))/\ ∃L,qjx T (fmW T w) L:=by
 have wl:=W.len
 have hw:qK T.n w:=fun c hc=>by have:=W.let_ c hc;omega
 obtain⟨q,r,ll⟩:=qfu hT hw (by omega)
 obtain⟨B,b1,b2,b3⟩:=q.ex
 have lok:=qka q.ok
 rw[ll]at b1 b2 b3 lok
 generalize hm:w.length=m at*
 have hmu: ∀L:Nat->SB,mu5 T.n L m<=28224:=fun L=>by
  refine Nat.le_trans (qnA m) ?_
  have h1:T.n*T.n<=12*12:=Nat.mul_le_mul n4 n4
  have h2:m*(T.n*T.n)<=14*144:=Nat.mul_le_mul hl h1
  exact Nat.mul_le_mul hl h2
 obtain⟨A,a1,a2,a3,a4⟩:=qho (n:=T.n) (m:=m) n4 (by omega) (by omega) (N:=N) (by omega) (fun L=>by have:=hmu L;omega) N 0 (qdD (w.foldl (qdI T.n) [])) lok (Nat.zero_le _) (by have:=hmu (qdD (w.foldl (qdI T.n) []));omega) (fun j hj=>by omega)
 obtain⟨cR,d,h0,eR,e2⟩:=r
 have cM:Cod T (fmW T w).2:=by rw[eR]at cR;exact cR.right.left
 have nfB:Nf T.n m B:=fun k i c=>by
  have hk:=c.k_
  refine qms b2 (Nat.le_refl m) ?_ k i hk c
  rw[<-b3]
  exact qmU hT cR (by rw[eR];exact qme hT cM hf d h0)
 obtain rfl:=qhl _ (Nat.le_refl _) a2 b1 a3 nfB
 have eM:jP T.n m A=((w.foldl (rwN T) []).reverse).map T.cI:=by
  rw[qlp,<-b3,<-List.map_reverse,List.map_map]
  rfl
 have eRr:(w.foldl (rwN T) []).reverse=List.replicate h0 T.half++((fmW T w).2.reverse++List.replicate d T.idc):=by
  rw[eR]
  simp
 have hln:h0+(fmW T w).2.length+d=m:=by
  have:=congrArg List.length eM
  rw[zo,eRr]at this
  simp at this
  omega
 refine⟨?_,fun j=>A (h0+j),fun j hj=>a4 _ (by omega),fun k i c=>a3 (h0+k) i ⟨by have:=c.k_;omega,c.i_,c.b_,c.e_⟩,fun j hj=>?_⟩
 ·unfold yC
  have b0:=qfs (n:=T.n) n4 (N:=N) (by omega) W n2 N 0 0 [] rfl (fun s hs=>by cases hs) (Nat.le_refl _) (Nat.zero_le _) (by omega)
  rw[show xg T.n ([]:List SB)=[]from rfl,show(-((0:Nat):Int))=0 from rfl,show((0:Nat):Int)=0 from rfl,YR]at b0
  have rF:xg T.n (w.foldl (qdI T.n) [])=jP T.n m (qdD (w.foldl (qdI T.n) [])):=qiL (by rw[xR,ll]) fun q hq=>by
   rw[qgB (by rw[ll];exact hq)]
   unfold qdD
   rw[Yy,Ya (by rw[ll];exact hq)]
   rfl
  rw[if_neg (by omega),b0,ZB,rF]
  have p0:xE N (jP T.n m (qdD (w.foldl (qdI T.n) [])))=some (jP T.n m A):=by
   unfold xE
   rw[show((0:Nat):Int)=0 from rfl]at a1
   rw[a1,ZB]
  dsimp only
  rw[p0,ZB,zo,zo,if_pos rfl,ZB]
  have hng: ∀(u:List Int) (k:Nat),u.foldl ngN k<=k+u.length:=by
   intro u
   induction u with
   |nil=>intro k;exact Nat.le_refl _
   |cons c u ih=>
    intro k
    rw[List.foldl_cons,Yr]
    refine Nat.le_trans (ih _) ?_
    unfold ngN;split<;>omega
  have hk:=hng w 0
  have f0:=qeS (n:=T.n) n4 n2 (N:=N) (by omega) (by omega) a4 N 0 (-((w.foldl ngN 0:Nat):Int)) [] (Nat.zero_le _) (by omega) (by omega) (by omega) (Nat.zero_le _)
  rw[show((0:Nat):Int)=0 from rfl,YR,List.nil_append]at f0
  rw[f0,ZB]
  have nI: ∀c∈(fmW T w).2.reverse,T.cI c≠ve T.n/\T.cI c≠(SB.half T.n).li T.n:=fun c hc=>by
   have hc2:=List.mem_reverse.1 hc
   have:=qi7 hno c hc2
   exact⟨fun e=>this.1 (qfN hT (cM c hc2) hT.id_ (by rw[e,qj0 hT])),fun e=>this.2 (qfN hT (cM c hc2) hT.ha_ (by rw[e,qeJ hT]))⟩
  have hne:(SB.half T.n).li T.n≠ve T.n:=qj1 n4 n2
  have cnt:(jP T.n m A).countP (fun x=>decide (x=(SB.half T.n).li T.n))=h0:=by
   rw[eM,eRr,List.map_append,List.map_append,List.countP_append,List.countP_append,List.map_replicate,List.map_replicate,qeJ hT,qj0 hT,List.countP_replicate,List.countP_replicate]
   have z:((fmW T w).2.reverse.map T.cI).countP (fun x=>decide (x=(SB.half T.n).li T.n))=0:=by
    rw[List.countP_eq_zero]
    intro x hx
    obtain⟨c,hc,rfl⟩:=List.mem_map.1 hx
    simpa using(nI c hc).2
   rw[z]
   simp[Ne.symm hne]
  have fil:(jP T.n m A).filter (fun x=>!decide (x=ve T.n)&&!decide (x=(SB.half T.n).li T.n))=(fmW T w).2.reverse.map T.cI:=by
   rw[eM,eRr,List.map_append,List.map_append,List.filter_append,List.filter_append,List.map_replicate,List.map_replicate,qeJ hT,qj0 hT]
   have z:((fmW T w).2.reverse.map T.cI).filter (fun x=>!decide (x=ve T.n)&&!decide (x=(SB.half T.n).li T.n))=(fmW T w).2.reverse.map T.cI:=by
    rw[List.filter_eq_self]
    intro x hx
    obtain⟨c,hc,rfl⟩:=List.mem_map.1 hx
    simp[(nI c hc).1,(nI c hc).2]
   rw[z]
   simp
  rw[cnt,fil]
  dsimp only
  unfold fmI
  congr 2
  omega
 have hq:h0+j<m:=by omega
 have e1:=congrArg (fun z:List (List Nat)=>z.reverse[h0+j]?) b3
 rw[qdZ,<-List.map_reverse,eRr,YA,YA,Yo (by simp),List.length_replicate,Nat.add_sub_cancel_left,Yf (by simpa using hj),List.getElem?_range hq,Ya (by simpa using hj)]at e1
 exact(Ye e1).symm
end Go.Av
end
section
namespace Go.Av
theorem qkE {w:List Int} (hl:w.length<=2000000000): ∀(K i:Nat) (l:List Int),i<=w.length->i<K->l.length+i=w.length->jw w K l ((i:Int)-1)=some (l++((w.take i).reverse.map fun x=>w64 (0-x)))
 |0,i,l,h,hK,hs=>by omega
 |K+1,i,l,h,hK,hs=>by
  unfold jw
  cases i with
  |zero=>rw[if_neg (by omega),List.take_zero];simp
  |succ i=>
   have hi:i<w.length:=by omega
   rw[show((i+1:Nat):Int)-1=(i:Int)by omega,if_pos (by omega),qh,Ya hi,ZB,y9 (by simp only[Yr,List.length_nil];omega) (by simp only[Yr,List.length_nil];omega),ZB,show w64 ((i:Int)-1)=(i:Int)-1 from zy (by omega) (by omega),
    qkE hl K i _ (by omega) (by omega) (by simp;omega),List.take_succ_eq_append_getElem hi,List.reverse_append,List.map_append,Yz]
   rfl
theorem qbU {N:Nat} {w:List Int} (hN:w.length+2<N) (hl:w.length<=2000000000):vV N w=some ((w.map fun x=>w64 (0-x)).reverse):=by
 unfold vV
 rw[zy (by omega) (by omega),qkE hl N w.length [] (by omega) (by omega) (by simp),List.take_length]
 simp
theorem qco {a b:List Int} (ha:a.length<=2000000000) (hb:b.length<=2000000000):jZ a b=some (a++b):=by
 unfold jZ
 rw[y9 (by simp;omega) (by simp;omega),ZB,y9 (by simp;omega) (by simp;omega),ZB,List.nil_append]
theorem qcD {w:List Int} (h: ∀y∈w,-1000<y/\y<1000):(w.map fun x=>w64 (0-x)).reverse=qm w:=by
 unfold qm
 congr 1
 refine List.map_congr_left (fun y hy=>?_)
 have:=h y hy
 rw[zy (by omega) (by omega)]
 omega
theorem qbB {w:List Int} (hl:w.length<=2000000000) (hw: ∀y∈w,-1000<y/\y<1000): ∀(K i:Nat) (o:Option (List Int)),hof o=(fact [] (w.take i)).reverse->i<=w.length->w.length<K+i-> ∃r,zN w K o (i:Int)=some r/\hof r=fred w
 |0,i,o,ho,h,hK=>by omega
 |K+1,i,o,ho,h,hK=>by
  unfold zN
  by_cases hi:i<w.length
  ·have hx:w[i]? =some w[i]:=Ya hi
   have hs:fact [] (w.take (i+1))=xB (fact [] (w.take i)) w[i]:=by
    rw[List.take_succ_eq_append_getElem hi,yw,qba]
   have hb:=hw w[i] (List.getElem_mem hi)
   have hlen:=qit [] (w.take i)
   simp only[List.length_nil,Nat.zero_add,Ym]at hlen
   rw[if_pos (by omega),qh,hx]
   generalize w[i]=x at*
   have wx:w64 (0-x)= -x:=by rw[zy (by omega) (by omega)];omega
   generalize fact [] (w.take i)=s at*
   cases o with
   |none=>
    have:s=[]:=by
     have:s.reverse=[]:=ho.symm
     simpa using this
    subst this
    simp only[ZB]
    rw[if_neg (by decide)]
    simp only[ZB,ZF,if_false]
    rw[qB (by omega)]
    exact qbB hl hw K (i+1) (some [x]) (by rw[hs];rfl) (by omega) (by omega)
   |some l=>
    have hls:l=s.reverse:=ho
    subst hls
    simp only[ZB]
    cases s with
    |nil=>
     rw[if_neg (by simp)]
     simp only[ZB,ZF,if_false]
     rw[y9 (by simp) (by simp)]
     simp only[ZB]
     rw[qB (by omega)]
     exact qbB hl hw K (i+1) _ (by rw[hs];rfl) (by omega) (by omega)
    |cons y t=>
     simp only[Yr]at hlen
     have e1:w64 (((y::t).reverse.length:Int)-1)=((t.length:Nat):Int):=by
      rw[List.length_reverse,Yr,zy (by omega) (by omega)];omega
     have hy:(y::t).reverse[t.length]? =some y:=by simp
     rw[if_pos (by rw[List.length_reverse,Yr];omega),e1,qh,hy]
     simp only[ZB,wx]
     by_cases hc:y= -x
     ·rw[decide_eq_true hc]
      simp only[if_true]
      have hct:cut (y::t).reverse 0 (t.length:Int)=some t.reverse:=by
       rw[qil (by simp),List.reverse_cons,List.take_left' (by simp)]
      simp only[e1,hct,ZB]
      rw[qB (by omega)]
      exact qbB hl hw K (i+1) _ (by rw[hs,xY t hc];rfl) (by omega) (by omega)
     rw[decide_eq_false hc]
     simp only[ZF,if_false]
     rw[y9 (by simp;omega) (by simp;omega)]
     simp only[ZB]
     rw[qB (by omega)]
     exact qbB hl hw K (i+1) _ (by rw[hs,xU t hc];simp[hof]) (by omega) (by omega)
  rw[if_neg (by omega)]
  refine⟨o,rfl,?_⟩
  rw[ho,List.take_of_length_le (by omega)]
  rfl
theorem qfM {N:Nat} {w:List Int} (hN:w.length<N) (hl:w.length<=2000000000) (hw: ∀y∈w,-1000<y/\y<1000):vJ N w=some (fred w):=by
 unfold vJ
 obtain⟨r,h1,h2⟩:=qbB hl hw N 0 none (by rfl) (by omega) (by omega)
 rw[show(0:Int)=((0:Nat):Int)from rfl,h1,ZB,h2]
def qcY (n:Nat) (w:List Int):Prop:= ∀y∈w,y≠0/\ -(n:Int)<=y/\y<=n
theorem ginv {n:Nat} {w:List Int} (h:qcY n w):qcY n (qm w):=fun y hy=>by
 simp only[qm,List.mem_reverse,List.mem_map]at hy
 obtain⟨z,hz,rfl⟩:=hy
 have:=h z hz
 omega
theorem gbnd {n:Nat} (hn:n<=12) {w:List Int} (h:qcY n w): ∀y∈w,-1000<y/\y<1000:=fun y hy=>by
 have:=h y hy
 omega
theorem qdy {n:Nat} {im:List (List Int)} (h: ∀w∈im,qcY n w) (k:Nat):qcY n (im.getD k []):=by
 rw[Yy]
 cases e:im[k]? with
 |none=>intro y hy;simp at hy
 |some w=>exact h w (Yn e)
theorem lgetD {M:Nat} {im:List (List Int)} (h: ∀w∈im,w.length<=M) (k:Nat):(im.getD k []).length<=M:=by
 rw[Yy]
 cases e:im[k]? with
 |none=>simp
 |some w=>exact h w (Yn e)
theorem qjW {N:Nat} (hN:100000<N) {a b:List (List Int)} (ha: ∀x∈a,x.length<=100000) (hl:a.length<=300) (hab:a.length=b.length): ∀(K i:Nat),i<=a.length->a.length<K+i->zQ N a b K (i:Int)=some (if a.drop i=b.drop i then .inl ()else .inr false)
 |0,i,h,hK=>by omega
 |K+1,i,h,hK=>by
  unfold zQ
  by_cases hi:i<a.length
  ·have hb:i<b.length:=by omega
   have hx:=ha _ (List.getElem_mem hi)
   rw[if_pos (by omega),qh,Ya hi,qh,Ya hb,ZB,ZB,qfO (by omega) (by omega),ZB,YG hi,YG hb]
   by_cases c:a[i]=b[i]
   ·rw[decide_eq_true c,if_neg (by decide),qB (by omega),qjW hN ha hl hab K (i+1) (by omega) (by omega),c]
    simp only[List.cons.injEq,true_and]
   rw[decide_eq_false c,if_pos (by decide),if_neg (fun h=>c (List.cons.inj h).1)]
  rw[if_neg (by omega),List.drop_eq_nil_of_le (by omega),List.drop_eq_nil_of_le (by omega),if_pos rfl]
theorem qfX {N:Nat} (hN:100000<N) {a b:List (List Int)} (ha: ∀x∈a,x.length<=100000) (hl:a.length<=300):jd N a b=some (decide (a=b)):=by
 unfold jd
 by_cases c:(a.length:Int)=(b.length:Int)
 ·have:=qjW hN ha hl (b:=b) (by omega) N 0 (by omega) (by omega)
  rw[show((0:Nat):Int)=0 from rfl,YR,YR]at this
  rw[decide_eq_true c,if_neg (by decide),this]
  by_cases e:a=b
  ·rw[if_pos e,decide_eq_true e];rfl
  rw[if_neg e,decide_eq_false e];rfl
 rw[decide_eq_false c,if_pos (by decide),decide_eq_false (fun e=>c (by rw[e]))]
theorem qoW {N:Nat} (hN:100000<N) {a b:List (List Int)} (ha: ∀x∈a,x.length<=100000) (hl:a.length<=300) (hab:a.length=b.length): ∀(K i:Nat),i<=a.length->a.length<K+i->qz N a b K (i:Int)=some (if a.drop i=b.drop i then .inl ()else .inr false)
 |0,i,h,hK=>by omega
 |K+1,i,h,hK=>by
  unfold qz
  by_cases hi:i<a.length
  ·have hb:i<b.length:=by omega
   have hx:=ha _ (List.getElem_mem hi)
   rw[if_pos (by omega),qh,Ya hi,qh,Ya hb,ZB,ZB,qkN (by omega) (by omega),ZB,YG hi,YG hb]
   by_cases c:a[i]=b[i]
   ·rw[decide_eq_true c,if_neg (by decide),qB (by omega),qoW hN ha hl hab K (i+1) (by omega) (by omega),c]
    simp only[List.cons.injEq,true_and]
   rw[decide_eq_false c,if_pos (by decide),if_neg (fun h=>c (List.cons.inj h).1)]
  rw[if_neg (by omega),List.drop_eq_nil_of_le (by omega),List.drop_eq_nil_of_le (by omega),if_pos rfl]
theorem qpQ {N:Nat} (hN:100000<N) {a b:List (List Int)} (ha: ∀x∈a,x.length<=100000) (hl:a.length<=300):zS N a b=some (decide (a=b)):=by
 unfold zS
 by_cases c:(a.length:Int)=(b.length:Int)
 ·have:=qoW hN ha hl (b:=b) (by omega) N 0 (by omega) (by omega)
  rw[show((0:Nat):Int)=0 from rfl,YR,YR]at this
  rw[decide_eq_true c,if_neg (by decide),this]
  by_cases e:a=b
  ·rw[if_pos e,decide_eq_true e];rfl
  rw[if_neg e,decide_eq_false e];rfl
 rw[decide_eq_false c,if_pos (by decide),decide_eq_false (fun e=>c (by rw[e]))]
theorem qmb (n:Nat): ∀w∈fid n,qcY n w:=fun w hw y hy=>by
 simp only[fid,List.mem_map,List.mem_range]at hw
 obtain⟨k,hk,rfl⟩:=hw
 simp at hy
 omega
theorem qix {n:Nat} {u v:List Int} (h:qcY n u) (k:qcY n v):qcY n (u++v):=fun y hy=>(List.mem_append.1 hy).elim (h y) (k y)
theorem gred {n:Nat} {u:List Int} (h:qcY n u):qcY n (fred u):=fun y hy=>h y (qdF hy)
theorem qjt {n:Nat} {im:List (List Int)} (h: ∀w∈im,qcY n w) (hl:im.length=n) {c:Int} (hc:c≠0/\ -(n:Int)<c/\c<n): ∀w∈jM im c,qcY n w:=fun w hw=>by
 obtain⟨i,hi⟩: ∃i,c.natAbs=i+1:=⟨c.natAbs-1,by omega⟩
 obtain⟨k,hk,rfl⟩:=List.getElem_of_mem hw
 have e:(jM im c)[k]=(jM im c).getD k []:=by rw[Yy,Ya hk];rfl
 rw[e,qaR hi (by omega)]
 have g:=qdy h
 split
 ·split
  ·exact gred (qix (qix (g _) (g _)) (ginv (g _)))
  exact g _
 split
 ·split
  ·exact g _
  exact gred (qix (qix (ginv (g _)) (g _)) (g _))
 exact g _
theorem qj4 {im:List (List Int)} {k:Nat} (h:k<im.length):im[k]? =some (im.getD k []):=by
 rw[Yy,Ya h]
 rfl
theorem qkp {n N:Nat} (hn:n<=12) (hN:2000000100<N) {w:List Int} (hw:qK n w) (hwl:w.length<=18): ∀(K i:Nat),i<=w.length->w.length<K+i->yf N w K (zI n (w.take i)) (i:Int)=some (zI n w)
 |0,i,h,hK=>by omega
 |K+1,i,h,hK=>by
  unfold yf
  by_cases hi:i<w.length
  ·have hx:w[i]? =some w[i]:=Ya hi
   have hc:=hw _ (List.getElem_mem hi)
   have hrec:=qkp hn hN hw hwl K (i+1) (by omega) (by omega)
   have ht:qK n (w.take i):=fun c hc=>hw c (List.mem_of_mem_take hc)
   rw[List.take_succ_eq_append_getElem hi,qcU,List.foldl_cons,List.foldl_nil]at hrec
   have hl:(zI n (w.take i)).length=n:=by unfold zI;rw[qcL n,yX]
   have hlong:=qd6 (M:=1) ht (yX n) (fun v hv=>by
    simp only[fid,List.mem_map,List.mem_range]at hv
    obtain⟨k,hk,rfl⟩:=hv
    simp)
   have hp:3^(w.take i).length<=3^17:=Nat.pow_le_pow_right (by omega) (by rw[Ym];omega)
   have h17:(3:Nat)^17=129140163:=by decide
   have hg: ∀v∈zI n (w.take i),qcY n v:=by
    have: ∀(u:List Int) (im:List (List Int)),qK n u->im.length=n->(∀v∈im,qcY n v)-> ∀v∈u.foldl jM im,qcY n v:=by
     intro u
     induction u with
     |nil=>intro im _ _ h;exact h
     |cons c u ih=>
      intro im hu hl h
      rw[List.foldl_cons]
      exact ih _ (fun d hd=>hu d (List.mem_cons_of_mem _ hd)) (by rw[xq,hl]) (qjt h hl (hu c (List.mem_cons_self ..)))
    exact this _ _ ht (yX n) (qmb n)
   have hlen: ∀k,((zI n (w.take i)).getD k []).length<=129140163:=fun k=>by
    have:((zI n (w.take i)).getD k []).length<=3^(w.take i).length*1:=lgetD hlong k
    omega
   rw[if_pos (by omega),qh,hx]
   generalize w[i]=c at*
   generalize zI n (w.take i)=im at*
   obtain⟨m,hm⟩: ∃m,c.natAbs=m+1:=⟨c.natAbs-1,by omega⟩
   have hmn:m+1<n:=by omega
   have la:=hlen m
   have lb:=hlen (m+1)
   have ga:=gbnd hn (qdy hg m)
   have gb:=gbnd hn (qdy hg (m+1))
   have q1:w64 (((m+1:Nat):Int)-1)=(m:Int):=by rw[zy (by omega) (by omega)];omega
   simp only[ZB,qmJ (show-1000<c/\c<1000 by omega),hm,q1]
   rw[qh,qj4 (by omega),ZB,qh,qj4 (by omega),ZB]
   unfold jM at hrec
   rw[hm,Nat.add_sub_cancel]at hrec
   dsimp only at hrec
   have lia:(qm (im.getD m [])).length=(im.getD m []).length:=qbx _
   have lib:(qm (im.getD (m+1) [])).length=(im.getD (m+1) []).length:=qbx _
   by_cases hp:c>0
   ·rw[if_pos (show 0<c from hp)]at hrec
    have hlet: ∀y∈im.getD m []++im.getD (m+1) []++qm (im.getD m []),-1000<y/\y<1000:=gbnd hn (qix (qix (qdy hg m) (qdy hg (m+1))) (ginv (qdy hg m)))
    rw[if_pos hp,qco (by omega) (by omega),ZB,qbU (by omega) (by omega),qcD ga,ZB,qco (by rw[Yq];omega) (by omega),ZB,qfM (by simp only[Yq];omega) (by simp only[Yq];omega) hlet,ZB,yh (by omega),ZB,qh,Yw (by omega),qj4 (by omega),ZB,yh (by rw[Yk];omega)]
    simp only[ZB]
    rw[qB (by omega)]
    exact hrec
   rw[if_neg (show¬0<c from hp)]at hrec
   have hlet: ∀y∈qm (im.getD (m+1) [])++im.getD m []++im.getD (m+1) [],-1000<y/\y<1000:=gbnd hn (qix (qix (ginv (qdy hg (m+1))) (qdy hg m)) (qdy hg (m+1)))
   rw[if_neg hp,qbU (by omega) (by omega),qcD gb,ZB,qco (by omega) (by omega),ZB,qco (by rw[Yq];omega) (by omega),ZB,qfM (by simp only[Yq];omega) (by simp only[Yq];omega) hlet,ZB,yh (by omega),ZB,qh,Yw (by omega),qj4 (by omega),ZB,yh (by rw[Yk];omega)]
   simp only[ZB]
   rw[qB (by omega)]
   exact hrec
  rw[if_neg (by omega),List.take_of_length_le (by omega)]
theorem qid {n:Nat} (hn:n<=12): ∀(K i:Nat),i<=n->n<K+i->vW (n:Int) K ((fid n).take i) ((i+1:Nat):Int)=some (fid n)
 |0,i,h,hK=>by omega
 |K+1,i,h,hK=>by
  unfold vW
  by_cases hi:i<n
  ·have e:(fid n).take (i+1)=(fid n).take i++[[((i+1:Nat):Int)]]:=by
    rw[List.take_succ_eq_append_getElem (by rw[yX];exact hi)]
    simp[fid]
   rw[if_pos (by omega),y9 (by simp[fid];omega) (by simp[fid];omega),ZB,qB (by omega),<-e]
   exact qid hn K (i+1) (by omega) (by omega)
  rw[if_neg (by omega),List.take_of_length_le (by rw[yX];omega)]
theorem qdP {n N:Nat} (hn:n<=12) (hN:2000000100<N) {w:List Int} (hw:qK n w) (hwl:w.length<=18):vZ N (n:Int) w=some (zI n w):=by
 unfold vZ
 have h0:=qid hn N 0 (by omega) (by omega)
 have h1:=qkp hn hN hw hwl N 0 (by omega) (by omega)
 rw[List.take_zero]at h0 h1
 rw[show((0+1:Nat):Int)=1 from rfl]at h0
 rw[show zI n []=fid n from rfl,show((0:Nat):Int)=0 from rfl]at h1
 rw[h0,ZB,h1,ZB]
theorem qfI {n:Nat} {w:List Int} (hw:qK n w) (hl:w.length<=6): ∀v∈zI n w,v.length<=729:=fun v hv=>by
 have:=qd6 (M:=1) hw (yX n) (fun v hv=>by
  simp only[fid,List.mem_map,List.mem_range]at hv
  obtain⟨k,hk,rfl⟩:=hv
  simp) v hv
 have hp:3^w.length<=3^6:=Nat.pow_le_pow_right (by omega) hl
 omega
theorem qgC (n:Nat) (w:List Int):(zI n w).length=n:=by
 unfold zI;rw[qcL n,yX]
theorem qgQ {N:Nat} (hN:100000<N) {f:jf} (h1:f.Factors.length<=300) (h2: ∀x∈f.Factors,x.length<=100000) (g:jf):yH N f g=some (decide (f.Half=g.Half/\f.Factors=g.Factors))/\xe N f g=some (decide (f.Half=g.Half/\f.Factors=g.Factors)):=by
 have h2': ∀x∈f.Factors,x.length<N:=fun x hx=>by have:=h2 x hx;omega
 obtain⟨fh,ff⟩:=f
 obtain⟨gh,gf⟩:=g
 unfold yH xe
 dsimp only at*
 by_cases c:fh=gh
 ·have e:decide (ff=gf)=decide (fh=gh/\ff=gf):=by simp[c]
  constructor
  ·rw[if_pos c,qpQ hN h2 h1,e];rfl
  rw[if_pos c,qfX hN h2 h1,e];rfl
 have e:decide (fh=gh/\ff=gf)=false:=decide_eq_false fun h=>c h.1
 constructor
 ·rw[if_neg c,e];rfl
 rw[if_neg c,e];rfl
end Go.Av
end
section
namespace Go.Av
theorem rp_L {N n:Nat} (hN:2000<N) (hn:n<=12) {s:SB} (hs:s.Ok n): ∀(K i:Nat),i<=n->n<K+i->qR N (s.li n) K (i:Int)=some (.inl ())
 |0,i,h,hK=>by omega
 |K+1,i,h,hK=>by
  unfold qR
  have hl:=Ud n s
  by_cases hi:i<n
  ·have hv:=hs.f_ i hi
   rw[if_pos (by omega),qh,Un s hi,ZB,if_neg (by omega),hl,decide_eq_false (by omega),ZB,if_neg (by decide)]
   rcases qjs (p:=s.li n) (by omega) (i:=i) (by omega) (Un s hi) N 0 (by omega) (by omega) (fun k hk=>by omega)with⟨g1,_⟩|⟨_,k,g2,g3⟩
   ·rw[show((0:Nat):Int)=0 from rfl]at g1
    rw[g1,qB (by omega)]
    exact rp_L hN hn hs K (i+1) (by omega) (by omega)
   rw[Un s (by omega)]at g3
   have:=s.finj (Int.ofNat.inj (Ye g3))
   omega
  rw[if_neg (by omega)]
theorem qoB {N n:Nat} (hN:2000<N) (hn:n<=12) {s:SB} (hs:s.Ok n):vL N (n:Int) (s.li n)=some 0:=by
 have hl:=Ud n s
 obtain⟨e,e1,e2,e3,_,_⟩:=qhL (N:=N) hN (n:Int) (p:=s.li n) (by omega)
 have r:jh N (s.li n)=some 0:=by
  unfold jh
  have:=rp_L hN hn hs N 0 (by omega) (by omega)
  rw[show((0:Nat):Int)=0 from rfl]at this
  rw[if_neg (by omega),this]
  rfl
 rw[r]at e2
 have e0:=Ye e2
 subst e0
 rw[e3,if_pos (by omega),qdY,qfL]
section
variable {k:Nat} (hk:k<=12) (k2:2<=k) {N:Nat} (hN:20000<N) {f:jf} {m:Nat} {L:Nat->SB} (hf:f.Factors=jP k m L) (hm:m<=200) (ok:OkM k m L) (nf:Nf k m L) (no: ∀q,q<m->(L q).li k≠ve k/\(L q).li k≠(SB.half k).li k)
include hk k2 hN hf hm ok nf no
theorem qoQ: ∀(K i:Nat),i<=m->m<K+i->qP N (k:Int) f K (i:Int)=some (.inl ())
 |0,i,h,hK=>by omega
 |K+1,i,h,hK=>by
  unfold qP
  rw[hf,zo]
  by_cases hi:i<m
  ·have hl:=Ud k (L i)
   obtain⟨b,b1,b2⟩:=qfT hk (by omega) (N:=N) (by omega) (L i)
   rw[qjA hk (by omega) (ok i hi)]at b2
   have bf:b=false:=by
    cases b with
    |false=>rfl
    |true=>exact absurd (b2.1 rfl) (no i hi).1
   subst bf
   have seq:slices_Equal_int N ((L i).li k) ((SB.half k).li k)=some (decide ((L i).li k=(SB.half k).li k)):=qhq (by omega) (by omega)
   rw[if_pos (by omega),qh,yM hi,ZB,qoB (by omega) hk (ok i hi),ZB,if_neg (by decide)]
   have Lo:(if(i:Int)>0 then(idx (jP k m L) (w64 ((i:Int)-1))).bind fun x34=>(jD N x34 ((L i).li k)).bind fun r35=>some r35.2 else some false:Option Bool)=some false:=by
    rcases Nat.eq_zero_or_pos i with i0|ip
    ·subst i0;rw[if_neg (by omega)]
    rw[if_pos (by omega),show w64 ((i:Int)-1)=((i-1:Nat):Int)from qhu (by omega) ip,qh,yM (by omega),ZB]
    rcases qdg (n:=k) (by omega) (N:=N) (by omega) (by omega) (t:=L i) (ok (i-1) (by omega))with⟨j,j1,j2,j3,j4⟩|⟨j1,j2⟩
    ·exfalso
     refine nf (i-1) j ⟨by omega,j1,?_,j3⟩
     rw[show i-1+1=i by omega];exact j2
    rw[j2];rfl
   rw[Lo,ZB,if_neg (by decide),b1,ZB,if_neg (by decide),qdx (by omega) (by omega),ZB,seq,decide_eq_false (no i hi).2]
   simp only[ZB,ZF,if_false]
   rw[qB (by omega)]
   exact qoQ K (i+1) (by omega) (by omega)
  rw[if_neg (by omega)]
theorem qiG (h1: -200<=f.Half) (h2:f.Half<=200):jb N (k:Int) f=some 0/\vK N (k:Int) f=some 0:=by
 have fl:f.Factors.length=m:=by rw[hf,zo]
 have p:jb N (k:Int) f=some 0:=by
  have bf: ∀a b c:Int,ko N [a,b,c]=some (qeF [a,b,c]):=fun a b c=>qea (by simp) (by simp;omega)
  have r:=qoQ hk k2 hN hf hm ok nf no N 0 (by omega) (by omega)
  rw[show((0:Nat):Int)=0 from rfl]at r
  have hab:=qha f.Half ⟨h1,h2⟩
  unfold jb
  rw[qf9,if_neg (by omega)]
  simp only[ZB,bf,qa4,if_true,hab]
  rw[if_neg (show¬((f.Half.natAbs:Nat):Int)>200 by omega),if_neg (show¬f.Half< -200 by omega),if_neg (show¬(k:Int)=1 by omega),decide_eq_false (show¬(f.Factors.length:Int)>200 by omega)]
  simp only[ZB,ZF,if_false,qdY,qfL,decide_true,Bool.not_true]
  rw[r]
  rfl
 refine⟨p,?_⟩
 obtain⟨e,e1,e2,_⟩:=qjf hN (n:=(k:Int)) (f:=f) (by omega) (fun x hx=>by
  rw[hf]at hx
  unfold jP at hx
  obtain⟨q,_,rfl⟩:=List.mem_map.1 hx
  rw[Ud];omega)
 rw[p]at e1
 have:=Ye e1
 subst this
 exact e2
end
theorem qjx.rows {T:QTb} {s:FmN} {L:Nat->SB} (h:qjx T s L):(fmI T s).Factors=jP T.n s.2.length L:=by
 unfold fmI jP
 dsimp only
 apply List.ext_getElem?
 intro j
 by_cases hj:j<s.2.length
 ·rw[YA,Ya (by simpa using hj),YA,List.getElem?_range hj,ZM,ZM,qgY,h.row j hj]
  rfl
 rw[Yg (by simp;omega),Yg (by simp;omega)]
theorem qjx.noI {T:QTb} (hT:T.Ok) {s:FmN} {L:Nat->SB} (h:qjx T s L) (hc:Cod T s.2) (no:noN T s.2=true): ∀q,q<s.2.length->(L q).li T.n≠ve T.n/\(L q).li T.n≠(SB.half T.n).li T.n:=fun q hq=>by
 have hm:s.2.reverse[q]'(by simpa using hq)∈s.2:=List.mem_reverse.1 (List.getElem_mem _)
 have e:(L q).li T.n=T.cI (s.2.reverse[q]'(by simpa using hq)):=by rw[qgY,h.row q hq];rfl
 have nn:=qi7 no _ hm
 rw[e]
 exact⟨fun e=>nn.1 (qfN hT (hc _ hm) hT.id_ (by rw[e,qj0 hT])),fun e=>nn.2 (qfN hT (hc _ hm) hT.ha_ (by rw[e,qeJ hT]))⟩
theorem qiv (T:QTb): ∀M:List Nat,wsN T M=M.reverse.flatMap T.wd
 |[]=>rfl
 |x::r=>by rw[wsN,qiv T r,List.reverse_cons,List.flatMap_append];simp
theorem qlA {T:QTb} {s:SB} {c:Nat} (h:s.row T.n=T.dec c):WdB T.n s (T.wd c):=by
 unfold QTb.wd
 rw[<-h]
 exact qlL _ s (s.inv_le T.n)
theorem qoI {w r:List Int} {k:Nat} (hl:r.length=w.length*k) (h:Rep w r (w.length*k)):r=rpw w k:=by
 have key: ∀k i,i<w.length*k->(rpw w k)[i]? =w[i%w.length]? :=by
  intro k
  induction k with
  |zero=>intro i hi;omega
  |succ k ih=>
   intro i hi
   rw[rpw]
   by_cases c:i<w.length*k
   ·rw[Yf (by rw[qbQ];exact c),ih i c]
   rw[Yo (by rw[qbQ];omega),qbQ]
   rw[Nat.mul_succ]at hi
   congr 1
   have:i=(i-w.length*k)+w.length*k:=by omega
   rw[this,Nat.add_mul_mod_self_left,Nat.mod_eq_of_lt (by omega)]
   omega
 apply List.ext_getElem?
 intro i
 by_cases hi:i<w.length*k
 ·rw[h i hi,key k i hi]
 rw[Yg (by omega),Yg (by rw[qbQ];omega)]
section
variable {T:QTb} (hT:T.Ok) (hW:T.Wd) (n2:2<=T.n) (n4:T.n<=12) {N:Nat} (hN:100000<N) {s:FmN} {L:Nat->SB} (h:qjx T s L) (hc:Cod T s.2)
include hT hW n2 n4 hN h hc
theorem qhJ (hm:s.2.length<=20): ∀(K i:Nat) (out:List Int),i<=s.2.length->s.2.length<K+i->out.length<=1000+6*i->jL N (fmI T s) K out (i:Int)=some (out++(s.2.reverse.drop i).flatMap T.wd)
 |0,i,out,hi,hK,ho=>by omega
 |K+1,i,out,hi,hK,ho=>by
  unfold jL
  rw[h.rows,zo]
  by_cases c:i<s.2.length
  ·have hmem:s.2.reverse[i]'(by simpa using c)∈s.2:=List.mem_reverse.1 (List.getElem_mem _)
   have wl:=hW.len _ (hc _ hmem)
   have we:=qj2 (n:=T.n) n4 (by omega) (N:=N) (by omega) (qlA (h.row i c)) (by omega)
   rw[if_pos (by omega),qh,yM c,ZB,we,ZB,y9 (by omega) (by omega),ZB,qB (by omega),qhJ hm K (i+1) _ (by omega) (by omega) (by rw[Yq];omega),YG (show i<s.2.reverse.length by simpa using c),List.flatMap_cons,Yz]
  rw[if_neg (by omega),List.drop_eq_nil_of_le (by simp;omega)]
  simp
theorem qnu (F:FmOk T s) (h0:0<(T.wd T.half).length):qav N (T.n:Int) (fmI T s)=some (qbi T s,0)/\(qbi T s).length<=200/\qK T.n (qbi T s):=by
 have fh:(fmI T s).Half=(s.1:Int)-16:=rfl
 have lo:=F.lo
 have hi:=F.hi
 have hlen:=F.len
 have wl:=hW.len _ hT.ha_
 have cf:=(qiG (k:=T.n) n4 n2 (N:=N) (by omega) h.rows (by omega) h.ok h.nf (h.noI hT hc F.no) (by omega) (by omega)).1
 have wlh:WdB T.n (SB.half T.n) (T.wd T.half):=qlA (by rw[hT.ha,qfw])
 have we:=qj2 (n:=T.n) n4 (by omega) (N:=N) (by omega) wlh (by omega)
 have lw:=hW.let_ _ hT.ha_
 have flt:qK T.n (qbi T s):=by
  unfold qbi
  refine qK.app ?_ (xK hW hc)
  split
  ·exact xS lw _
  exact xS (qff hT hW) _
 have wsl: ∀M:List Nat,Cod T M->(wsN T M).length<=6*M.length:=by
  intro M
  induction M with
  |nil=>intro _;exact Nat.le_refl _
  |cons x r ih=>
   intro hM
   have:=hW.len x hM.hd
   have:=ih hM.tl
   rw[wsN,Yq,Yr]
   omega
 have wsl:=wsl _ hc
 have dl:T.dn.length=(T.wd T.half).length:=qbx _
 have m6: ∀k,k<=6->(T.wd T.half).length*k<=36:=fun k hk=>Nat.mul_le_mul wl hk
 have pl:((if 16<=s.1 then rpw (T.wd T.half) (s.1-16)else rpw T.dn (16-s.1)):List Int).length<=36:=by
  split
  ·rw[qbQ];exact m6 _ (by omega)
  rw[qbQ,dl];exact m6 _ (by omega)
 have sl:(qbi T s).length<=200:=by
  unfold qbi
  rw[Yq]
  omega
 refine⟨?_,sl,flt⟩
 unfold qav
 rw[cf,ZB,decide_eq_true rfl,if_neg (by decide),qdx (by omega) (by omega),ZB,we,ZB,fh]
 have tail: ∀(P:List Int) (k:Nat),0<P.length->P.length<=6->k<=6->((s.1:Int)-16).natAbs=k->qbi T s=rpw P k++wsN T s.2->
  ((vg ((s.1:Int)-16)).bind fun r10=>(zR N P r10).bind fun l12=>(if l12.length<=1000000000 then some ()else none:Option Unit).bind fun u13=>(jL N (fmI T s) N l12 0).bind fun l16=>(vX l16).bind fun r22=>some (r22.1,r22.2))=some (qbi T s,0):=fun P k p0 p6 k6 ek es=>by
  obtain⟨r,r1,r2,r3⟩:=qlm (N:=N) (by omega) p0 (k:=k) (by omega) (by omega)
  have rr:=qoI r2 r3
  have pk:P.length*k<=36:=Nat.mul_le_mul p6 k6
  have sp:=qhJ hT hW n2 n4 hN h hc (by omega) N 0 r (by omega) (by omega) (by omega)
  rw[show((0:Nat):Int)=0 from rfl,YR,<-qiv,rr,<-es]at sp
  rw[qha _ (by omega),ek,ZB,r1,ZB,if_pos (by omega),ZB,rr,sp,ZB,qfe,if_neg (by omega),ZB]
 by_cases g:16<=s.1
 ·rw[if_neg (by omega),ZB]
  exact tail (T.wd T.half) (s.1-16) h0 wl (by omega) (by omega) (by unfold qbi;rw[if_pos g])
 have lb: ∀y∈T.wd T.half,-1000<y/\y<1000:=fun y hy=>by have:=lw y hy;omega
 rw[if_pos (by omega),qf6 (by omega) (by omega),qcD lb,ZB,ZB]
 exact tail T.dn (16-s.1) (by omega) (by omega) (by omega) (by omega) (by unfold qbi;rw[if_neg g])
end
end Go.Av
end
section
namespace Go.Av
def qT2:QTb:=⟨2,2,[[0,1],[1,0]],72181409904875314414374968516587674608769193923998367054820377053136271193305186106925957803847713792,32,[1],[0],0,1⟩
def qT3:QTb:=⟨3,6,[[0,1,2],[0,2,1],[1,0,2],[1,2,0],[2,0,1],[2,1,0]],8266444832593256110278504056324975968503043804566250863407260539807837122730277548901335238120097395179051920032784121885944365959314536480922739183161704479908532888759525628914427475701484775992797476535919946361258797552121693278065530760138100112689290939756654604389242850736458767737950760870612468550431008366489984023528034147806255775601685454698281011192935300900373995265410456645285650811097701860214837219642145815646556704835918396369342363658459293544675424415982589867407839793775616,171050048,[2,1],[4,3],0,5⟩
def qT4:QTb:=⟨4,24,[[0,1,2,3],[0,1,3,2],[0,2,1,3],[0,2,3,1],[0,3,1,2],[0,3,2,1],[1,0,2,3],[1,0,3,2],[1,2,0,3],[1,2,3,0],[1,3,0,2],[1,3,2,0],[2,0,1,3],[2,0,3,1],[2,1,0,3],[2,1,3,0],[2,3,0,1],[2,3,1,0],[3,0,1,2],[3,0,2,1],[3,1,0,2],[3,1,2,0],[3,2,0,1],[3,2,1,0]],49924679964118950158504773047712293008357572476700065051888262983812057941490288147443351685426771215159984320836562853297116792287243261337793508672679251465644859717201945477412550594078187220419246253422400668501238822705186209631823664795546556725802353443597366994676083434298407497895951006041340697925103439831429288656551147713465281614174897695110438160528146578989233620903067625154729735852172944938768903786003427752492075541580189905618886734922591285116646371245110358685073318595789079558477297991090241916855011136828568208244471641454901805830279422430958743345433364647924354266092999170769933150084419990857426812155074405611150780835374419587994421388349476497668576829772488824900890943580440564475224948382613975569030959140137112946356581733181767804982837299001275241404024428423969945375118018346251689811035666654288789377498673465654056046472367046584590543393353605191609945521833629814704248581809745682262940627633852625899232412773399747183302053873722142720448400276228892069755475979637633022120133509269817175026926090945579051002275436700445082501496335987190279038950560271464274442251761989218996321827353813610005240986238361113907433293778101564204070566329073411198764754719454991281569784587907213314050180094441658837772201767737978404315443030869776484701693495790906741003166215916682350154151789114301259079812398741228901552670752772395833617508221840505129725629199784506605943043680284619804642750999491474547619553548489473624190326497049323827710585797376128535162121336392147624711654859716099592102869074139412083732499915758752748885407482110554388566101216417935215251003517456352892825683218863073492610190489573499633703322144945645623511650086536431133964455733231818730410381913488209559937579397955745483507689917102846472843567664143105810769946017619388434306508209431226370530891092075784336003387970392890486318636301860961540143886450558313887045598385752921294146328527693950926360982960926679499102240763953829825506070855435692925060097073536747148584138050668920091924574974555317321554774419427977255641596038254215103565789710315231253691377676323688829991038820329597762396240623059261092946519163386353067005187428775114373499030304537824708080794941093469489225553214118469148918400762649165981331577145360589521920,978316295202967168895658715385301184,[6,2,1],[22,21,17],0,23⟩
end Go.Av
end
section
namespace Go.Av
open Go.Proofs
theorem qmE:qT2.ck=true:=by kernel_rfl
theorem qnr:qT3.ck=true:=by kernel_rfl
theorem ql1:qT4.ck=true:=by kernel_rfl
theorem qon:qfg qT2=true:=by kernel_rfl
theorem qoo:qfg qT3=true:=by kernel_rfl
theorem qop:qfg qT4=true:=by kernel_rfl
end Go.Av
end
section
namespace Go.Av
open Go.Proofs
theorem qpP:qT2.cw=true:=by kernel_rfl
theorem qpi:qT3.cw=true:=by kernel_rfl
theorem qpI:qT4.cw=true:=by kernel_rfl
end Go.Av
end
section
namespace Go.Av
open Go.Proofs
theorem qdV {N:Nat} (hN:2000<N) (n:Int) (w:List Int):qaT N n w 4 6=some (decide (n<=4/\w.length<=6/\qbZ n w=0)):=by
 unfold qaT
 by_cases h1:n<=4
 ·by_cases h2:w.length<=6
  ·rw[if_pos h1,if_pos (by omega),qfz hN (by omega)]
   simp only[ZB]
   congr 1
   simp[h1,h2]
  rw[if_pos h1,if_neg (by omega)]
  simp[h2]
 rw[if_neg h1]
 simp[h1]
theorem qep {n:Nat} (n1:1<=n) (n2:n<=12) {w:List Int} (h:qK n w) (hl:w.length<=200):qbZ (n:Int) w=0:=by
 unfold qbZ
 rw[if_neg (by omega),if_neg (by omega),if_pos]
 rw[Yp]
 intro c hc
 have:=h c hc
 unfold qah
 simp only[Bool.and_eq_true,decide_eq_true_eq]
 omega
def pcN (n:Nat):Bool:=qal (n-1) fun i=>bif imE n [((i+1:Nat):Int),-((i+1:Nat):Int)] []then imE n [-((i+1:Nat):Int),((i+1:Nat):Int)] []else false
theorem qod {n:Nat} (h:pcN n=true) {c:Int} (hc:c≠0/\ -(n:Int)<c/\c<n):BE n [c,-c] []:=by
 obtain⟨h1,h2⟩:=ql (xD h (c.natAbs-1) (by omega))
 have l1: ∀x y:Int,x.natAbs=c.natAbs->y.natAbs=c.natAbs->qK n [x,y]:=fun x y hx hy z hz=>by
  simp only[List.mem_cons,List.not_mem_nil,or_false]at hz
  rcases hz with rfl|rfl<;>omega
 by_cases hp:0<c
 ·rw[show(((c.natAbs-1)+1:Nat):Int)=c by omega]at h1
  exact qdj (l1 _ _ rfl (by omega)) (qK.nil _) h1
 rw[show-(((c.natAbs-1)+1:Nat):Int)=c by omega,show(((c.natAbs-1)+1:Nat):Int)= -c by omega]at h2
 exact qdj (l1 _ _ rfl (by omega)) (qK.nil _) h2
theorem qnH {n:Nat} (h:pcN n=true): ∀{a:List Int},qK n a->BE n (a++qm a) []
 |[],ha=>BE.rfl_
 |c::a,ha=>by
  have hc:=ha c (List.mem_cons_self ..)
  have ha':qK n a:=fun d hd=>ha d (List.mem_cons_of_mem _ hd)
  have l1:qK n [c]:=fun d hd=>by rw[List.mem_singleton.1 hd];exact hc
  have l2:qK n [-c]:=fun d hd=>by rw[List.mem_singleton.1 hd];omega
  have:=((qnH h ha').right [-c])
  rw[List.nil_append]at this
  have:=Us [c] l1 ((ha'.app ha'.inv).app l2) l2 this
  rw[yK]
  have e:c::a++(qm a++[-c])=[c]++(a++qm a++[-c]):=by simp
  rw[e]
  exact this.trans (qod h hc)
structure TOK (T:QTb):Prop where
 ok:T.Ok
 wd:T.Wd
 bf:qfg T=true
 pc:pcN T.n=true
 n2:2<=T.n
 n4:T.n<=4
 hw:0<(T.wd T.half).length
theorem qkV (im:List (List Int)) (c:Int):jM im c=bif decide (0<c)then(im.set (c.natAbs-1) (fred (im.getD (c.natAbs-1) []++im.getD (c.natAbs-1+1) []++qm (im.getD (c.natAbs-1) [])))).set (c.natAbs-1+1) (im.getD (c.natAbs-1) [])else(im.set (c.natAbs-1) (im.getD (c.natAbs-1+1) [])).set (c.natAbs-1+1) (fred (qm (im.getD (c.natAbs-1+1) [])++im.getD (c.natAbs-1) []++im.getD (c.natAbs-1+1) [])):=by
 unfold jM
 dsimp only
 by_cases h:0<c
 ·rw[if_pos h,decide_eq_true h,cond_true]
 rw[if_neg h,decide_eq_false h,cond_false]
theorem qgy (T:QTb): ∀(w:List Int) (im:List (List Int)) (s:LS),qK T.n w->im.length=T.n->Nzs im->qeh im s.2->qeh (w.foldl jM im) (w.foldl (lsL T) s).2
 |[],im,s,hw,hl,hz,h=>h
 |c::w,im,s,hw,hl,hz,h=>by
  have hc:=hw c (List.mem_cons_self ..)
  rw[List.foldl_cons,List.foldl_cons]
  have st:=qeh.step (c.natAbs-1) (decide (0<c)) hz (by omega) h
  rw[<-qkV]at st
  exact qgy T w _ _ (fun d hd=>hw d (List.mem_cons_of_mem _ hd)) (by rw[xq,hl]) (qcu (i:=c.natAbs-1) hz (by omega) (by omega)) st
theorem qh8 {f:Nat->List Int} {g:Nat->Nat} (h: ∀k,Lin (f k) (g k)): ∀l:List Nat,qeh (l.map f) (l.map g)
 |[]=>trivial
 |k::l=>⟨h k,qh8 h l⟩
theorem qgH (T:QTb) {w:List Int} (hw:qK T.n w):qeh (zI T.n w) (lsW T w).2:=by
 refine qgy T w _ _ hw (yX _) (qfD _) ?_
 unfold fid ls0
 refine qh8 (fun k=>⟨qnt k,fun z hz=>?_⟩) _
 show evl (((k:Nat):Int)+1) z=_
 unfold evl
 rw[if_pos (by omega),show(((k:Nat):Int)+1).natAbs-1=k by omega]
theorem qpd {T:QTb} (t:TOK T) {a b:List Int} (ha:qK T.n a) (hb:qK T.n b) (la:a.length<=6) (lb:b.length<=6):fmW T a=fmW T b↔zI T.n a=zI T.n b:=by
 constructor
 ·intro e
  have h1:=qhb t.ok t.wd ha (by omega)
  have h2:=qhb t.ok t.wd hb (by omega)
  rw[e]at h1
  exact h1.trans h2.symm
 intro e
 have h1:=qgH T ha
 rw[e]at h1
 rw[<-qhp,<-qhp]
 exact qm1 t.bf ha hb la lb (h1.uniq (qgH T hb))
theorem qm7 {T:QTb} (t:TOK T): ∀(m:Nat) (a:List Int),a.length=m->qK T.n a->a.length<=6->fmW T (a++qm a)=(16,[])
 |0,a,hm,ha,la=>by
  rw[show a=[]by cases a<;>simp_all]
  rfl
 |m+1,a,hm,ha,la=>by
  rcases List.eq_nil_or_concat a with rfl|⟨v,c,rfl⟩
  ·cases hm
  rw[List.concat_eq_append]at*
  have hc:=ha c (List.mem_append_right _ (List.mem_singleton.2 rfl))
  have hv:qK T.n v:=fun d hd=>ha d (List.mem_append_left _ hd)
  have lv:v.length=m:=by simp at hm;omega
  have ih:=qm7 t m v lv hv (by simp at la;omega)
  have fb:=qnU t.bf hv (by simp at la;omega) hc
  rw[qhp]at fb
  rw[qhO,qin]
  unfold fmW at*
  rw[List.foldl_append]at*
  rw[List.foldl_append,List.foldl_append]
  simp only[List.foldl_cons,List.foldl_nil]
  rw[fb]
  exact ih
theorem qcT {n:Nat} (n1:1<=n) (n2:n<=12) {w:List Int} (h:qK n w) (hl:w.length<=200):qg6 n w:=⟨n1,n2,hl,h⟩
theorem qfH {T:QTb} (t:TOK T) {N:Nat} (hN:2000000100<N) {a b:List Int} (ha:qK T.n a) (hb:qK T.n b) (la:a.length<=6) (lb:b.length<=6):jc N (T.n:Int) a b=some true:=by
 have hT:=t.ok
 have n2:=t.n2
 have n4:=t.n4
 have cA:=qep (n:=T.n) (by omega) (by omega) ha (by omega)
 have cB:=qep (n:=T.n) (by omega) (by omega) hb (by omega)
 have oA:=qoY t.bf ha la
 have oB:=qoY t.bf hb lb
 rw[qhp]at oA oB
 have dA:=qj8 hT ha (by omega)
 have dB:=qj8 hT hb (by omega)
 obtain⟨nA,LA,fA⟩:=qcN hT n2 (by omega) (N:=N) (by omega) (qcT (by omega) (by omega) ha (by omega)) (by omega) oA.nf oA.no
 obtain⟨nB,LB,fB⟩:=qcN hT n2 (by omega) (N:=N) (by omega) (qcT (by omega) (by omega) hb (by omega)) (by omega) oB.nf oB.no
 have fl: ∀s:FmN,s.2.length<=6-> ∀L,qjx T s L->(fmI T s).Factors.length<=300/\ ∀x∈(fmI T s).Factors,x.length<=100000:=fun s hs L h=>by
  rw[h.rows,zo]
  refine⟨by omega,fun x hx=>?_⟩
  unfold jP at hx
  obtain⟨q,_,rfl⟩:=List.mem_map.1 hx
  rw[Ud];omega
 obtain⟨f1,f2⟩:=fl _ oA.len _ fA
 obtain⟨s1,s2⟩:=qgQ (N:=N) (by omega) f1 f2 (fmI T (fmW T b))
 have eqI:decide ((fmI T (fmW T a)).Half=(fmI T (fmW T b)).Half/\(fmI T (fmW T a)).Factors=(fmI T (fmW T b)).Factors)=decide (zI T.n a=zI T.n b):=by
  refine decide_eq_decide.2 ?_
  rw[<-qpd t ha hb la lb]
  constructor
  ·rintro⟨e1,e2⟩
   refine qol hT dA dB ?_
   generalize fmI T (fmW T a)=x at*
   generalize fmI T (fmW T b)=y at*
   obtain⟨x1,x2⟩:=x
   obtain⟨y1,y2⟩:=y
   dsimp only at e1 e2
   rw[e1,e2]
  intro e
  rw[e]
  exact⟨rfl,rfl⟩
 rw[eqI]at s1 s2
 have bf2: ∀x y:Int,ko N [x,y]=some (if x=0 then y else x):=fun x y=>qeM (by omega) x y
 have wA:=qaU (N:=N) (by omega) (n:=(T.n:Int)) (w:=a) (by omega)
 have wB:=qaU (N:=N) (by omega) (n:=(T.n:Int)) (w:=b) (by omega)
 rw[cA]at wA
 rw[cB]at wB
 have E:yA N (T.n:Int) a b=some (decide (zI T.n a=zI T.n b),0):=by
  unfold yA jT qax
  rw[wA,ZB,wB,ZB,bf2,ZB,ZB,if_pos rfl,decide_eq_true rfl,if_neg (by decide),nA,ZB,nB,ZB,s1]
  rfl
 have NA:vR N (T.n:Int) a=some (fmI T (fmW T a),0):=by
  unfold vR
  rw[wA,ZB,decide_eq_true rfl,if_neg (by decide),nA,ZB]
 have NB:vR N (T.n:Int) b=some (fmI T (fmW T b),0):=by
  unfold vR
  rw[wB,ZB,decide_eq_true rfl,if_neg (by decide),nB,ZB]
 have RA:=qdP (n:=T.n) (by omega) hN ha (by omega)
 have RB:=qdP (n:=T.n) (by omega) hN hb (by omega)
 have RN:=qdP (n:=T.n) (by omega) hN (qK.nil T.n) (by simp)
 have SP:=qfX (N:=N) (by omega) (a:=zI T.n a) (b:=zI T.n b) (fun x hx=>by have:=qfI ha la x hx;omega) (by rw[qgC];omega)
 have CF:=(qiG (k:=T.n) (by omega) n2 (N:=N) (by omega) fA.rows (by have:=oA.len;omega) fA.ok fA.nf (fA.noI hT dA oA.no) (by show(-200:Int)<=((fmW T a).1:Int)-16;have:=oA.lo;omega) (by show((fmW T a).1:Int)-16<=200;have:=oA.hi;omega)).2
 obtain⟨SpE,spl,spF⟩:=qnu hT t.wd n2 (by omega) (N:=N) (by omega) fA dA oA t.hw
 have cS:=qep (n:=T.n) (by omega) (by omega) spF spl
 have rS:=qfz (N:=N) (by omega) (n:=(T.n:Int)) (w:=qbi T (fmW T a)) (by omega)
 rw[cS]at rS
 have lb1: ∀y∈a,-1000<y/\y<1000:=fun y hy=>by have:=ha y hy;omega
 have rI:=qbU (N:=N) (w:=a) (by omega) (by omega)
 rw[qcD lb1]at rI
 have lfa:(qm a).length=a.length:=qbx a
 have rC:=qco (a:=qbi T (fmW T a)) (b:=qm a) (by omega) (by omega)
 have bk:BE T.n (qbi T (fmW T a)++qm a) []:=((qhb hT t.wd ha (by omega)).symm.right (qm a)).trans (qnH t.pc ha)
 have bI:xJ N (T.n:Int) a=some (qm a,0):=by
  unfold xJ
  rw[wA,ZB,decide_eq_true rfl,if_neg (by decide),qf6 (by omega) (by omega),qcD lb1,ZB]
 have bC:xy N (T.n:Int) a (qm a)=some (a++qm a,0):=by
  obtain⟨l,e,h1,h2,h3,h4⟩:=qjk (N:=N) (by omega) (n:=(T.n:Int)) (a:=a) (b:=qm a) (by omega) (by omega)
  have cI:=qep (n:=T.n) (by omega) (by omega) ha.inv (by omega)
  rw[if_pos cA,if_pos cI,if_neg (by omega)]at h2
  rw[h1,(h4 h2).1,h2]
 have fI:=qm7 t a.length a rfl ha la
 have lc:(a++qm a).length<=12:=by rw[Yq];omega
 have flc:qK T.n (a++qm a):=ha.app ha.inv
 have zero:fmI T (16,[])=⟨0,[]⟩:=rfl
 have f0:fmW T []=(16,[]):=rfl
 obtain⟨nC,_⟩:=qcN hT n2 (by omega) (N:=N) (by omega) (qcT (by omega) (by omega) flc (by omega)) (by omega) (by rw[fI];rfl) (by rw[fI];rfl)
 obtain⟨nE,_⟩:=qcN hT n2 (by omega) (N:=N) (by omega) (qcT (by omega) (by omega) (qK.nil T.n) (by simp)) (by simp) (by rw[f0];rfl) (by rw[f0];rfl)
 rw[fI,zero]at nC
 rw[f0,zero]at nE
 have cC:=qaU (N:=N) (by omega) (n:=(T.n:Int)) (w:=a++qm a) (by omega)
 have c0:=qaU (N:=N) (by omega) (n:=(T.n:Int)) (w:=[]) (by simp)
 rw[qep (n:=T.n) (by omega) (by omega) flc (by omega)]at cC
 rw[qep (n:=T.n) (by omega) (by omega) (qK.nil T.n) (by simp)]at c0
 have s0:=(qgQ (N:=N) (by omega) (f:=⟨0,[]⟩) (by simp) (fun x hx=>by cases hx) ⟨0,[]⟩).1
 have E2:yA N (T.n:Int) (a++qm a) []=some (true,0):=by
  unfold yA jT qax
  rw[cC,ZB,c0,ZB,bf2,ZB,ZB,if_pos rfl,decide_eq_true rfl,if_neg (by decide),nC,ZB,nE,ZB,s0]
  rfl
 unfold jc awk qaV
 simp only[ZB,Bool.not_true,ZF,if_false]
 rw[qdV (by omega),decide_eq_true (show(T.n:Int)<=4/\a.length<=6/\qbZ (T.n:Int) a=0 from⟨by omega,la,cA⟩),qdV (by omega),decide_eq_true (show(T.n:Int)<=4/\b.length<=6/\qbZ (T.n:Int) b=0 from⟨by omega,lb,cB⟩)]
 simp only[ZB,Bool.not_true,ZF,if_false]
 rw[E,NA,NB]
 simp only[ZB]
 have w0:w64 (w64 ((0:Int)+0)+0)=0:=by decide
 rw[w0,RA,RB]
 simp only[ZB,SP,s2,CF,decide_true,Bool.not_true,ZF,if_false,beq_self_eq_true]
 rw[SpE]
 simp only[ZB,decide_true,Bool.not_true,ZF,if_false,rS]
 rw[rI]
 simp only[ZB]
 rw[rC]
 simp only[ZB]
 have back:(if((qbi T (fmW T a)).length:Int)<=12 then(vZ N (T.n:Int) (qbi T (fmW T a)++qm a)).bind fun r36=>(vZ N (T.n:Int) []).bind fun r37=>(jd N r36 r37).bind fun r38=>some (!r38)else some false:Option Bool)=some false:=by
  by_cases g:((qbi T (fmW T a)).length:Int)<=12
  ·have RS:=qdP (n:=T.n) (by omega) hN (spF.app ha.inv) (by rw[Yq];omega)
   have bk:zI T.n (qbi T (fmW T a)++qm a)=zI T.n []:=bk
   have S0:=qfX (N:=N) (by omega) (a:=zI T.n []) (b:=zI T.n []) (fun x hx=>by have:=qfI (qK.nil T.n) (by simp) x hx;omega) (by rw[qgC];omega)
   rw[if_pos g,RS,ZB,RN,ZB,bk,S0,ZB,decide_eq_true rfl]
   rfl
  rw[if_neg g]
 rw[back]
 simp only[ZB,ZF,if_false]
 rw[bI]
 simp only[ZB]
 rw[bC]
 simp only[ZB]
 rw[E2]
 simp only[ZB,w0,if_true]
theorem qpF:pcN 2=true:=by kernel_rfl
theorem qpe:pcN 3=true:=by kernel_rfl
theorem qo3:pcN 4=true:=by kernel_rfl
theorem qpK:Nat.blt 0 (qT2.wd qT2.half).length=true:=by kernel_rfl
theorem qpf:Nat.blt 0 (qT3.wd qT3.half).length=true:=by kernel_rfl
theorem qo5:Nat.blt 0 (qT4.wd qT4.half).length=true:=by kernel_rfl
theorem tok2:TOK qT2:=⟨QTb.ok qmE,QTb.wd_ok (QTb.ok qmE) qpP,qon,qpF,by decide,by decide,qbp qpK⟩
theorem tok3:TOK qT3:=⟨QTb.ok qnr,QTb.wd_ok (QTb.ok qnr) qpi,qoo,qpe,by decide,by decide,qbp qpf⟩
theorem tok4:TOK qT4:=⟨QTb.ok ql1,QTb.wd_ok (QTb.ok ql1) qpI,qop,qo3,by decide,by decide,qbp qo5⟩
theorem qoj (K:Nat):jc (K+10) 1 [] []=some true:=by rfl
theorem qeG {N:Nat} (hN:2000000100<N) (n:Int) (a b:List Int):jc N n a b=some true:=by
 by_cases A:n<=4/\a.length<=6/\qbZ n a=0
 ·by_cases B:n<=4/\b.length<=6/\qbZ n b=0
  ·obtain⟨k,rfl,WA⟩:=qks A.2.2
   obtain⟨k',e,WB⟩:=qks B.2.2
   obtain rfl:k=k':=by omega
   have k4:k<=4:=by have:=A.1;omega
   have k1:=WA.n1
   have hk:k=1\/k=2\/k=3\/k=4:=by omega
   rcases hk with rfl|rfl|rfl|rfl
   ·have ha:a=[]:=by
     cases a with
     |nil=>rfl
     |cons c w=>have:=WA.let_ c (List.mem_cons_self ..);omega
    have hb:b=[]:=by
     cases b with
     |nil=>rfl
     |cons c w=>have:=WB.let_ c (List.mem_cons_self ..);omega
    subst ha
    subst hb
    obtain⟨K,rfl⟩: ∃K,N=K+10:=⟨N-10,by omega⟩
    exact qoj K
   ·exact qfH tok2 hN WA.let_ WB.let_ A.2.1 B.2.1
   ·exact qfH tok3 hN WA.let_ WB.let_ A.2.1 B.2.1
   exact qfH tok4 hN WA.let_ WB.let_ A.2.1 B.2.1
  unfold jc awk
  simp only[ZB,Bool.not_true,ZF,if_false]
  rw[qdV (by omega),decide_eq_true A,qdV (by omega),decide_eq_false B]
  rfl
 unfold jc awk
 simp only[ZB,Bool.not_true,ZF,if_false]
 rw[qdV (by omega),decide_eq_false A]
 rfl
end Go.Av
end
