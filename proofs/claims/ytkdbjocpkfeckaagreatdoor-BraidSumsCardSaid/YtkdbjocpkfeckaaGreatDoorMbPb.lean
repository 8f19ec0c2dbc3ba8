/-
  A word's factors, letter by letter: their normal row after another letter.
-/
import Derived.Test.YtkdbjocpkfeckaaGreatDoorMbPa
import Derived.KernelRfl
set_option linter.unusedVariables false
set_option linter.unusedSimpArgs false
set_option maxRecDepth 100000
set_option linter.unusedSectionVars false
section
namespace Go.Av
theorem qav.up {n m k i:Nat} {L:Nat->SB} (h:qav n m L k i):qav n (m+1) L k i:=⟨by have:=h.k_;omega,h.i_,h.b_,h.e_⟩
theorem Pst.up {n m:Nat} {L A:Nat->SB} (h:Pst n m L A):Pst n (m+1) L A:=by
 induction h with
 |refl=>exact .refl
 |head h _ ih=>cases h with|mk h=>exact .head (.mk h.up) ih
def qgG (L:Nat->SB) (m:Nat) (s:SB):Nat->SB:=fun q=>if q=m then s else L q
theorem qgm (L:Nat->SB) (m:Nat) (s:SB):qgG L m s m=s:=if_pos rfl
theorem qdZ {L:Nat->SB} {m q:Nat} {s:SB} (h:q≠m):qgG L m s q=L q:=if_neg h
theorem qnB {L:Nat->SB} {m k i:Nat} {s:SB} (h:k+1<m):psh (qgG L m s) k i=qgG (psh L k i) m s:=by
 funext q;by_cases a:q=m
 ·subst a;rw[qgm,zF _ (by omega) (by omega),qgm]
 rw[qdZ a];by_cases b:q=k
 ·subst b;rw[vO,vO,qdZ a]
 by_cases c:q=k+1
 ·subst c;rw[zT,zT,qdZ a]
 rw[zF _ b c,zF _ b c,qdZ a]
theorem Pst.upd {n m:Nat} {L A:Nat->SB} (h:Pst n m L A) (s:SB):Pst n m (qgG L m s) (qgG A m s):=by
 induction h with
 |refl=>exact .refl
 |head h _ ih=>
  cases h with
  |@mk k i h=>
   have hk:=h.k_;refine .head (L1:=qgG (psh _ k i) m s) ?_ ih;rw[<-qnB hk];refine .mk ⟨hk,h.i_,?_,?_⟩
   ·rw[qdZ (by omega)];exact h.b_
   rw[qdZ (by omega)];exact h.e_
theorem qaK {n k:Nat} (h:k<n):rv5 n k=n-1-k:=if_pos h
theorem qpm {n i:Nat} (hi:i+1<n) (k:Nat):rv5 n (tr5 i k)=tr5 (n-2-i) (rv5 n k):=by
 by_cases hk:k<n
 ·have e:=qaK hk;rcases vY i k with⟨a,b⟩|⟨a,b⟩|⟨a,a',b⟩<;>rw[b]
  ·subst a;rw[e,qaK (by omega),show n-1-k=n-2-k+1 by omega,qbo];omega
  ·subst a;rw[e,qaK (by omega),show n-1-(i+1)=n-2-i by omega,qbn];omega
  rw[e,j5 (by omega) (by omega)]
 rw[j5 (by omega) (by omega)];have:rv5 n k=k:=if_neg hk;rw[this,j5 (by omega) (by omega)]
theorem qiH {n i:Nat} (hi:i+1<n) (s:SB):(s.bk i).flip n=(s.flip n).bk (n-2-i):=SB.ext fun k=>by
 show rv5 n (tr5 i (s.f (rv5 n k)))=tr5 (n-2-i) (rv5 n (s.f (rv5 n k)));exact qpm hi _
theorem qlr {n i:Nat} (hi:i+1<n) (s:SB):(s.fr i).flip n=(s.flip n).fr (n-2-i):=SB.ext fun k=>by
 show rv5 n (s.f (tr5 i (rv5 n k)))=rv5 n (s.f (rv5 n (tr5 (n-2-i) k)));have:=qpm (n:=n) (i:=n-2-i) (by omega) k;rw[show n-2-(n-2-i)=i by omega]at this;rw[this]
theorem qmB {n i:Nat} (hi:i+1<n) {s:SB} (hs:s.Ok n) (h:s.Begs i):(s.flip n).Begs (n-2-i):=by
 unfold SB.Begs at*;show rv5 n (s.f (rv5 n (n-2-i+1)))<rv5 n (s.f (rv5 n (n-2-i)));have h1:=hs.f_ i (by omega);have h2:=hs.f_ (i+1) hi;rw[qaK (k:=n-2-i+1) (by omega),qaK (k:=n-2-i) (by omega),show n-1-(n-2-i+1)=i by omega,show n-1-(n-2-i)=i+1 by omega,qaK h1,qaK h2];omega
theorem qmQ {n i:Nat} (hi:i+1<n) {s:SB} (hs:s.Ok n) (h: ¬s.Ends i): ¬(s.flip n).Ends (n-2-i):=by
 have h:=SB.nEnds h;unfold SB.Ends;show¬rv5 n (s.g (rv5 n (n-2-i+1)))<rv5 n (s.g (rv5 n (n-2-i)));have h1:=hs.g_ i (by omega);have h2:=hs.g_ (i+1) hi;rw[qaK (k:=n-2-i+1) (by omega),qaK (k:=n-2-i) (by omega),show n-1-(n-2-i+1)=i by omega,show n-1-(n-2-i)=i+1 by omega,qaK h1,qaK h2];omega
def qcW (n:Nat) (L:Nat->SB):Nat->SB:=fun q=>(L q).flip n
theorem qm3 {n k i:Nat} (hi:i+1<n) (L:Nat->SB):psh (qcW n L) k (n-2-i)=qcW n (psh L k i):=by
 funext q;by_cases b:q=k
 ·subst b;rw[vO];unfold qcW;rw[vO,qiH hi]
 by_cases c:q=k+1
 ·subst c;rw[zT];unfold qcW;rw[zT,qlr hi]
 rw[zF _ b c];unfold qcW;rw[zF _ b c]
theorem OkM.flip {n m:Nat} {L:Nat->SB} (h:OkM n m L):OkM n m (qcW n L):=fun q hq=>(h q hq).flip
theorem Pst.flip {n m:Nat} {L A:Nat->SB} (h:Pst n m L A) (hL:OkM n m L):Pst n m (qcW n L) (qcW n A)/\OkM n m A:=by
 induction h with
 |refl=>exact⟨.refl,hL⟩
 |head h _ ih=>
  cases h with
  |@mk k i h=>
   have hk:=h.k_;have hi:=h.i_;obtain⟨a,b⟩:=ih (hL.psh hk hi);refine⟨.head (L1:=qcW n (psh _ k i)) ?_ a,b⟩;rw[<-qm3 hi];exact .mk ⟨hk,by omega,qmB hi (hL _ hk) h.b_,qmQ hi (hL _ (by omega)) h.e_⟩
def qms (n:Nat) (p:List Nat):List Nat:=p.reverse.map fun k=>n-1-k
def qoW (n:Nat):List Nat:=(List.range n).reverse
theorem qpk (n:Nat):(Uz n).row n=qoW n:=by
 apply List.ext_getElem?;intro k;unfold qoW;by_cases hk:k<n
 ·rw[Ug _ hk,List.getElem?_reverse (by simpa using hk)];simp only[List.length_range];rw[List.getElem?_range (by omega)];show some (rv5 n k)=_;rw[qaK hk]
 rw[Yg (by rw[Uf];omega),Yg (by simp;omega)]
theorem qrr (n:Nat):Ue.row n=List.range n:=by
 unfold SB.row;exact List.map_id' _
theorem qok {n:Nat} {s:SB} (hs:s.Ok n):(s.flip n).row n=qms n (s.row n):=by
 apply List.ext_getElem?;intro k;unfold qms;by_cases hk:k<n
 ·rw[Ug _ hk,YA,List.getElem?_reverse (by rw[Uf];exact hk),Uf,Ug _ (by omega)];show some (rv5 n (s.f (rv5 n k)))=_;rw[qaK hk,qaK (hs.f_ _ (by omega))];rfl
 rw[Yg (by rw[Uf];omega),Yg (by simp[Uf];omega)]
theorem qgB {n m:Nat} {L:Nat->SB} (hL:OkM n m L): ∀{k:Nat},k<=m->qck n (qcW n L) k=(qck n L k).map (qms n)
 |0,h=>rfl
 |k+1,h=>by
  rw[qck,qck,List.map_cons,qgB hL (k:=k) (by omega),<-qok (hL k (by omega))];rfl
def qfm (l:List SB):Nat->SB:=fun q=>l.getD q Ue
def bfac (n:Nat) (l:List SB) (c:Int):List SB:=if 0<c then l++[Ue.fr (c.natAbs-1)]else l.map (SB.flip n)++[(Uz n).bk (c.natAbs-1)]
theorem qnA (l:List SB) (s:SB):qfm (l++[s])=qgG (qfm l) l.length s:=by
 funext q
 show(l++[s]).getD q Ue=if q=l.length then s else l.getD q Ue
 rw[Yy,Yy];by_cases h:q=l.length
 ·subst h;simp
 rw[if_neg h];by_cases h2:q<l.length
 ·rw[Yf h2]
 rw[Yg (by simp;omega),Yg (by omega)]
theorem qfR (n:Nat) (l:List SB):qfm (l.map (SB.flip n))=qcW n (qfm l):=by
 funext q;show(l.map (SB.flip n)).getD q Ue=(l.getD q Ue).flip n;rw[Yy,Yy,YA]
 cases l[q]? with
 |some s=>rfl
 |none=>
  refine SB.ext fun k=>?_
  show k=rv5 n (rv5 n k);rw[qbF]
def qqR (n:Nat) (R:List (List Nat)) (c:Int):List (List Nat):=
 if 0<c then qh8 n (qfr (c.natAbs-1) (List.range n)) R else qh8 n (qbk (c.natAbs-1) (qoW n)) (R.map (qms n))
structure QOK (n:Nat) (l:List SB) (R:List (List Nat)):Prop where
 ok: ∀s∈l,s.Ok n
 ex: ∃A,Pst n l.length (qfm l) A/\OkM n l.length A/\R=qck n A l.length
theorem qiK {n:Nat} {l:List SB} (h: ∀s∈l,s.Ok n):OkM n l.length (qfm l):=fun q hq=>by
 unfold qfm;rw[Yy,Ya hq];exact h _ (List.getElem_mem hq)
theorem QOK.step {n:Nat} {l:List SB} {R:List (List Nat)} (h:QOK n l R) {c:Int} (hc:c≠0/\ -(n:Int)<c/\c<n):QOK n (bfac n l c) (qqR n R c)/\(bfac n l c).length=l.length+1:=by
 obtain⟨i,hi⟩: ∃i,c.natAbs=i+1:=⟨c.natAbs-1,by omega⟩
 have hin:i+1<n:=by omega
 obtain⟨A,a1,a2,rfl⟩:=h.ex
 have key: ∀{l':List SB} {B:Nat->SB} {s:SB},l'.length=l.length->(∀t∈l',t.Ok n)->s.Ok n->Pst n l.length (qfm l') B->OkM n l.length B->QOK n (l'++[s]) (qh8 n (s.row n) (qck n B l.length)):=fun {l' B s} hl hk hs p ok=>by
  refine⟨fun t ht=>(List.mem_append.1 ht).elim (hk t) (fun e=>by rw[List.mem_singleton.1 e];exact hs),?_⟩
  have ok':OkM n (l.length+1) (qgG B l.length s):=fun q hq=>by
   by_cases e:q=l.length
   ·subst e;rw[qgm];exact hs
   rw[qdZ e];exact ok q (by omega)
  obtain⟨D,d1,d2,d3,d4⟩:=qjN (n:=n) (m:=l.length+1) l.length (qgG B l.length s) (by omega) ok';rw[qgm,qhl (A:=qgG B l.length s) (L:=B) fun q hq=>qdZ (by omega)]at d2;rw[qnA,Yq,hl];refine⟨D,?_,d4,d2⟩;have:=(p.upd s).up;exact this.trans d1
 unfold bfac qqR;rw[hi,Nat.add_sub_cancel];by_cases hp:0<c
 ·rw[if_pos hp,if_pos hp];refine⟨?_,by simp⟩;have:=key (s:=Ue.fr i) rfl h.ok ((Ut n).fr hin) a1 a2
  rwa [qpb hin,qrr]at this
 rw[if_neg hp,if_neg hp];refine⟨?_,by simp⟩;obtain⟨f1,f2⟩:=a1.flip (qiK h.ok)
 have:=key (l':=l.map (SB.flip n)) (B:=qcW n A) (s:=(Uz n).bk i) (by simp) (fun t ht=>by
  obtain⟨u,hu,rfl⟩:=List.mem_map.1 ht
  exact(h.ok u hu).flip) ((SB.half_ok n).bk hin) (by rw[qfR];exact f1) a2.flip
 rwa [qnW,qpk,qgB a2 (Nat.le_refl _)]at this
end Go.Av
end
section
namespace Go.Av
def jnL (a:Nat) (P L:Nat->SB):Nat->SB:=fun q=>if q<a then P q else L (q-a)
theorem qcp {a q:Nat} {P L:Nat->SB} (h:q<a):jnL a P L q=P q:=if_pos h
theorem qfN {a k:Nat} {P L:Nat->SB}:jnL a P L (a+k)=L k:=by
 unfold jnL;rw[if_neg (by omega),Nat.add_sub_cancel_left]
theorem qkf (p l:List SB):qfm (p++l)=jnL p.length (qfm p) (qfm l):=by
 funext q;unfold jnL qfm;by_cases h:q<p.length
 ·rw[if_pos h,Yy,Yf h,Yy]
 rw[if_neg h,Yy,Yo (by omega),Yy]
theorem qoB {a k i:Nat} {P L:Nat->SB}:psh (jnL a P L) (a+k) i=jnL a P (psh L k i):=by
 funext q;by_cases h:q<a
 ·rw[zF _ (by omega) (by omega),qcp h,qcp h]
 obtain⟨j,rfl⟩: ∃j,q=a+j:=⟨q-a,by omega⟩;rw[qfN];by_cases h1:j=k
 ·subst h1;rw[vO,vO,qfN]
 by_cases h2:j=k+1
 ·subst h2;rw[show a+(k+1)=a+k+1 by omega,zT,zT,show a+k+1=a+(k+1)by omega,qfN]
 rw[zF _ (by omega) (by omega),zF _ h1 h2,qfN]
theorem qnX {a k i:Nat} {P L:Nat->SB} (hk:k+1<a):psh (jnL a P L) k i=jnL a (psh P k i) L:=by
 funext q;by_cases h1:q=k
 ·subst h1;rw[vO,qcp (by omega),qcp (by omega),vO]
 by_cases h2:q=k+1
 ·subst h2;rw[zT,qcp hk,qcp hk,zT]
 rw[zF _ h1 h2];by_cases h:q<a
 ·rw[qcp h,qcp h,zF _ h1 h2]
 unfold jnL;rw[if_neg h,if_neg h]
theorem Pst.pre {n m a:Nat} {P L A:Nat->SB} (h:Pst n m L A):Pst n (a+m) (jnL a P L) (jnL a P A):=by
 induction h with
 |refl=>exact .refl
 |head h _ ih=>
  cases h with
  |@mk k i h=>
   refine .head (L1:=jnL a P (psh _ k i)) ?_ ih;rw[<-qoB];refine .mk ⟨by have:=h.k_;omega,h.i_,?_,?_⟩
   ·rw[show a+k+1=a+(k+1)by omega,qfN];exact h.b_
   rw[qfN];exact h.e_
theorem Pst.suf {n m a:Nat} {P A L:Nat->SB} (h:Pst n a P A):Pst n (a+m) (jnL a P L) (jnL a A L):=by
 induction h with
 |refl=>exact .refl
 |head h _ ih=>
  cases h with
  |@mk k i h=>
   have hk:=h.k_;refine .head (L1:=jnL a (psh _ k i) L) ?_ ih;rw[<-qnX hk];refine .mk ⟨by omega,h.i_,?_,?_⟩
   ·rw[qcp hk];exact h.b_
   rw[qcp (by omega)];exact h.e_
structure Jn (n:Nat) (l l':List SB):Prop where
 len:l.length=l'.length
 o1: ∀s∈l,s.Ok n
 o2: ∀s∈l',s.Ok n
 meet: ∃D,Pst n l.length (qfm l) D/\Pst n l.length (qfm l') D
theorem Jn.refl {n:Nat} {l:List SB} (h: ∀s∈l,s.Ok n):Jn n l l:=⟨rfl,h,h,_,.refl,.refl⟩
theorem Jn.symm {n:Nat} {l l':List SB} (h:Jn n l l'):Jn n l' l:=by
 obtain⟨D,a,b⟩:=h.meet;exact⟨h.len.symm,h.o2,h.o1,D,h.len▸b,h.len▸a⟩
theorem Jn.trans {n:Nat} {l l' l2:List SB} (h:Jn n l l') (k:Jn n l' l2):Jn n l l2:=by
 obtain⟨D,a,b⟩:=h.meet;obtain⟨E,c,d⟩:=k.meet;rw[<-h.len]at c d;obtain⟨F,f1,f2⟩:=qlE _ D (Nat.le_refl _);obtain⟨G,g1,g2⟩:=qlE _ E (Nat.le_refl _);obtain rfl:=qiO _ (Nat.le_refl _) (b.trans f1) (c.trans g1) f2 g2;exact⟨h.len.trans k.len,h.o1,k.o2,F,a.trans f1,d.trans g1⟩
theorem Jn.app {n:Nat} {p p' l l':List SB} (h:Jn n p p') (k:Jn n l l'):Jn n (p++l) (p'++l'):=by
 obtain⟨D,a,b⟩:=h.meet;obtain⟨E,c,d⟩:=k.meet;refine⟨by rw[Yq,Yq,h.len,k.len],fun s hs=>(List.mem_append.1 hs).elim (h.o1 s) (k.o1 s),fun s hs=>(List.mem_append.1 hs).elim (h.o2 s) (k.o2 s),jnL p.length D E,?_,?_⟩
 ·rw[qkf,Yq];exact a.suf.trans c.pre
 rw[qkf,Yq,<-h.len];exact b.suf.trans d.pre
theorem Jn.flip {n:Nat} {l l':List SB} (h:Jn n l l'):Jn n (l.map (SB.flip n)) (l'.map (SB.flip n)):=by
 obtain⟨D,a,b⟩:=h.meet;have f1:=(a.flip (qiK h.o1)).1;have f2:=(b.flip (by rw[h.len];exact qiK h.o2)).1;refine⟨by simp[h.len],fun s hs=>?_,fun s hs=>?_,qcW n D,?_,?_⟩
 ·obtain⟨u,hu,rfl⟩:=List.mem_map.1 hs;exact(h.o1 u hu).flip
 ·obtain⟨u,hu,rfl⟩:=List.mem_map.1 hs;exact(h.o2 u hu).flip
 ·rw[qfR,List.length_map];exact f1
 rw[qfR,List.length_map];exact f2
def SB.Fix (n:Nat) (s:SB):Prop:= ∀k,n<=k->s.f k=k
theorem SB.Fix.fr {n i:Nat} {s:SB} (h:s.Fix n) (hi:i+1<n):(s.fr i).Fix n:=fun k hk=>by
 show s.f (tr5 i k)=k;rw[j5 (by omega) (by omega)];exact h k hk
theorem SB.Fix.bk {n i:Nat} {s:SB} (h:s.Fix n) (hi:i+1<n):(s.bk i).Fix n:=fun k hk=>by
 show tr5 i (s.f k)=k;rw[h k hk,j5 (by omega) (by omega)]
theorem qkC {n k:Nat} (h:n<=k):rv5 n k=k:=if_neg (by omega)
theorem SB.Fix.flip {n:Nat} {s:SB} (h:s.Fix n):(s.flip n).Fix n:=fun k hk=>by
 show rv5 n (s.f (rv5 n k))=k;rw[qkC hk,h k hk,qkC hk]
theorem SB.id_fix (n:Nat):Ue.Fix n:=fun _ _=>rfl
theorem SB.half_fix (n:Nat):(Uz n).Fix n:=fun k hk=>qkC hk
theorem Pst.fix {n m:Nat} {L A:Nat->SB} (h:Pst n m L A) (hL: ∀q,(L q).Fix n): ∀q,(A q).Fix n:=by
 induction h with
 |refl=>exact hL
 |head h _ ih=>
  cases h with
  |@mk k i h=>
   refine ih fun q=>?_
   by_cases h1:q=k
   ·subst h1;rw[vO];exact(hL q).bk h.i_
   by_cases h2:q=k+1
   ·subst h2;rw[zT];exact(hL _).fr h.i_
   rw[zF _ h1 h2];exact hL q
def qcP (n:Nat) (w:List Int):Prop:= ∀c∈w,c≠0/\ -(n:Int)<c/\c<n
theorem qcP.app {n:Nat} {u v:List Int} (h:qcP n u) (k:qcP n v):qcP n (u++v):=fun c hc=>(List.mem_append.1 hc).elim (h c) (k c)
theorem qcP.left {n:Nat} {u v:List Int} (h:qcP n (u++v)):qcP n u:=fun c hc=>h c (List.mem_append_left _ hc)
theorem qcP.right {n:Nat} {u v:List Int} (h:qcP n (u++v)):qcP n v:=fun c hc=>h c (List.mem_append_right _ hc)
def Gd (n:Nat) (s:SB):Prop:= ∃i,i+1<n/\(s=Ue.fr i\/s=(Uz n).bk i)
theorem qme (n:Nat):Ue.flip n=Ue:=SB.ext fun k=>qbF n k
theorem qmX (n:Nat):(Uz n).flip n=Uz n:=SB.ext fun k=>by
 show rv5 n (rv5 n (rv5 n k))=rv5 n k;rw[qbF]
theorem Gd.flip {n:Nat} {s:SB} (h:Gd n s):Gd n (s.flip n):=by
 obtain⟨i,hi,h|h⟩:=h<;>subst h
 ·exact⟨n-2-i,by omega,.inl (by rw[qlr hi,qme])⟩
 exact⟨n-2-i,by omega,.inr (by rw[qiH hi,qmX])⟩
theorem Gd.ok {n:Nat} {s:SB} (h:Gd n s):s.Ok n:=by
 obtain⟨i,hi,h|h⟩:=h<;>subst h
 ·exact(Ut n).fr hi
 exact(SB.half_ok n).bk hi
theorem Gd.fix {n:Nat} {s:SB} (h:Gd n s):s.Fix n:=by
 obtain⟨i,hi,h|h⟩:=h<;>subst h
 ·exact(SB.id_fix n).fr hi
 exact(SB.half_fix n).bk hi
end Go.Av
end
section
namespace Go.Av
def qg2 (H I:List Int):List (List Int)->Prop
 |x::y::r=>(y=H->x=H)/\(x=I->y=I)/\qg2 H I (y::r)
 |_=>True
theorem qg2.tail {H I x:List Int} {r:List (List Int)} (h:qg2 H I (x::r)):qg2 H I r:=by
 cases r with
 |nil=>trivial
 |cons y r=>exact h.2.2
theorem qg2.allI {H I:List Int}: ∀{r:List (List Int)},qg2 H I (I::r)-> ∀y∈r,y=I
 |[],h,y,hy=>by cases hy
 |z::r,h,y,hy=>by
  have hz:z=I:=h.2.1 rfl;subst hz;rcases List.mem_cons.1 hy with rfl|hy
  ·rfl
  exact qg2.allI h.tail y hy
theorem qlK {I:List Int}: ∀{r:List (List Int)},(∀y∈r,y=I)->r=List.replicate r.length I
 |[],_=>rfl
 |z::r,h=>by
  rw[Yr,List.replicate_succ,h z List.mem_cons_self,<-qlK (r:=r) fun y hy=>h y (List.mem_cons_of_mem _ hy)]
theorem qg2.split {H I:List Int}: ∀{r:List (List Int)},qg2 H I r-> ∃(M:List (List Int)) (d:Nat),r=M++List.replicate d I/\I∉M
 |[],_=>⟨[],0,rfl,by simp⟩
 |x::r,h=>by
  by_cases c:x=I
  ·subst c;refine⟨[],(x::r).length,?_,by simp⟩;rw[List.nil_append]
   exact qlK fun y hy=>by
    rcases List.mem_cons.1 hy with rfl|hy
    ·rfl
    exact qg2.allI h y hy
  obtain⟨M,d,h1,h2⟩:=qg2.split h.tail
  exact⟨x::M,d,by rw[h1];rfl,fun g=>by
   rcases List.mem_cons.1 g with g|g
   ·exact c g.symm
   exact h2 g⟩
section
variable {n m:Nat} (hn:n<=12) (n2:2<=n)
include hn n2
variable {N:Nat} (hN:2000<N)
include hN
end
end Go.Av
end
section
namespace Go.Av
def far5 (x y:Int):Bool:=Nat.ble (x.natAbs+2) y.natAbs||Nat.ble (y.natAbs+2) x.natAbs
def sg5 (c:Int):Int:=if c<0 then-1 else 1
def trn5 (x y z:Int):Option (List Int):=
 if x.natAbs=z.natAbs/\(x.natAbs=y.natAbs+1\/y.natAbs=x.natAbs+1)then
  if sg5 x=sg5 y then some [sg5 z*(y.natAbs:Int),x,y]else if sg5 y=sg5 z then some [y,z,sg5 x*(y.natAbs:Int)]else none
 else none
def ngs (w:List Int):Nat:=w.countP fun c=>!decide (0<c)
section
variable {n:Nat} (hn:n<=6)
include hn
end
end Go.Av
end
section
namespace Go.Av
section
variable {k:Nat} (hk:k<=12) (k1:1<=k)
include hk k1
end
end Go.Av
end
section
namespace Go.Av
theorem qp9 (u v:List Int):ngs (u++v)=ngs u+ngs v:=List.countP_append ..
section
variable {n:Nat} (hn:n<=6)
include hn
end
inductive Mv (n:Nat):List Int->List Int->Prop
 |ins {u v:List Int} {x:Int} (hx:x≠0/\ -(n:Int)<x/\x<n):Mv n (u++v) (u++[x,-x]++v)
 |can {u v:List Int} {x:Int}:Mv n (u++[x,-x]++v) (u++v)
 |swp {u v:List Int} {x y:Int} (h:far5 x y=true):Mv n (u++[x,y]++v) (u++[y,x]++v)
 |trn {u v l:List Int} {x y z:Int} (h:trn5 x y z=some l):Mv n (u++[x,y,z]++v) (u++l++v)
theorem qnY {n:Nat} {x y z:Int} {l:List Int} (hx:x≠0/\ -(n:Int)<x/\x<n) (hy:y≠0/\ -(n:Int)<y/\y<n) (hz:z≠0/\ -(n:Int)<z/\z<n) (h:trn5 x y z=some l):qcP n l:=by
 have sg: ∀c d:Int,d≠0/\ -(n:Int)<d/\d<n->sg5 c*(d.natAbs:Int)≠0/\ -(n:Int)<sg5 c*(d.natAbs:Int)/\sg5 c*(d.natAbs:Int)<n:=fun c d hd=>by
  unfold sg5;split<;>omega
 unfold trn5 at h;split at h
 ·split at h
  ·have h:=Ye h;subst h;intro c hc;rcases List.mem_cons.1 hc with rfl|hc
   ·exact sg z y hy
   rcases List.mem_cons.1 hc with rfl|hc
   ·exact hx
   rw[List.mem_singleton.1 hc];exact hy
  split at h
  ·have h:=Ye h;subst h;intro c hc;rcases List.mem_cons.1 hc with rfl|hc
   ·exact hy
   rcases List.mem_cons.1 hc with rfl|hc
   ·exact hz
   rw[List.mem_singleton.1 hc];exact sg x y hy
  cases h
 cases h
theorem Mv.let_ {n:Nat} {w v:List Int} (h:Mv n w v) (hw:qcP n w):qcP n v:=by
 cases h with
 |ins hx=>exact(hw.left.app (fun c hc=>by
  rcases List.mem_cons.1 hc with rfl|hc
  ·exact hx
  rw[List.mem_singleton.1 hc];omega)).app hw.right
 |can=>exact hw.left.left.app hw.right
 |swp h=>exact(hw.left.left.app fun c hc=>hw c (by simp at hc⊢;rcases hc with rfl|rfl<;>simp)).app hw.right
 |trn h=>exact(hw.left.left.app (qnY (hw _ (by simp)) (hw _ (by simp)) (hw _ (by simp)) h)).app hw.right
end Go.Av
end
section
namespace Go.Av
section
variable {n:Nat} (hn:n<=12) {N:Nat} (hN:2000<N)
include hn hN
end
def pmF (s:SB) (w:List Int):SB:=w.foldl (fun s c=>s.bk (c.natAbs-1)) s
theorem qqP (s:SB) (u v:List Int):pmF s (u++v)=pmF (pmF s u) v:=List.foldl_append ..
theorem qhB {n:Nat}: ∀{w:List Int} {s:SB},s.Ok n->qcP n w->(pmF s w).Ok n
 |[],s,h,hw=>h
 |c::w,s,h,hw=>qhB (w:=w) (h.bk (by have:=hw c (List.mem_cons_self ..);omega)) (fun d hd=>hw d (List.mem_cons_of_mem _ hd))
section
variable {n:Nat} (hn:n<=12) {N:Nat} (hN:2000<N)
include hn hN
theorem qlt {w:List Int} (W:zb n w): ∀(K i:Nat) (s:SB),s.Ok n->i<=w.length->w.length<K+i->kw w K (s.li n) (s.rev.li n) (i:Int)=some ((pmF s (w.drop i)).li n)
 |0,i,s,hs,h,hK=>by omega
 |K+1,i,s,hs,hiw,hK=>by
  have wl:=W.len;unfold kw qba;by_cases hi:i<w.length
  ·have hx:w[i]? =some w[i]:=Ya hi;have hc:=W.let_ _ (List.getElem_mem hi);rw[YG hi];unfold pmF;rw[List.foldl_cons];generalize w[i]=c at*;obtain⟨m,hm⟩: ∃m:Nat,c.natAbs=m+1:=⟨c.natAbs-1,by omega⟩
   have hm2:m+1<n:=by omega
   have q1:w64 (((m+1:Nat):Int)-1)=(m:Int):=by rw[qz (by omega) (by omega)];omega
   have q2:w64 ((m:Int)+1)=((m+1:Nat):Int):=qV (by omega);have g0:=hs.g_ m (by omega);have g1:=hs.g_ (m+1) hm2;have r0:idx (s.rev.li n) (m:Int)=some ((s.g m:Nat):Int):=Uk (by omega);have r1:idx (s.rev.li n) ((m+1:Nat):Int)=some ((s.g (m+1):Nat):Int):=Uk hm2
   have ne:s.g m≠s.g (m+1):=fun e=>by have:=s.ginj e;omega
   have p0:idx (s.li n) ((s.g m:Nat):Int)=some (m:Int):=by rw[Uk g0,s.fg]
   have lset:((s.li n).set (s.g m) ((m+1:Nat):Int)).length=n:=by simp[Ud]
   have p1:idx ((s.li n).set (s.g m) ((m+1:Nat):Int)) ((s.g (m+1):Nat):Int)=some ((m+1:Nat):Int):=by
    rw[qp,Yw ne,Uj s g1,s.fg]
   have q3:w64 (((m+1:Nat):Int)-1)=(m:Int):=q1;rw[if_pos (by omega),qp,hx];simp only[ZB,qjd (show-1000<c/\c<1000 by omega),hm,q1,q2,r0,r1,p0];rw[yh (by rw[Ud];exact g0)];simp only[ZB,p1,q3];rw[yh (by rw[lset];exact g1)];simp only[ZB];rw[yh (by rw[Ud];omega)];simp only[ZB]
   have e17:idx ((s.rev.li n).set m ((s.g (m+1):Nat):Int)) ((m+1:Nat):Int)=some ((s.g (m+1):Nat):Int):=by
    rw[qp,Yw (by omega),Uj s.rev hm2];rfl
   rw[e17];simp only[ZB];rw[yh (by simp[Ud];omega)];simp only[ZB]
   have e1:((s.li n).set (s.g m) ((m+1:Nat):Int)).set (s.g (m+1)) (m:Int)=(s.bk m).li n:=SB.li_eq (by simp[Ud]) fun k hk=>by
    show _=some ((tr5 m (s.f k):Nat):Int);by_cases a:k=s.g (m+1)
    ·subst a;rw[List.getElem?_set_self (by rw[lset];exact g1),s.fg,qbo]
    rw[Yw (fun e=>a e.symm)];by_cases b:k=s.g m
    ·subst b;rw[List.getElem?_set_self (by rw[Ud];exact g0),s.fg,qbn]
    rw[Yw (fun e=>b e.symm),Uj s hk,j5 (fun e=>b (by rw[<-e,s.gf])) (fun e=>a (by rw[<-e,s.gf]))]
   have e2:((s.rev.li n).set m ((s.g (m+1):Nat):Int)).set (m+1) ((s.g m:Nat):Int)=(s.bk m).rev.li n:=SB.li_eq (by simp[Ud]) fun k hk=>by
    show _=some ((s.g (tr5 m k):Nat):Int);by_cases a:k=m+1
    ·subst a;rw[List.getElem?_set_self (by simp[Ud];omega),qbo]
    rw[Yw (fun e=>a e.symm)];by_cases b:k=m
    ·subst b;rw[List.getElem?_set_self (by rw[Ud];omega),qbn]
    rw[Yw (fun e=>b e.symm),Uj s.rev hk,j5 b a];rfl
   rw[e1,e2,qV (by omega)];rw[show(m+1-1:Nat)=m by omega];exact qlt W K (i+1) _ (hs.bk hm2) (by omega) (by omega)
  rw[if_neg (by omega),List.drop_eq_nil_of_le (by omega)];rfl
theorem qpU {w:List Int} (W:zb n w):qbZ N (n:Int) w=some ((pmF Ue w).li n):=by
 unfold qbZ vU;have wl:=W.len;have:=qlt hn hN W N 0 Ue (Ut n) (Nat.zero_le _) (by omega);rw[YR,show Ue.rev=Ue from rfl,SB.id_li,show((0:Nat):Int)=0 from rfl]at this;rw[qjL hN (by omega),ZB,ZB,this];rfl
end
end Go.Av
end
section
namespace Go.Av
def NoX (u v:SB):Prop:= ∀a b,a<b->u.g b<u.g a->v.f a<v.f b
theorem qoz {j a b:Nat} (h:a<b):tr5 j a<tr5 j b\/(a=j/\b=j+1):=by
 rcases vY j a with⟨e,f⟩|⟨e,f⟩|⟨e,e',f⟩<;>rcases vY j b with⟨g,k⟩|⟨g,k⟩|⟨g,g',k⟩<;>rw[f,k]<;>omega
theorem NoX.psh {u v:SB} {j:Nat} (h:NoX u v) (hb:v.Begs j):NoX (u.bk j) (v.fr j):=fun a b hab hc=>by
 have hc:u.g (tr5 j b)<u.g (tr5 j a):=hc;show v.f (tr5 j a)<v.f (tr5 j b);rcases qoz (j:=j) hab with e|⟨rfl,rfl⟩
 ·exact h _ _ e hc
 rw[qbn,qbo];exact hb
def PosW (w:List Int):Prop:= ∀c∈w,0<c
theorem WdB.pos {n:Nat} {s:SB} {W:List Int} (h:WdB n s W):PosW W/\qcP n W:=by
 induction h with
 |nil h=>exact⟨fun c hc=>(by cases hc),fun c hc=>(by cases hc)⟩
 |@cons s i W hi hb hm h ih=>
  refine⟨fun c hc=>?_,fun c hc=>?_⟩
  ·rcases List.mem_cons.1 hc with rfl|hc
   ·omega
   exact ih.1 c hc
  rcases List.mem_cons.1 hc with rfl|hc
  ·omega
  exact ih.2 c hc
section
variable {n:Nat} (hn:n<=6)
include hn
end
end Go.Av
end
section
namespace Go.Av
theorem qgV: ∀(w:List Int) (s:SB) (k:Nat),(pmF s w).f k=(pmF Ue w).f (s.f k)
 |[],s,k=>rfl
 |c::w,s,k=>by
  unfold pmF;rw[List.foldl_cons,List.foldl_cons];have a:=qgV w (s.bk (c.natAbs-1)) k;have b:=qgV w (Ue.bk (c.natAbs-1)) (s.f k);unfold pmF at a b;rw[a,b];rfl
def exS (w:List Int):Int:=(w.length:Int)-2*(ngs w:Int)
theorem qlJ (u v:List Int):exS (u++v)=exS u+exS v:=by
 unfold exS;rw[qp9,Yq];omega
theorem qj1 {c:Int} (h:c≠0):yo c=some (if 0<c then 1 else-1):=by
 unfold yo;by_cases p:0<c
 ·rw[if_neg (show¬c<1 by omega),if_pos (by decide),if_pos p]
 rw[if_pos (show c<1 by omega),if_neg p];by_cases q:c> -1
 ·omega
 rw[if_neg q]
theorem qkQ {n:Nat} {w:List Int} (W:zb n w): ∀(K i:Nat) (x:Int),i<=w.length->w.length<K+i-> -(i:Int)<=x->x<=i->jf w K x (i:Int)=some (x+exS (w.drop i))
 |0,i,x,h,hK,h1,h2=>by omega
 |K+1,i,x,h,hK,h1,h2=>by
  have wl:=W.len;unfold jf;by_cases hi:i<w.length
  ·have hc:=W.let_ _ (List.getElem_mem hi);rw[if_pos (by omega),qp,Ya hi,YG hi];generalize w[i]=c at*;rw[ZB,qj1 hc.1,ZB,qV (by omega)]
   have e:exS (c::w.drop (i+1))=(if 0<c then 1 else-1)+exS (w.drop (i+1)):=by
    unfold exS ngs;rw[List.countP_cons,Yr];by_cases p:0<c
    ·simp[p];omega
    simp[p];omega
   rw[e];by_cases p:0<c
   ·rw[if_pos p,qz (by omega) (by omega),qkQ W K (i+1) _ (by omega) (by omega) (by omega) (by omega)];congr 1;omega
   rw[if_neg p,qz (by omega) (by omega),qkQ W K (i+1) _ (by omega) (by omega) (by omega) (by omega)];congr 1;omega
  rw[if_neg (by omega),List.drop_eq_nil_of_le (by omega)];show some x=some (x+exS []);congr 1;unfold exS ngs;simp
theorem qly {N:Nat} (hN:2000<N) {n:Nat} {w:List Int} (W:zb n w) (hc:qga (n:Int) w=0):yL N (n:Int) w=some (exS w,0):=by
 have wl:=W.len;unfold yL qaF;have:=qkQ W N 0 0 (Nat.zero_le _) (by omega) (by omega) (by omega);rw[YR,show((0:Nat):Int)=0 from rfl]at this;rw[xY hN (by omega),hc,ZB,decide_eq_true rfl,if_neg (by decide),this];simp
theorem qcu {n:Nat} {w:List Int} (W:zb n w):qga (n:Int) w=0:=by
 have:=W.n1;have:=W.n2;have:=W.len;unfold qga;rw[if_neg (by omega),if_neg (by omega),if_pos (Yp.2 fun c hc=>qmE.2 (W.let_ c hc))]
theorem qp1 {N:Nat} (hN:2000<N) {n:Nat} {a b:List Int} (A:zb n a) (B:zb n b):y7 N (n:Int) a b=some 0:=by
 have:=A.len;have:=B.len;unfold y7;rw[xY hN (by omega),xY hN (by omega),qcu A,qcu B,ZB,ZB,qh1 (by simp) (by simp;omega),ZB,qrP,qri]
theorem qng {N:Nat} (hN:2000<N) {n:Nat} {a b:List Int} (A:zb n a) (B:zb n b) (hl:a.length+b.length<=200):qaA N (n:Int) a b=some (a++b,0):=by
 have:=A.len;have:=B.len;unfold qaA;rw[qp1 hN A B,ZB,decide_eq_true rfl,if_neg (by decide),qnc hN (by omega) (by omega),ZB,qgT,if_neg (by rw[Yq];omega)];rfl
theorem zb.app {n:Nat} {a b:List Int} (A:zb n a) (B:zb n b) (hl:a.length+b.length<=200):zb n (a++b):=by
 refine⟨A.n1,A.n2,by rw[Yq];exact hl,?_⟩;have h:qcP n (a++b):=qcP.app A.let_ B.let_;exact h
end Go.Av
end
noncomputable section
namespace Go.Av
open Go.Proofs Go.RowKit
variable [Glob]
theorem qiz {α:Type} (l:List α) (a:Nat) (x:α):qO l (a:Int) x=l.set a x:=by
 unfold qO;rw[Int.toNat_natCast]
def coV (p:Bool) (t:Rat):(Rat×Rat)×(Rat×Rat):=if p=true then((1-t,t),(1,0))else((0,1),(t⁻¹,1-t⁻¹))
theorem qoj (p:Bool) (t:Rat) (k:Nat) (v:Nat->Rat):qcj p t k v=qdu (qdu v k (v k*(coV p t).1.1+v (k+1)*(coV p t).2.1)) (k+1) (v k*(coV p t).1.2+v (k+1)*(coV p t).2.2):=by
 cases p<;>rfl
theorem rep1 {N n:Nat} (hN:10<N) (h1:1<=n) (h2:n<=5) (f:qm):vV N f.Num.s f.Num.w f.Den.s f.Den.w (n:Int)=some (List.replicate n f):=by
 obtain⟨M,rfl⟩: ∃M,N=M+10:=⟨N-10,by omega⟩
 have:n=1\/n=2\/n=3\/n=4\/n=5:=by omega
 rcases this with rfl|rfl|rfl|rfl|rfl
 all_goals (show @Eq (Option _) _ _;kernel_rfl)
theorem F_s (z:Int):qg5 z=some (Fq (z:Rat)):=rfl
theorem row0 {n i:Nat} {α:Type} {R:α->Rat->Prop} {z o:α} (hz:R z 0) (ho:R o 1):qaT R n ((List.replicate n z).set i o) (idM i):=by
 have h:qaT R n (List.replicate n z) (fun _=>0):=by
  refine⟨List.length_replicate,fun j f hj=>?_⟩;have:=Yn hj;rw[List.eq_of_mem_replicate this];exact hz
 exact h.set ho i
theorem qot {N n:Nat} (hN:10<N) (h1:1<=n) (h2:n<=5) {w:List Int} {l1:List (List qm)} (hl:l1.length=n): ∀(K i:Nat) (l2:List (List qm)),l2.length=n->(∀i' r,i'<i->l2[i']? =some r->qaT IsF n r (idM i'))->i<=n->n<K+i-> ∃l,vQ N (n:Int) w l1 K l2 (i:Int)=some l/\MR IsF n l idM
 |0,i,l2,e,hr,hi,hK=>by omega
 |K+1,i,l2,e,hr,hi,hK=>by
  unfold vQ;by_cases c:i<n
  ·rw[if_pos (by omega),F_s,ZB,rep1 hN h1 h2,ZB,qp,Ya (by omega),ZB,if_pos (by rw[List.length_replicate];omega),ZB,qiz,qp,List.getElem?_set_self (by omega),ZB,F_s,ZB,qp,Ya (by rw[List.length_replicate];omega),ZB,yh (by rw[List.length_replicate];omega),ZB,qiz,List.set_set,qV (by omega)];refine qot hN h1 h2 hl K (i+1) _ (by rw[Yk];exact e) (fun i' r hi' hr'=>?_) (by omega) (by omega);by_cases d:i'=i
   ·subst d;rw[List.getElem?_set_self (by omega)]at hr';cases hr'
    exact row0 rfl rfl
   rw[Yw (fun q=>d q.symm)]at hr';exact hr i' r (by omega) hr'
  rw[if_neg (by omega)];refine⟨_,rfl,e,fun i' r hr'=>hr i' r ?_ hr'⟩;have:=(Yb.1 hr').1;omega
structure Tk (t:Int):Prop where
 t1:1<=t
 t9:t<1000
theorem qkJ:Q9 1:=⟨by decide,by decide⟩
section
variable {t:Int} (S:Tk t)
include S
theorem Tk.qt:Q9 (t:Rat):=by
 have h1:=S.t1;have h2:=S.t9;refine⟨?_,?_⟩
 ·show t.natAbs<_;omega
 show 1<_;decide
theorem Tk.ci:Cz t (t:Rat)⁻¹:=⟨t,1,.inr rfl,Rat.inv_mul_cancel _ (qeh S.t1),by have:=S.t1;simp;omega⟩
theorem Tk.qi:Q9 (t:Rat)⁻¹:=by
 have h1:=S.t1;have h2:=S.t9;have:Bz t 1 (t:Rat)⁻¹:=⟨1,Rat.inv_mul_cancel _ (qeh S.t1),by decide⟩;exact this.q9 (by omega) (by omega) (by decide)
theorem Tk.c0:Cz t 0:=⟨1,0,.inl rfl,by rw[Rat.zero_mul];rfl,by simp⟩
theorem Tk.c1:Cz t 1:=⟨1,1,.inl rfl,by rw[Rat.one_mul],by have:=S.t1;simp;omega⟩
theorem Tk.ct:Cz t (t:Rat):=⟨1,t,.inl rfl,by rw[show((1:Int):Rat)=1 from rfl,Rat.mul_one],by have:=S.t1;omega⟩
theorem Tk.cu:Cz t (1-(t:Rat)):=⟨1,1-t,.inl rfl,by rw[show((1:Int):Rat)=1 from rfl,Rat.mul_one,Rat.intCast_sub];rfl,by have:=S.t1;omega⟩
theorem Tk.cj:Cz t (1-(t:Rat)⁻¹):=⟨t,t-1,.inr rfl,by
 have:=Rat.inv_mul_cancel _ (qeh S.t1);rw[Rat.intCast_sub,show((1:Int):Rat)=1 from rfl]
 grind,by have:=S.t1;omega⟩
theorem Tk.qu:Q9 (1-(t:Rat)):=by
 have h1:=S.t1;have h2:=S.t9;have:Bz 1 t (1-(t:Rat)):=⟨1-t,by rw[show((1:Int):Rat)=1 from rfl,Rat.mul_one,Rat.intCast_sub];rfl,by omega⟩;exact this.q9 (by omega) (by omega) (by omega)
theorem Tk.qj:Q9 (1-(t:Rat)⁻¹):=by
 have h1:=S.t1;have h2:=S.t9
 have:Bz t t (1-(t:Rat)⁻¹):=⟨t-1,by
  have:=Rat.inv_mul_cancel _ (qeh S.t1);rw[Rat.intCast_sub,show((1:Int):Rat)=1 from rfl]
  grind,by omega⟩
 exact this.q9 (by omega) (by omega) (by omega)
theorem ql0 (p:Bool) {P:Rat->Prop} (h0:P 0) (h1:P 1) (ht:P t) (hu:P (1-(t:Rat))) (hi:P (t:Rat)⁻¹) (hj:P (1-(t:Rat)⁻¹)):P (coV p t).1.1/\P (coV p t).1.2/\P (coV p t).2.1/\P (coV p t).2.2:=by
 cases p
 ·exact⟨h0,h1,hi,hj⟩
 exact⟨hu,ht,h1,h0⟩
theorem qqs {N:Nat} (hN:200<N) (c:Int):qbm N c (Fq t)=some ((Fq (coV (decide (c>0)) t).1.1,Fq (coV (decide (c>0)) t).1.2),(Fq (coV (decide (c>0)) t).2.1,Fq (coV (decide (c>0)) t).2.2)):=by
 unfold qbm;rw[F_s,ZB,F_s,ZB];by_cases h:c>0
 ·rw[if_pos h,show((1:Int):Rat)=1 from rfl,qoD hN qkJ S.qt,ZB,decide_eq_true h];rfl
 rw[if_neg h,qrW hN S.qt (qeh S.t1),ZB,ZB,show((1:Int):Rat)=1 from rfl,qoD hN qkJ S.qi,ZB,decide_eq_false h];rfl
theorem qnN {N n:Nat} (hN:200<N) (h2:n<=5) {M:Nat->Nat->Rat} {c:Int} (hc:1<=c.natAbs) (hc2:c.natAbs<n) (hM: ∀i,i<n-> ∀j,Q9 (M i j)) (hMc: ∀i,i<n-> ∀j e,Cz t e->Q9 (M i j*e)) {l17:List (List qm)} (hl:l17.length=n):
 ∀(K i:Nat) (l25:List (List qm)),MR IsF n l25 (fun i'=>if i'<i then qhx t c M i' else M i')->i<=n->n<K+i-> ∃l,vL N l17 (c.natAbs:Int) ((Fq (coV (decide (c>0)) t).1.1,Fq (coV (decide (c>0)) t).1.2),(Fq (coV (decide (c>0)) t).2.1,Fq (coV (decide (c>0)) t).2.2)) K l25 (i:Int)=some l/\MR IsF n l (qhx t c M)
 |0,i,l25,h,hi,hK=>by omega
 |K+1,i,l25,h,hi,hK=>by
  unfold vL;obtain⟨fa,fb,fc,fd⟩:=ql0 S (decide (c>0)) (P:=Cz t) S.c0 S.c1 S.ct S.cu S.ci S.cj;obtain⟨ga,gb,gc,gd⟩:=ql0 S (decide (c>0)) (P:=Q9) ⟨by decide,by decide⟩ qkJ S.qt S.qu S.qi S.qj;by_cases d:i<n
  ·obtain⟨r,e1,hr⟩:=h.get d;rw[if_neg (Nat.lt_irrefl _)]at hr;obtain⟨k,hk⟩: ∃k,c.natAbs=k+1:=⟨c.natAbs-1,by omega⟩
   have ek:w64 (((k+1:Nat):Int)-1)=(k:Int):=by rw[qnj (by omega) (by omega)];rfl
   obtain⟨x,x1,x2⟩:=hr.get (k:=k) (by omega);obtain⟨y,y1,y2⟩:=hr.get (k:=k+1) (by omega);have x2:x=Fq (M i k):=x2;have y2:y=Fq (M i (k+1)):=y2;subst x2 y2;have hlen:r.length=n:=hr.1;dsimp only;rw[hk,if_pos (by omega),qp,e1,ZB,ek,qp,x1,ZB,qV (by omega),qp,y1,ZB,qi0 hN (hM i d _) ga,ZB,qi0 hN (hM i d _) gc,ZB,qkG hN (hMc i d _ _ fa) (hMc i d _ _ fc),ZB,yh (by omega),ZB,qi0 hN (hM i d _) gb,ZB,qi0 hN (hM i d _) gd,ZB,qkG hN (hMc i d _ _ fb) (hMc i d _ _ fd),ZB,qp,Ya (by rw[Yk];omega),ZB,yh (by rw[Yk];omega),ZB,qiz,qV (by omega),show((k+1:Nat):Int)=(c.natAbs:Int)by rw[hk]];refine qnN hN h2 hc hc2 hM hMc hl K (i+1) _ ((h.set ((hr.set (R:=IsF) rfl k).set (R:=IsF) rfl (k+1)) i).congr fun i' hi'=>?_) (by omega) (by omega);unfold qdu;by_cases g:i'=i
   ·subst g;rw[if_pos rfl,if_pos (by omega)];show _=qcj (decide (c>0)) t (c.natAbs-1) (M i');rw[qoj,hk,Nat.add_sub_cancel];rfl
   rw[if_neg g];show(if i'<i then qhx t c M i' else M i')=_;by_cases g2:i'<i
   ·rw[if_pos g2,if_pos (by omega)]
   rw[if_neg g2,if_neg (by omega)]
  rw[if_neg (by omega)];exact⟨_,rfl,h.congr fun i' hi'=>by rw[if_pos (by omega)]⟩
omit S in
theorem qqp {c:Int} (h1: -100<c) (h2:c<100):xc c=some (c.natAbs:Int):=by
 unfold xc;rw[qz (by omega) (by omega)];split<;>congr 1<;>omega
theorem qpi {N n:Nat} (hN:600000<N) (h2:n<=5) {w:List Int} (hw: ∀c∈w,c≠0/\ -(n:Int)<c/\c<n) (hl:t^(w.length+2)<1000000000) (hl2:w.length<=1000):
 ∀(K i:Nat) (M:Nat->Nat->Rat) (l17:List (List qm)),MR IsF n l17 M->(∀a,a<n->Rw t (M a) i)->i<=w.length->w.length<K+i-> ∃l,vI N w (Fq t) K l17 (i:Int)=some l/\MR IsF n l ((w.drop i).foldl (fun M c=>qhx t c M) M)
 |0,i,M,l17,h,hb,hi,hK=>by omega
 |K+1,i,M,l17,h,hb,hi,hK=>by
  have t1:=S.t1;unfold vI;by_cases d:i<w.length
  ·have hm:=hw _ (List.getElem_mem d);have p2:=ym t1 (show i+2<=w.length+2 by omega);have p3:=ym t1 (show i+3<=w.length+2 by omega);obtain⟨l,l1,l2⟩:=qnN S (N:=N) (by omega) h2 (c:=w[i]) (by omega) (by omega) (fun a ha b=>(hb a ha).q9 t1 (by omega) b) (fun a ha b e he=>(hb a ha).q9c t1 (by omega) b he) h.1 N 0 l17 (h.congr fun i' _=>by rw[if_neg (Nat.not_lt_zero _)]) (by omega) (by omega);rw[show((0:Nat):Int)=0 from rfl]at l1;rw[if_pos (by omega),qp,Ya d,ZB,qqp (by omega) (by omega),ZB,qqs S (by omega),ZB,l1,ZB,qV (by omega),YG d,List.foldl_cons];exact qpi hN h2 hw hl hl2 K (i+1) _ l l2 (fun a ha=>(hb a ha).step t1 _ (by omega)) (by omega) (by omega)
  rw[if_neg (by omega),List.drop_eq_nil_of_le (by omega)];exact⟨_,rfl,h⟩
theorem qoA {N n:Nat} (hN:600000<N) (h1:1<=n) (h2:n<=5) {w:List Int} (hw: ∀c∈w,c≠0/\ -(n:Int)<c/\c<n) (hl:t^(w.length+2)<1000000000) (hl2:w.length<=1000): ∃l,qbr N (n:Int) w (Fq t)=some l/\MR IsF n l (vD t w):=by
 unfold qbr
 have hm:mk 24 (n:Int) ([]:List qm)=some (List.replicate n []):=by
  have:n=1\/n=2\/n=3\/n=4\/n=5:=by omega
  rcases this with rfl|rfl|rfl|rfl|rfl
  all_goals (show @Eq (Option _) _ _;kernel_rfl)
 obtain⟨l,l1,l2⟩:=qot (N:=N) (n:=n) (w:=w) (l1:=List.replicate n []) (by omega) h1 h2 List.length_replicate N 0 (List.replicate n []) List.length_replicate (fun i' r hi'=>by omega) (by omega) (by omega);obtain⟨m,m1,m2⟩:=qpi S hN h2 hw hl hl2 N 0 idM l l2 (fun a ha=>qoV S.t1 a (by omega)) (by omega) (by omega);rw[hm,ZB,show(0:Int)=((0:Nat):Int)from rfl,l1,ZB,m1,ZB];exact⟨_,rfl,m2⟩
theorem qoH {n:Nat} (h2:n<=5) {w:List Int} (hw: ∀c∈w,c≠0/\ -(n:Int)<c/\c<n) {i:Nat} (hi:i<n):Rw t (vD t w i) w.length:=by
 have:=qiG S.t1 h2 w hw _ 0 (qoV S.t1 i (by omega));rw[Nat.zero_add]at this;unfold vD;rw[qd6];exact this
theorem qgU {n:Nat} (h2:n<=5) {w:List Int} (hw: ∀c∈w,c≠0/\ -(n:Int)<c/\c<n) (hl:t^(w.length+2)<1000000000) {i:Nat} (hi:i<n) (j:Nat):Q9 (vD t w i j):=(qoH S h2 hw hi).q9 S.t1 hl j
end
end Go.Av
end
noncomputable section
namespace Go.Av
open Go.Proofs Go.RowKit
variable [Glob]
abbrev IsT:Str->Rat->Prop:=fun s q=>s=T q
theorem qnp {N n:Nat} (hN:600000<N) (h2:n<=5) {r:List qm} {v:Nat->Rat} (h:qaT IsF n r v) (hv: ∀j,Q9 (v j)): ∀(K i:Nat),i<=n->n<K+i->qL r K (i:Int)=some (.inl ())
 |0,i,hi,hK=>by omega
 |K+1,i,hi,hK=>by
  unfold qL;have hl:=h.1;by_cases c:i<n
  ·obtain⟨x,x1,x2⟩:=h.get c;rw[if_pos (by omega),qp,x1,ZB,x2,qpT (hv i),ZB,if_neg Bool.false_ne_true,qV (by omega)];exact qnp hN h2 h hv K (i+1) (by omega) (by omega)
  rw[if_neg (by omega)]
theorem qmz {N n:Nat} (hN:600000<N) (h2:n<=5) {r:List qm} {v:Nat->Rat} (h:qaT IsF n r v) (hv: ∀j,Q9 (v j)):xJ N r=some false:=by
 unfold xJ ja jP;have:=qnp hN h2 h hv N 0 (by omega) (by omega);rw[show(0:Int)=((0:Nat):Int)from rfl,this];rfl
theorem qoX {N n:Nat} (hN:600000<N) (h2:n<=5) {l:List (List qm)} {M:Nat->Nat->Rat} (h:MR IsF n l M) (hM: ∀i,i<n-> ∀j,Q9 (M i j)): ∀(K i:Nat),i<=n->n<K+i->qN N l K (i:Int)=some (.inl ())
 |0,i,hi,hK=>by omega
 |K+1,i,hi,hK=>by
  unfold qN;have hl:=h.1;by_cases c:i<n
  ·obtain⟨x,x1,x2⟩:=h.get c;rw[if_pos (by omega),qp,x1,ZB,qmz hN h2 x2 (hM i c),ZB,if_neg Bool.false_ne_true,qV (by omega)];exact qoX hN h2 h hM K (i+1) (by omega) (by omega)
  rw[if_neg (by omega)]
theorem qmZ {N n:Nat} (hN:600000<N) (h2:n<=5) {l:List (List qm)} {M:Nat->Nat->Rat} (h:MR IsF n l M) (hM: ∀i,i<n-> ∀j,Q9 (M i j)):zu N l=some false:=by
 unfold zu jR;have:=qoX hN h2 h hM N 0 (by omega) (by omega);rw[show(0:Int)=((0:Nat):Int)from rfl,this];rfl
theorem qlN {N n:Nat} (hN:600000<N) (h2:n<=5) {r:List qm} {v:Nat->Rat} (h:qaT IsF n r v) (hv: ∀j,Q9 (v j)): ∀(K i:Nat) (l:List Str),l.length=n->(∀j s,j<i->l[j]? =some s->s=T (v j))->i<=n->n<K+i-> ∃l',yQ r K l (i:Int)=some l'/\qaT IsT n l' v
 |0,i,l,e,hs,hi,hK=>by omega
 |K+1,i,l,e,hs,hi,hK=>by
  unfold yQ;have hl:=h.1;by_cases c:i<n
  ·obtain⟨x,x1,x2⟩:=h.get c;rw[if_pos (by omega),qp,x1,ZB,x2,qr2 (hv i),ZB,qp,Ya (by omega),ZB,yh (by omega),ZB,qV (by omega)];refine qlN hN h2 h hv K (i+1) _ (by rw[Yk];exact e) (fun j s hj hs'=>?_) (by omega) (by omega);by_cases g:j=i
   ·subst g;rw[List.getElem?_set_self (by omega)]at hs';cases hs';rfl
   rw[Yw (fun q=>g q.symm)]at hs';exact hs j s (by omega) hs'
  rw[if_neg (by omega)];refine⟨_,rfl,e,fun j s hs'=>hs j s ?_ hs'⟩;have:=(Yb.1 hs').1;omega
theorem qpF {N n:Nat} (hN:600000<N) (h1:1<=n) (h2:n<=5) {r:List qm} {v:Nat->Rat} (h:qaT IsF n r v) (hv: ∀j,Q9 (v j)): ∃l,qcS N r=some l/\qaT IsT n l v:=by
 unfold qcS
 have hm:mk 16 (n:Int) ([]:Str)=some (List.replicate n []):=by
  have:n=1\/n=2\/n=3\/n=4\/n=5:=by omega
  rcases this with rfl|rfl|rfl|rfl|rfl
  all_goals (show @Eq (Option _) _ _;kernel_rfl)
 obtain⟨l,l1,l2⟩:=qlN hN h2 h hv N 0 (List.replicate n []) List.length_replicate (fun j s hj=>by omega) (by omega) (by omega);rw[h.1,hm,ZB,show(0:Int)=((0:Nat):Int)from rfl,l1,ZB];exact⟨_,rfl,l2⟩
theorem qo4 {N n:Nat} (hN:600000<N) (h1:1<=n) (h2:n<=5) {a:List (List qm)} {M:Nat->Nat->Rat} (h:MR IsF n a M) (hM: ∀i,i<n-> ∀j,Q9 (M i j)): ∀(K i:Nat) (l:List (List Str)),l.length=i->(∀j s,l[j]? =some s->qaT IsT n s (M j))->i<=n->n<K+i-> ∃l',zg N a K l (i:Int)=some l'/\MR IsT n l' M
 |0,i,l,e,hs,hi,hK=>by omega
 |K+1,i,l,e,hs,hi,hK=>by
  unfold zg;have hl:=h.1;by_cases c:i<n
  ·obtain⟨x,x1,x2⟩:=h.get c;obtain⟨y,y1,y2⟩:=qpF hN h1 h2 x2 (hM i c);rw[if_pos (by omega),qp,x1,ZB,y1,ZB,qct (by simp;omega) (by simp;omega),ZB,qV (by omega)];refine qo4 hN h1 h2 h hM K (i+1) _ (by simp;omega) (fun j s hs'=>?_) (by omega) (by omega);by_cases d:j<l.length
   ·rw[Yf d]at hs';exact hs j s hs'
   have hl:=(Yb.1 hs').1;simp only[Yq,Yr,List.length_nil]at hl
   have:j=i:=by omega
   subst this;rw[Yo (by omega),e,Nat.sub_self]at hs';cases hs'
   exact y2
  rw[if_neg (by omega)]
  have:i=n:=by omega
  subst this;exact⟨_,rfl,e,hs⟩
theorem qqC {N n:Nat} (hN:600000<N) (h1:1<=n) (h2:n<=5) {a:List (List qm)} {M:Nat->Nat->Rat} (h:MR IsF n a M) (hM: ∀i,i<n-> ∀j,Q9 (M i j)): ∃l,vw N a=some l/\MR IsT n l M:=by
 unfold vw;obtain⟨l,l1,l2⟩:=qo4 hN h1 h2 h hM N 0 [] rfl (fun j s hs=>by simp at hs) (by omega) (by omega);rw[show(0:Int)=((0:Nat):Int)from rfl,l1,ZB];exact⟨_,rfl,l2⟩
theorem qnE {r:List Str} (hl:r.length<=5): ∀(K i:Nat),i<=r.length->r.length<K+i->jK r r K (i:Int)=some (.inl ())
 |0,i,hi,hK=>by omega
 |K+1,i,hi,hK=>by
  unfold jK;by_cases c:i<r.length
  ·rw[if_pos (by omega),qp,Ya c,ZB,ZB,if_neg (by simp),qV (by omega)];exact qnE hl K (i+1) (by omega) (by omega)
  rw[if_neg (by omega)]
theorem qp0 {N:Nat} (hN:10<N) {r:List Str} (hl:r.length<=5):qai N r r=some true:=by
 unfold qai;have:=qnE hl N 0 (by omega) (by omega);rw[decide_eq_true rfl,if_neg (by decide),show(0:Int)=((0:Nat):Int)from rfl,this];rfl
theorem qo5 {N:Nat} (hN:10<N) {l:List (List Str)} (hl:l.length<=5) (hr: ∀r∈l,r.length<=5): ∀(K i:Nat),i<=l.length->l.length<K+i->zB N l l K (i:Int)=some (.inl ())
 |0,i,hi,hK=>by omega
 |K+1,i,hi,hK=>by
  unfold zB;by_cases c:i<l.length
  ·rw[if_pos (by omega),qp,Ya c,ZB,ZB,qp0 hN (hr _ (List.getElem_mem c)),ZB,if_neg (by decide),qV (by omega)];exact qo5 hN hl hr K (i+1) (by omega) (by omega)
  rw[if_neg (by omega)]
theorem qqF {N n:Nat} (hN:10<N) (h2:n<=5) {l l':List (List Str)} {M:Nat->Nat->Rat} (h:MR IsT n l M) (h':MR IsT n l' M):yG N l l'=some true:=by
 obtain rfl:=h.ext h';have hl:=h.1
 have hr: ∀r∈l,r.length<=5:=fun r hr=>by
  obtain⟨i,hi⟩:=List.getElem?_of_mem hr;have:=(h.2 i r hi).1;omega
 unfold yG;have:=qo5 hN (by omega) hr N 0 (by omega) (by omega);rw[decide_eq_true rfl,if_neg (by decide),show(0:Int)=((0:Nat):Int)from rfl,this];rfl
theorem qmw {n:Nat} (h2:n<=5): ∀(K i:Nat),i<=n->n<K+i->jg (n:Int) K (List.replicate i [48]) (i:Int)=some (List.replicate n [48])
 |0,i,hi,hK=>by omega
 |K+1,i,hi,hK=>by
  unfold jg;by_cases c:i<n
  ·rw[if_pos (by omega),qct (by simp;omega) (by simp;omega),ZB,qV (by omega),<-List.replicate_succ'];exact qmw h2 K (i+1) (by omega) (by omega)
  rw[if_neg (by omega),show i=n by omega]
theorem qpO {N n:Nat} (hN:10<N) (h2:n<=5):xu N (n:Int)=some (List.replicate n [48]):=by
 unfold xu;have:=qmw h2 N 0 (by omega) (by omega);rw[List.replicate_zero]at this;rw[show(0:Int)=((0:Nat):Int)from rfl,this,ZB]
theorem qnO:([48]:Str)=T 0:=(qr7.2 rfl).symm
theorem qrF {N:Nat} (hN:10<N) (a b c:Int):vE N [a,b,c]=some (if a=0 then(if b=0 then c else b)else a):=by
 rw[qh1 (by simp) (by simp;omega)];unfold qiw;by_cases ha:a=0<;>by_cases hb:b=0<;>by_cases hc:c=0<;>simp[List.find?,ha,hb,hc]
theorem qpo (N:Nat) (hN:100<N):qbK N [51]=some 0/\qeV N [51]=some (Fq ((3:Int):Rat)):=by
 obtain⟨M,rfl⟩: ∃M,N=M+100:=⟨N-100,by omega⟩;constructor
 ·show @Eq (Option _) _ _;kernel_rfl
 show @Eq (Option _) _ _;kernel_rfl
theorem Tk3:Tk 3:=⟨by decide,by decide⟩
theorem qiE {N n:Nat} (hN:600000<N) {w:List Int} (W:zb n w) (h2:n<=5) (hl:w.length<=16): ∃s,xB N (n:Int) w [51]=some (s,0)/\MR IsT n s (vD ((3:Int):Rat) w):=by
 have h1:=W.n1;have hp:=ym (show(1:Int)<=3 by decide) (show w.length+2<=18 by omega)
 have hp2:(3:Int)^18<1000000000:=by decide
 obtain⟨l,l1,l2⟩:=qoA Tk3 hN h1 h2 W.let_ (by omega) (by omega)
 have hb: ∀i,i<n-> ∀j,Q9 (vD ((3:Int):Rat) w i j):=fun i hi j=>qgU Tk3 h2 W.let_ (by omega) hi j
 obtain⟨s,s1,s2⟩:=qqC hN h1 h2 l2 hb;have pC:=xY (N:=N) (by omega) (n:=(n:Int)) (w:=w) (by omega);rw[qcu W]at pC;unfold xB;rw[pC,ZB,(qpo N (by omega)).1,ZB,qeW,ZB,qrF (by omega),ZB,if_neg (by decide),(qpo N (by omega)).2,ZB,l1,ZB,qmZ hN h2 l2 hb,ZB,if_neg Bool.false_ne_true,s1,ZB];exact⟨s,rfl,s2⟩
theorem qor {N n:Nat} (hN:600000<N) (h2:n<=5) {r:List Str} {v:Nat->Rat} (h:qaT IsT n r v) (hv: ∀j,Q9 (v j)): ∀(K i:Nat),i<=n->n<K+i->je N r K (i:Int)=some (.inl ())
 |0,i,hi,hK=>by omega
 |K+1,i,hi,hK=>by
  unfold je;have hl:=h.1;by_cases c:i<n
  ·obtain⟨x,x1,x2⟩:=h.get c;rw[if_pos (by omega),qp,x1,ZB,x2,qpH hN (hv i),ZB,if_neg (by decide),qV (by omega)];exact qor hN h2 h hv K (i+1) (by omega) (by omega)
  rw[if_neg (by omega)]
theorem qqz {N n:Nat} (hN:600000<N) (h2:n<=5) {r:List Str} {v:Nat->Rat} (h:qaT IsT n r v) (hv: ∀j,Q9 (v j)):xK N r=some 0:=by
 unfold xK;have:=qor hN h2 h hv N 0 (by omega) (by omega);rw[show(0:Int)=((0:Nat):Int)from rfl,this];rfl
theorem qjq {N n:Nat} (hN:600000<N) (h2:n<=5) {l:List (List Str)} {M:Nat->Nat->Rat} (h:MR IsT n l M) (hM: ∀i,i<n-> ∀j,Q9 (M i j)): ∀(K i:Nat),i<=n->n<K+i->j6 N l (n:Int) K (i:Int)=some (.inl ())
 |0,i,hi,hK=>by omega
 |K+1,i,hi,hK=>by
  unfold j6;have hl:=h.1;by_cases c:i<n
  ·obtain⟨x,x1,x2⟩:=h.get c;rw[if_pos (by omega),qp,x1,ZB,if_neg (by rw[x2.1];simp),qqz hN h2 x2 (hM i c),ZB,ZB,if_neg (by decide),qV (by omega)];exact qjq hN h2 h hM K (i+1) (by omega) (by omega)
  rw[if_neg (by omega)]
theorem qif {N n:Nat} (hN:600000<N) (h2:n<=5) {l:List (List Str)} {M:Nat->Nat->Rat} (h:MR IsT n l M) (hM: ∀i,i<n-> ∀j,Q9 (M i j)):xP N l (n:Int)=some true:=by
 unfold xP;have:=qjq hN h2 h hM N 0 (by omega) (by omega);rw[show(0:Int)=((0:Nat):Int)from rfl,this,h.1];simp
def qhY (v:Nat->Rat) (J:Nat):Nat->Rat:=fun j=>if j<J then v j else 0
def oneV (v:Nat->Rat) (J:Nat):Nat->Rat:=fun j=>if j=J then v j else 0
theorem qjU (n J:Nat) (f:Nat->Rat) (h: ∀j,j≠J->f j=0):qa8 n f=if J<n then f J else 0:=by
 induction n with
 |zero=>rfl
 |succ n ih=>
  unfold qa8;rw[ih];by_cases a:J<n
  ·rw[if_pos a,if_pos (by omega),h n (by omega),Rat.add_zero]
  by_cases b:J=n
  ·subst b;rw[if_neg a,if_pos (by omega),Rat.zero_add]
  rw[if_neg a,if_neg (by omega),h n (fun c=>b c.symm),Rat.add_zero]
theorem qm2 (n:Nat) (v f:Nat->Rat): ∀J,J<=n->qa8 n (fun j=>qhY v J j*f j)=qa8 J (fun j=>v j*f j):=by
 induction n with
 |zero=>intro J hJ;rw[show J=0 by omega];rfl
 |succ n ih=>
  intro J hJ;by_cases c:J<=n
  ·unfold qa8;rw[ih J c];show qa8 J (fun j=>v j*f j)+qhY v J n*f n=_;unfold qhY;rw[if_neg (by omega),Rat.zero_mul,Rat.add_zero];cases J<;>rfl
  have:J=n+1:=by omega
  subst this
  exact qde (n+1) fun j hj=>by unfold qhY;rw[if_pos hj]
section
variable {n:Nat} (h2:n<=5) {a b:List Int} (ha: ∀c∈a,c≠0/\ -(n:Int)<c/\c<n) (hb: ∀c∈b,c≠0/\ -(n:Int)<c/\c<n) (hl:a.length+b.length<=16)
include h2 ha hb hl
theorem qmu {v:Nat->Rat} {k:Nat} (hk:k<n):qff ((3:Int):Rat) b v k=qa8 n fun j=>v j*vD ((3:Int):Rat) b j k:=by
 have h0: ∀k<n,v k=qfJ n v idM k:=fun k hk=>by
  unfold qfJ;rw[qgL,if_pos hk]
 rw[qeU _ b hb _ _ h0 k hk,qfD];unfold qfJ
 refine qde n fun j _=>?_
 rw[show vD ((3:Int):Rat) b j=qff ((3:Int):Rat) b (idM j)from qd6 _ b idM j]
theorem qjA {i:Nat} (hi:i<n) {v:Nat->Rat} (hv: ∀j,v j=vD ((3:Int):Rat) a i j\/v j=0) (k:Nat):Q9 (qff ((3:Int):Rat) b v k):=by
 have r:=((qoH Tk3 h2 ha hi).part Tk3.t1 hv);have s:=qiG Tk3.t1 h2 b hb _ _ r;have hp:=ym (show(1:Int)<=3 by decide) (show a.length+b.length+2<=18 by omega)
 have hp2:(3:Int)^18<1000000000:=by decide
 exact s.q9 Tk3.t1 (by omega) k
theorem qp5 {i J k:Nat} (hi:i<n) (hJ:J<=n) (hk:k<n):Q9 (qa8 J fun j=>vD ((3:Int):Rat) a i j*vD ((3:Int):Rat) b j k):=by
 have:=qjA h2 ha hb hl hi (v:=qhY (vD ((3:Int):Rat) a i) J) (fun j=>by unfold qhY;split<;>simp) k
 rwa [qmu h2 ha hb hl hk,qm2 n _ _ J hJ]at this
theorem qru {i J k:Nat} (hi:i<n) (hJ:J<n) (hk:k<n):Q9 (vD ((3:Int):Rat) a i J*vD ((3:Int):Rat) b J k):=by
 have:=qjA h2 ha hb hl hi (v:=oneV (vD ((3:Int):Rat) a i) J) (fun j=>by unfold oneV;split<;>simp) k;rw[qmu h2 ha hb hl hk,qjU n J _ (fun j hj=>by unfold oneV;rw[if_neg hj,Rat.zero_mul]),if_pos hJ]at this;unfold oneV at this
 rwa [if_pos rfl]at this
variable {N:Nat} (hN:600000<N) {u v:List (List Str)} (hu:MR IsT n u (vD ((3:Int):Rat) a)) (hv:MR IsT n v (vD ((3:Int):Rat) b))
include hN hu hv
theorem qlH {i J:Nat} (hi:i<n) (hJ:J<n) {x:List Str} (hx:v[J]? =some x): ∀(K k:Nat) (l:List Str),
 qaT IsT n l (fun m=>if m<k then qa8 (J+1) (fun j=>vD ((3:Int):Rat) a i j*vD ((3:Int):Rat) b j m)else qa8 J (fun j=>vD ((3:Int):Rat) a i j*vD ((3:Int):Rat) b j m))->k<=n->n<K+k->
 ∃l',jJ N u v x (J:Int) (i:Int) K l (k:Int)=some l'/\qaT IsT n l' (fun m=>qa8 (J+1) (fun j=>vD ((3:Int):Rat) a i j*vD ((3:Int):Rat) b j m))
 |0,k,l,h,hk,hK=>by omega
 |K+1,k,l,h,hk,hK=>by
  unfold jJ;obtain⟨y,y1,y2⟩:=hv.get hJ;rw[hx]at y1;cases y1
  have hxl:=y2.1;by_cases c:k<n
  ·obtain⟨s,s1,s2⟩:=h.get c;rw[if_neg (Nat.lt_irrefl _)]at s2;have s2:s=T (qa8 J fun j=>vD ((3:Int):Rat) a i j*vD ((3:Int):Rat) b j k):=s2;obtain⟨r,r1,r2⟩:=hu.get hi;obtain⟨p,p1,p2⟩:=r2.get hJ;have p2:p=T (vD ((3:Int):Rat) a i J):=p2;obtain⟨q,q1,q2⟩:=y2.get c;have q2:q=T (vD ((3:Int):Rat) b J k):=q2;have hp:=ym (show(1:Int)<=3 by decide) (show a.length+2<=18 by omega);have hq:=ym (show(1:Int)<=3 by decide) (show b.length+2<=18 by omega)
   have hp2:(3:Int)^18<1000000000:=by decide
   have hll:=h.1;rw[if_pos (by omega),qp,s1,ZB,qp,r1,ZB,qp,p1,ZB,qp,hx,ZB,qp,q1,ZB,p2,q2,qrA hN (qgU Tk3 h2 ha (by omega) hi J) (qgU Tk3 h2 hb (by omega) hJ k),ZB,s2,qrq hN (qp5 h2 ha hb hl hi (by omega) c) (qru h2 ha hb hl hi hJ c),ZB,yh (by omega),ZB,qV (by omega)];refine qlH hi hJ hx K (k+1) _ ?_ (by omega) (by omega);have h3:=h.set (R:=IsT) (f:=T (qa8 J (fun j=>vD ((3:Int):Rat) a i j*vD ((3:Int):Rat) b j k)+vD ((3:Int):Rat) a i J*vD ((3:Int):Rat) b J k)) rfl k;refine⟨h3.1,fun m f hm=>?_⟩;have h4:=h3.2 m f hm;rw[h4];unfold qdu;dsimp only;by_cases e:m=k
   ·subst e;rw[if_pos rfl,if_pos (by omega)];rfl
   rw[if_neg e];by_cases g:m<k
   ·rw[if_pos g,if_pos (by omega)]
   rw[if_neg g,if_neg (by omega)]
  rw[if_neg (by omega)];refine⟨l,rfl,h.1,fun m f hm=>?_⟩;have:=h.2 m f hm;have hm':=(Yb.1 hm).1;have hll:=h.1;dsimp only at this
  rwa [if_pos (by omega)]at this
theorem qmt {i:Nat} (hi:i<n): ∀(K J:Nat) (l:List Str),
 qaT IsT n l (fun m=>qa8 J (fun j=>vD ((3:Int):Rat) a i j*vD ((3:Int):Rat) b j m))->J<=n->n<K+J->
 ∃l',jC N u v (i:Int) K l (J:Int)=some l'/\qaT IsT n l' (fun m=>qa8 n (fun j=>vD ((3:Int):Rat) a i j*vD ((3:Int):Rat) b j m))
 |0,J,l,h,hJ,hK=>by omega
 |K+1,J,l,h,hJ,hK=>by
  unfold jC;have hll:=hv.1;by_cases c:J<n
  ·obtain⟨x,x1,x2⟩:=hv.get c
   obtain⟨r,r1,r2⟩:=qlH h2 ha hb hl hN hu hv hi c x1 N 0 l (by
    refine⟨h.1,fun m f hm=>?_⟩;dsimp only;rw[if_neg (Nat.not_lt_zero _)]
    exact h.2 m f hm) (by omega) (by omega)
   rw[show((0:Nat):Int)=0 from rfl]at r1;rw[if_pos (by omega),qp,x1,ZB,r1,ZB,qV (by omega)];exact qmt hi K (J+1) r r2 (by omega) (by omega)
  rw[if_neg (by omega)]
  have:J=n:=by omega
  subst this;exact⟨l,rfl,h⟩
theorem qmq: ∀(K i:Nat) (l:List (List Str)),l.length=i->(∀i' r,l[i']? =some r->qaT IsT n r (vD ((3:Int):Rat) (a++b) i'))->i<=n->n<K+i->
 ∃l',jL N u v K l (i:Int)=some l'/\MR IsT n l' (vD ((3:Int):Rat) (a++b))
 |0,i,l,e,h,hi,hK=>by omega
 |K+1,i,l,e,h,hi,hK=>by
  unfold jL;have hll:=hu.1;by_cases c:i<n
  ·obtain⟨r,r1,r2⟩:=qmt h2 ha hb hl hN hu hv c N 0 (List.replicate n [48]) (by
    refine⟨List.length_replicate,fun m f hm=>?_⟩;have:=List.eq_of_mem_replicate (Yn hm);rw[this]
    exact qnO) (by omega) (by omega)
   rw[show((0:Nat):Int)=0 from rfl]at r1;rw[if_pos (by omega),hll,qpO (by omega) h2,ZB,r1,ZB,qct (by simp;omega) (by simp;omega),ZB,qV (by omega)];refine qmq K (i+1) _ (by simp;omega) (fun i' x hx=>?_) (by omega) (by omega);by_cases d:i'<l.length
   ·rw[Yf d]at hx;exact h i' x hx
   have hl':=(Yb.1 hx).1;simp only[Yq,Yr,List.length_nil]at hl'
   have:i'=i:=by omega
   subst this;rw[Yo (by omega),e,Nat.sub_self]at hx;cases hx
   refine⟨r2.1,fun m f hm=>?_⟩;have hm':=(Yb.1 hm).1;have hrl:=r2.1;have q:=r2.2 m f hm;rw[q];dsimp only;rw[qqI _ hb i' m (by omega)]
  rw[if_neg (by omega)]
  have:i=n:=by omega
  subst this;exact⟨l,rfl,e,h⟩
theorem qqM: ∃l',qal N u v=some l'/\MR IsT n l' (vD ((3:Int):Rat) (a++b)):=by
 unfold qal;obtain⟨l,l1,l2⟩:=qmq h2 ha hb hl hN hu hv N 0 [] rfl (fun i' r hr=>by simp at hr) (by omega) (by omega);rw[show((0:Nat):Int)=0 from rfl]at l1;rw[l1,ZB];exact⟨l,rfl,l2⟩
end
end Go.Av
end
section
namespace Go.Av
def qfG (n:Nat) (g:Nat->Int):List Int:=(List.range n).map g
def qaJ (n:Nat) (f:Nat->Nat->Int):List (List Int):=(List.range n).map fun i=>qfG n (f i)
theorem qce (n:Nat) (g:Nat->Int):(qfG n g).length=n:=by simp[qfG]
theorem qcM (n:Nat) (f:Nat->Nat->Int):(qaJ n f).length=n:=by simp[qaJ]
theorem yC {n k:Nat} {g:Nat->Int} (h:k<n):(qfG n g)[k]? =some (g k):=by simp[qfG,List.getElem?_range h]
theorem y9 {n k:Nat} {f:Nat->Nat->Int} (h:k<n):(qaJ n f)[k]? =some (qfG n (f k)):=by simp[qaJ,List.getElem?_range h]
theorem qjW {n b:Nat} {g:Nat->Int} (h:b<n) (v:Int):(qfG n g).set b v=qfG n (fun k=>if k=b then v else g k):=by
 apply List.ext_getElem?;intro k;by_cases hk:k<n
 ·rw[yC hk];by_cases e:k=b
  ·subst e;rw[List.getElem?_set_self (by rw[qce];exact h),if_pos rfl]
  rw[Yw (fun c=>e c.symm),yC hk,if_neg e]
 rw[Yg (by simp[qce];omega),Yg (by rw[qce];omega)]
theorem qke {n a:Nat} {f:Nat->Nat->Int} (h:a<n) (g:Nat->Int):(qaJ n f).set a (qfG n g)=qaJ n (fun i=>if i=a then g else f i):=by
 apply List.ext_getElem?;intro k;by_cases hk:k<n
 ·rw[y9 hk];by_cases e:k=a
  ·subst e;rw[List.getElem?_set_self (by rw[qcM];exact h),if_pos rfl]
  rw[Yw (fun c=>e c.symm),y9 hk,if_neg e]
 rw[Yg (by simp[qcM];omega),Yg (by rw[qcM];omega)]
theorem qgW {α:Type} (l:List α) (a:Nat) (x:α):qO l (a:Int) x=l.set a x:=by
 unfold qO;rw[Int.toNat_natCast]
theorem qkw {n:Nat} {f g:Nat->Nat->Int} (h: ∀i k,f i k=g i k):qaJ n f=qaJ n g:=by
 have:f=g:=by funext i k;exact h i k
 rw[this]
def qiD (f:Nat->Nat->Int) (a b:Nat) (s:Int):Nat->Nat->Int:=fun i k=>if(i=a/\k=b)\/(i=b/\k=a)then f i k+s else f i k
theorem qoL {n a b:Nat} {f:Nat->Nat->Int} (ha:a<n) (hb:b<n) (ne:a≠b) (s:Int):
 ((qaJ n f).set a ((qfG n (f a)).set b (f a b+s))).set b ((qfG n (f b)).set a (f b a+s))=qaJ n (qiD f a b s):=by
 rw[qjW hb,qke ha,qjW ha,qke hb]
 refine qkw fun i k=>?_
 unfold qiD;by_cases h1:i=b
 ·subst h1;rw[if_pos rfl];by_cases h2:k=a
  ·subst h2;rw[if_pos rfl,if_pos (.inr ⟨rfl,rfl⟩)]
  rw[if_neg h2,if_neg (fun h=>by rcases h with h|h<;>omega)]
 rw[if_neg h1];by_cases h3:i=a
 ·subst h3;rw[if_pos rfl];by_cases h2:k=b
  ·subst h2;rw[if_pos rfl,if_pos (.inl ⟨rfl,rfl⟩)]
  rw[if_neg h2,if_neg (fun h=>by rcases h with h|h<;>omega)]
 rw[if_neg h3,if_neg (fun h=>by rcases h with h|h<;>omega)]
def lkF (s:SB) (f:Nat->Nat->Int):List Int->Nat->Nat->Int
 |[]=>f
 |c::w=>lkF (s.bk (c.natAbs-1)) (qiD f (s.g (c.natAbs-1)) (s.g c.natAbs) (if 0<c then 1 else-1)) w
theorem qm4 {c:Int} (h:c≠0):yo c=some (if 0<c then 1 else-1):=by
 unfold yo;by_cases p:0<c
 ·rw[if_neg (show¬c<1 by omega),if_pos (by decide),if_pos p]
 rw[if_pos (show c<1 by omega),if_neg p];by_cases q:c> -1
 ·omega
 rw[if_neg q]
theorem qk6 {n a b:Nat} (hn:n<=1000) {f:Nat->Nat->Int} {B:Nat} (hB:B<=10000) (hf: ∀i k,-(B:Int)<=f i k/\f i k<=B) (ha:a<n) (hb:b<n) (ne:a≠b) {c:Int} (hc:c≠0):
 qah (qaJ n f) c (a:Int) (b:Int)=some (qaJ n (qiD f a b (if 0<c then 1 else-1))):=by
 unfold qah
 have w1: ∀i k,w64 (f i k+(if 0<c then(1:Int)else-1))=f i k+(if 0<c then(1:Int)else-1):=fun i k=>by
  have:=hf i k;exact qz (by split<;>omega) (by split<;>omega)
 rw[qp,y9 ha,ZB,qp,yC hb,ZB,qm4 hc,ZB,w1,yh (by rw[qce];exact hb),ZB,qgW,qp,Yw ne,y9 hb,ZB,qp,yC ha,ZB,ZB,w1,yh (by rw[qce];exact ha),ZB,qgW,qoL ha hb ne]
theorem qpY {f:Nat->Nat->Int} {a b:Nat} {s:Int} {B:Nat} (hf: ∀i k,-(B:Int)<=f i k/\f i k<=B) (hs: -1<=s/\s<=1): ∀i k,-((B+1:Nat):Int)<=qiD f a b s i k/\qiD f a b s i k<=((B+1:Nat):Int):=fun i k=>by
 have:=hf i k;unfold qiD;split<;>omega
section
variable {n:Nat} (hn:n<=12) {N:Nat} (hN:2000<N)
include hn hN
theorem qoi {s:SB} {m:Nat} (hm2:m+1<n):((s.rev.li n).set m ((s.g (m+1):Nat):Int)).set (m+1) ((s.g m:Nat):Int)=(s.bk m).rev.li n:=SB.li_eq (by simp[Ud]) fun k hk=>by
 show _=some ((s.g (tr5 m k):Nat):Int);by_cases a:k=m+1
 ·subst a;rw[List.getElem?_set_self (by simp[Ud];omega),qbo]
 rw[Yw (fun e=>a e.symm)];by_cases b:k=m
 ·subst b;rw[List.getElem?_set_self (by rw[Ud];omega),qbn]
 rw[Yw (fun e=>b e.symm),Uj s.rev hk,j5 b a];rfl
theorem qj5 {w:List Int} (W:zb n w): ∀(K i:Nat) (s:SB) (f:Nat->Nat->Int),s.Ok n->(∀j k,-(i:Int)<=f j k/\f j k<=i)->i<=w.length->w.length<K+i->kr w K (qaJ n f) (s.rev.li n) (i:Int)=some (qaJ n (lkF s f (w.drop i)))
 |0,i,s,f,hs,hf,h,hK=>by omega
 |K+1,i,s,f,hs,hf,hiw,hK=>by
  have wl:=W.len;unfold kr;by_cases hi:i<w.length
  ·have hx:w[i]? =some w[i]:=Ya hi;have hc:=W.let_ _ (List.getElem_mem hi);rw[YG hi,lkF];generalize w[i]=c at*;obtain⟨m,hm⟩: ∃m:Nat,c.natAbs=m+1:=⟨c.natAbs-1,by omega⟩
   have hm2:m+1<n:=by omega
   have q1:w64 (((m+1:Nat):Int)-1)=(m:Int):=by rw[qz (by omega) (by omega)];omega
   have q2:w64 ((m:Int)+1)=((m+1:Nat):Int):=qV (by omega);have g0:=hs.g_ m (by omega);have g1:=hs.g_ (m+1) hm2;have r0:idx (s.rev.li n) (m:Int)=some ((s.g m:Nat):Int):=Uk (by omega);have r1:idx (s.rev.li n) ((m+1:Nat):Int)=some ((s.g (m+1):Nat):Int):=Uk hm2
   have ne:s.g m≠s.g (m+1):=fun e=>by have:=s.ginj e;omega
   rw[if_pos (by omega),qp,hx];simp only[ZB,qjd (show-1000<c/\c<1000 by omega),hm,q1,q2,r0,r1];rw[qk6 (by omega) (B:=i) (by omega) hf g0 g1 ne hc.1];simp only[ZB];rw[yh (by rw[Ud];omega)];simp only[ZB]
   have e17:idx ((s.rev.li n).set m ((s.g (m+1):Nat):Int)) ((m+1:Nat):Int)=some ((s.g (m+1):Nat):Int):=by
    rw[qp,Yw (by omega),Uj s.rev hm2];rfl
   rw[e17];simp only[ZB];rw[yh (by simp[Ud];omega)];simp only[ZB];rw[qoi hn hN hm2,qV (by omega),show(m+1-1:Nat)=m by omega];exact qj5 W K (i+1) _ _ (hs.bk hm2) (qpY hf (by split<;>omega)) (by omega) (by omega)
  rw[if_neg (by omega),List.drop_eq_nil_of_le (by omega)];rfl
theorem qr5:mk 8 (n:Int) (0:Int)=some (qfG n fun _=>0):=by
 rw[qoP (by omega)];congr 1;apply List.ext_getElem?;intro k;by_cases hk:k<n
 ·rw[yC hk];simp[hk]
 rw[Yg (by simp;omega),Yg (by rw[qce];omega)]
theorem ql9: ∀(K i:Nat) (l1 l:List (List Int)),l1.length=n->l.length=n->i<=n->n<K+i->(∀k,k<i->l[k]? =some (qfG n fun _=>0))->yw (n:Int) l1 K l (i:Int)=some (qaJ n fun _ _=>0)
 |0,i,l1,l,h1,h2,hi,hK,hk=>by omega
 |K+1,i,l1,l,h1,h2,hin,hK,hk=>by
  unfold yw;rw[h1];by_cases hi:i<n
  ·have hs:idx l (i:Int)=some (l[i]'(by omega)):=by rw[qp];exact Ya _
   rw[if_pos (by omega),qr5 hn hN];simp only[ZB];rw[hs,ZB,qgW,qV (by omega)];refine ql9 K (i+1) l1 _ h1 (by simpa using h2) (by omega) (by omega) (fun k hk1=>?_);by_cases e:k=i
   ·subst e;rw[List.getElem?_set_self (by omega)]
   rw[Yw (fun c=>e c.symm),hk k (by omega)]
  rw[if_neg (by omega)];congr 1;apply List.ext_getElem?;intro k;by_cases hkn:k<n
  ·rw[hk k (by omega),y9 hkn]
  rw[Yg (by omega),Yg (by rw[qcM];omega)]
theorem qrw:mk 24 (n:Int) ([]:List Int)=some (List.replicate n []):=by
 unfold mk;rw[if_pos (by omega)];simp
theorem qqr {w:List Int} (W:zb n w):qb0 N (n:Int) w=some (qaJ n (lkF Ue (fun _ _=>0) w)):=by
 have wl:=W.len;unfold qb0 vT vH;have a:=ql9 hn hN N 0 (List.replicate n []) (List.replicate n []) (by simp) (by simp) (Nat.zero_le _) (by omega) (fun k hk=>by omega);have b:=qj5 hn hN W N 0 Ue (fun _ _=>0) (Ut n) (fun _ _=>by simp) (Nat.zero_le _) (by omega);rw[show((0:Nat):Int)=0 from rfl]at a b;rw[YR,show Ue.rev=Ue from rfl,SB.id_li]at b;rw[qrw hn hN,ZB,a,ZB,ZB,qjL hN (by omega),ZB,b];rfl
end
end Go.Av
end
section
namespace Go.Av
def flc (n:Nat) (c:Int):Int:=if 0<c then(n:Int)-c else-((n:Int)+c)
theorem ql5 {n:Nat} {c:Int} (hc:c≠0/\ -(n:Int)<c/\c<n):(flc n c).natAbs-1=n-2-(c.natAbs-1)/\(0<flc n c↔0<c)/\(flc n c≠0/\ -(n:Int)<flc n c/\flc n c<n):=by
 unfold flc;split<;>omega
theorem qp8 {n:Nat} {w:List Int} (hw:qcP n w):qcP n (w.map (flc n)):=fun c hc=>by
 obtain⟨d,hd,rfl⟩:=List.mem_map.1 hc;exact(ql5 (hw d hd)).2.2
theorem qmx {n:Nat} {w:List Int} (W:zb n w): ∀(K i:Nat),i<=w.length->w.length<K+i->zh w (n:Int) K ((w.take i).map (flc n)) (i:Int)=some (w.map (flc n))
 |0,i,h,hK=>by omega
 |K+1,i,h,hK=>by
  have wl:=W.len;have n2:=W.n2;unfold zh xW;by_cases hi:i<w.length
  ·have hc:=W.let_ _ (List.getElem_mem hi)
   have e1:(w.take i).map (flc n)++[flc n w[i]]=(w.take (i+1)).map (flc n):=by
    rw[List.take_succ_eq_append_getElem hi,List.map_append];rfl
   rw[if_pos (by omega),qp,Ya hi,ZB]
   have e2:w64 ((if 0<w[i]then 1 else-1)*w64 ((n:Int)-((w[i].natAbs:Nat):Int)))=flc n w[i]:=by
    rw[qz (n:=(n:Int)-((w[i].natAbs:Nat):Int)) (by omega) (by omega)];unfold flc;split
    ·rw[qz (by omega) (by omega)];omega
    rw[qz (by omega) (by omega)];omega
   rw[qj1 hc.1,ZB,qjd (by omega),ZB,e2,ZB,qct (by simp;omega) (by simp;omega),ZB,qV (by omega),e1];exact qmx W K (i+1) (by omega) (by omega)
  rw[if_neg (by omega),List.take_of_length_le (by omega)]
theorem qoF {N n:Nat} (hN:2000<N) {w:List Int} (W:zb n w):qcf N (n:Int) w=some (w.map (flc n),0):=by
 have wl:=W.len;unfold qcf yB;have:=qmx W N 0 (Nat.zero_le _) (by omega);rw[show((0:Nat):Int)=0 from rfl,List.take_zero,List.map_nil]at this;rw[xY hN (by omega),qcu W,ZB,decide_eq_true rfl,if_neg (by decide),this];rfl
end Go.Av
end
section
namespace Go.Av
theorem qju {n:Nat} (hn:n<=12) (f:Nat->Nat->Int): ∀(K i:Nat),i<=n->n<K+i->ve (qaJ n f) (n:Int) K (i:Int)=some (.inl ())
 |0,i,h,hK=>by omega
 |K+1,i,h,hK=>by
  unfold ve;rw[qcM];by_cases hi:i<n
  ·rw[if_pos (by omega),qp,y9 hi,ZB,qce,decide_eq_true rfl,if_neg (by decide),qV (by omega)];exact qju hn f K (i+1) (by omega) (by omega)
  rw[if_neg (by omega)]
theorem qei {N n:Nat} (hN:2000<N) (hn:n<=12) (f:Nat->Nat->Int):yl N (qaJ n f) (n:Int)=some true:=by
 unfold yl;have:=qju hn f N 0 (Nat.zero_le _) (by omega);rw[show((0:Nat):Int)=0 from rfl]at this;rw[this,qcM,decide_eq_true rfl];rfl
theorem zb.flc {n:Nat} {w:List Int} (W:zb n w):zb n (w.map (flc n)):=by
 refine⟨W.n1,W.n2,by rw[List.length_map];exact W.len,?_⟩;have h:qcP n (w.map (Go.Av.flc n)):=qp8 W.let_;exact h
end Go.Av
end
section
namespace Go.Av
def qiy (c:Int):Int:=if 0<c then 1 else-1
def lkP:List Int->Nat->Nat->Int
 |[],_,_=>0
 |c::w,x,y=>(if(x=c.natAbs-1/\y=c.natAbs-1+1)\/(x=c.natAbs-1+1/\y=c.natAbs-1)then qiy c else 0)+lkP w (tr5 (c.natAbs-1) x) (tr5 (c.natAbs-1) y)
def pfP:List Int->Nat->Nat
 |[],x=>x
 |c::w,x=>pfP w (tr5 (c.natAbs-1) x)
theorem qkZ: ∀(w:List Int) (s:SB) (k:Nat),(pmF s w).f k=pfP w (s.f k)
 |[],s,k=>rfl
 |c::w,s,k=>by
  show(pmF (s.bk (c.natAbs-1)) w).f k=_;rw[qkZ w];rfl
theorem qob: ∀(w:List Int),(∀c∈w,c≠0)-> ∀(s:SB) (f:Nat->Nat->Int) (i k:Nat),lkF s f w i k=f i k+lkP w (s.f i) (s.f k)
 |[],_,s,f,i,k=>(Int.add_zero _).symm
 |c::w,h,s,f,i,k=>by
  have hc:=h c (List.mem_cons_self ..);obtain⟨m,hm⟩: ∃m,c.natAbs=m+1:=⟨c.natAbs-1,by omega⟩;rw[lkF,qob w (fun d hd=>h d (List.mem_cons_of_mem _ hd)),lkP];simp only[hm,Nat.add_sub_cancel]
  have e: ∀a b:Nat,a=s.g b↔s.f a=b:=fun a b=>⟨fun h=>by rw[h,s.fg],fun h=>by rw[<-h,s.gf]⟩
  have hu:qiD f (s.g m) (s.g (m+1)) (if 0<c then 1 else-1) i k=f i k+(if(s.f i=m/\s.f k=m+1)\/(s.f i=m+1/\s.f k=m)then qiy c else 0):=by
   unfold qiD qiy;simp only[e];split<;>simp
  rw[hu];show _+_+lkP w (tr5 m (s.f i)) (tr5 m (s.f k))=_;omega
theorem qmm: ∀(u v:List Int) (x y:Nat),lkP (u++v) x y=lkP u x y+lkP v (pfP u x) (pfP u y)
 |[],v,x,y=>(Int.zero_add _).symm
 |c::u,v,x,y=>by
  rw[List.cons_append,lkP,qmm u v,lkP,pfP,pfP];omega
theorem qiZ: ∀(w:List Int) (x y:Nat),lkP w x y=lkP w y x
 |[],x,y=>rfl
 |c::w,x,y=>by
  rw[lkP,lkP,qiZ w];congr 1;by_cases h:(x=c.natAbs-1/\y=c.natAbs-1+1)\/(x=c.natAbs-1+1/\y=c.natAbs-1)
  ·rw[if_pos h,if_pos (by omega)]
  rw[if_neg h,if_neg (by omega)]
theorem qjz: ∀(w:List Int) (x:Nat),lkP w x x=0
 |[],x=>rfl
 |c::w,x=>by rw[lkP,qjz w,if_neg (by omega)];rfl
theorem qgx: ∀(w:List Int) (x y:Nat),-(w.length:Int)<=lkP w x y/\lkP w x y<=w.length
 |[],x,y=>⟨Int.le_refl 0,Int.le_refl 0⟩
 |c::w,x,y=>by
  have:=qgx w (tr5 (c.natAbs-1) x) (tr5 (c.natAbs-1) y);rw[lkP,Yr];unfold qiy;split
  ·split<;>omega
  omega
theorem qmf: ∀(w:List Int),(∀c∈w,c≠0)-> ∀(x y:Nat),lkP (w.map fun c=> -c) x y= -lkP w x y
 |[],_,x,y=>rfl
 |c::w,h,x,y=>by
  have hc:=h c (List.mem_cons_self ..);rw[List.map_cons,lkP,lkP,qmf w (fun d hd=>h d (List.mem_cons_of_mem _ hd)),Int.natAbs_neg];unfold qiy;split
  ·by_cases p:0<c
   ·rw[if_pos p,if_neg (by omega)];omega
   rw[if_neg p,if_pos (by omega)];omega
  omega
def S1 (g:Nat->Nat->Int) (i:Nat):Nat->Nat->Int
 |_,0=>0
 |k,d+1=>(if i<k then g i k else 0)+S1 g i (k+1) d
def S0 (g:Nat->Nat->Int) (n:Nat):Nat->Nat->Int
 |_,0=>0
 |i,d+1=>S1 g i 0 n+S0 g n (i+1) d
theorem qhb (c:Int) (w:List Int):exS (c::w)=qiy c+exS w:=by
 rw[show c::w=[c]++w from rfl,qlJ];congr 1;unfold exS ngs qiy;by_cases h:0<c
 ·simp[h]
 simp[h]
theorem qq2 {n:Nat} (hn:n<=5): ∀(w:List Int),(∀c∈w,c≠0/\ -(n:Int)<c/\c<n)->S0 (lkP w) n 0 n=exS w
 |[],_=>by
  rcases(show n=0\/n=1\/n=2\/n=3\/n=4\/n=5 by omega)with rfl|rfl|rfl|rfl|rfl|rfl<;>rfl
 |c::w,h=>by
  have hc:=h c (List.mem_cons_self ..);have ih:=qq2 hn w (fun d hd=>h d (List.mem_cons_of_mem _ hd));obtain⟨m,hm⟩: ∃m,c.natAbs=m+1:=⟨c.natAbs-1,by omega⟩
  have hmn:m+1<n:=by omega
  rw[qhb,<-ih];have sy:=qiZ w
  have g: ∀x y,lkP (c::w) x y=(if(x=m/\y=m+1)\/(x=m+1/\y=m)then qiy c else 0)+lkP w (tr5 m x) (tr5 m y):=fun x y=>by rw[lkP,hm,Nat.add_sub_cancel]
  have s01:=sy 1 0;have s02:=sy 2 0;have s03:=sy 3 0;have s04:=sy 4 0;have s12:=sy 2 1;have s13:=sy 3 1;have s14:=sy 4 1;have s23:=sy 3 2;have s24:=sy 4 2;have s34:=sy 4 3;rcases(show n=2/\m=0\/n=3/\m=0\/n=3/\m=1\/n=4/\m=0\/n=4/\m=1\/n=4/\m=2\/n=5/\m=0\/n=5/\m=1\/n=5/\m=2\/n=5/\m=3 by omega)with⟨rfl,rfl⟩|⟨rfl,rfl⟩|⟨rfl,rfl⟩|⟨rfl,rfl⟩|⟨rfl,rfl⟩|⟨rfl,rfl⟩|⟨rfl,rfl⟩|⟨rfl,rfl⟩|⟨rfl,rfl⟩|⟨rfl,rfl⟩<;>simp[S0,S1,g,tr5]<;>omega
theorem qqT {g:Nat->Nat->Int} {B:Nat} (hg: ∀i k,-(B:Int)<=g i k/\g i k<=B) (i:Nat): ∀(d k:Nat),-((B*d:Nat):Int)<=S1 g i k d/\S1 g i k d<=((B*d:Nat):Int)
 |0,k=>by simp[S1]
 |d+1,k=>by
  have:=qqT hg i d (k+1);have:=hg i k;rw[S1,Nat.mul_succ];split<;>omega
theorem qpQ {n:Nat}: ∀(w:List Int),(∀c∈w,c≠0/\ -(n:Int)<c/\c<n)-> ∀s:SB,pmF (s.flip n) (w.map (flc n))=(pmF s w).flip n
 |[],_,s=>rfl
 |c::w,h,s=>by
  have hc:=h c (List.mem_cons_self ..);have e:=(ql5 hc).1;show pmF ((s.flip n).bk ((flc n c).natAbs-1)) (w.map (flc n))=(pmF (s.bk (c.natAbs-1)) w).flip n;rw[e,<-qiH (by omega),qpQ w (fun d hd=>h d (List.mem_cons_of_mem _ hd))]
theorem qrK {n i:Nat} (hi:i<n) {w:List Int} (h: ∀c∈w,c≠0/\ -(n:Int)<c/\c<n) (hok:(pmF Ue w).Ok n):(pmF Ue (w.map (flc n))).f (n-1-i)=n-1-(pmF Ue w).f i:=by
 have e:=qpQ w h Ue;rw[qme]at e;have hf:=hok.f_ i hi;rw[e];show rv5 n ((pmF Ue w).f (rv5 n (n-1-i)))=_
 have r:rv5 n (n-1-i)=i:=by unfold rv5;rw[if_pos (by omega)];omega
 rw[r];unfold rv5;rw[if_pos hf]
theorem qmr: ∀(w:List Int),(∀c∈w,c≠0)->exS (w.map fun c=> -c)= -exS w
 |[],_=>rfl
 |c::w,h=>by
  have hc:=h c (List.mem_cons_self ..);rw[List.map_cons,qhb,qhb,qmr w (fun d hd=>h d (List.mem_cons_of_mem _ hd))];unfold qiy;by_cases p:0<c
  ·rw[if_pos p,if_neg (by omega)];omega
  rw[if_neg p,if_pos (by omega)];omega
theorem qql (w:List Int):exS w.reverse=exS w:=by
 unfold exS ngs;rw[List.length_reverse,List.countP_reverse]
theorem qr6 (w:List Int): -(w.length:Int)<=exS w/\exS w<=w.length:=by
 unfold exS ngs;have:=List.countP_le_length (p:=fun c:Int=>!decide (0<c)) (l:=w);omega
theorem qmY {w r:List Int} {k:Nat} (h0:0<w.length) (hk:k<=3) (hl:r.length=w.length*k) (h:Rep w r (w.length*k)):r=(List.replicate k w).flatten:=by
 refine qoO (w:=w) (L:=w.length*k) hl ?_ h ?_
 ·simp[Nat.mul_comm]
 intro i hi;rcases(show k=0\/k=1\/k=2\/k=3 by omega)with rfl|rfl|rfl|rfl
 ·simp at hi
 ·simp only[List.replicate,List.flatten_cons,List.flatten_nil,YQ];rw[Nat.mod_eq_of_lt (by omega)]
 ·simp only[List.replicate,List.flatten_cons,List.flatten_nil,YQ];by_cases a:i<w.length
  ·rw[Yf a,Nat.mod_eq_of_lt a]
  rw[Yo (by omega),Nat.mod_eq_sub_mod (by omega),Nat.mod_eq_of_lt (by omega)]
 simp only[List.replicate,List.flatten_cons,List.flatten_nil,YQ];by_cases a:i<w.length
 ·rw[Yf a,Nat.mod_eq_of_lt a]
 rw[Yo (by omega),Nat.mod_eq_sub_mod (by omega)];by_cases b:i-w.length<w.length
 ·rw[Yf b,Nat.mod_eq_of_lt b]
 rw[Yo (by omega),Nat.mod_eq_sub_mod (by omega),Nat.mod_eq_of_lt (by omega)]
theorem qmj (w:List Int): ∀k:Nat,exS ((List.replicate k w).flatten)=k*exS w
 |0=>by simp[exS,ngs]
 |k+1=>by
  rw[List.replicate_succ,List.flatten_cons,qlJ,qmj w k]
  push_cast
  rw[Int.add_mul,Int.one_mul];omega
theorem qpP {α:Type} {l:List α} {i:Nat} (h:i<l.length):l[i]? =some l[i]:=Ya h
theorem qlX {p:List Int} (hl:p.length<=256) (hd: ∀a b,a<p.length->b<p.length->p[a]? =p[b]? ->a=b) {i:Nat} (hi:i<p.length): ∀(K k:Nat),k<=i->i<K+k->zS p (i:Int) K (k:Int)=some (.inl ())
 |0,k,h1,h2=>by omega
 |K+1,k,h1,h2=>by
  unfold zS;by_cases hk:k<i
  ·have hne: ¬(p[k]'(by omega)=p[i]):=fun e=>by
    have:=hd k i (by omega) hi (by rw[qpP (by omega),qpP hi,e]);omega
   rw[if_pos (by omega),qp,qp,qpP (show k<p.length by omega),qpP hi];simp only[ZB];rw[if_neg hne,qV (by omega),qlX hl hd hi K (k+1) (by omega) (by omega)]
  rw[if_neg (by omega)]
theorem ql8 {N:Nat} (hN:300<N) {p:List Int} (hl:p.length<=256) (hd: ∀a b,a<p.length->b<p.length->p[a]? =p[b]? ->a=b) (hr: ∀x∈p,0<=x/\x<p.length): ∀(K i:Nat),i<=p.length->p.length<K+i->zz N p K (i:Int)=some (.inl ())
 |0,i,h1,h2=>by omega
 |K+1,i,h1,h2=>by
  unfold zz;by_cases hi:i<p.length
  ·have hx:=hr p[i] (List.getElem_mem hi);rw[if_pos (by omega),qp,qpP hi];simp only[ZB];rw[if_neg (by omega),decide_eq_false (by omega),ZB,if_neg (by decide),show(0:Int)=((0:Nat):Int)from rfl,qlX hl hd hi N 0 (by omega) (by omega)];simp only[ZB];rw[qV (by omega),ql8 hN hl hd hr K (i+1) (by omega) (by omega)]
  rw[if_neg (by omega)]
theorem qka {N:Nat} (hN:2000<N) {n:Nat} (hn:n<=256) {s:SB} (hs:s.Ok n):vZ N (s.li n)=some 0:=by
 have hl:=Ud n s
 have:=ql8 (N:=N) (p:=s.li n) (by omega) (by omega) (fun a b ha hb e=>by
  rw[hl]at ha hb;rw[Uj s ha,Uj s hb]at e;have e:=Ye e
  exact s.finj (by omega)) (fun x hx=>by
  obtain⟨k,hk⟩:=List.getElem?_of_mem hx;have l1:=(Yb.1 hk).1;rw[hl]at l1;rw[Uj s l1]at hk;have:=hs.f_ k l1;have:=Ye hk
  omega) N 0 (by omega) (by omega)
 unfold vZ;rw[if_neg (by omega),show zz N (s.li n) N 0=_ from this];rfl
end Go.Av
end
noncomputable section
namespace Go.Av
open Go.Proofs Go.RowKit
variable [Glob]
theorem qji {N:Nat} (hN:2000<N) (n:Int) (w:List Int):qbR N n w 5 8=some (decide (n<=5/\w.length<=8/\qga n w=0)):=by
 unfold qbR;by_cases a:n<=5
 ·by_cases b:(w.length:Int)<=8
  ·rw[if_pos a,if_pos b,qk0 hN (by omega)];simp only[ZB];congr 1;rw[decide_eq_decide];omega
  rw[if_pos a,if_neg b,decide_eq_false (by omega)];rfl
 rw[if_neg a,decide_eq_false (by omega)];rfl
theorem qe8 {N:Nat} (hN:2000<N) {n:Nat} {w:List Int} (W:zb n w):xA N (n:Int) w=some ((pmF Ue w).li n,0):=by
 have wl:=W.len;unfold xA;rw[xY hN (by omega),qcu W,ZB,decide_eq_true rfl];simp only[Bool.not_true,ZF,if_false];rw[qpU W.n2 hN W];rfl
def lkM (w:List Int):Nat->Nat->Int:=lkF Ue (fun _ _=>0) w
theorem qar {n:Nat} {w:List Int} (W:zb n w) (i k:Nat):lkM w i k=lkP w i k:=by
 unfold lkM;rw[qob w (fun c hc=>(W.let_ c hc).1)];exact Int.zero_add _
theorem qgo {N:Nat} (hN:2000<N) {n:Nat} {w:List Int} (W:zb n w):xw N (n:Int) w=some (qaJ n (lkM w),0):=by
 have wl:=W.len;unfold xw;rw[xY hN (by omega),qcu W,ZB,decide_eq_true rfl];simp only[Bool.not_true,ZF,if_false];rw[qqr W.n2 hN W];rfl
theorem qmC {N:Nat} (hN:2000<N) {n:Nat} {w:List Int} (W:zb n w):qaD N (n:Int) w=some (w.map fun c=> -c,0):=by
 have wl:=W.len;have n2:=W.n2;unfold qaD;rw[xY hN (by omega),qcu W,ZB,decide_eq_true rfl];simp only[Bool.not_true,ZF,if_false];rw[qin hN (by omega),ZB];congr 2
 refine List.map_congr_left fun c hc=>?_
 have:=W.let_ c hc;rw[qz (by omega) (by omega)];omega
theorem zb.neg {n:Nat} {w:List Int} (W:zb n w):zb n (w.map fun c=> -c):=by
 refine⟨W.n1,W.n2,by rw[List.length_map];exact W.len,fun c hc=>?_⟩;obtain⟨d,hd,rfl⟩:=List.mem_map.1 hc;have:=W.let_ d hd;omega
theorem zb.rep {n:Nat} {w:List Int} (W:zb n w) {k:Nat} (hk:k<=3) (hl:w.length<=8):zb n (List.replicate k w).flatten:=by
 refine⟨W.n1,W.n2,?_,fun c hc=>?_⟩
 ·have:k*w.length<=3*8:=Nat.mul_le_mul hk hl;simp;omega
 obtain⟨l,h1,h2⟩:=List.mem_flatten.1 hc;rw[List.eq_of_mem_replicate h1]at h2;exact W.let_ c h2
theorem qoS {N:Nat} (hN:60000<N) {n:Nat} {w:List Int} (W:zb n w) (hl:w.length<=8) {k:Int} (h1: -3<=k) (h2:k<=3): ∃r,qbu N (n:Int) w k=some (r,0)/\zb n r/\exS r=k*exS w:=by
 have n2:=W.n2
 have core: ∀{v:List Int},zb n v->v.length<=8->0<v.length-> ∀{m:Nat},m<=3-> ∃r,((zZ N v (m:Int)).bind fun l16=>(yn l16).bind fun r17=>some (r17.1,r17.2))=some (r,0)/\zb n r/\exS r=m*exS v:=by
  intro v V lv lv0 m hm;obtain⟨r,r1,r2,r3⟩:=qmT (N:=N) (by omega) lv0 (by omega) (show m<=200 by omega);have e:=qmY lv0 hm r2 r3;have V2:=V.rep hm lv;rw[<-e]at V2;refine⟨r,?_,V2,by rw[e];exact qmj v m⟩;have:=V2.len;rw[r1,ZB,qgT,if_neg (by omega),ZB]
 unfold qbu;rw[xY (by omega) (by omega),qcu W,ZB,decide_eq_true rfl];simp only[Bool.not_true,ZF,if_false];by_cases a:w.length=0
 ·rw[if_pos (by omega),ZB];have:w=[]:=List.eq_nil_of_length_eq_zero a;subst this;exact⟨[],rfl,W,by rw[show exS []=0 from rfl,Int.mul_zero]⟩
 rw[if_neg (by omega),if_neg (show¬k>200 by omega),decide_eq_false (show¬k< -200 by omega),ZB,if_neg (by decide)];by_cases b:k<0
 ·have e:(w.map fun x=>w64 (0-x))=w.map fun c=> -c:=List.map_congr_left fun c hc=>by
   have:=W.let_ c hc;rw[qz (by omega) (by omega)];omega
  rw[if_pos b,qkx (by omega) (by omega),ZB,e,qz (by omega) (by omega),ZB];have V:zb n (w.map fun c=> -c).reverse:=⟨W.n1,W.n2,by simp;omega,fun c hc=>W.neg.let_ c (List.mem_reverse.1 hc)⟩;obtain⟨r,r1,r2,r3⟩:=core V (by simp;omega) (by simp;omega) (m:=k.natAbs) (by omega);rw[show 0-k=(k.natAbs:Int)by omega];refine⟨r,r1,r2,?_⟩;rw[r3,qql,qmr w (fun c hc=>(W.let_ c hc).1),Int.mul_neg,<-Int.neg_mul];congr 1;omega
 rw[if_neg b,ZB];obtain⟨r,r1,r2,r3⟩:=core W hl (by omega) (m:=k.natAbs) (by omega)
 have ek:(k.natAbs:Int)=k:=by omega
 rw[ek]at r1 r3;exact⟨r,r1,r2,r3⟩
section
variable {n:Nat} (hn:n<=5) {A B:List Int} (WA:zb n A) (WB:zb n B) (lA:A.length<=8) (lB:B.length<=8) (WC:zb n (A++B))
include hn WA WB lA lB WC
theorem qlh {i:Nat} (hi:i<n): ∀(K k:Nat) (acc:Int),k<=n->n<K+k-> -100000<=acc-8*((n:Int)-k)->acc+8*((n:Int)-k)<=100000->zV (n:Int) ((pmF Ue A).li n,0) (qaJ n (lkM A),0) (qaJ n (lkM B),0) (qaJ n (lkM (A++B)),0) (i:Int) K acc (k:Int)=some (.inl (acc+S1 (lkP A) i k (n-k)))
 |0,k,acc,h1,h2,_,_=>by omega
 |K+1,k,acc,h1,h2,h3,h4=>by
  unfold zV;by_cases hk:k<n
  ·have ok:=qhB (Ut n) WA.let_;have p1:=ok.f_ i hi;have p2:=ok.f_ k hk;have b1:=qgx A i k;have b2:=qgx B ((pmF Ue A).f i) ((pmF Ue A).f k)
   have e1:lkM (A++B) i k=lkM A i k+lkM B ((pmF Ue A).f i) ((pmF Ue A).f k):=by
    rw[qar WC,qar WA,qar WB,qmm,qkZ,qkZ];rfl
   have e2:lkM A i k=lkM A k i:=by rw[qar WA,qar WA,qiZ]
   have e3:lkM A i i=0:=by rw[qar WA,qjz]
   dsimp only;rw[if_pos (by omega),qp,qp,y9 hi,ZB,qp,yC hk,ZB,y9 hi,ZB,qp,yC hk,ZB,Uk hi,ZB,qp,y9 p1,ZB,Uk hk,ZB,qp,yC p2,ZB];rw[qar WA i k,qar WB]at e1;rw[qar WA i k,qar WB,qz (by omega) (by omega),e1,decide_eq_true rfl,if_neg (by decide),qp,y9 hk,ZB,qp,yC hi,ZB,<-e2,qar WA i k,decide_eq_true rfl,if_neg (by decide),qp,yC hi,ZB,e3,decide_eq_true rfl,ZB,if_neg (by decide)];rw[show n-k=n-(k+1)+1 by omega,S1];by_cases hik:i<k
   ·rw[if_pos (by omega),ZB,qp,yC hk,ZB,qar WA,qz (by omega) (by omega),ZB,qV (by omega),if_pos hik];dsimp only;rw[qlh hi K (k+1) _ (by omega) (by omega) (by omega) (by omega),Int.add_assoc]
   rw[if_neg (by omega),ZB,qV (by omega),if_neg hik,Int.zero_add];dsimp only;rw[qlh hi K (k+1) _ (by omega) (by omega) (by omega) (by omega)]
  rw[if_neg (by omega),show n-k=0 by omega,S1,Int.add_zero]
theorem qoo {N:Nat} (hN:1000<N): ∀(K i:Nat) (acc:Int),i<=n->n<K+i-> -10000<=acc-40*((n:Int)-i)->acc+40*((n:Int)-i)<=10000->zU N (n:Int) ((pmF Ue A).li n,0) (qaJ n (lkM A),0) (qaJ n (lkM B),0) (qaJ n (lkM (A++B)),0) K acc (i:Int)=some (.inl (acc+S0 (lkP A) n i (n-i)))
 |0,i,acc,h1,h2,_,_=>by omega
 |K+1,i,acc,h1,h2,h3,h4=>by
  unfold zU;by_cases hi:i<n
  ·have b:=qqT (g:=lkP A) (B:=8) (fun x y=>by have:=qgx A x y;omega) i n 0;have:=qlh hn WA WB lA lB WC hi N 0 acc (by omega) (by omega) (by omega) (by omega);rw[Nat.sub_zero,show((0:Nat):Int)=0 from rfl]at this;rw[if_pos (by omega),this,ZB,qV (by omega)];dsimp only;rw[qoo hN K (i+1) _ (by omega) (by omega) (by omega) (by omega),show n-i=n-(i+1)+1 by omega,S0,Int.add_assoc]
  rw[if_neg (by omega),show n-i=0 by omega,S0,Int.add_zero]
theorem qmg {i:Nat} (hi:i<n): ∀(K k:Nat),k<=n->n<K+k->zO (n:Int) (qaJ n (lkM A),0) (qaJ n (lkM (A.map fun c=> -c)),0) (i:Int) K (k:Int)=some (.inl ())
 |0,k,h1,h2=>by omega
 |K+1,k,h1,h2=>by
  unfold zO;by_cases hk:k<n
  ·have b1:=qgx A i k
   have e:lkM (A.map fun c=> -c) i k= -lkM A i k:=by
    rw[qar WA.neg,qar WA,qmf A (fun c hc=>(WA.let_ c hc).1)]
   dsimp only;rw[if_pos (by omega),qp,y9 hi,ZB,qp,yC hk,ZB,qp,y9 hi,ZB,qp,yC hk,ZB,e,qar WA,qz (by omega) (by omega),decide_eq_true (by omega),if_neg (by decide),qV (by omega)];exact qmg hi K (k+1) (by omega) (by omega)
  rw[if_neg (by omega)]
theorem qmb {N:Nat} (hN:1000<N): ∀(K i:Nat),i<=n->n<K+i->zP N (n:Int) ((pmF Ue A).li n,0) (qaJ n (lkM A),0) (qaJ n (lkM (A.map fun c=> -c)),0) ((pmF Ue (A.map (flc n))).li n,0) K (i:Int)=some (.inl ())
 |0,i,h1,h2=>by omega
 |K+1,i,h1,h2=>by
  unfold zP;by_cases hi:i<n
  ·have ok:=qhB (Ut n) WA.let_;have p1:=ok.f_ i hi;have e:=qrK hi WA.let_ ok;have:=qmg hn WA WB lA lB WC hi N 0 (by omega) (by omega);rw[show((0:Nat):Int)=0 from rfl]at this
   have e2:w64 (w64 ((n:Int)-1)-(i:Int))=((n-1-i:Nat):Int):=by
    rw[qz (n:=(n:Int)-1) (by omega) (by omega),qz (by omega) (by omega)];omega
   have e3:w64 (w64 ((n:Int)-1)-(((pmF Ue A).f i:Nat):Int))=((n-1-(pmF Ue A).f i:Nat):Int):=by
    rw[qz (n:=(n:Int)-1) (by omega) (by omega),qz (by omega) (by omega)];omega
   dsimp only;rw[if_pos (by omega),e2,Uk (show n-1-i<n by omega),ZB,Uk hi,ZB,e,e3,decide_eq_true rfl,if_neg (by decide),this,ZB,qV (by omega)];exact qmb hN K (i+1) (by omega) (by omega)
  rw[if_neg (by omega)]
end
theorem qoN {N:Nat} {a:List Int} (hl:a.length<=100000) (hN:a.length<N):yJ N a a=some true:=by
 rw[qpM hl hN,decide_eq_true rfl]
theorem qgd {N:Nat} (hN:600000<N) (n:Int) (x:qj4):qan N n x=some true:=by
 obtain⟨A,B,K⟩:=x;unfold qan awk;dsimp only;simp only[ZB,Bool.not_true,ZF,if_false];rw[qji (by omega),ZB];by_cases hA:n<=5/\A.length<=8/\qga n A=0
 ·rw[decide_eq_true hA,if_neg (by decide),qji (by omega),ZB];by_cases hB:n<=5/\B.length<=8/\qga n B=0
  ·rw[decide_eq_true hB,if_neg (by decide)];by_cases k1:K< -3
   ·rw[if_pos k1];rfl
   rw[if_neg k1];by_cases k2:K>3
   ·rw[decide_eq_true k2];rfl
   rw[decide_eq_false k2,ZB,if_neg (by decide)];obtain⟨m,rfl,WA⟩:=qmp hA.2.2;obtain⟨m',em,WB⟩:=qmp hB.2.2
   have:m'=m:=by omega
   subst this
   have n5:m'<=5:=by omega
   have lA:=hA.2.1;have lB:=hB.2.1;have WC:=WA.app WB (by omega)
   have lC:(A++B).length<=16:=by rw[Yq];omega
   have okA:=qhB (Ut m') WA.let_;have okB:=qhB (Ut m') WB.let_
   have eC:(pmF Ue (A++B)).li m'=((pmF Ue A).comp (pmF Ue B)).li m':=SB.li_eq (Ud ..) fun k hk=>by
    rw[Uj _ hk,qqP,qgV B (pmF Ue A)];rfl
   have bx:=qr6 A;have hs0:=qoo n5 WA WB lA lB WC (N:=N) (by omega) N 0 0 (by omega) (by omega) (by omega) (by omega);rw[Nat.sub_zero,qq2 n5 A WA.let_,show((0:Nat):Int)=0 from rfl,Int.zero_add]at hs0;obtain⟨u,u1,u2⟩:=qiE hN WA n5 (by omega);obtain⟨v,v1,v2⟩:=qiE hN WB n5 (by omega);obtain⟨z,z1,z2⟩:=qiE hN WC n5 lC;obtain⟨r,r1,r2,r3⟩:=qoS (N:=N) (by omega) WA lA (k:=K) (by omega) (by omega)
   have q3:(3:Int)^18<1000000000:=by decide
   have pa:=ym (show(1:Int)<=3 by decide) (show A.length+2<=18 by omega);have pb:=ym (show(1:Int)<=3 by decide) (show B.length+2<=18 by omega)
   have qa: ∀i,i<m'-> ∀j,Q9 (vD ((3:Int):Rat) A i j):=fun i hi j=>qgU Tk3 n5 WA.let_ (by omega) hi j
   have qb: ∀i,i<m'-> ∀j,Q9 (vD ((3:Int):Rat) B i j):=fun i hi j=>qgU Tk3 n5 WB.let_ (by omega) hi j
   obtain⟨y,y1,y2⟩:=qqM n5 WA.let_ WB.let_ (by omega) hN u2 v2;have hs2:=qmb n5 WA WB lA lB WC (N:=N) (by omega) N 0 (by omega) (by omega);rw[show((0:Nat):Int)=0 from rfl]at hs2;have wz:w64 0=0:=rfl
   have kb: -24<=K*exS A/\K*exS A<=24:=by
    have:(K*exS A).natAbs<=3*8:=by
     rw[Int.natAbs_mul];exact Nat.mul_le_mul (by omega) (by omega)
    omega
   rw[qng (by omega) WA WB (by omega),ZB,qe8 (by omega) WA,ZB,qe8 (by omega) WB,ZB];dsimp only;rw[qe8 (by omega) WC,ZB,qgo (by omega) WA,ZB,qgo (by omega) WB,ZB,qgo (by omega) WC,ZB,qly (by omega) WA (qcu WA),ZB];dsimp only;simp only[Int.add_zero,wz];rw[if_neg (by decide),Ud,if_neg (by simp),qka (by omega) (by omega) okA,ZB,if_neg (by decide),Ud,if_neg (by simp),qka (by omega) (by omega) okB,ZB,if_neg (by decide),qp7 (by omega) (by omega) okA okB,ZB,eC,qoN (by rw[Ud];omega) (by rw[Ud];omega),ZB,if_neg (by decide),qei (by omega) (by omega),ZB,if_neg (by decide),qei (by omega) (by omega),ZB,if_neg (by decide),qei (by omega) (by omega),ZB,ZB,if_neg (by decide),hs0,ZB];dsimp only;rw[decide_eq_true rfl,if_neg (by decide),u1,ZB,v1,ZB,z1,ZB];dsimp only;simp only[Int.add_zero,wz];rw[if_neg (by decide),qif hN n5 u2 qa,ZB,if_neg (by decide),qif hN n5 v2 qb,ZB,if_neg (by decide),y1,ZB,qqF (by omega) n5 z2 y2,ZB,ZB,if_neg (by decide),qmC (by omega) WA,ZB];dsimp only;rw[qgo (by omega) WA.neg,ZB,qoF (by omega) WA,ZB];dsimp only;rw[qe8 (by omega) WA.flc,ZB,r1,ZB];dsimp only;rw[qly (by omega) r2 (qcu r2),ZB];dsimp only;simp only[Int.add_zero,wz];rw[if_neg (by decide),qei (by omega) (by omega),ZB,if_neg (by decide),Ud,if_neg (by simp),r3,qz (by omega) (by omega),decide_eq_true rfl,ZB,if_neg (by decide),hs2];rfl
  rw[decide_eq_false hB,if_pos (by decide)];rfl
 rw[decide_eq_false hA,if_pos (by decide)];rfl
end Go.Av
end
