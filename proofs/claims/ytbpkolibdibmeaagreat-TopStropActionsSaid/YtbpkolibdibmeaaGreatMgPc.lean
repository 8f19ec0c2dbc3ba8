/-
  The kinds of invariants of words that a move does not change: no difference, in both.
-/
import Derived.Test.YtbpkolibdibmeaaGreatMgPb
import Derived.Test.YtbpkolibdibmeaaGreatMgPa
set_option linter.unusedVariables false
set_option linter.unusedSimpArgs false
set_option linter.unusedSectionVars false
set_option maxRecDepth 100000
noncomputable section
namespace Go.Av
section
open Go.Proofs Go.RowKit
variable [Glob]
section
variable {n:Nat} (hn:n<=12) {N:Nat} (hN:2000<N)
include hn hN
end
theorem qgA:exS []=0:=rfl
theorem Mv.ex {n:Nat} {w v:List Int} (h:Mv n w v) (hw:yQ n w):exS w=exS v:=by
 have pair: ∀x:Int,x≠0->exS [x,-x]=0:=fun x hx=>by
  have hs:qb8 (-x)= -qb8 x:=by unfold qb8;split<;>split<;>omega
  rw[xe,xe,qgA,hs];omega
 cases h with
 |@ins u v x hx=>rw[qaD,qaD,qaD,pair x hx.1];omega
 |@can u v x=>rw[qaD,qaD,qaD,pair x (hw x (by simp)).1];omega
 |@swp u v x y h=>rw[qaD,qaD,qaD,qaD,xe,xe,xe,xe,qgA];omega
 |@trn u v l x y z h=>
  have hx:=(hw x (by simp)).1;have hy:=(hw y (by simp)).1;have hz:=(hw z (by simp)).1;obtain⟨_,_,r⟩:=qhk hx hy hz h;rw[qaD,qaD,qaD,qaD,xe,xe,xe,qgA];rcases r with⟨_,rfl⟩|⟨_,rfl⟩
  ·rw[xe,xe,xe,qgA,(qfz hz hy).1];omega
  rw[xe,xe,xe,qgA,(qfz hx hy).1];omega
structure Alike (n:Nat) (a b:List Int):Prop where
 ex:exS a=exS b
 pm:pmF SB.id a=pmF SB.id b
 lk: ∀i k,lkP a i k=lkP b i k
 mat:qic t2 a=qic t2 b
theorem Mv.alike {n:Nat} {w v:List Int} (h:Mv n w v) (hw:yQ n w):Alike n w v:=⟨h.ex hw,h.pm hw _,h.lk hw,h.mat (qex (by decide)) hw⟩
section
variable {N:Nat} (hN:600000<N) {n:Nat} (n5:n<=5) {a b:List Int} (A:vK n a) (B:vK n b) (la:a.length<=26) (lb:b.length<=26) (L:Alike n a b)
include hN n5 A B la lb L
omit L B n5 lb in
theorem qra (i k:Nat):lkF SB.id (fun _ _=>0) a i k=lkP a i k:=by
 rw[qsR a (fun c hc=>(A.let_ c hc).1)];exact Int.zero_add _
theorem qsE:qdF n (lkF SB.id (fun _ _=>0) a)=qdF n (lkF SB.id (fun _ _=>0) b):=qjH fun i k=>by
 rw[qra hN A la,qra hN B lb,L.lk]
omit L B n5 lb in
theorem p28:(2:Int)^(a.length+2)<1000000000:=by
 have:=qeX (show(1:Int)<=2 by decide) (show a.length+2<=28 by omega)
 have h:(2:Int)^28<1000000000:=by decide
 omega
theorem qp6: ∀(f:Nat->Nat->Int),(∀x∈qdF n f,x.length<=300)/\(qdF n f).length<=300:=fun f=>by
 refine⟨fun x hx=>?_,by rw[qco];omega⟩;obtain⟨i,hi⟩:=List.getElem?_of_mem hx;have l1:=(Yb.1 hi).1;rw[qco]at l1;rw[qdk l1]at hi;have:=Ye hi;rw[<-this,qcx];omega
abbrev kEx:Str:=[101,120,112,111,110,101,110,116]
abbrev kPm:Str:=[112,101,114,109]
abbrev kLk:Str:=[108,105,110,107]
abbrev kBu:Str:=[98,117,114,97,117]
omit L B n5 lb in
theorem qis:qaj N a=some (exS a):=by
 have:=qnK A N 0 0 (Nat.zero_le _) (by omega) (by omega) (by omega);rw[show((0:Nat):Int)=0 from rfl,YR,Int.zero_add]at this;unfold qaj;rw[this];rfl
end
abbrev kFo:Str:=[102,111,114,109]
theorem qvO {p q:Rat} (hp:Q9 p) (hq:Q9 q): ∃r,jZ (Fq p) (Fq q)=some r:=by
 have m1:=qdG hp.1 hq.d;have m2:=qdG hq.1 hp.d;have a1:=hp.1;have a2:=hp.2;have b1:=hq.1;have b2:=hq.2;unfold jZ qbj;dsimp only[Fq];rw[qh0 (by omega) (by omega) (by omega),ZB,qh0 (by omega) (by omega) (by omega),ZB];unfold qaw;dsimp only;rw[if_pos em0,ZB,if_pos em0];generalize p.num*(q.den:Int)=x;generalize q.num*(p.den:Int)=y;by_cases c:x<y
 ·rw[if_pos c];exact⟨_,rfl⟩
 rw[if_neg c];by_cases d:x>y
 ·rw[if_pos d];exact⟨_,rfl⟩
 rw[if_neg d];exact⟨_,rfl⟩
theorem qrS {n:Nat} (h2:n<=5) {r r':List qo} {v v':Nat->Rat} (h:qd1 IsF n r v) (h':qd1 IsF n r' v') (hv: ∀j,Q9 (v j)) (hv': ∀j,Q9 (v' j)): ∀(K i:Nat),i<=n->n<K+i-> ∃o,qE r r' K (i:Int)=some o
 |0,i,hi,hK=>by omega
 |K+1,i,hi,hK=>by
  unfold qE;have hl:=h.1;by_cases c:i<n
  ·obtain⟨x,x1,x2⟩:=h.get c;obtain⟨y,y1,y2⟩:=h'.get c;have x2:x=Fq (v i):=x2;have y2:y=Fq (v' i):=y2;obtain⟨o,e⟩:=qvO (hv i) (hv' i);rw[if_pos (by omega),qw,x1,ZB,qw,y1,ZB,x2,y2,e,ZB]
   cases o with
   |false=>exact⟨_,rfl⟩
   |true=>
    rw[if_neg (by decide),qR (by omega)];exact qrS h2 h h' hv hv' K (i+1) (by omega) (by omega)
  rw[if_neg (by omega)];exact⟨_,rfl⟩
theorem eqr_t {N n:Nat} (hN:10<N) (h2:n<=5) {r r':List qo} {v v':Nat->Rat} (h:qd1 IsF n r v) (h':qd1 IsF n r' v') (hv: ∀j,Q9 (v j)) (hv': ∀j,Q9 (v' j)): ∃o,ky N r r'=some o:=by
 unfold ky zX;obtain⟨o,e⟩:=qrS h2 h h' hv hv' N 0 (by omega) (by omega);rw[show((0:Nat):Int)=0 from rfl]at e;rw[decide_eq_true (by rw[h.1,h'.1]),if_neg (by decide),e]
 cases o with
 |inl u=>exact⟨_,rfl⟩
 |inr u=>exact⟨_,rfl⟩
theorem qrI {N n:Nat} (hN:10<N) (h2:n<=5) {l l':List (List qo)} {M M':Nat->Nat->Rat} (h:MR IsF n l M) (h':MR IsF n l' M') (hM: ∀i,i<n-> ∀j,Q9 (M i j)) (hM': ∀i,i<n-> ∀j,Q9 (M' i j)): ∀(K i:Nat),i<=n->n<K+i-> ∃o,qD N l l' K (i:Int)=some o
 |0,i,hi,hK=>by omega
 |K+1,i,hi,hK=>by
  unfold qD;have hl:=h.1;by_cases c:i<n
  ·obtain⟨x,x1,x2⟩:=h.get c;obtain⟨y,y1,y2⟩:=h'.get c;obtain⟨o,e⟩:=eqr_t hN h2 x2 y2 (hM i c) (hM' i c);rw[if_pos (by omega),qw,x1,ZB,qw,y1,ZB,e,ZB]
   cases o with
   |false=>exact⟨_,rfl⟩
   |true=>
    rw[if_neg (by decide),qR (by omega)];exact qrI hN h2 h h' hM hM' K (i+1) (by omega) (by omega)
  rw[if_neg (by omega)];exact⟨_,rfl⟩
theorem eqm_t {N n:Nat} (hN:10<N) (h2:n<=5) {l l':List (List qo)} {M M':Nat->Nat->Rat} (h:MR IsF n l M) (h':MR IsF n l' M') (hM: ∀i,i<n-> ∀j,Q9 (M i j)) (hM': ∀i,i<n-> ∀j,Q9 (M' i j)): ∃o,qP N l l'=some o:=by
 unfold qP;obtain⟨o,e⟩:=qrI hN h2 h h' hM hM' N 0 (by omega) (by omega);rw[show((0:Nat):Int)=0 from rfl]at e;rw[decide_eq_true (by rw[h.1,h'.1]),if_neg (by decide),e]
 cases o with
 |inl u=>exact⟨_,rfl⟩
 |inr u=>exact⟨_,rfl⟩
structure qmF (N n:Nat) (a b:List Int) (d1 d2 d3 d4 d5:Bool):Prop where
 c1:zk N a b=some d1
 c2:zo N (n:Int) a b=some d2
 c3:zi N (n:Int) a b=some d3
 c4:zm N (n:Int) a b=some d4
 c5:zA N (n:Int) a b=some d5
section
variable {N:Nat} (hN:600000<N) {n:Nat} (n5:n<=5) {a b:List Int} (A:vK n a) (B:vK n b) (la:a.length<=26) (lb:b.length<=26)
include hN n5 A B la lb
theorem qt7 {e:Bool} (E:zK N (n:Int) a b=some e): ∃d1 d2 d3 d4,qmF N n a b d1 d2 d3 d4 (!e):=by
 have p1:=qit A.n2 (N:=N) (by omega) A;have p2:=qit B.n2 (N:=N) (by omega) B;have l1:=qir A.n2 (N:=N) (by omega) A;have l2:=qir B.n2 (N:=N) (by omega) B;obtain⟨m,m1,m2⟩:=qgU Tk2 hN A.n1 n5 A.let_ (p28 hN A la) (by omega);obtain⟨o,o1,o2⟩:=qgU Tk2 hN B.n1 n5 B.let_ (p28 hN B lb) (by omega)
 have ha: ∀i,i<n-> ∀j,Q9 (qic t2 a i j):=fun i hi j=>qnv Tk2 n5 A.let_ (p28 hN A la) hi j
 have hb: ∀i,i<n-> ∀j,Q9 (qic t2 b i j):=fun i hi j=>qnv Tk2 n5 B.let_ (p28 hN B lb) hi j
 obtain⟨r4,e4⟩:=eqm_t (N:=N) (by omega) n5 m2 o2 ha hb
 have rows: ∀(f:Nat->Nat->Int),(∀x∈qdF n f,x.length<=1000)/\(qdF n f).length<=300:=fun f=>by
  refine⟨fun x hx=>?_,by rw[qco];omega⟩;obtain⟨i,hi⟩:=List.getElem?_of_mem hx;have l1:=(Yb.1 hi).1;rw[qco]at l1;rw[qdk l1]at hi;have:=Ye hi;rw[<-this,qcx];omega
 have mr:=rows (lkF SB.id (fun _ _=>0) a)
 have c1: ∃d,zk N a b=some d:=by
  unfold zk;rw[qis hN A la,ZB,qis hN B lb,ZB];exact⟨_,rfl⟩
 have c2: ∃d,zo N (n:Int) a b=some d:=by
  unfold zo;rw[p1,ZB,p2,ZB,qec (by rw[Ug];omega) (by rw[Ug];omega),ZB];exact⟨_,rfl⟩
 have c3: ∃d,zi N (n:Int) a b=some d:=by
  unfold zi;rw[l1,ZB,l2,ZB,qno (by omega) mr.1 mr.2,ZB];exact⟨_,rfl⟩
 have c4: ∃d,zm N (n:Int) a b=some d:=by
  unfold zm;rw[F_s,ZB,m1,ZB,ZB,o1,ZB,e4,ZB];exact⟨_,rfl⟩
 obtain⟨d1,c1⟩:=c1;obtain⟨d2,c2⟩:=c2;obtain⟨d3,c3⟩:=c3;obtain⟨d4,c4⟩:=c4;refine⟨d1,d2,d3,d4,c1,c2,c3,c4,?_⟩;unfold zA;rw[E,ZB]
theorem qum (L:Alike n a b) (E:zK N (n:Int) a b=some true):qmF N n a b false false false false false:=by
 have p1:=qit A.n2 (N:=N) (by omega) A;have p2:=qit B.n2 (N:=N) (by omega) B;have l1:=qir A.n2 (N:=N) (by omega) A;have l2:=qir B.n2 (N:=N) (by omega) B;obtain⟨m,m1,m2⟩:=qgU Tk2 hN A.n1 n5 A.let_ (p28 hN A la) (by omega);obtain⟨o,o1,o2⟩:=qgU Tk2 hN B.n1 n5 B.let_ (p28 hN B lb) (by omega)
 have hb: ∀i,i<n-> ∀j,Q9 (qic t2 a i j):=fun i hi j=>qnv Tk2 n5 A.let_ (p28 hN A la) hi j
 rw[<-L.mat]at o2;have mr:=qp6 hN n5 A B la lb L (lkF SB.id (fun _ _=>0) b);refine⟨?_,?_,?_,?_,?_⟩
 ·unfold zk;rw[qis hN A la,ZB,qis hN B lb,ZB,L.ex,decide_eq_true rfl];rfl
 ·unfold zo;rw[p1,ZB,p2,ZB,L.pm,qec (by rw[Ug];omega) (by rw[Ug];omega),ZB,decide_eq_true rfl];rfl
 ·unfold zi;rw[l1,ZB,l2,ZB,qsE hN n5 A B la lb L,qrZ (by omega) mr.1 mr.2,ZB];rfl
 ·unfold zm;rw[F_s,ZB,m1,ZB,ZB,o1,ZB,qvs (by omega) n5 m2 o2 hb,ZB];rfl
 unfold zA;rw[E,ZB];rfl
end
end
section
theorem qbV {α β γ:Type} (o:Option α) (p:Option β) (f:α->β->Option γ):(o.bind fun a=>p.bind fun b=>f a b)=p.bind fun b=>o.bind fun a=>f a b:=by
 cases o<;>cases p<;>rfl
theorem qdt {α:Type} [DecidableEq α] (a b:α):decide (a=b)=decide (b=a):=by rw[decide_eq_decide];exact⟨Eq.symm,Eq.symm⟩
theorem qqB (a b:ko):((qaw a b).bind fun r=>some (decide (r=0)))=(qaw b a).bind fun r=>some (decide (r=0)):=by
 unfold qaw;cases h:a.w.isEmpty<;>cases g:b.w.isEmpty<;>simp only[ZF,if_false,if_true,ZB,Option.bind_none,reduceIte]
 by_cases c:a.s<b.s
 ·rw[if_pos c,if_neg (by omega),if_pos c];rfl
 rw[if_neg c];by_cases d:a.s>b.s
 ·rw[if_pos d,if_pos d];rfl
 rw[if_neg d,if_neg (by omega),if_neg (by omega)]
theorem qsp (a b:qo):jZ a b=jZ b a:=by
 unfold jZ qbj;simp only[Option.bind_assoc,ZB];rw[qbV];congr 1;funext x;congr 1;funext y;exact qqB y x
theorem qmx (a b:List qo) (h:a.length=b.length): ∀(K:Nat) (i:Int),qE a b K i=qE b a K i
 |0,i=>rfl
 |K+1,i=>by
  unfold qE;rw[h,qbV];simp only[qmx a b h K,qsp]
theorem quj (N:Nat) (a b:List qo):ky N a b=ky N b a:=by
 unfold ky zX;rw[qdt];by_cases h:a.length=b.length
 ·rw[qmx a b h]
 rw[decide_eq_false (by omega),if_pos (by decide),if_pos (by decide)]
theorem qnj (N:Nat) (a b:List (List qo)) (h:a.length=b.length): ∀(K:Nat) (i:Int),qD N a b K i=qD N b a K i
 |0,i=>rfl
 |K+1,i=>by
  unfold qD;rw[h,qbV];simp only[qnj N a b h K,quj]
theorem qtX (N:Nat) (a b:List (List qo)):qP N a b=qP N b a:=by
 unfold qP;rw[qdt];by_cases h:a.length=b.length
 ·rw[qnj N a b h]
 rw[decide_eq_false (by omega),if_pos (by decide),if_pos (by decide)]
theorem qmS (a b:List Int) (h:a.length=b.length): ∀(K:Nat) (i:Int),kr a b K i=kr b a K i
 |0,i=>rfl
 |K+1,i=>by
  unfold kr;rw[h,qbV];simp only[qmS a b h K];congr 1;congr 1;funext x;congr 1;funext y;rw[qdt]
theorem qpa (N:Nat) (a b:List Int):zG N a b=zG N b a:=by
 unfold zG;rw[qdt];by_cases h:a.length=b.length
 ·rw[qmS a b h]
 rw[decide_eq_false (by omega),if_pos (by decide),if_pos (by decide)]
theorem qmV (N:Nat) (a b:List (List Int)) (h:a.length=b.length): ∀(K:Nat) (i:Int),qF N a b K i=qF N b a K i
 |0,i=>rfl
 |K+1,i=>by
  unfold qF;rw[h,qbV];simp only[qmV N a b h K];congr 1;congr 1;funext x;congr 1;funext y;rw[qpa]
theorem qts (N:Nat) (a b:List (List Int)):qN N a b=qN N b a:=by
 unfold qN;rw[qdt];by_cases h:a.length=b.length
 ·rw[qmV N a b h]
 rw[decide_eq_false (by omega),if_pos (by decide),if_pos (by decide)]
variable [Glob]
theorem qmF.sym {N n:Nat} {a b:List Int} {d1 d2 d3 d4 d5 e:Bool} (F:qmF N n a b d1 d2 d3 d4 d5) (E:zK N (n:Int) a b=some e) (G:zK N (n:Int) b a=some e):qmF N n b a d1 d2 d3 d4 d5:=by
 refine⟨?_,?_,?_,?_,?_⟩
 ·have h:=F.c1;unfold zk at h⊢;rw[qbV]at h;rw[<-h];congr 1;funext x;congr 1;funext y;rw[qdt]
 ·have h:=F.c2;unfold zo at h⊢;rw[qbV]at h;rw[<-h];congr 1;funext x;congr 1;funext y;rw[qpa]
 ·have h:=F.c3;unfold zi at h⊢;rw[qbV]at h;rw[<-h];congr 1;funext x;congr 1;funext y;rw[qts]
 ·have h:=F.c4;unfold zm at h⊢;rw[F_s]at h⊢;simp only[ZB]at h⊢;rw[qbV]at h;rw[<-h];congr 1;funext x;congr 1;funext y;rw[qtX]
 have h:=F.c5;unfold zA at h⊢;rw[E]at h;rw[G];exact h
end
inductive qem (n:Nat):List Int->qx->List Int->Prop
 |ins {u v:List Int} {x:Int} (hx:x≠0/\ -(n:Int)<x/\x<n):qem n (u++v) ⟨qpU,(u.length:Int),x⟩ (u++[x,-x]++v)
 |can {u v:List Int} {x:Int}:qem n (u++[x,-x]++v) ⟨mCan,(u.length:Int),0⟩ (u++v)
 |swp {u v:List Int} {x y:Int} (h:((((x.natAbs:Int)-(y.natAbs:Int)).natAbs:Nat):Int)>=2):qem n (u++[x,y]++v) ⟨qqM,(u.length:Int),0⟩ (u++[y,x]++v)
 |trn {u v l:List Int} {x y z:Int} (h:qcG x y z=some l):qem n (u++[x,y,z]++v) ⟨mTrn,(u.length:Int),0⟩ (u++l++v)
def MvQ (n:Nat) (w:List Int) (m:qx) (r:List Int×Int):Prop:=r.2≠0\/qem n w m r.1
theorem quG (at_:Int) (L k:Nat) (hL:L<=100000) (hk:k<=10):(at_<0/\True)\/(¬at_<0/\at_>w64 ((L:Int)-k))\/(¬at_<0/\ ¬at_>w64 ((L:Int)-k)/\ ∃i:Nat,at_=i/\i+k<=L):=by
 rw[qz (by omega) (by omega)];by_cases a:at_<0
 ·exact .inl ⟨a,trivial⟩
 by_cases b:at_>(L:Int)-k
 ·exact .inr (.inl ⟨a,b⟩)
 exact .inr (.inr ⟨a,b,at_.toNat,by omega,by omega⟩)
section
variable {N:Nat} (hN:2000<N) {n:Nat} (h1:1<=n) (h2:n<=12) {w:List Int} (hw:w.length<=20000) (hv:yQ n w)
include hN h1 h2 hw hv
theorem qtH (m:qx): ∃r,qJ N (n:Int) w m=some r/\MvQ n w m r:=by
 obtain⟨K,A,L⟩:=m
 have bf: ∀a b c d:Int,qO N [a,b,c,d]=some (qeN [a,b,c,d]):=fun a b c d=>qan (by simp) (by simp;omega)
 have bad: ∀e:Int,e≠0->MvQ n w ⟨K,A,L⟩ ([],e):=fun e h=> .inl h
 unfold qJ jV;simp only[ZB,jG,bf];have pre: ∀(k:Nat) (F:Int->Option (List Int×Int)),k<=10->(∀e:Int,e≠0->F e=some ([],e))->(∀i:Nat,A=i->L=0->i+k<=w.length-> ∃r,F 0=some r/\MvQ n w ⟨K,A,L⟩ r)->
  ∃r,(((if A<0 then some ((if false=true then(13:Int)else 0),(if(!decide (L=0))=true then(1:Int)else 0),(if false=true then(3:Int)else 0),(if true=true then(3:Int)else 0),qeN [(if false=true then(13:Int)else 0),(if(!decide (L=0))=true then(1:Int)else 0),(if false=true then(3:Int)else 0),(if true=true then(3:Int)else 0)])
   else some ((if false=true then(13:Int)else 0),(if(!decide (L=0))=true then(1:Int)else 0),(if false=true then(3:Int)else 0),(if decide (A>w64 ((w.length:Int)-k))=true then(3:Int)else 0),qeN [(if false=true then(13:Int)else 0),(if(!decide (L=0))=true then(1:Int)else 0),(if false=true then(3:Int)else 0),(if decide (A>w64 ((w.length:Int)-k))=true then(3:Int)else 0)]):Option (Int×Int×Int×Int×Int))).bind fun x=>F x.2.2.2.2)=some r/\MvQ n w ⟨K,A,L⟩ r:=by
  intro k F hk F1 F2;have z:(if false=true then(13:Int)else 0)=0:=rfl;have z3:(if false=true then(3:Int)else 0)=0:=rfl;rw[z,z3];by_cases hL:L=0
  ·have d:(if(!decide (L=0))=true then(1:Int)else 0)=0:=by rw[hL];rfl
   rw[d];rcases quG A w.length k (by omega) hk with⟨a,_⟩|⟨a,b⟩|⟨a,b,i,e,hi⟩
   ·rw[if_pos a,ZB];exact⟨_,F1 3 (by decide),bad 3 (by decide)⟩
   ·rw[if_neg a,decide_eq_true b,ZB];exact⟨_,F1 3 (by decide),bad 3 (by decide)⟩
   rw[if_neg a,decide_eq_false b,ZB];exact F2 i e hL hi
  have d:(if(!decide (L=0))=true then(1:Int)else 0)=1:=by rw[decide_eq_false hL];rfl
  rw[d];by_cases a:A<0
  ·rw[if_pos a,ZB];exact⟨_,F1 1 (by decide),bad 1 (by decide)⟩
  rw[if_neg a,ZB]
  have:qeN [0,1,0,(if decide (A>w64 ((w.length:Int)-k))=true then(3:Int)else 0)]=1:=by rw[qdK,qgh (by decide)]
  dsimp only;rw[this];exact⟨_,F1 1 (by decide),bad 1 (by decide)⟩
 have err: ∀{e:Int} {a b:Option (List Int×Int)},e≠0->a=some ([],e)->(if(!decide (e=0))=true then a else b)=some ([],e):=fun {e a b} h k=>by rw[decide_eq_false h];exact k
 by_cases k1:(K==([105,110,115,101,114,116]:Str))=true
 ·rw[if_pos k1,qeh (by omega) (by omega)];simp only[ZB];have z:(if false=true then(13:Int)else 0)=0:=rfl;have z3:(if false=true then(1:Int)else 0)=0:=rfl;rw[z,z3]
  cases hL:qaH (n:Int) L with
  |false=>
   by_cases a:A<0
   ·rw[if_pos a,ZB];exact⟨([],3),rfl,bad 3 (by decide)⟩
   rw[if_neg a,ZB];exact⟨([],3),rfl,bad 3 (by decide)⟩
  |true=>
   rcases quG A w.length 0 (by omega) (by omega)with⟨a,_⟩|⟨a,b⟩|⟨a,b,i,rfl,hi⟩
   ·rw[if_pos a,ZB];exact⟨([],3),rfl,bad 3 (by decide)⟩
   ·have b:decide (A>w64 ((w.length:Int)-0))=true:=decide_eq_true b;rw[if_neg a,b,ZB];exact⟨([],3),rfl,bad 3 (by decide)⟩
   have b:decide ((i:Int)>w64 ((w.length:Int)-0))=false:=decide_eq_false b
   have z:w64 ((i:Int)+0)=(i:Int):=by rw[qz (by omega) (by omega)];omega
   have hl:=yS.1 hL
   have wL:w64 (0-L)= -L:=by rw[qz (by omega) (by omega)];omega
   have r2:qcN w (i:Int) (i:Int) L (-L)=some (w.take i++[L,-L]++w.drop i):=by
    unfold qcN;rw[if_pos (.inl rfl),qbC (Nat.le_refl _) (by omega) (by omega)]
   rw[if_neg a,b,ZB];dsimp only;rw[if_neg (by decide),z,qjI (Nat.le_refl _) (by omega),ZB];unfold qaq;rw[ZB,if_neg (by decide),vD (by omega),ZB];unfold yz;rw[ZB,wL,r2,ZB];refine⟨_,rfl,.inr ?_⟩;have q:=qem.ins (u:=w.take i) (v:=w.drop i) (n:=n) hl;rw[List.take_append_drop,Ym,Nat.min_eq_left (by omega)]at q;rw[beq_iff_eq.1 k1];exact q
 rw[if_neg k1];by_cases k2:(K==([99,97,110,99,101,108]:Str))=true
 ·rw[if_pos k2];refine pre 2 (fun e=>if(!decide (e=0))=true then some ([],e)else _) (by omega) (fun e he=>err he rfl) (fun i hA hL hi=>?_);subst hA;obtain⟨x,hx⟩: ∃x,w[i]? =some x:=⟨_,Ya (by omega)⟩;obtain⟨y,hy⟩: ∃x,w[i+1]? =some x:=⟨_,Ya (by omega)⟩;have by_:=hv y (Yn hy)
  have z:w64 ((i:Int)+2)=((i+2:Nat):Int):=by rw[qz (by omega) (by omega)];rfl
  have k3:xZ [x,y]=some (decide (x=w64 (0-y))):=rfl
  have wy:w64 (0-y)= -y:=by rw[qz (by omega) (by omega)];omega
  rw[if_neg (by decide),z,qfM hx hy,ZB,k3,ZB,wy];by_cases e:x= -y
  ·have r0:qha w (i:Int) ((i+2:Nat):Int)=some (w.take i++[]++w.drop (i+2)):=by
    unfold qha;rw[if_pos (by omega),qbC (by omega) (by omega) (by omega)]
   rw[decide_eq_true e,if_neg (by decide),vD (by omega),ZB];unfold yw;rw[ZB,r0,ZB];refine⟨_,rfl,.inr ?_⟩;have q:=qem.can (n:=n) (u:=w.take i) (v:=w.drop (i+2)) (x:=x);rw[show-x=y by omega,<-quR hx hy,Ym,Nat.min_eq_left (by omega)]at q;rw[YQ,beq_iff_eq.1 k2,hL];exact q
  rw[decide_eq_false e,if_pos (by decide)];exact⟨_,rfl,bad 18 (by decide)⟩
 rw[if_neg k2];by_cases k3:(K==([115,119,97,112]:Str))=true
 ·rw[if_pos k3];refine pre 2 (fun e=>if(!decide (e=0))=true then some ([],e)else _) (by omega) (fun e he=>err he rfl) (fun i hA hL hi=>?_);subst hA hL;obtain⟨x,hx⟩: ∃x,w[i]? =some x:=⟨_,Ya (by omega)⟩;obtain⟨y,hy⟩: ∃x,w[i+1]? =some x:=⟨_,Ya (by omega)⟩;have bx:=hv x (Yn hx);have by_:=hv y (Yn hy)
  have z:w64 ((i:Int)+2)=((i+2:Nat):Int):=by rw[qz (by omega) (by omega)];rfl
  have k0:idx [x,y] 0=some x:=rfl;have k1:idx [x,y] 1=some y:=rfl;have e0:w64 (((x.natAbs:Nat):Int)-((y.natAbs:Nat):Int))=(x.natAbs:Int)-(y.natAbs:Int):=qz (by omega) (by omega)
  have k5:vC [x,y]=some (decide (((((x.natAbs:Int)-(y.natAbs:Int)).natAbs:Nat):Int)>=2)):=by
   unfold vC;simp only[k0,k1,ZB,zW (show-1000<x/\x<1000 by omega),zW (show-1000<y/\y<1000 by omega),e0,zW (show-1000<(x.natAbs:Int)-(y.natAbs:Int)/\(x.natAbs:Int)-(y.natAbs:Int)<1000 by omega)]
  have k6:yA [x,y] K (i:Int) 0=some (y,x):=rfl;rw[if_neg (by decide),z,qfM hx hy,ZB,k5,ZB];by_cases e:((((x.natAbs:Int)-(y.natAbs:Int)).natAbs:Nat):Int)>=2
  ·have r2:qcN w (i:Int) ((i+2:Nat):Int) y x=some (w.take i++[y,x]++w.drop (i+2)):=by
    unfold qcN;rw[if_pos (.inr (by omega)),qbC (by omega) (by omega) (by omega)]
   rw[decide_eq_true e,if_neg (by decide),vD (by omega),ZB,k6,ZB];dsimp only;rw[r2,ZB];refine⟨_,rfl,.inr ?_⟩;have q:=qem.swp (n:=n) (u:=w.take i) (v:=w.drop (i+2)) (x:=x) (y:=y) e;rw[<-quR hx hy,Ym,Nat.min_eq_left (by omega)]at q;rw[beq_iff_eq.1 k3];exact q
  rw[decide_eq_false e,if_pos (by decide)];exact⟨_,rfl,bad 18 (by decide)⟩
 rw[if_neg k3];by_cases k4:(K==([116,117,114,110]:Str))=true
 ·have hK:K=[116,117,114,110]:=beq_iff_eq.1 k4;rw[if_pos k4];refine pre 3 (fun e=>if(!decide (e=0))=true then some ([],e)else _) (by omega) (fun e he=>err he rfl) (fun i hA hL hi=>?_);subst hA hL hK;obtain⟨x,hx⟩: ∃x,w[i]? =some x:=⟨_,Ya (by omega)⟩;obtain⟨y,hy⟩: ∃x,w[i+1]? =some x:=⟨_,Ya (by omega)⟩;obtain⟨v,hz⟩: ∃x,w[i+2]? =some x:=⟨_,Ya (by omega)⟩;have bx:=hv x (Yn hx);have by_:=hv y (Yn hy);have bz:=hv v (Yn hz)
  have z:w64 ((i:Int)+3)=((i+3:Nat):Int):=by rw[qz (by omega) (by omega)];rfl
  rw[if_neg (by decide),z,qlE hx hy hz,ZB];rcases qmQ bx by_ bz (by omega) (i:Int)with e|⟨l,t1,t2,t3,t4⟩
  ·rw[e,ZB,if_pos (by decide)];exact⟨_,rfl,bad 18 (by decide)⟩
  have r2:qgw w (i:Int) ((i+3:Nat):Int) l=some (w.take i++l++w.drop (i+3)):=by
   unfold qgw;rw[if_pos ⟨by omega,by rw[t2];omega⟩,qbC (by omega) (by omega) (by omega)]
  rw[t3,ZB,if_neg (by decide),vD (by omega),ZB,t4,ZB,r2,ZB];refine⟨_,rfl,.inr ?_⟩;have q:=qem.trn (n:=n) (u:=w.take i) (v:=w.drop (i+3)) t1;rw[<-splW3 hx hy hz,Ym,Nat.min_eq_left (by omega)]at q;exact q
 rw[if_neg k4];refine⟨([],13),?_,bad 13 (by decide)⟩;by_cases a:A<0
 ·rw[if_pos a,ZB];rfl
 rw[if_neg a,ZB];rfl
theorem qqu {m:qx} {v:List Int} (h:qJ N (n:Int) w m=some (v,0)):qem n w m v:=by
 obtain⟨r,r1,r2⟩:=qtH hN h1 h2 hw hv m;rw[h]at r1;obtain rfl:=Ye r1
 exact r2.resolve_left fun g=>g rfl
end
theorem sg5_c (c:Int):sg5 c= -1\/sg5 c=1:=by unfold sg5;split<;>omega
theorem quN {c:Int} {k:Nat} (h:0<k):sg5 (sg5 c*(k:Int))=sg5 c/\(sg5 c*(k:Int)).natAbs=k:=by
 rcases sg5_c c with e|e<;>rw[e]
 ·refine⟨?_,by omega⟩;unfold sg5;rw[if_pos (by omega)]
 refine⟨?_,by omega⟩;unfold sg5;rw[if_neg (by omega)]
theorem qke {c d:Int} (h:sg5 c=sg5 d) (g:c.natAbs=d.natAbs):sg5 c*(d.natAbs:Int)=d:=by
 rw[h];unfold sg5;split<;>omega
theorem qp3 {x y z:Int} {l:List Int} (hx:x≠0) (hy:y≠0) (hz:z≠0) (h:qcG x y z=some l): ∃a b c,l=[a,b,c]/\qcG a b c=some [x,y,z]:=by
 unfold qcG at h;by_cases c1:x.natAbs=z.natAbs/\(x.natAbs=y.natAbs+1\/y.natAbs=x.natAbs+1)
 ·rw[if_pos c1]at h;obtain⟨e,n⟩:=c1;by_cases d1:sg5 x=sg5 y
  ·rw[if_pos d1]at h;refine⟨_,_,_,(Ye h).symm,?_⟩;obtain⟨m1,m2⟩:=quN (c:=z) (k:=y.natAbs) (by omega);unfold qcG;rw[m1,m2,if_pos ⟨rfl,by omega⟩];by_cases d2:sg5 z=sg5 x
   ·rw[if_pos d2,<-d1];have e1:sg5 x*(x.natAbs:Int)=x:=qke rfl rfl
    have e2:sg5 z*(y.natAbs:Int)=y:=by rw[d2,d1];exact qke rfl rfl
    have e3:x=z:=by
     have:=qke d2.symm e;have:=qke (c:=z) (d:=z) rfl rfl;rw[d2]at this;rw[e]at e1;omega
    rw[e1,e2,<-e3]
   rw[if_neg d2,if_pos d1]
   have e3:sg5 z*(x.natAbs:Int)=z:=by rw[e];exact qke rfl rfl
   rw[e3]
  rw[if_neg d1]at h;by_cases d2:sg5 y=sg5 z
  ·rw[if_pos d2]at h;refine⟨_,_,_,(Ye h).symm,?_⟩;obtain⟨m1,m2⟩:=quN (c:=x) (k:=y.natAbs) (by omega);unfold qcG;rw[m1,m2,if_pos ⟨rfl,by omega⟩,if_pos d2]
   have e3:sg5 x*(z.natAbs:Int)=x:=by rw[<-e];exact qke rfl rfl
   rw[e3]
  rw[if_neg d2]at h;cases h
 rw[if_neg c1]at h;cases h
def bck6 (w:List Int) (m:qx):Option (Str×Int):=
 if(m.Kind==[105,110,115,101,114,116])=true then some ([99,97,110,99,101,108],0)
 else if(m.Kind==[99,97,110,99,101,108])=true then(idx w m.At).bind fun x16=>some ([105,110,115,101,114,116],x16)
 else some (m.Kind,m.Letter)
theorem qem.back {n:Nat} {w v:List Int} {m:qx} (h:qem n w m v) (hw:yQ n w): ∃p,bck6 w m=some p/\qem n v ⟨p.1,m.At,p.2⟩ w:=by
 cases h with
 |ins hx=>exact⟨_,rfl,.can⟩
 |@can u r x=>
  refine⟨(qpU,x),?_,.ins (hw x (by simp))⟩;show(idx (u++[x,-x]++r) (u.length:Int)).bind _=_;rw[qw,show(u++[x,-x]++r)[u.length]? =some x from qck [x,-x] 0 (by simp)];rfl
 |@swp u r x y h=>
  refine⟨_,rfl,?_⟩;exact .swp (by omega)
 |@trn u r l x y z h=>
  obtain⟨a,b,c,rfl,g⟩:=qp3 (hw x (by simp)).1 (hw y (by simp)).1 (hw z (by simp)).1 h;exact⟨_,rfl,.trn g⟩
theorem qem.mv {n:Nat} {w v:List Int} {m:qx} (h:qem n w m v):Mv n w v:=by
 cases h with
 |ins hx=>exact .ins hx
 |can=>exact .can
 |swp h=>exact .swp (by unfold qlK;rw[Bool.or_eq_true,Nat.ble_eq,Nat.ble_eq];omega)
 |trn h=>exact .trn h
theorem qoJ {x y z:Int} {l:List Int} (h:qcG x y z=some l):(sg5 x=sg5 y\/sg5 y=sg5 z)/\l.length=3:=by
 unfold qcG at h;split at h
 ·split at h
  ·rename_i d;rw[<-Ye h];exact⟨.inl d,rfl⟩
  split at h
  ·rename_i d;rw[<-Ye h];exact⟨.inr d,rfl⟩
  cases h
 cases h
theorem qem.len {n:Nat} {w v:List Int} {m:qx} (h:qem n w m v):v.length<=w.length+2:=by
 cases h with
 |ins hx=>simp;omega
 |can=>simp;omega
 |swp h=>simp
 |trn h=>simp[(qoJ h).2];omega
section
variable {N:Nat} (hN:2000<N) {n:Nat} (h1:1<=n) (h2:n<=12)
include hN h1 h2
theorem qem.apply {w v:List Int} {m:qx} (h:qem n w m v) (hw:w.length<=20000) (hv:yQ n w):qJ N (n:Int) w m=some (v,0):=by
 cases h with
 |ins hx=>exact qhN hN h1 h2 hw hx
 |@can u r x=>
  have:=hv x (by simp);exact qkb hN h1 h2 hw (by omega)
 |@swp u r x y h=>
  have:=hv x (by simp);have:=hv y (by simp);exact qkk hN h1 h2 hw (by omega) (by omega) h
 |@trn u r l x y z h=>
  exact qj6 hN h1 h2 hw (hv x (by simp)) (hv y (by simp)) (hv z (by simp)) h (qoJ h).1
end
theorem qoZ {w:List Int} (hl:w.length<=2000000000): ∀(K i:Nat) (l:List Int),i<=w.length->i<K->l.length+i=w.length->vT w K l ((i:Int)-1)=some (l++((w.take i).reverse.map fun x=>w64 (0-x)))
 |0,i,l,h,hK,hs=>by omega
 |K+1,i,l,h,hK,hs=>by
  unfold vT
  cases i with
  |zero=>rw[if_neg (by omega),List.take_zero];simp
  |succ i=>
   have hi:i<w.length:=by omega
   rw[show((i+1:Nat):Int)-1=(i:Int)by omega,if_pos (by omega),qw,Ya hi,ZB,qa0 (by simp only[Yr,List.length_nil];omega) (by simp only[Yr,List.length_nil];omega),ZB,show w64 ((i:Int)-1)=(i:Int)-1 from qz (by omega) (by omega),
    qoZ hl K i _ (by omega) (by omega) (by simp;omega),List.take_succ_eq_append_getElem hi,List.reverse_append,List.map_append,Yz]
   rfl
theorem qgF {N:Nat} {w:List Int} (hN:w.length+2<N) (hl:w.length<=2000000000):qaK N w=some ((w.map fun x=>w64 (0-x)).reverse):=by
 unfold qaK;rw[qz (by omega) (by omega),qoZ hl N w.length [] (by omega) (by omega) (by simp),List.take_length];simp
theorem qgX {a b:List Int} (ha:a.length<=2000000000) (hb:b.length<=2000000000):jJ a b=some (a++b):=by
 unfold jJ;rw[qa0 (by simp;omega) (by simp;omega),ZB,qa0 (by simp;omega) (by simp;omega),ZB,List.nil_append]
theorem qmL {w:List Int} (h: ∀y∈w,-1000<y/\y<1000):(w.map fun x=>w64 (0-x)).reverse=jr w:=by
 unfold jr;congr 1;refine List.map_congr_left (fun y hy=>?_);have:=h y hy;rw[qz (by omega) (by omega)];omega
theorem qd4 {w:List Int} (hl:w.length<=2000000000) (hw: ∀y∈w,-1000<y/\y<1000): ∀(K i:Nat) (o:Option (List Int)),hof o=(fact [] (w.take i)).reverse->i<=w.length->w.length<K+i-> ∃r,jS w K o (i:Int)=some r/\hof r=fred w
 |0,i,o,ho,h,hK=>by omega
 |K+1,i,o,ho,h,hK=>by
  unfold jS;by_cases hi:i<w.length
  ·have hx:w[i]? =some w[i]:=Ya hi
   have hs:fact [] (w.take (i+1))=qbn (fact [] (w.take i)) w[i]:=by
    rw[List.take_succ_eq_append_getElem hi,qav,qde]
   have hb:=hw w[i] (List.getElem_mem hi);have hlen:=ql2 [] (w.take i);simp only[List.length_nil,Nat.zero_add,Ym]at hlen;rw[if_pos (by omega),qw,hx];generalize w[i]=x at*
   have wx:w64 (0-x)= -x:=by rw[qz (by omega) (by omega)];omega
   generalize fact [] (w.take i)=s at*
   cases o with
   |none=>
    have:s=[]:=by
     have:s.reverse=[]:=ho.symm;simpa using this
    subst this;simp only[ZB];rw[if_neg (by decide)];simp only[ZB,ZF,if_false];rw[qR (by omega)];exact qd4 hl hw K (i+1) (some [x]) (by rw[hs];rfl) (by omega) (by omega)
   |some l=>
    have hls:l=s.reverse:=ho;subst hls;simp only[ZB]
    cases s with
    |nil=>
     rw[if_neg (by simp)];simp only[ZB,ZF,if_false];rw[qa0 (by simp) (by simp)];simp only[ZB];rw[qR (by omega)];exact qd4 hl hw K (i+1) _ (by rw[hs];rfl) (by omega) (by omega)
    |cons y t=>
     simp only[Yr]at hlen
     have e1:w64 (((y::t).reverse.length:Int)-1)=((t.length:Nat):Int):=by
      rw[List.length_reverse,Yr,qz (by omega) (by omega)];omega
     have hy:(y::t).reverse[t.length]? =some y:=by simp
     rw[if_pos (by rw[List.length_reverse,Yr];omega),e1,qw,hy];simp only[ZB,wx];by_cases hc:y= -x
     ·rw[decide_eq_true hc];simp only[if_true]
      have hct:cut (y::t).reverse 0 (t.length:Int)=some t.reverse:=by
       rw[qfd (by simp),List.reverse_cons,List.take_left' (by simp)]
      simp only[e1,hct,ZB];rw[qR (by omega)];exact qd4 hl hw K (i+1) _ (by rw[hs,qbT t hc];rfl) (by omega) (by omega)
     rw[decide_eq_false hc];simp only[ZF,if_false];rw[qa0 (by simp;omega) (by simp;omega)];simp only[ZB];rw[qR (by omega)];exact qd4 hl hw K (i+1) _ (by rw[hs,qb1 t hc];simp[hof]) (by omega) (by omega)
  rw[if_neg (by omega)];refine⟨o,rfl,?_⟩;rw[ho,List.take_of_length_le (by omega)];rfl
theorem qiH {N:Nat} {w:List Int} (hN:w.length<N) (hl:w.length<=2000000000) (hw: ∀y∈w,-1000<y/\y<1000):xD N w=some (fred w):=by
 unfold xD;obtain⟨r,h1,h2⟩:=qd4 hl hw N 0 none (by rfl) (by omega) (by omega);rw[show(0:Int)=((0:Nat):Int)from rfl,h1,ZB,h2]
def qfP (n:Nat) (w:List Int):Prop:= ∀y∈w,y≠0/\ -(n:Int)<=y/\y<=n
theorem ginv {n:Nat} {w:List Int} (h:qfP n w):qfP n (jr w):=fun y hy=>by
 simp only[jr,List.mem_reverse,List.mem_map]at hy;obtain⟨z,hz,rfl⟩:=hy;have:=h z hz;omega
theorem gbnd {n:Nat} (hn:n<=12) {w:List Int} (h:qfP n w): ∀y∈w,-1000<y/\y<1000:=fun y hy=>by
 have:=h y hy;omega
theorem qg9 {n:Nat} {im:List (List Int)} (h: ∀w∈im,qfP n w) (k:Nat):qfP n (im.getD k []):=by
 rw[Yy]
 cases e:im[k]? with
 |none=>intro y hy;simp at hy
 |some w=>exact h w (Yn e)
theorem lgetD {M:Nat} {im:List (List Int)} (h: ∀w∈im,w.length<=M) (k:Nat):(im.getD k []).length<=M:=by
 rw[Yy]
 cases e:im[k]? with
 |none=>simp
 |some w=>exact h w (Yn e)
theorem qmq {N:Nat} (hN:100000<N) {a b:List (List Int)} (ha: ∀x∈a,x.length<=100000) (hl:a.length<=300) (hab:a.length=b.length): ∀(K i:Nat),i<=a.length->a.length<K+i->jR N a b K (i:Int)=some (if a.drop i=b.drop i then .inl ()else .inr false)
 |0,i,h,hK=>by omega
 |K+1,i,h,hK=>by
  unfold jR;by_cases hi:i<a.length
  ·have hb:i<b.length:=by omega
   have hx:=ha _ (List.getElem_mem hi);rw[if_pos (by omega),qw,Ya hi,qw,Ya hb,ZB,ZB,qr2 (by omega) (by omega),ZB,YG hi,YG hb];by_cases c:a[i]=b[i]
   ·rw[decide_eq_true c,if_neg (by decide),qR (by omega),qmq hN ha hl hab K (i+1) (by omega) (by omega),c];simp only[List.cons.injEq,true_and]
   rw[decide_eq_false c,if_pos (by decide),if_neg (fun h=>c (List.cons.inj h).1)]
  rw[if_neg (by omega),List.drop_eq_nil_of_le (by omega),List.drop_eq_nil_of_le (by omega),if_pos rfl]
theorem qqv {N:Nat} (hN:100000<N) {a b:List (List Int)} (ha: ∀x∈a,x.length<=100000) (hl:a.length<=300):xC N a b=some (decide (a=b)):=by
 unfold xC;by_cases c:(a.length:Int)=(b.length:Int)
 ·have:=qmq hN ha hl (b:=b) (by omega) N 0 (by omega) (by omega);rw[show((0:Nat):Int)=0 from rfl,YR,YR]at this;rw[decide_eq_true c,if_neg (by decide),this];by_cases e:a=b
  ·rw[if_pos e,decide_eq_true e];rfl
  rw[if_neg e,decide_eq_false e];rfl
 rw[decide_eq_false c,if_pos (by decide),decide_eq_false (fun e=>c (by rw[e]))]
theorem qrU (n:Nat): ∀w∈fid n,qfP n w:=fun w hw y hy=>by
 simp only[fid,List.mem_map,List.mem_range]at hw;obtain⟨k,hk,rfl⟩:=hw;simp at hy;omega
theorem qmi {n:Nat} {u v:List Int} (h:qfP n u) (k:qfP n v):qfP n (u++v):=fun y hy=>(List.mem_append.1 hy).elim (h y) (k y)
theorem gred {n:Nat} {u:List Int} (h:qfP n u):qfP n (fred u):=fun y hy=>h y (qnc hy)
theorem qod {n:Nat} {im:List (List Int)} (h: ∀w∈im,qfP n w) (hl:im.length=n) {c:Int} (hc:c≠0/\ -(n:Int)<c/\c<n): ∀w∈yF im c,qfP n w:=fun w hw=>by
 obtain⟨i,hi⟩: ∃i,c.natAbs=i+1:=⟨c.natAbs-1,by omega⟩;obtain⟨k,hk,rfl⟩:=List.getElem_of_mem hw
 have e:(yF im c)[k]=(yF im c).getD k []:=by rw[Yy,Ya hk];rfl
 rw[e,qc0 hi (by omega)];have g:=qg9 h;split
 ·split
  ·exact gred (qmi (qmi (g _) (g _)) (ginv (g _)))
  exact g _
 split
 ·split
  ·exact g _
  exact gred (qmi (qmi (ginv (g _)) (g _)) (g _))
 exact g _
theorem qoS {im:List (List Int)} {k:Nat} (h:k<im.length):im[k]? =some (im.getD k []):=by
 rw[Yy,Ya h];rfl
theorem qph {n N:Nat} (hn:n<=12) (hN:2000000100<N) {w:List Int} (hw:jY n w) (hwl:w.length<=18): ∀(K i:Nat),i<=w.length->w.length<K+i->xR N w K (vO n (w.take i)) (i:Int)=some (vO n w)
 |0,i,h,hK=>by omega
 |K+1,i,h,hK=>by
  unfold xR;by_cases hi:i<w.length
  ·have hx:w[i]? =some w[i]:=Ya hi;have hc:=hw _ (List.getElem_mem hi);have hrec:=qph hn hN hw hwl K (i+1) (by omega) (by omega)
   have ht:jY n (w.take i):=fun c hc=>hw c (List.mem_of_mem_take hc)
   rw[List.take_succ_eq_append_getElem hi,qfy,List.foldl_cons,List.foldl_nil]at hrec
   have hl:(vO n (w.take i)).length=n:=by unfold vO;rw[qfD n,qaX]
   have hlong:=qhS (M:=1) ht (qaX n) (fun v hv=>by
    simp only[fid,List.mem_map,List.mem_range]at hv;obtain⟨k,hk,rfl⟩:=hv
    simp)
   have hp:3^(w.take i).length<=3^17:=Nat.pow_le_pow_right (by omega) (by rw[Ym];omega)
   have h17:(3:Nat)^17=129140163:=by decide
   have hg: ∀v∈vO n (w.take i),qfP n v:=by
    have: ∀(u:List Int) (im:List (List Int)),jY n u->im.length=n->(∀v∈im,qfP n v)-> ∀v∈u.foldl yF im,qfP n v:=by
     intro u
     induction u with
     |nil=>intro im _ _ h;exact h
     |cons c u ih=>
      intro im hu hl h;rw[List.foldl_cons];exact ih _ (fun d hd=>hu d (List.mem_cons_of_mem _ hd)) (by rw[qbh,hl]) (qod h hl (hu c (List.mem_cons_self ..)))
    exact this _ _ ht (qaX n) (qrU n)
   have hlen: ∀k,((vO n (w.take i)).getD k []).length<=129140163:=fun k=>by
    have:((vO n (w.take i)).getD k []).length<=3^(w.take i).length*1:=lgetD hlong k;omega
   rw[if_pos (by omega),qw,hx];generalize w[i]=c at*;generalize vO n (w.take i)=im at*;obtain⟨m,hm⟩: ∃m,c.natAbs=m+1:=⟨c.natAbs-1,by omega⟩
   have hmn:m+1<n:=by omega
   have la:=hlen m;have lb:=hlen (m+1);have ga:=gbnd hn (qg9 hg m);have gb:=gbnd hn (qg9 hg (m+1))
   have q1:w64 (((m+1:Nat):Int)-1)=(m:Int):=by rw[qz (by omega) (by omega)];omega
   simp only[ZB,qcn (show-1000<c/\c<1000 by omega),hm,q1];rw[qw,qoS (by omega),ZB,qw,qoS (by omega),ZB];unfold yF at hrec;rw[hm,Nat.add_sub_cancel]at hrec;dsimp only at hrec;have lia:(jr (im.getD m [])).length=(im.getD m []).length:=qgJ _;have lib:(jr (im.getD (m+1) [])).length=(im.getD (m+1) []).length:=qgJ _;by_cases hp:c>0
   ·rw[if_pos (show 0<c from hp)]at hrec;have hlet: ∀y∈im.getD m []++im.getD (m+1) []++jr (im.getD m []),-1000<y/\y<1000:=gbnd hn (qmi (qmi (qg9 hg m) (qg9 hg (m+1))) (ginv (qg9 hg m)));rw[if_pos hp,qgX (by omega) (by omega),ZB,qgF (by omega) (by omega),qmL ga,ZB,qgX (by rw[Yq];omega) (by omega),ZB,qiH (by simp only[Yq];omega) (by simp only[Yq];omega) hlet,ZB,jX (by omega),ZB,qw,Yw (by omega),qoS (by omega),ZB,jX (by rw[Yk];omega)];simp only[ZB];rw[qR (by omega)];exact hrec
   rw[if_neg (show¬0<c from hp)]at hrec;have hlet: ∀y∈jr (im.getD (m+1) [])++im.getD m []++im.getD (m+1) [],-1000<y/\y<1000:=gbnd hn (qmi (qmi (ginv (qg9 hg (m+1))) (qg9 hg m)) (qg9 hg (m+1)));rw[if_neg hp,qgF (by omega) (by omega),qmL gb,ZB,qgX (by omega) (by omega),ZB,qgX (by rw[Yq];omega) (by omega),ZB,qiH (by simp only[Yq];omega) (by simp only[Yq];omega) hlet,ZB,jX (by omega),ZB,qw,Yw (by omega),qoS (by omega),ZB,jX (by rw[Yk];omega)];simp only[ZB];rw[qR (by omega)];exact hrec
  rw[if_neg (by omega),List.take_of_length_le (by omega)]
theorem ql1 {n:Nat} (hn:n<=12): ∀(K i:Nat),i<=n->n<K+i->xQ (n:Int) K ((fid n).take i) ((i+1:Nat):Int)=some (fid n)
 |0,i,h,hK=>by omega
 |K+1,i,h,hK=>by
  unfold xQ;by_cases hi:i<n
  ·have e:(fid n).take (i+1)=(fid n).take i++[[((i+1:Nat):Int)]]:=by
    rw[List.take_succ_eq_append_getElem (by rw[qaX];exact hi)];simp[fid]
   rw[if_pos (by omega),qa0 (by simp[fid];omega) (by simp[fid];omega),ZB,qR (by omega),<-e];exact ql1 hn K (i+1) (by omega) (by omega)
  rw[if_neg (by omega),List.take_of_length_le (by rw[qaX];omega)]
theorem qni {n N:Nat} (hn:n<=12) (hN:2000000100<N) {w:List Int} (hw:jY n w) (hwl:w.length<=18):qb6 N (n:Int) w=some (vO n w):=by
 unfold qb6;have h0:=ql1 hn N 0 (by omega) (by omega);have h1:=qph hn hN hw hwl N 0 (by omega) (by omega);rw[List.take_zero]at h0 h1;rw[show((0+1:Nat):Int)=1 from rfl]at h0;rw[show vO n []=fid n from rfl,show((0:Nat):Int)=0 from rfl]at h1;rw[h0,ZB,h1,ZB]
theorem qnq {n:Nat} {w:List Int} (hw:jY n w) (hl:w.length<=6): ∀v∈vO n w,v.length<=729:=fun v hv=>by
 have:=qhS (M:=1) hw (qaX n) (fun v hv=>by
  simp only[fid,List.mem_map,List.mem_range]at hv;obtain⟨k,hk,rfl⟩:=hv
  simp) v hv
 have hp:3^w.length<=3^6:=Nat.pow_le_pow_right (by omega) hl;omega
theorem qpM (n:Nat) (w:List Int):(vO n w).length=n:=by
 unfold vO;rw[qfD n,qaX]
section
open Go.Proofs Go.RowKit
variable [Glob]
theorem qeb {N:Nat} (hN:2000<N) (n:Int) (w:List Int):qbL N n w 4 6=some (decide (n<=4/\w.length<=6/\qje n w=0)):=by
 unfold qbL;by_cases a:n<=4
 ·by_cases b:(w.length:Int)<=6
  ·rw[if_pos a,if_pos b,qoa hN (by omega)];simp only[ZB];congr 1;rw[decide_eq_decide];omega
  rw[if_pos a,if_neg b,decide_eq_false (by omega)];rfl
 rw[if_neg a,decide_eq_false (by omega)];rfl
def qsP (d1 d2 d3 d4 d5:Bool):Str×Int:=if d1=true then(kEx,0)else if d2=true then(kPm,0)else if d3=true then(kLk,0)else if d4=true then(kBu,0)else if d5=true then(kFo,0)else([],7)
theorem qsB {N n:Nat} {a b:List Int} {d1 d2 d3 d4 d5:Bool} (F:qmF N n a b d1 d2 d3 d4 d5) (K:Nat):(kz N (n:Int) a b (K+6) 0).bind (fun
 |(.inl ())=>some (([]:Str),(7:Int))
 |(.inr q23)=>some q23)=some (qsP d1 d2 d3 d4 d5):=by
 unfold kz;rw[if_pos (by decide),if_pos rfl,F.c1,ZB]
 cases d1 with
 |true=>rfl
 |false=>
  rw[if_neg (by decide),show w64 (0+1)=1 from rfl];unfold kz;rw[if_pos (by decide),if_neg (by decide),if_pos rfl,F.c2,ZB]
  cases d2 with
  |true=>rfl
  |false=>
   rw[if_neg (by decide),show w64 (1+1)=2 from rfl];unfold kz;rw[if_pos (by decide),if_neg (by decide),if_neg (by decide),if_pos rfl,F.c3,ZB]
   cases d3 with
   |true=>rfl
   |false=>
    rw[if_neg (by decide),show w64 (2+1)=3 from rfl];unfold kz;rw[if_pos (by decide),if_neg (by decide),if_neg (by decide),if_neg (by decide),if_pos rfl,F.c4,ZB]
    cases d4 with
    |true=>rfl
    |false=>
     rw[if_neg (by decide),show w64 (3+1)=4 from rfl];unfold kz;rw[if_pos (by decide),if_neg (by decide),if_neg (by decide),if_neg (by decide),if_neg (by decide),if_pos rfl,F.c5,ZB]
     cases d5 with
     |true=>rfl
     |false=>
      rw[if_neg (by decide),show w64 (4+1)=5 from rfl];rfl
section
variable {N:Nat} (hN:600000<N) {n:Nat} {a b:List Int} (A:vK n a) (B:vK n b) {d1 d2 d3 d4 d5:Bool} (F:qmF N n a b d1 d2 d3 d4 d5)
include hN A B F
theorem qfC:qbe N (n:Int) a b=some (qsP d1 d2 d3 d4 d5):=by
 have inv:vF (n:Int) a b=some ():=rfl;unfold qbe;rw[qci (by omega) A B,ZB,if_neg (by decide),inv,ZB];have:=qsB F (N-6);rw[show N-6+6=N by omega]at this;exact this
theorem qox:qU N (n:Int) a b kEx=some (if d1=true then 0 else 21)/\qU N (n:Int) a b kPm=some (if d2=true then 0 else 21)/\qU N (n:Int) a b kLk=some (if d3=true then 0 else 21)/\qU N (n:Int) a b kBu=some (if d4=true then 0 else 21)/\qU N (n:Int) a b kFo=some (if d5=true then 0 else 21):=by
 have ix: ∀j:Nat,j<5->qK N kEx a b kPm n a b kLk n a b kBu n a b kFo n a b ([kEx,kPm,kLk,kBu,kFo].getD j [])=some (j:Int):=by
  intro j hj;obtain⟨M,rfl⟩: ∃M,N=M+10:=⟨N-10,by omega⟩;rcases(show j=0\/j=1\/j=2\/j=3\/j=4 by omega)with rfl|rfl|rfl|rfl|rfl<;>rfl
 have inv:vF (n:Int) a b=some ():=rfl;have i0:qK N kEx a b kPm n a b kLk n a b kBu n a b kFo n a b kEx=some 0:=ix 0 (by decide);have i1:qK N kEx a b kPm n a b kLk n a b kBu n a b kFo n a b kPm=some 1:=ix 1 (by decide);have i2:qK N kEx a b kPm n a b kLk n a b kBu n a b kFo n a b kLk=some 2:=ix 2 (by decide);have i3:qK N kEx a b kPm n a b kLk n a b kBu n a b kFo n a b kBu=some 3:=ix 3 (by decide);have i4:qK N kEx a b kPm n a b kLk n a b kBu n a b kFo n a b kFo=some 4:=ix 4 (by decide);refine⟨?_,?_,?_,?_,?_⟩
 ·unfold qU;rw[qci (by omega) A B,ZB,if_neg (by decide),inv,ZB,i0,ZB,if_neg (by decide),if_pos rfl,F.c1,ZB,jG];cases d1<;>rfl
 ·unfold qU;rw[qci (by omega) A B,ZB,if_neg (by decide),inv,ZB,i1,ZB,if_neg (by decide),if_neg (by decide),if_pos rfl,F.c2,ZB,jG];cases d2<;>rfl
 ·unfold qU;rw[qci (by omega) A B,ZB,if_neg (by decide),inv,ZB,i2,ZB,if_neg (by decide),if_neg (by decide),if_neg (by decide),if_pos rfl,F.c3,ZB,jG];cases d3<;>rfl
 ·unfold qU;rw[qci (by omega) A B,ZB,if_neg (by decide),inv,ZB,i3,ZB,if_neg (by decide),if_neg (by decide),if_neg (by decide),if_neg (by decide),if_pos rfl,F.c4,ZB,jG];cases d4<;>rfl
 unfold qU;rw[qci (by omega) A B,ZB,if_neg (by decide),inv,ZB,i4,ZB,if_neg (by decide),if_neg (by decide),if_neg (by decide),if_neg (by decide),if_neg (by decide),if_pos rfl,F.c5,ZB,jG];cases d5<;>rfl
end
theorem Alike.trans {n:Nat} {a b c:List Int} (h:Alike n a b) (k:Alike n b c):Alike n a c:=⟨h.ex.trans k.ex,h.pm.trans k.pm,fun i j=>(h.lk i j).trans (k.lk i j),h.mat.trans k.mat⟩
theorem Chn.alike {N n:Nat}: ∀{l:List qx} {w v:List Int},Chn N n w l v->yQ n w->Alike n w v
 |[],w,v,h,hw=>by
  obtain rfl:w=v:=h;exact⟨rfl,rfl,fun _ _=>rfl,rfl⟩
 |m::l,w,v,⟨u,_,hm,h⟩,hw=>(hm.alike hw).trans (Chn.alike h (hm.let_ hw))
section
variable {N:Nat} (hN:110000<N) {n:Nat} (h1:1<=n) (h2:n<=12) {a b:List Int} {l:List qx} (hl:l.length<=5000)
include hN h1 h2 hl
theorem qrH: ∀(K i:Nat) (w:List Int) (o:List qx),w.length<=10+2*i->yQ n w->Chn N n w (l.drop i) b->Chn N n w o a->o.length=i->i<=l.length->l.length<K+i->
 ∃o',zS (n:Int) l K w (i:Int) o=some (.inl o')/\Chn N n b o' a/\o'.length=l.length
 |0,i,w,o,hw,hv,h,k,ho,hi,hK=>by omega
 |K+1,i,w,o,hw,hv,h,k,ho,hi,hK=>by
  unfold zS;by_cases c:i<l.length
  ·rw[YG c]at h;obtain⟨u,q1,q2,q3⟩:=h;obtain⟨r,r1,r2,_⟩:=qtP (N:=N) (by omega) (n:=(n:Int)) (by omega) (by omega) (w:=w) (by omega) (fun z hz=>yS.2 (hv z hz)) l[i];rw[q1]at r1;obtain rfl:=Ye r1;have s:=qqu (N:=N) (by omega) h1 h2 (by omega) hv q1;obtain⟨p,p1,p2⟩:=s.back hv;have lu:=s.len;have vu:=q2.let_ hv;have ap:=p2.apply (N:=N) (by omega) h1 h2 (by omega) vu;have cn:Chn N n u (⟨p.1,l[i].At,p.2⟩::o) a:=⟨w,ap,p2.mv,k⟩;obtain⟨o',e1,e2,e3⟩:=qrH K (i+1) u (⟨p.1,l[i].At,p.2⟩::o) (by omega) vu q3 cn (by rw[Yr,ho]) (by omega) (by omega);refine⟨o',?_,e2,e3⟩;have p1:(if(l[i].Kind==[105,110,115,101,114,116])=true then some (([99,97,110,99,101,108]:Str),(0:Int))else if(l[i].Kind==[99,97,110,99,101,108])=true then(idx w l[i].At).bind fun x16=>some ([105,110,115,101,114,116],x16)else some (l[i].Kind,l[i].Letter))=some p:=p1;rw[if_pos (by omega),qw,Ya c,ZB,r2,ZB,if_neg (show¬(!decide ((0:Int)=0))=true by decide),p1,ZB,qR (by omega)]
   cases o with
   |nil=>exact e1
   |cons x xs=>
    dsimp only;rw[qa0 (by simp only[Yr]at*;simp;omega) (by simp only[Yr]at*;simp;omega)];exact e1
  rw[List.drop_eq_nil_of_le (by omega)]at h;obtain rfl:w=b:=h;rw[if_neg (by omega)];exact⟨o,rfl,k,by omega⟩
theorem qtr (A:vK n a) (la:a.length<=10) (h:Chn N n a l b): ∃o,yH N (n:Int) a l=some (o,true)/\Chn N n b o a/\o.length=l.length:=by
 obtain⟨o,e1,e2,e3⟩:=qrH hN h1 h2 hl N 0 a [] (by omega) A.let_ h rfl rfl (Nat.zero_le _) (by omega);refine⟨o,?_,e2,e3⟩;unfold yH;rw[show((0:Nat):Int)=0 from rfl]at e1;rw[e1];rfl
end
theorem Chn.form {N n:Nat} (n6:n<=6) (n2:2<=n): ∀{l:List qx} {w v:List Int},Chn N n w l v->yQ n w-> ∀{f:qbZ},qa9 n v f->qa9 n w f
 |[],w,v,h,hw,f,k=>by
  obtain rfl:w=v:=h;exact k
 |m::l,w,v,⟨u,_,hm,h⟩,hw,f,k=>hm.form n6 n2 hw (Chn.form n6 n2 h (hm.let_ hw) k)
section
variable {N:Nat} (hN:2000000100<N) {n:Nat} (n4:n<=4) {a b:List Int} (A:vK n a) (B:vK n b) (la:a.length<=6) (lb:b.length<=6)
include hN n4 A B la lb
theorem qqN {J:Nat} (j1:J<=1140) (R:hrI J [] (a++qaF b)=some []): ∃l,Chn N n a l b:=by
 have h1:=A.n1;have h2:=A.n2;obtain⟨o,ms,b1,b2,b3,b4⟩:=bk_L (N:=N) (by omega) h1 h2 A B b.length N none (Nat.le_refl _) (by omega) (by simp;omega);have dl:b.drop b.length=[]:=List.drop_length;rw[dl,show qaF []=[]from rfl,YQ,YQ]at b3;have b2:hof o=[]++ms:=b2;rw[List.nil_append]at b2
 have lab:(a++qaF b).length=a.length+b.length:=by rw[Yq,qjm]
 have lt:yQ n (a++qaF b):=fun z hz=>by
  rcases List.mem_append.1 hz with hz|hz
  ·exact A.let_ z hz
  simp only[qaF,List.mem_reverse,List.mem_map]at hz;obtain⟨y,hy,rfl⟩:=hz;have:=B.let_ y hy;omega
 obtain⟨o',ms',q1,q2,q3,q4⟩:=qoO (N:=N) (by omega) h1 h2 (t:=b) (by omega) B.let_ J [] (a++qaF b) [] R rfl lt (by simp;omega) N o (by omega) (by rw[b2,b4];omega);exact⟨ms++ms',b3.app q3⟩
theorem qqR (n2:2<=n) {l:List qx} (h:Chn N n a l b) {e:Bool} (E:zK N (n:Int) a b=some e):e=true:=by
 obtain⟨f,f1,f2,f3,f4⟩:=quL n2 (by omega) (N:=N) (by omega) A (by omega);obtain⟨g,g1,g2,_,_⟩:=quL n2 (by omega) (N:=N) (by omega) B (by omega);have:=f2.uniq (h.form (by omega) n2 A.let_ g2);subst this;unfold zK at E;rw[f1,ZB,g1,ZB,qrp (by omega) f3 f4]at E;exact(Ye E).symm
theorem qjO {e:Bool} (E:zK N (n:Int) a b=some e) (G:zK N (n:Int) b a=some e) (S:e=decide (vO n a=vO n b)) (H:e=true-> ∃J,J<=1121/\hrI J [] (a++qaF b)=some []):ze N (n:Int) a b=some true:=by
 have fa:qbL N (n:Int) a 4 6=some true:=by rw[qeb (by omega),decide_eq_true ⟨by omega,la,qlz A⟩]
 have fb:qbL N (n:Int) b 4 6=some true:=by rw[qeb (by omega),decide_eq_true ⟨by omega,lb,qlz B⟩]
 have be:qcu N (n:Int) a b=some (e,0):=by
  unfold qcu;rw[qci (by omega) A B,ZB,if_neg (by decide),E,ZB]
 have sp:xC N (vO n a) (vO n b)=some e:=by
  rw[qqv (by omega) (fun x hx=>by have:=qnq A.let_ la x hx;omega) (by rw[qpM];omega),S]
 unfold ze awk;rw[fa];simp only[ZB,Bool.not_true,ZF,if_false];rw[fb];simp only[ZB,Bool.not_true,ZF,if_false];rw[qni (by omega) hN A.let_ (by omega),ZB,qni (by omega) hN B.let_ (by omega),ZB,sp,ZB,be];simp only[ZB]
 cases e with
 |true=>
  obtain⟨J,j1,j2⟩:=H rfl;obtain⟨l,p1,p2,p3⟩:=qr8 (by omega) A.n1 A.n2 A B (by omega) (by omega) E (by omega) j2;have al:=Chn.alike p2 A.let_;have F:=qum (by omega) (by omega) A B (by omega) (by omega) al E;have F':=F.sym E G;have cm:=qga (by omega) A.n1 A.n2 A B (by omega) p2;rw[p1,ZB,qfC (by omega) A B F,ZB,qfC (by omega) B A F',ZB];have k1:(qsP false false false false false)=(([]:Str),(7:Int)):=rfl;rw[k1];dsimp only;by_cases hl:(l.length:Int)>5000
  ·rw[if_pos hl];rfl
  obtain⟨o,o1,o2,o3⟩:=qtr (by omega) A.n1 A.n2 (by omega) A (by omega) p2;have cb:=qga (by omega) A.n1 A.n2 B A (by omega) o2;rw[if_neg hl,o1];simp only[ZB];rw[cm];simp only[ZB,if_true];rw[cb];rfl
 |false=>
  obtain⟨d1,d2,d3,d4,F⟩:=qt7 (by omega) (by omega) A B (by omega) (by omega) E;have pn:=qq1 (by omega) A.n1 A.n2 A B (by omega) (by omega) E;have F:qmF N n a b d1 d2 d3 d4 true:=F;have F':=F.sym E G;rw[pn,ZB,qfC (by omega) A B F,ZB,qfC (by omega) B A F',ZB]
  have k0:(qsP d1 d2 d3 d4 true).2=0:=by cases d1<;>cases d2<;>cases d3<;>cases d4<;>rfl
  have kc:qU N (n:Int) b a (qsP d1 d2 d3 d4 true).1=some 0:=by
   obtain⟨e1,e2,e3,e4,e5⟩:=qox (by omega) B A F'
   cases d1 with
   |true=>exact e1
   |false=>
    cases d2 with
    |true=>exact e2
    |false=>
     cases d3 with
     |true=>exact e3
     |false=>
      cases d4 with
      |true=>exact e4
      |false=>exact e5
  dsimp only;rw[k0,kc];cases d1<;>cases d2<;>cases d3<;>cases d4<;>rfl
end
theorem qeR {N:Nat} (hN:2000000100<N) (n:Int) (a b:List Int):ze N n a b=some true:=by
 by_cases A:n<=4/\a.length<=6/\qje n a=0
 ·by_cases B:n<=4/\b.length<=6/\qje n b=0
  ·obtain⟨k,rfl,WA⟩:=qpG A.2.2;obtain⟨k',e,WB⟩:=qpG B.2.2
   obtain rfl:k=k':=by omega
   have k4:k<=4:=by have:=A.1;omega
   have k1:=WA.n1;have la:=A.2.1;have lb:=B.2.1
   have main: ∀{T:QTb},TOK T->T.n=k->ze N (k:Int) a b=some true:=fun {T} t hk=>by
    subst hk;have E:=qm0 t (N:=N) (by omega) WA WB (by omega) (by omega);have G:=qm0 t (N:=N) (by omega) WB WA (by omega) (by omega);rw[qdt]at G
    refine qjO hN k4 WA WB la lb E G ?_ fun e=>?_
    ·rw[decide_eq_decide];constructor
     ·intro e;have h1:=qim t.ok t.wd WA.let_ (by omega);have h2:=qim t.ok t.wd WB.let_ (by omega);rw[e]at h1;exact h1.trans h2.symm
     intro e;have n4:=t.n4;have k:=quz t.n2 t.n4 WA.let_ WB.let_ e;have:=qgY (a:=a.map c6) (b:=b.map c6) (by rw[List.length_map];omega) (by rw[List.length_map];omega) k;rw[qgo (fun x hx=>by have:=WA.let_ x hx;omega),qgo (fun x hx=>by have:=WB.let_ x hx;omega)]at this;obtain⟨J,j1,j2⟩:=this;obtain⟨l,h⟩:=qqN hN k4 WA WB la lb (by omega) j2;exact of_decide_eq_true (qqR hN k4 WA WB la lb t.n2 h E)
    exact qj3 t WA.let_ WB.let_ (by omega) (by omega) (of_decide_eq_true e)
   have hk:k=1\/k=2\/k=3\/k=4:=by omega
   rcases hk with rfl|rfl|rfl|rfl
   ·have ha:a=[]:=by
     cases a with
     |nil=>rfl
     |cons c w=>have:=WA.let_ c (List.mem_cons_self ..);omega
    have hb:b=[]:=by
     cases b with
     |nil=>rfl
     |cons c w=>have:=WB.let_ c (List.mem_cons_self ..);omega
    subst ha;subst hb
    have E:zK N ((1:Nat):Int) [] []=some true:=by
     obtain⟨K,rfl⟩: ∃K,N=K+10:=⟨N-10,by omega⟩;rfl
    exact qjO hN k4 WA WB la lb E E (by rw[decide_eq_true rfl]) fun _=>⟨1,by omega,rfl⟩
   ·exact main tok2 rfl
   ·exact main tok3 rfl
   exact main tok4 rfl
  unfold ze awk;rw[qeb (by omega),decide_eq_true A];simp only[ZB,Bool.not_true,ZF,if_false];rw[qeb (by omega),decide_eq_false B];rfl
 unfold ze awk;rw[qeb (by omega),decide_eq_false A];rfl
end
end Go.Av
end
