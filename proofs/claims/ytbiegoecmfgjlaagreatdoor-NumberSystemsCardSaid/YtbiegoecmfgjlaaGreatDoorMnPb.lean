/-
  Fractions' texts.
-/
import Derived.Test.YtbiegoecmfgjlaaGreatDoorMnPa
import Derived.Test.YtbiegoecmfgjlaaGreatDoorAvD
set_option maxRecDepth 100000
set_option maxRecDepth 10000000
set_option linter.all false
noncomputable section
namespace Go.Av
def tl (q:Rat):Str:=if q.den=1 then[]else 47::Lib.decDigits q.den
def qpn (q:Rat):T q=Lib.itoa q.num++tl q:=rfl
def no47 {s:Str}(h:s.all yX=true):∀c∈s,c≠47:=λc hc e=>by
 have:=Yp.1 h c hc;rw[e]at this;exact absurd this (by decide)
def ql7:∀{s:Str},(∀c∈s,c≠47)->slA s=s.length:=λ{s} h=>(qkO s [] h).2
def qiY {s:Str}(h:∀c∈s,c≠47) (q:Rat):slA (s++tl q)=s.length:=by
 unfold tl;by_cases c:q.den=1
 ·rw[ae c,YQ];exact ql7 h
 rw[aa c];exact(qkO s _ h).1
def qf6 (z:Int):∀c∈Lib.itoa z,c≠47:=by
 by_cases h:z<0
 ·rw[yu h];intro c hc;rcases bT.1 hc with e|e
  ·rw[e];decide
  exact no47 (qcg _) c e
 rw[zR h];exact no47 (qcg _)
def qr8 {s t:Str}(h:0<s.length):sgn (s++t)=sgn s:=by
 unfold sgn;rw[Yf h]
def ql0 (z:Int):0<(Lib.itoa z).length:=by
 by_cases h:z<0
 ·rw[yu h];simp
 rw[zR h];exact qjG _
def qlZ (q:Rat):sgn (T q)=decide (q.num<0):=by rw[qpn,qr8 (ql0 _),qhv]
def qmr (q:Rat):bdy (T q)=Lib.decDigits q.num.natAbs++tl q:=by
 unfold bdy;rw[qlZ,qpn];by_cases h:q.num<0
 ·rw[ap h,ae rfl,yu h];rfl
 rw[ak h,aa (by simp),zR h]
def qqO {p q:Rat}(h:T p=T q):p=q:=by
 have h1:=az slA h;have e1:slA (T p)=(Lib.itoa p.num).length:=qiY (qf6 _) p;have e2:slA (T q)=(Lib.itoa q.num).length:=qiY (qf6 _) q;rw[e1,e2]at h1;rw[qpn,qpn]at h;obtain⟨h2,h3⟩:=List.append_inj h h1
 have n1:p.num=q.num:=by rw[<-qdu p.num,h2,qdu]
 have n2:p.den=q.den:=by
  unfold tl at h3;by_cases c:p.den=1
  ·by_cases d:q.den=1
   ·rw[c,d]
   rw[ae c,aa d]at h3;cases h3
  by_cases d:q.den=1
  ·rw[aa c,ae d]at h3;cases h3
  rw[aa c,aa d]at h3;injection h3 with _ h3;exact qnD h3
 exact Rat.ext n1 n2
def qoM:∀{s:Str},slA s<s.length->s=s.take (slA s)++47::s.drop (slA s+1)
 |[],h=>by simp at h
 |c::s,h=>by
  rw[slA]at h⊢;by_cases e:c=47
  ·rw[ae e,e];rfl
  rw[aa e,Yr]at h;rw[aa e,dQ,dR,dc,<-qoM (show slA s<s.length by omega)]
def qsO (s:Str):s=if sgn s=true then 45::bdy s else bdy s:=by
 unfold bdy
 cases h:sgn s with
 |false=>rw[aa (by simp),aa (by simp)]
 |true=>
  rw[ae rfl,ae rfl]
  cases s with
  |nil=>cases h
  |cons c t=>
   have e:=aP h;simp only[Yj]at e;rw[Ye e];rfl
def qml {s:Str}(h:chk s=0):∃q:Rat,s=T q/\(Lib.decDigits q.num.natAbs).length<=600/\(Lib.decDigits q.den).length<=600:=by
 have hk:=qhV (bdy s)
 have lt:((bdy s).take (slA (bdy s))).length=slA (bdy s):=by rw[Ym];omega
 have hs:=qsO s;have hsp:=@qoM (bdy s);unfold chk at h;by_cases h1:okF s=false\/qiK s=true
 ·rw[ae h1]at h;cases h
 rw[aa h1]at h;by_cases h2:600<((bdy s).take (slA (bdy s))).length\/600<((bdy s).drop (slA (bdy s)+1)).length
 ·rw[ae h2]at h;cases h
 rw[aa h2]at h;by_cases h3:slA (bdy s)<(bdy s).length/\Nat.gcd (qX 0 ((bdy s).take (slA (bdy s)))) (qX 0 ((bdy s).drop (slA (bdy s)+1)))≠1
 ·rw[ae h3]at h;cases h
 have ho:okF s=true:=by cases e:okF s with|true=>rfl|false=>exact absurd (.inl e) h1
 have hb:qiK s=false:=by cases e:qiK s with|false=>rfl|true=>exact absurd (.inr e) h1
 obtain⟨hDn,hng⟩:=aP ho;have en:=hDn.eq
 obtain⟨z,hz1,hz2⟩:∃z:Int,z.natAbs=qX 0 ((bdy s).take (slA (bdy s)))/\(z<0↔sgn s=true):=by
  cases e:sgn s with
  |false=>exact⟨((qX 0 ((bdy s).take (slA (bdy s))):Nat):Int),by omega,by simp⟩
  |true=>
   have:=qg4 hDn λc=>hng ⟨e,c⟩
   exact⟨-((qX 0 ((bdy s).take (slA (bdy s))):Nat):Int),by omega,by simp;omega⟩
 have hT:∀t:Str,bdy s=(bdy s).take (slA (bdy s))++t->s=Lib.itoa z++t:=by
  intro t ht;rw[hs];by_cases c:z<0
  ·rw[ae (hz2.1 c),yu c,hz1,<-en,dc,<-ht]
  rw[aa λe=>c (hz2.2 e),zR c,hz1,<-en,<-ht]
 by_cases c:slA (bdy s)<(bdy s).length
 ·have hDd:Dec ((bdy s).drop (slA (bdy s)+1))/\(bdy s).drop (slA (bdy s)+1)≠[48]/\(bdy s).drop (slA (bdy s)+1)≠[49]:=Classical.byContradiction λhc=>dp hb ⟨c,hc⟩
  have ed:=hDd.1.eq;have hd0:=qg4 hDd.1 hDd.2.1
  have hd1:qX 0 ((bdy s).drop (slA (bdy s)+1))≠1:=λe=>by
   rw[e,jh (by decide)]at ed;exact hDd.2.2 ed
  have hg:Nat.gcd z.natAbs (qX 0 ((bdy s).drop (slA (bdy s)+1)))=1:=by
   rw[hz1]
   exact Classical.byContradiction λe=>h3 ⟨c,e⟩
  refine⟨⟨z,qX 0 ((bdy s).drop (slA (bdy s)+1)),by omega,hg⟩,?_,?_,?_⟩
  ·have:=hT _ (hsp c);unfold T;rw[aa hd1];show s=Lib.itoa z++47::Lib.decDigits (qX 0 ((bdy s).drop (slA (bdy s)+1)));rw[<-ed];exact this
  ·show(Lib.decDigits z.natAbs).length<=600;rw[hz1,<-en];omega
  show(Lib.decDigits (qX 0 ((bdy s).drop (slA (bdy s)+1)))).length<=600;rw[<-ed];omega
 refine⟨(z:Rat),?_,?_,?_⟩
 ·have:=hT [] (by rw[YQ,ar (by omega)]);unfold T;rw[fU,ae rfl,eF];exact this
 ·rw[eF,hz1,<-en];omega
 rw[fU,jh (by decide)];simp
def Sml (q:Rat) (k:Nat):Prop:=(Lib.decDigits q.num.natAbs).length<=k/\(Lib.decDigits q.den).length<=k
def qis (z:Int):(Lib.itoa z).length<=(Lib.decDigits z.natAbs).length+1:=by
 by_cases h:z<0
 ·rw[yu h];simp
 rw[zR h];omega
def qgd (q:Rat) (h:q.den≠1):slA (T q)<(T q).length/\(T q).take (slA (T q))=Lib.itoa q.num/\(T q).drop (slA (T q)+1)=Lib.decDigits q.den:=by
 have e:slA (T q)=(Lib.itoa q.num).length:=qiY (qf6 _) q
 have ht:T q=Lib.itoa q.num++47::Lib.decDigits q.den:=by unfold T;rw[aa h]
 rw[e,ht];refine⟨by rw[Yq,Yr];omega,?_,?_⟩
 ·rw[dO (ai _),ar (ai _)]
 rw[dI,aB (by omega),show(Lib.itoa q.num).length+1-(Lib.itoa q.num).length=1 by omega];rfl
def qeZ (q:Rat) (h:q.den=1):T q=Lib.itoa q.num/\slA (T q)=(T q).length:=by
 have ht:T q=Lib.itoa q.num:=by unfold T;rw[ae h,YQ]
 refine⟨ht,?_⟩;rw[ht];exact ql7 (qf6 _)
def qkt {q:Rat}{k:Nat}(h:Sml q k):(T q).length<=2*k+2:=by
 have h1:=qis q.num;have h2:=h.1;have h3:=h.2;unfold T;rw[Yq];split
 ·simp;omega
 rw[Yr];omega
def qhm {N:Nat}(hN:600000<N) {q:Rat}(h:Sml q 9000):∃f,qcm N (T q)=some f/\IsF f q:=by
 have hl:=qkt h;have h1:=h.1;have h2:=h.2;unfold qcm;rw[qqi (by omega),ZB];obtain⟨r1,e1,i1⟩:=qiw hN (s:=Lib.itoa q.num) (by rw[qcW];exact qcg _) (by rw[qcW];omega);rw[qdu]at i1;by_cases c:q.den=1
 ·obtain⟨t1,t2⟩:=qeZ q c;rw[aa (show¬slA (T q)<(T q).length by omega)];obtain⟨f,e2,i2⟩:=qi8 i1;rw[ae (by rfl),t1,e1,ZB,e2,ZB];refine⟨f,rfl,?_⟩;have:(q.num:Rat)=q:=Rat.ext (by simp) (by simp[c]);rw[this]at i2;exact i2
 obtain⟨t1,t2,t3⟩:=qgd q c;rw[ae t1];have hd:=qcg q.den;obtain⟨r2,e2,i2⟩:=qiw hN (s:=Lib.decDigits q.den) (by rw[(qcP hd).2];exact hd) (by rw[(qcP hd).2];omega);rw[qer hd,qdP]at i2;rw[aa (by simp),t2,t3,e1,ZB,e2,ZB];exact⟨⟨r1,r2⟩,rfl,i1,i2⟩
def qeF {N:Nat}(hN:600000<N) {q:Rat}(h:Sml q 4000):j6 N (T q)=some (rI q.num,rI (q.den:Int)):=by
 have hl:=qkt h;have h1:=h.1;have h2:=h.2;by_cases c:q.den=1
 ·obtain⟨t1,t2⟩:=qeZ q c;unfold j6;rw[qdX (by omega) (by omega),ZB,t2,ae rfl,t1,qjk (by omega) (by rw[qcW];exact qcg _) (by rw[qcW];omega),ZB,qul (by omega),ZB,qdu,c];rfl
 obtain⟨t1,t2,t3⟩:=qgd q c;have hd:=qcg q.den;rw[qku hN (by omega) t1 (by rw[t2,qcW];exact qcg _) (by rw[t3,(qcP hd).2];exact hd),t2,t3,qdu,qer hd,qdP]
def qpy {n:Nat}(h:0<n):(if((dg E9 (n:Int)).length:Int)=1 then(idx (dg E9 (n:Int)) 0).bind λx15=>some (decide (x15=1))else some false:Option Bool)=some (decide (n=1)):=by
 have vv:=yc E1 (show(0:Int)<=(n:Int)by omega);by_cases h4:n=1
 ·rw[show(n:Int)=1 by omega,qp9,ae (by simp),yJ,h4];rfl
 rw[ak h4];by_cases h5:(dg E9 (n:Int)).length=1
 ·obtain⟨x,hx⟩:=dC.1 h5;rw[hx,zF,zn,aZ,bc]at vv
  have hx1:x≠1:=by omega
  rw[hx,ae (by simp),yJ];simp only[Yj,ZB,ak hx1]
 rw[aa (by omega)]
def zm.abs {z:Int}{n:Nat}(h:zm z n):zm (z.natAbs:Int) n:=by
 unfold zm at h⊢;rw[aS];exact h
def zm.le {a b:Int}{n:Nat}(h:(a.natAbs:Int)<=(b.natAbs:Int)) (k:zm b n):zm a n:=Int.lt_of_le_of_lt h k
def zm.itoaLen {z:Int}{n:Nat}(h:zm z n) (hn:0<n):(Lib.itoa z).length<=9*n+1:=by
 have h2:z.natAbs<10^(9*n):=by
  have h:(z.natAbs:Int)<E9^n:=h;rw[qiH]at h;exact dV.1 h
 have h3:=(qaB (show 0<9*n by omega)).2 h2;have h4:=qis z;omega
def qoq {N:Nat}(hN:60000<N) {x y:Int}(hx:0<=x) (hy:0<y) {B:Nat}(hB:B<=8000) (fx:zm x B):vg N (dg E9 x) (dg E9 y)=some (dg E9 (x/y),dg E9 (x%y)):=by
 have l:=fx.len;rw[show(x.natAbs:Int)=x by omega]at l;rw[qe3 hN (jA E1 hx) (jA E1 (by omega)) (by omega) (by rw[yc E1 (by omega)];exact hy),yc E1 hx,yc E1 (by omega)]
def den_pos (q:Rat):0<q.den:=Nat.pos_of_ne_zero q.den_nz
def qjw {a b:Int}(hb:b≠0):(b.sign*a).natAbs=a.natAbs:=by rw[bH,cE hb,cy]
def qnX (a b:Int):Int.gcd (a.natAbs:Int) (b.natAbs:Int)=Int.gcd b a:=by
 rw[Int.gcd_comm];rfl
def qe0 {N:Nat}(hN:600000<N) {B:Nat}(hB0:0<B) (hB:B<=8000) {a b:Int}(fa:zm a B) (fb:zm b B) (hb:b≠0):vZ N (rI a) (rI b)=some (T (Rat.divInt a b)):=by
 have hg:0<Int.gcd b a:=cx _ hb;have ea:=qjw (a:=a) hb
 have S:(if(rI b).neg=true then(qau N (rI a)).bind λr7=>(qau N (rI b)).bind λr8=>some (r7.neg,r7.w,r8.neg,r8.w)else some ((rI a).neg,(rI a).w,(rI b).neg,(rI b).w):Option (Bool×(List Int)×Bool×(List Int)))=some (decide (b.sign*a<0),dg E9 (a.natAbs:Int),false,dg E9 (b.natAbs:Int)):=by
  by_cases h:b<0
  ·rw[ae (show(rI b).neg=true from ap h),ql5 (by omega) (fa.mono (by omega)),ZB,ql5 (by omega) (fb.mono (by omega)),ZB,d7 h,Int.neg_mul,bJ];show some (decide (-a<0),dg E9 (((-a).natAbs:Nat):Int),decide (-b<0),dg E9 (((-b).natAbs:Nat):Int))=_;rw[ak (show¬ -b<0 by omega),cC,cC]
  rw[aa (show¬(rI b).neg=true from λc=>h (aP c)),dE (by omega),bJ];show some (decide (a<0),dg E9 ((a.natAbs:Nat):Int),decide (b<0),dg E9 ((b.natAbs:Nat):Int))=_;rw[ak h]
 have en:(Rat.divInt a b).num=b.sign*a/(Int.gcd b a:Int):=dy ..
 have ed:(b.natAbs:Int)/(Int.gcd b a:Int)=((Rat.divInt a b).den:Int):=by rw[dz,aa hb,de]
 have hd:=den_pos (Rat.divInt a b);have dvd:(Int.gcd b a:Int)∣b.sign*a:=Int.dvd_mul_of_dvd_right (Int.gcd_dvd_right ..)
 have fn:zm (Rat.divInt a b).num B:=by
  rw[en];exact zm.le (cV (qaI _ (by omega)) (by rw[ea];exact cz _)) fa
 have fd:zm ((Rat.divInt a b).den:Int) B:=by
  rw[<-ed];exact zm.le (cV (qaI _ (by omega)) (cz _)) fb.abs
 have vn:(if decide (b.sign*a<0)=true then-dv E9 (dg E9 ((a.natAbs:Int)/(Int.gcd b a:Int)))else dv E9 (dg E9 ((a.natAbs:Int)/(Int.gcd b a:Int))))=(Rat.divInt a b).num:=by
  have p0:0<=(a.natAbs:Int)/(Int.gcd b a:Int):=aV (by omega) (by omega);rw[yc E1 p0,en];by_cases c:b.sign*a<0
  ·rw[ae (ap c),show(a.natAbs:Int)= -(b.sign*a)by omega,Int.neg_ediv_of_dvd dvd,Int.neg_neg]
  rw[aa (λh=>c (aP h)),show(a.natAbs:Int)=b.sign*a by omega]
 unfold vZ;rw[S,ZB];simp only;rw[qkc hN (by omega) (by omega) (fa.abs.mono hB) (fb.abs.mono hB),ZB,qnX,qoq (by omega) (by omega) (by omega) hB fa.abs,ZB,qoq (by omega) (by omega) (by omega) hB fb.abs,ZB];simp only;have p0:0<=(a.natAbs:Int)/(Int.gcd b a:Int):=aV (by omega) (by omega)
 have ln:(dg E9 ((a.natAbs:Int)/(Int.gcd b a:Int))).length<=B:=by
  have:=(zm.le (cV (qaI _ (by omega)) (cz _)) fa.abs:zm ((a.natAbs:Int)/(Int.gcd b a:Int)) B).len;rw[show(((a.natAbs:Int)/(Int.gcd b a:Int)).natAbs:Int)=(a.natAbs:Int)/(Int.gcd b a:Int)by omega]at this;exact this
 have ld:(dg E9 ((Rat.divInt a b).den:Int)).length<=B:=by
  have:=fd.len;rw[aS]at this;exact this
 rw[qbA _ (jA E1 p0).1 (by omega) (by omega),ZB,vn,qoI (by omega) (fn.mono (by omega)),ZB,ed,qpy hd,ZB];have l1:=fn.itoaLen hB0;have l2:=fd.itoaLen hB0;unfold T;by_cases c:(Rat.divInt a b).den=1
 ·rw[ae (ap c),ae c,YQ]
 rw[aa (λh=>c (aP h)),aa c,qcC (by simp;omega),ZB,qbA _ (jA E1 (by omega)).1 (by omega) (by omega),ZB,aa (by simp),yc E1 (by omega),qoI (by omega) (fd.mono (by omega)),ZB,qcC (by simp;omega),ZB,qhw,Yz];rfl
def qts {a b:Int}(ha:0<=a) (hb:0<b):qfo .i64 a b=some (a%b):=by
 unfold qfo;rw[aa (by omega),bw ha]
def qtC {a b:Int}(hb:0<b) (h1: -4000000000000000000<=a) (h2:a<=4000000000000000000) (hd:b∣a):qdh .i64 a b=some (a/b):=by
 have:=qaI a hb;unfold qdh;rw[aa (by omega),Int.tdiv_eq_ediv_of_dvd hd];show some (w64 _)=_;rw[qg (by omega) (by omega)]
def qoB:∀(k K:Nat) (a b:Int),0<=a->0<=b->b<2^k->2*k+2<=K->yK K a b=some (Int.gcd a b:Int)
 |k,0,a,b,_,_,_,hK=>by omega
 |k,K+1,a,b,ha,hb,hk,hK=>by
  have na:(a.natAbs:Int)=a:=by omega
  have nb:(b.natAbs:Int)=b:=by omega
  rcases(show b=0\/0<b by omega)with h0|h0
  ·rw[h0,yK,aa (by omega),dW,na]
  match k,hk,hK with
  |0,hk,hK=>simp at hk;omega
  |k+1,hk,hK=>
   have m0:=aJ a (show b≠0 by omega);have m1:=aE a h0;rw[yK,ae (by omega),qts ha h0,ZB,qev ha hb]
   match K,hK with
   |0,hK=>omega
   |K+1,hK=>
    rcases(show a%b=0\/0<a%b by omega)with g0|g0
    ·rw[g0,yK,aa (by omega),dW,nb]
    have n0:=aJ b (show a%b≠0 by omega);have n1:=aE b g0
    have hhalf:b%(a%b)<2^k:=by
     have d1:=aH b (a%b)
     have d2:1<=b/(a%b):=by
      rw[bX g0];omega
     have d3:a%b*1<=a%b*(b/(a%b)):=Yc d2 (by omega);rw[aL]at hk;omega
    rw[yK,ae (by omega),qts hb g0,ZB,qev hb m0];exact qoB k K (a%b) (b%(a%b)) m0 n0 hhalf (by omega)
def qsE {N:Nat}(hN:200<N) {a b:Int}(ha:0<=a) (hb:0<=b) (h:b<9223372036854775808):qeJ N a b=some (Int.gcd a b:Int):=by
 unfold qeJ;rw[qoB 63 N a b ha hb h (by omega),ZB]
def rabs {z:Int}(h1: -9223372036854775807<=z) (h2:z<=9223372036854775807):(if w64 (0-z)>z then w64 (0-z)else z)=(z.natAbs:Int):=by
 rw[qg (by omega) (by omega)];split<;>omega
def qtn {n:Nat}(h:n<=4000000000000000000):(Lib.decDigits n).length<=19:=(qaB (by decide)).2 (by omega)
def qrq {N:Nat}(hN:1000<N) {a b:Int}(a1: -4000000000000000000<=a) (a2:a<=4000000000000000000) (b1: -4000000000000000000<=b) (b2:b<=4000000000000000000) (hb:b≠0):qeA N a b=some (T (Rat.divInt a b)):=by
 have hg:0<Int.gcd b a:=cx _ hb;have ea:=qjw (a:=a) hb
 have S:(if b<0 then some (w64 (0-a),w64 (0-b))else some (a,b):Option (Int×Int))=some (b.sign*a,(b.natAbs:Int)):=by
  by_cases h:b<0
  ·rw[ae h,qg (by omega) (by omega),qg (by omega) (by omega),d7 h,show(-1:Int)*a=0-a by omega,show(b.natAbs:Int)=0-b by omega]
  rw[aa h,dE (by omega),bJ,show(b.natAbs:Int)=b by omega]
 have en:(Rat.divInt a b).num=b.sign*a/(Int.gcd b a:Int):=dy ..
 have ed:(b.natAbs:Int)/(Int.gcd b a:Int)=((Rat.divInt a b).den:Int):=by rw[dz,aa hb,de]
 have hd:=den_pos (Rat.divInt a b);have dvd:(Int.gcd b a:Int)∣b.sign*a:=Int.dvd_mul_of_dvd_right (Int.gcd_dvd_right ..)
 have dvb:(Int.gcd b a:Int)∣(b.natAbs:Int):=by
  rw[Int.dvd_natAbs];exact Int.gcd_dvd_left ..
 have n1:=qaI (b.sign*a) (show(0:Int)<(Int.gcd b a:Int)by omega);have n2:=qaI (b.natAbs:Int) (show(0:Int)<(Int.gcd b a:Int)by omega);rw[<-en,ea]at n1;rw[ed,aS,aS]at n2;unfold qeA;rw[aa (show¬a< -4000000000000000000 by omega),aa (show¬a>4000000000000000000 by omega),aa (show¬b< -4000000000000000000 by omega),ak (show¬b>4000000000000000000 by omega),ZB,aa (by simp),S,ZB];simp only;rw[rabs (by omega) (by omega),ea,qsE (by omega) (by omega) (by omega) (by omega),ZB,qnX,qtC (by omega) (by omega) (by omega) dvd,ZB,qtC (by omega) (by omega) (by omega) dvb,ZB,<-en,ed,rabs (by omega) (by omega),qiN (by omega) (by omega),qiN (by omega) (by omega)];generalize Rat.divInt a b=q at*;have l1:=qtn (n:=q.num.natAbs) (by omega);have l2:=qtn (n:=q.den) (by omega)
 have S2:((if q.num<0 then some [45]else some []:Option Str).bind λs17=>(some (Lib.decDigits q.num.natAbs)).bind λr20=>(cat s17 r20).bind λs21=>(if(q.den:Int)>1 then(cat s21 [47]).bind λs25=>(some (Lib.decDigits q.den)).bind λr26=>(cat s25 r26).bind λs27=>some s27 else some s21:Option Str).bind λs22=>some s22)=some (T q):=by
  have li:(Lib.itoa q.num).length<=20:=by have:=qis q.num;omega
  have I:((if q.num<0 then some [45]else some []:Option Str).bind λs17=>(some (Lib.decDigits q.num.natAbs)).bind λr20=>(cat s17 r20).bind λs21=>(if(q.den:Int)>1 then(cat s21 [47]).bind λs25=>(some (Lib.decDigits q.den)).bind λr26=>(cat s25 r26).bind λs27=>some s27 else some s21:Option Str).bind λs22=>some s22)=((if(q.den:Int)>1 then(cat (Lib.itoa q.num) [47]).bind λs25=>(some (Lib.decDigits q.den)).bind λr26=>(cat s25 r26).bind λs27=>some s27 else some (Lib.itoa q.num):Option Str).bind λs22=>some s22):=by
   by_cases c:q.num<0
   ·rw[ae c,ZB,ZB,qcC (by simp;omega),ZB,yu c];rfl
   rw[aa c,ZB,ZB,qcC (by simp;omega),ZB,zR c];rfl
  rw[I];unfold T;by_cases c:q.den=1
  ·rw[aa (by omega),ae c,ZB,YQ]
  rw[ae (by omega),aa c,qcC (by simp;omega),ZB,ZB,qcC (by simp;omega),ZB,ZB,Yz];rfl
 exact S2
def Sml.mono {q:Rat}{m n:Nat}(h:Sml q m) (hn:m<=n):Sml q n:=⟨bx h.1 hn,bx h.2 hn⟩
def qdk {q:Rat}{k n:Nat}(h:Sml q k) (hk:0<k) (hn:k<=9*n):zm q.num n:=qk9 (p:=k) (dV.2 ((qaB hk).1 h.1)) hn
def qdl {q:Rat}{k n:Nat}(h:Sml q k) (hk:0<k) (hn:k<=9*n):zm (q.den:Int) n:=qk9 (p:=k) (by rw[aS];exact dV.2 ((qaB hk).1 h.2)) hn
def qfM {q:Rat}{k n:Nat}(h:Sml q k) (hk:0<k) (hn:k<=19*n):qaN q n:=⟨qgY (p:=k) (dV.2 ((qaB hk).1 h.1)) hn,qgY (p:=k) (by rw[aS];exact dV.2 ((qaB hk).1 h.2)) hn⟩
def qoi {z:Int}{n:Nat}(h:zm z n) (hn:0<n):(Lib.decDigits z.natAbs).length<=9*n:=by
 refine(qaB (by omega)).2 ?_;have h:(z.natAbs:Int)<E9^n:=h;rw[qiH]at h;exact dV.1 h
def qiZ {q:Rat}{n:Nat}(h1:zm q.num n) (h2:zm (q.den:Int) n) (hn:0<n):Sml q (9*n):=by
 have h3:=qoi h2 hn;rw[aS]at h3;exact⟨qoi h1 hn,h3⟩
def qfP {a b:Int}{n:Nat}(hb:b≠0) (fa:zm a n) (fb:zm b n):zm (Rat.divInt a b).num n/\zm ((Rat.divInt a b).den:Int) n:=by
 have hg:0<Int.gcd b a:=cx _ hb;constructor
 ·rw[dy];exact zm.le (cV (qaI _ (by omega)) (by rw[qjw hb];exact cz _)) fa
 rw[dz,aa hb,de];exact zm.le (cV (qaI _ (by omega)) (cz _)) fb.abs
def qaL {a b:Int}{m n:Nat}(ha:zm a m) (hb:zm b n):zm (a*b) (m+n):=by
 unfold zm at*;rw[bH,bu,Int.pow_add];have h1:(a.natAbs:Int)*(b.natAbs:Int)<=(a.natAbs:Int)*E9^n:=Yc (aC hb) (by omega);have h2:(a.natAbs:Int)*E9^n<E9^m*E9^n:=YH ha (pow_pos E0 n);omega
def qmZ {a b:Int}{n:Nat}(ha:zm a n) (hb:zm b n):zm (a+b) (n+1):=by
 unfold zm at*;rw[aL];have hp:=pow_pos E0 n
 have:((a+b).natAbs:Int)<=(a.natAbs:Int)+(b.natAbs:Int):=by omega
 unfold E9 at*;omega
def qqG {q:Rat}(h:Sml q 600):qlz q=false:=by
 have h1:=h.1;have h2:=h.2;unfold qlz lng;rw[aS,ak (by omega),ak (by omega)];rfl
def qmf (s:Str):qbf s=some (if s=[48]then 0 else if sgn s=true then-1 else 1):=by
 unfold qbf;by_cases c:s=[48]
 ·rw[ae (by simp[c]),ae c]
 rw[aa (by simp[c]),qhs,ZB,aa c];cases sgn s<;>rfl
def qtr:Lib.itoa 0=[48]:=by
 rw[zR (by decide),show(0:Int).natAbs=0 from rfl,jh (by decide)];rfl
def qpa {z:Int}:Lib.itoa z=[48]↔z=0:=by
 constructor
 ·intro h;have h2:=qdu z;rw[h]at h2;exact h2.symm
 intro h;rw[h];exact qtr
def T0:T 0=[48]:=by
 rw[(qeZ 0 rfl).1];exact qtr
def qkW {q:Rat}:T q=[48]↔q=0:=by
 constructor
 ·intro h;exact qqO (h.trans T0.symm)
 intro h;rw[h];exact T0
def qr6 (q:Rat):qbf (T q)=some (if q.num<0 then-1 else if q.num=0 then 0 else 1):=by
 rw[qmf,qlZ];by_cases c:q=0
 ·rw[ae (qkW.2 c),c];rfl
 rw[aa (λh=>c (qkW.1 h)),aa (show¬q.num=0 from λh=>c (Rat.num_eq_zero.1 h))];by_cases d:q.num<0
 ·rw[ap d,ae rfl,ae d]
 rw[ak d,aa (by simp),aa d]
def quB (q:Rat):tl (-q)=tl q:=by
 unfold tl;rw[fR]
def Neg_T {N:Nat}{q:Rat}(h:(T q).length<=100000):qey (T q)=some (T (-q)):=by
 unfold qey;rw[qr6,ZB]
 have e:T (-q)=Lib.itoa (-q.num)++tl q:=by rw[qpn,quB,fQ]
 by_cases c:q.num<0
 ·have hs:sgn (T q)=true:=by rw[qlZ];exact ap c
  have hb:(T q).drop 1=bdy (T q):=by unfold bdy;rw[ae hs]
  have h1:=qkZ hs;rw[ae c,ae (by decide),show(1:Int)=((1:Nat):Int)from rfl,xx h1,ZB,hb,qmr,e,zR (by omega),cC]
 rw[aa c,aa (by split<;>decide),ZB];by_cases d:q.num=0
 ·rw[ae d,ae rfl,Rat.num_eq_zero.1 d];rfl
 rw[aa d,aa (by decide),qcC (by simp;omega),ZB,e,yu (by omega),cC,qpn,zR c];rfl
def qsd {N:Nat}(hN:100000<N) {q:Rat}{k:Nat}(h:Sml q k) (hk:k<=9000):qb1 N (T q)=some (if qlz q=true then 4 else 0):=by
 have hl:=qkt h;have hs:=qdX (N:=N) (s:=T q) (by omega) (by omega)
 have hnum:qb5 N (T q)=some (Lib.itoa q.num):=by
  unfold qb5;rw[hs,ZB];by_cases c:q.den=1
  ·obtain⟨t1,t2⟩:=qeZ q c;rw[jN (by omega),ZB,t2,bW,t1]
  obtain⟨t1,t2,t3⟩:=qgd q c;rw[jN (by omega),ZB,t2]
 have habs:qb6 (Lib.itoa q.num)=some (Lib.decDigits q.num.natAbs):=by
  have hs:=qhv q.num;have hb:=qcW q.num;unfold qb6;rw[qmf,ZB,hs];unfold bdy at hb;rw[hs]at hb;by_cases c:q.num<0
  ·rw[aa (show¬Lib.itoa q.num=[48]from λh=>by have:=qpa.1 h;omega),ae (ap c),ae (by decide),show(1:Int)=((1:Nat):Int)from rfl,xx (ql0 _),ZB];rw[ae (ap c)]at hb;rw[hb]
  rw[ak c,aa (by split<;>simp),zR c]
 have hden:qb2 N (T q)=some (Lib.decDigits q.den):=by
  unfold qb2;rw[hs,ZB];by_cases c:q.den=1
  ·obtain⟨t1,t2⟩:=qeZ q c;rw[ae (by omega),c,jh (by decide)];rfl
  obtain⟨t1,t2,t3⟩:=qgd q c;rw[aa (by omega),qm (by omega),xx (by omega),ZB,t3]
 unfold qb1;rw[hnum,ZB,habs,ZB,hden];unfold qlz lng;rw[aS];by_cases c:600<(Lib.decDigits q.num.natAbs).length
 ·rw[ae (by omega),ap c,Bool.true_or];rfl
 rw[aa (by omega),ak c,eZ,ZB];by_cases d:600<(Lib.decDigits q.den).length
 ·rw[ap (by omega),ap d];rfl
 rw[ak (by omega),ak d];rfl
def qiT {N:Nat}(hN:100000<N) {q:Rat}{k:Nat}(h:Sml q k) (hk:k<=9000):vW N (T q)=some (0,0,false)\/(vW N (T q)=some (q.num,(q.den:Int),true)/\q.num.natAbs<1000000000/\q.den<1000000000):=by
 have hl:=qkt h;have hb:=qhe (T q);have eb:=qmr q;have es:slA (Lib.decDigits q.num.natAbs++tl q)=(Lib.decDigits q.num.natAbs).length:=qiY (no47 (qcg _)) q;have lt:(Lib.decDigits q.num.natAbs++tl q).length=(Lib.decDigits q.num.natAbs).length+(tl q).length:=Yq;rw[eb]at hb;unfold vW;by_cases c:((T q).length:Int)>20
 ·left;rw[ae c]
 rw[aa c,qhs,ZB,qnq,ZB,eb,qdX (by omega) (by omega),ZB,es,qlZ];by_cases c1:(Lib.decDigits q.num.natAbs).length>9
 ·left;rw[ae (by omega),ZB,ae rfl]
 rw[aa (by omega),qg (by omega) (by omega)];by_cases c2:(tl q).length>10
 ·left;rw[ap (by omega),ZB,ae rfl]
 right;rw[ak (by omega),ZB,aa (by simp),jN (by omega),ZB,List.take_left',qhr (by omega) (qcg _) (by omega),ZB,qdP]
 ·have hn:q.num.natAbs<1000000000:=(qaB (show 0<9 by decide)).1 (by omega)
  have sg:(if decide (q.num<0)=true then some (w64 (0-(q.num.natAbs:Int)))else some (q.num.natAbs:Int):Option Int)=some q.num:=by
   by_cases d:q.num<0
   ·rw[ae (ap d),qg (by omega) (by omega)];congr 1;omega
   rw[aa (λh=>d (aP h))];congr 1;omega
  by_cases d:q.den=1
  ·have ht:tl q=[]:=by unfold tl;rw[ae d]
   rw[ht]at lt;rw[aN]at lt;rw[ht,aa (by omega),ZB,sg,ZB,d];exact⟨rfl,hn,by decide⟩
  have ht:tl q=47::Lib.decDigits q.den:=by unfold tl;rw[aa d]
  rw[ht,Yr]at lt c2;have hd:q.den<1000000000:=(qaB (show 0<9 by decide)).1 (by omega);rw[ht,ae (by omega),qm (by omega),xx (by omega),ZB,dI,aB (by omega),show(Lib.decDigits q.num.natAbs).length+1-(Lib.decDigits q.num.natAbs).length=1 by omega,bp,dR,YR,qhr (by omega) (qcg _) (by omega),ZB,ZB,sg,ZB,qdP];exact⟨rfl,hn,hd⟩
 rfl
def qo0 {N:Nat}(hN:100000<N) {p q:Rat}{k:Nat}(hk:k<=9000) (hp:Sml p k) (hq:Sml q k) {Fq:(Int×Int×Bool)->(Int×Int×Bool)->Option Str}{slow:Option Str}{t:Str}
 (h1:p.num.natAbs<1000000000->p.den<1000000000->q.num.natAbs<1000000000->q.den<1000000000->Fq (p.num,(p.den:Int),true) (q.num,(q.den:Int),true)=some t) (h2:slow=some t):
 ((vW N (T p)).bind λr1=>(vW N (T q)).bind λr2=>(if r1.2.2=true then some r2.2.2 else some false:Option Bool).bind λb4=>if b4=true then(Fq r1 r2).bind λr7=>some r7 else slow)=some t:=by
 rcases qiT hN hp hk with e1|⟨e1,a1,a2⟩
 ·rcases qiT hN hq hk with e2|⟨e2,b1,b2⟩
  ·rw[e1,ZB,e2,ZB];exact h2
  rw[e1,ZB,e2,ZB];exact h2
 rcases qiT hN hq hk with e2|⟨e2,b1,b2⟩
 ·rw[e1,ZB,e2,ZB];exact h2
 rw[e1,ZB,e2,ZB];show((Fq (p.num,(p.den:Int),true) (q.num,(q.den:Int),true)).bind λr7=>some r7)=some t;rw[h1 a1 a2 b1 b2,ZB]
def qpR {a b:Int}(ha:a.natAbs<1000000000) (hb:b.natAbs<1000000000): -1000000000000000000<=a*b/\a*b<=1000000000000000000:=by
 have h:(a*b).natAbs<=1000000000*1000000000:=by
  rw[bH];exact dY (by omega) (by omega)
 omega
def qlw {N:Nat}(hN:600000<N) {p q:Rat}{k:Nat}(hk0:0<k) (hk:k<=4000) (hp:Sml p k) (hq:Sml q k):qcO N (T p) (T q)=some (T (p+q)):=by
 unfold qcO;obtain⟨n,hn⟩:∃n:Nat,n=500:=⟨_,rfl⟩;have p1:=qdk (n:=n) hp hk0 (by omega);have p2:=qdl (n:=n) hp hk0 (by omega);have q1:=qdk (n:=n) hq hk0 (by omega);have q2:=qdl (n:=n) hq hk0 (by omega);refine qo0 (N:=N) (by omega) (show k<=9000 by omega) hp hq (λa1 a2 b1 b2=>?_) ?_
 ·have m1:=qpR a1 (show((q.den:Int)).natAbs<1000000000 by omega);have m2:=qpR b1 (show((p.den:Int)).natAbs<1000000000 by omega);have m3:=qpR (show((p.den:Int)).natAbs<1000000000 by omega) (show((q.den:Int)).natAbs<1000000000 by omega);have:=qdK p q;simp only;rw[qg (n:=p.num*(q.den:Int)) (by omega) (by omega),qg (n:=q.num*(p.den:Int)) (by omega) (by omega),qg (n:=(p.den:Int)*(q.den:Int)) (by omega) (by omega),qg (by omega) (by omega),qrq (by omega) (by omega) (by omega) (by omega) (by omega) (qdK p q),<-qdH]
 rw[qeF hN (hp.mono (by omega)),ZB,qeF hN (hq.mono (by omega)),ZB];simp only;rw[qfy (by omega) (p1.mono (by omega)) (q2.mono (by omega)),ZB,qfy (by omega) (q1.mono (by omega)) (p2.mono (by omega)),ZB,qs4 (by omega) ((qaL p1 q2).mono (by omega)) ((qaL q1 p2).mono (by omega)),ZB,qfy (by omega) (p2.mono (by omega)) (q2.mono (by omega)),ZB,qe0 hN (B:=n+n+1) (by omega) (by omega) (qmZ (qaL p1 q2) (qaL q1 p2)) ((qaL p2 q2).mono (by omega)) (qdK p q),ZB,<-qdH]
def qiC {N:Nat}(hN:600000<N) {p q:Rat}{k:Nat}(hk0:0<k) (hk:k<=4000) (hp:Sml p k) (hq:Sml q k):qb3 N (T p) (T q)=some (T (p*q)):=by
 unfold qb3;obtain⟨n,hn⟩:∃n:Nat,n=500:=⟨_,rfl⟩;have p1:=qdk (n:=n) hp hk0 (by omega);have p2:=qdl (n:=n) hp hk0 (by omega);have q1:=qdk (n:=n) hq hk0 (by omega);have q2:=qdl (n:=n) hq hk0 (by omega);refine qo0 (N:=N) (by omega) (show k<=9000 by omega) hp hq (λa1 a2 b1 b2=>?_) ?_
 ·have m1:=qpR a1 b1;have m3:=qpR (show((p.den:Int)).natAbs<1000000000 by omega) (show((q.den:Int)).natAbs<1000000000 by omega);simp only;rw[qg (n:=p.num*q.num) (by omega) (by omega),qg (n:=(p.den:Int)*(q.den:Int)) (by omega) (by omega),qrq (by omega) (by omega) (by omega) (by omega) (by omega) (qdK p q),<-qdE]
 rw[qeF hN (hp.mono (by omega)),ZB,qeF hN (hq.mono (by omega)),ZB];simp only;rw[qfy (by omega) (p1.mono (by omega)) (q1.mono (by omega)),ZB,qfy (by omega) (p2.mono (by omega)) (q2.mono (by omega)),ZB,qe0 hN (B:=n+n) (by omega) (by omega) (qaL p1 q1) (qaL p2 q2) (qdK p q),ZB,<-qdE]
def qlm {p q:Rat}{n:Nat}(hn:0<n) (hp:Sml p (9*n)) (hq:Sml q (9*n)):Sml (p*q) (9*(n+n)):=by
 have p1:=qdk (n:=n) hp (by omega) (by omega);have p2:=qdl (n:=n) hp (by omega) (by omega);have q1:=qdk (n:=n) hq (by omega) (by omega);have q2:=qdl (n:=n) hq (by omega) (by omega);rw[qdE];obtain⟨f1,f2⟩:=qfP (qdK p q) (qaL p1 q1) (qaL p2 q2);exact qiZ f1 f2 (by omega)
def qtg {p:Rat}{k:Nat}(h:Sml p k):Sml (-p) k:=by
 unfold Sml;rw[fQ,fR,cC];exact h
def qs7 {p:Rat}{k:Nat}(h:Sml p k) (h0:p≠0):Sml p⁻¹ k:=by
 have hn:p.num≠0:=λc=>h0 (Rat.num_eq_zero.1 c)
 unfold Sml;rw[Rat.num_inv,Rat.den_inv,aa hn,bH,cE hn,cy,aS];exact⟨h.2,h.1⟩
def qsi {N:Nat}(hN:600000<N) {p q:Rat}{k:Nat}(hk0:0<k) (hk:k<=4000) (hp:Sml p k) (hq:Sml q k):qeE N (T p) (T q)=some (T (p-q)):=by
 have hl:=qkt hq;unfold qeE;rw[Neg_T (N:=N) (by omega),ZB,qlw hN hk0 hk hp (qtg hq),ZB,Rat.sub_eq_add_neg]
def qsI {N:Nat}(hN:600000<N) {p:Rat}{k:Nat}(hk0:0<k) (hk:k<=4000) (hp:Sml p k) (h0:p≠0):qah N (T p)=some (T p⁻¹):=by
 obtain⟨n,hn⟩:∃n:Nat,n=500:=⟨_,rfl⟩;have p1:=qdk (n:=n) hp hk0 (by omega);have p2:=qdl (n:=n) hp hk0 (by omega);unfold qah;rw[qeF hN (hp.mono (by omega)),ZB];simp only;rw[qe0 hN (B:=n) (by omega) (by omega) p2 p1 (λc=>h0 (Rat.num_eq_zero.1 c)),ZB,<-Rat.inv_def]
def qx:Nat->(Nat->Rat)->Rat
 |0,_=>0
 |n+1,f=>qx n f+f n
def qp {f g:Nat->Rat}:∀(n:Nat),(∀j<n,f j=g j)->qx n f=qx n g
 |0,_=>rfl
 |n+1,h=>by
  unfold qx;rw[qp n (λj hj=>h j (by omega)),h n (by omega)]
def qft (a b:Nat->Rat) (t:Rat):∀n:Nat,qx n (λj=>a j-t*b j)=qx n a-t*qx n b
 |0=>by
  show(0:Rat)=0-t*0;grind
 |n+1=>by
  unfold qx;rw[qft a b t n];grind
def qcs (a:Nat->Rat) (t:Rat):∀n:Nat,qx n (λj=>a j*t)=qx n a*t
 |0=>by
  show(0:Rat)=0*t;grind
 |n+1=>by
  unfold qx;rw[qcs a t n];grind
def qdq:∀n:Nat,qx n (λ_=>0)=0
 |0=>rfl
 |n+1=>by
  unfold qx;rw[qdq n,Rat.add_zero]
def qdy (a:Nat->Rat) (k:Nat):∀n:Nat,qx n (λj=>if j=k then a j else 0)=if k<n then a k else 0
 |0=>rfl
 |n+1=>by
  unfold qx;rw[qdy a k n];dsimp only;by_cases h:k<n
  ·rw[ae h,aa (show¬n=k by omega),ae (by omega),Rat.add_zero]
  rw[aa h];by_cases e:n=k
  ·subst e;rw[ae rfl,ae (by omega),Rat.zero_add]
  rw[aa e,aa (by omega),Rat.add_zero]
def qgc (f:Nat->Nat->Rat) (n:Nat):∀m:Nat,qx m (λi=>qx n (λj=>f i j))=qx n (λj=>qx m (λi=>f i j))
 |0=>(qdq n).symm
 |m+1=>by
  show qx m (λi=>qx n (λj=>f i j))+qx n (λj=>f m j)=_;rw[qgc f n m];have h:=qft (λj=>qx m (λi=>f i j)) (λj=>f m j) (-1) n
  have e:qx n (λj=>qx m (λi=>f i j))+qx n (λj=>f m j)=qx n (λj=>qx m (λi=>f i j))-(-1)*qx n (λj=>f m j):=by grind
  rw[e,<-h]
  refine qp n λj _=>?_
  show _=qx m (λi=>f i j)+f m j;grind
abbrev Mx:=Nat->Nat->Rat
def xA (M:Mx) (r d:Nat):Mx:=λi=>if i=d then M r else if i=r then M d else M i
def qgl (M:Mx) (d:Nat) (s:Rat):Mx:=λi j=>if i=d then M i j*s else M i j
def qeh (M:Mx) (c d:Nat):Mx:=λi j=>if i=d then M i j else M i j-M i c*M d j
def qd1 (M:Mx) (c d r:Nat):Mx:=qeh (qgl (xA M r d) d (xA M r d d c)⁻¹) c d
def qkh (M:Mx) (r d:Nat):xA M r d d=M r:=ae rfl
structure LinQ (Q:(Nat->Rat)->Prop):Prop where
 sub:∀v w t,Q v->Q w->Q (λj=>v j-t*w j)
 scl:∀v t,Q v->Q (λj=>v j*t)
def qff (M:Mx) (c d r:Nat):qd1 M c d r d=λj=>M r j*(M r c)⁻¹:=by
 funext j;simp only[qd1,qeh,qgl,aT,qkh]
def qfh (M:Mx) (c d r:Nat) {i:Nat}(h:i≠d):qd1 M c d r i=λj=>xA M r d i j-xA M r d i c*(M r j*(M r c)⁻¹):=by
 funext j;simp only[qd1,qeh,qgl,aT,aa h,qkh]
def qsM {Q:(Nat->Rat)->Prop}(h:LinQ Q) {M:Mx}{R c d r:Nat}(hd:d<R) (hr:r<R) (hp:M r c≠0):(∀i<R,Q (M i))↔ ∀i<R,Q (qd1 M c d r i):=by
 have hs:∀i<R,∃k<R,xA M r d i=M k:=λi hi=>by
  unfold xA;by_cases e:i=d
  ·exact⟨r,hr,ae e⟩
  by_cases g:i=r
  ·exact⟨d,hd,by rw[aa e,ae g]⟩
  exact⟨i,hi,by rw[aa e,aa g]⟩
 constructor
 ·intro H i hi;by_cases e:i=d
  ·rw[e,qff];exact h.scl _ _ (H r hr)
  rw[qfh M c d r e];obtain⟨k,hk,ek⟩:=hs i hi;rw[ek];exact h.sub _ _ _ (H k hk) (h.scl _ _ (H r hr))
 intro H
 have hr':Q (M r):=by
  have:=h.scl _ (M r c) (H d hd);rw[qff]at this
  have e:(λj=>M r j*(M r c)⁻¹*M r c)=M r:=by
   funext j;rw[Rat.mul_assoc,Rat.inv_mul_cancel _ hp,Rat.mul_one]
  rwa [e]at this
 have hw:∀i<R,i≠d->Q (xA M r d i):=λi hi e=>by
  have:=h.sub _ _ (-(xA M r d i c)) (H i hi) (H d hd);rw[qfh M c d r e,qff]at this
  have e:(λj=>xA M r d i j-xA M r d i c*(M r j*(M r c)⁻¹)- -(xA M r d i c)*(M r j*(M r c)⁻¹))=xA M r d i:=by
   funext j;grind
  rwa [e]at this
 intro i hi;by_cases e:i=r
 ·rw[e];exact hr'
 by_cases g:i=d
 ·subst g;have:=hw r hr (λq=>e q.symm);unfold xA at this
  rwa [aa (λq=>e q.symm),ae rfl]at this
 have:=hw i hi g;unfold xA at this
 rwa [aa g,aa e]at this
def qdD (M:Mx) (c:Nat):Nat->Nat->Option Nat
 |0,_=>none
 |k+1,r=>if M r c=0 then qdD M c k (r+1)else some r
def qcX {M:Mx}{c:Nat}:∀{k r q:Nat},qdD M c k r=some q->r<=q/\q<r+k/\M q c≠0
 |0,r,q,h=>by cases h
 |k+1,r,q,h=>by
  unfold qdD at h;by_cases e:M r c=0
  ·rw[ae e]at h;obtain⟨a,b,d⟩:=qcX h;exact⟨by omega,by omega,d⟩
  rw[aa e]at h;obtain rfl:=Ye h;exact⟨ai _,by omega,e⟩
def qjv {M:Mx}{c:Nat}:∀{k r:Nat},qdD M c k r=none->∀q,r<=q->q<r+k->M q c=0
 |0,r,h,q,h1,h2=>by omega
 |k+1,r,h,q,h1,h2=>by
  unfold qdD at h;by_cases e:M r c=0
  ·rw[ae e]at h;by_cases g:q=r
   ·rw[g];exact e
   exact qjv h q (by omega) (by omega)
  rw[aa e]at h;cases h
def xz (R:Nat) (s:Mx×List Nat) (c:Nat):Mx×List Nat:=match qdD s.1 c (R-s.2.length) s.2.length with
 |none=>s
 |some r=>(qd1 s.1 c s.2.length r,s.2++[c])
structure EI (R c:Nat) (M:Mx) (p:List Nat):Prop where
 le:p.length<=c
 lr:p.length<=R
 z:∀i,p.length<=i->i<R->∀j<c,M i j=0
 one:p.length=c->∀k<c,∀i<R,M i k=if i=k then 1 else 0
def EI.zero (R:Nat) (M:Mx):EI R 0 M []:=⟨ai _,aD _,λi _ _ j hj=>by omega,λ_ k hk=>by omega⟩
def qsw {M:Mx}{R d r i:Nat}(hd:d<R) (hr:r<R) (hi:i<R) (h1:d<=r) (h2:d<=i):∃k,d<=k/\k<R/\xA M r d i=M k:=by
 unfold xA;by_cases e:i=d
 ·exact⟨r,h1,hr,ae e⟩
 by_cases g:i=r
 ·exact⟨d,ai _,hd,by rw[aa e,ae g]⟩
 exact⟨i,h2,hi,by rw[aa e,aa g]⟩
def EI.step {R c:Nat}{M:Mx}{p:List Nat}(h:EI R c M p):EI R (c+1) (xz R (M,p) c).1 (xz R (M,p) c).2:=by
 unfold xz;dsimp only
 cases hf:qdD M c (R-p.length) p.length with
 |none=>
  dsimp only;refine⟨by have:=h.le;omega,h.lr,λi h1 h2 j hj=>?_,λe=>by have:=h.le;omega⟩;by_cases e:j=c
  ·rw[e];exact qjv hf i h1 (by have:=h.lr;omega)
  exact h.z i h1 h2 j (by omega)
 |some r=>
  obtain⟨r1,r2,r3⟩:=qcX hf;have lr:=h.lr;have hle:=h.le
  have hd:p.length<R:=by omega
  have hr:r<R:=by omega
  have hpl:(p++[c]).length=p.length+1:=by simp
  have cv:M r c*(M r c)⁻¹=1:=fh _ r3;dsimp only;refine⟨by omega,by omega,λi h1 h2 j hj=>?_,λe k hk i hi=>?_⟩
  ·rw[hpl]at h1;rw[qfh M c p.length r (by omega)];obtain⟨k,k1,k2,k3⟩:=qsw (M:=M) hd hr h2 r1 (show p.length<=i by omega);dsimp only;rw[k3];by_cases e:j=c
   ·rw[e,cv];grind
   rw[h.z k k1 k2 j (by omega),h.z r r1 hr j (by omega)];grind
  have ec:p.length=c:=by omega
  have one:=h.one ec;by_cases e1:k=c
  ·by_cases e2:i=p.length
   ·rw[e2,qff,e1,ec,ae rfl];exact cv
   rw[qfh M c p.length r e2,aa (by omega),e1];dsimp only;rw[cv];grind
  have zr:M r k=0:=h.z r r1 hr k (by omega);by_cases e2:i=p.length
  ·rw[e2,qff,aa (by omega)];dsimp only;rw[zr];grind
  rw[qfh M c p.length r e2];dsimp only;rw[zr]
  have:xA M r p.length i k=if i=k then 1 else 0:=by
   unfold xA;rw[aa e2];by_cases e3:i=r
   ·rw[ae e3,h.z p.length (ai _) hd k (by omega),aa (by omega)]
   rw[aa e3];exact one k (by omega) i hi
  rw[this];grind
def qrN {Q:(Nat->Rat)->Prop}(h:LinQ Q) {R c:Nat}{M:Mx}{p:List Nat}(lr:p.length<=R):(∀i<R,Q (M i))↔ ∀i<R,Q ((xz R (M,p) c).1 i):=by
 unfold xz;dsimp only
 cases hf:qdD M c (R-p.length) p.length with
 |none=>exact Iff.rfl
 |some r=>
  obtain⟨r1,r2,r3⟩:=qcX hf;exact qsM h (by omega) (by omega) r3
def RoB (B:Int) (C:Nat) (v:Nat->Rat):Prop:= ∃(D:Int) (z:Nat->Int),0<D/\D<=B/\∀j<C,v j*(D:Rat)=(z j:Rat)/\ -B<=z j/\z j<=B
def RoB.mono {B B':Int}{C:Nat}{v:Nat->Rat}(h:RoB B C v) (hB:B<=B'):RoB B' C v:=by
 obtain⟨D,z,h1,h2,h3⟩:=h;exact⟨D,z,h1,by omega,λj hj=>⟨(h3 j hj).1,by have:=(h3 j hj).2;omega,by have:=(h3 j hj).2;omega⟩⟩
def qfD {D:Int}(h:D≠0):(D:Rat)≠0:=by
 intro e
 have:(D:Int)=0:=by exact_mod_cast e
 exact h this
def RoB.scl {B:Int}{C:Nat}{v:Nat->Rat}(h:RoB B C v) {c:Nat}(hc:c<C) (h0:v c≠0):RoB B C (λj=>v j*(v c)⁻¹):=by
 obtain⟨D,z,h1,h2,h3⟩:=h;obtain⟨c1,c2,c3⟩:=h3 c hc;have hD:(D:Rat)≠0:=qfD (by omega)
 have zc:z c≠0:=λe=>by
  rw[e]at c1;rcases eG.1 c1 with q|q
  ·exact h0 q
  exact hD q
 have cv:v c*(v c)⁻¹=1:=fh _ h0
 have key:∀j<C,v j*(v c)⁻¹*(z c:Rat)=(z j:Rat):=λj hj=>by
  have e1:=(h3 j hj).1;grind
 by_cases p:0<z c
 ·exact⟨z c,z,p,c3,λj hj=>⟨key j hj,(h3 j hj).2⟩⟩
 refine⟨-(z c),λj=> -(z j),by omega,by omega,λj hj=>⟨?_,by have:=(h3 j hj).2;dsimp only;omega,by have:=(h3 j hj).2;dsimp only;omega⟩⟩;have:=key j hj;rw[dl,dl];grind
def qik {a b B:Int}(hB:0<=B) (a1: -B<=a) (a2:a<=B) (b1: -B<=b) (b2:b<=B): -(B*B)<=a*b/\a*b<=B*B:=by
 have h:(a*b).natAbs<=B.natAbs*B.natAbs:=by
  rw[bH];exact dY (by omega) (by omega)
 have e:((B.natAbs*B.natAbs:Nat):Int)=B*B:=by
  rw[bu,Int.natAbs_of_nonneg hB]
 omega
def RoB.elm {B:Int}{C:Nat}{v w:Nat->Rat}(h:RoB B C v) (k:RoB B C w) {c:Nat}(hc:c<C):RoB (2*(B*B)) C (λj=>v j-v c*w j):=by
 obtain⟨D,z,h1,h2,h3⟩:=h;obtain⟨E,y,k1,k2,k3⟩:=k;obtain⟨c1,c2,c3⟩:=h3 c hc
 have hB:0<=B:=by omega
 have BB:B<=B*B:=by
  have:=Yc (show(1:Int)<=B by omega) hB;omega
 refine⟨D*E,λj=>z j*E-z c*y j,dL h1 k1,?_,λj hj=>⟨?_,?_⟩⟩
 ·have:=(qik hB (a:=D) (b:=E) (by omega) h2 (by omega) k2).2;omega
 ·have e1:=(h3 j hj).1;have e2:=(k3 j hj).1;rw[cm,Rat.intCast_sub,cm,cm];grind
 have m1:=qik hB (a:=z j) (b:=E) (h3 j hj).2.1 (h3 j hj).2.2 (by omega) k2;have m2:=qik hB c2 c3 (k3 j hj).2.1 (k3 j hj).2.2;dsimp only;omega
def bdE (B:Int):Nat->Int
 |0=>B
 |n+1=>2*(bdE B n*bdE B n)
def qlj {B:Int}(hB:1<=B):∀n,0<bdE B n
 |0=>by unfold bdE;omega
 |n+1=>by
  have:=qlj hB n;have:=dL this this;unfold bdE;omega
def qrT {B:Int}(hB:1<=B) (n:Nat):bdE B n<=bdE B (n+1):=by
 have h:=qlj hB n;have:=Yc (show(1:Int)<=bdE B n by omega) (show 0<=bdE B n by omega);show bdE B n<=2*(bdE B n*bdE B n);omega
def qsN {B:Int}(hB:1<=B) {R c C:Nat}(hc:c<C) {M:Mx}{p:List Nat}(lr:p.length<=R) (h:∀i<R,RoB (bdE B p.length) C (M i)):∀i<R,RoB (bdE B (xz R (M,p) c).2.length) C ((xz R (M,p) c).1 i):=by
 unfold xz;dsimp only
 cases hf:qdD M c (R-p.length) p.length with
 |none=>exact h
 |some r=>
  obtain⟨r1,r2,r3⟩:=qcX hf;dsimp only;intro i hi;have sc:=(h r (by omega)).scl hc r3;rw[show(p++[c]).length=p.length+1 by simp];by_cases e:i=p.length
  ·rw[e,qff];exact sc.mono (qrT hB _)
  rw[qfh M c p.length r e]
  have hs:∃k<R,xA M r p.length i=M k:=by
   unfold xA;rw[aa e];by_cases g:i=r
   ·exact⟨p.length,by omega,ae g⟩
   exact⟨i,hi,aa g⟩
  obtain⟨k,k1,k2⟩:=hs;rw[k2];exact(h k k1).elm sc hc
def RoB.sml {B:Int}{C:Nat}{v:Nat->Rat}(h:RoB B C v) {n:Nat}(hn:0<n) (hB:zm B n) {j:Nat}(hj:j<C):Sml (v j) (9*n):=by
 obtain⟨D,z,h1,h2,h3⟩:=h;obtain⟨e,z1,z2⟩:=h3 j hj;have hD:(D:Rat)≠0:=qfD (by omega)
 have e:v j=Rat.divInt (z j) D:=by rw[Rat.divInt_eq_div,<-e,Rat.mul_div_cancel hD]
 obtain⟨f1,f2⟩:=qfP (a:=z j) (b:=D) (n:=n) (by omega) (zm.le (b:=B) (by omega) hB) (zm.le (b:=B) (by omega) hB);rw[e];exact qiZ f1 f2 hn
section
def RwG {α:Type}(P:α->Rat->Prop) (C:Nat) (r:List α) (v:Nat->Rat):Prop:=r.length=C/\∀(j:Nat) f,r[j]? =some f->P f (v j)
def MxG {α:Type}(P:α->Rat->Prop) (R C:Nat) (l:List (List α)) (M:Mx):Prop:=l.length=R/\∀(i:Nat) r,l[i]? =some r->RwG P C r (M i)
abbrev RwF:=RwG IsF
abbrev MxF:=MxG IsF
section
variable {R C:Nat}{α:Type}{P:α->Rat->Prop}
def RwG.get {r:List α}{v:Nat->Rat}(h:RwG P C r v) {k:Nat}(hk:k<C):∃f,r[k]? =some f/\P f (v k):=by
 have:k<r.length:=by rw[h.1];exact hk
 exact⟨r[k],Ya this,h.2 k _ (Ya this)⟩
def MxG.get {l:List (List α)}{M:Mx}(h:MxG P R C l M) {k:Nat}(hk:k<R):∃r,l[k]? =some r/\RwG P C r (M k):=by
 have:k<l.length:=by rw[h.1];exact hk
 exact⟨l[k],Ya this,h.2 k _ (Ya this)⟩
def RwG.put {r:List α}{v:Nat->Rat}(h:RwG P C r v) {f:α}{q:Rat}(hf:P f q) (k:Nat):RwG P C (r.set k f) (λj=>if j=k then q else v j):=by
 refine⟨by rw[Yk];exact h.1,λj g hg=>?_⟩;dsimp only;by_cases e:j=k
 ·subst e;have hl:=(Yb.1 hg).1;rw[Yk]at hl;rw[List.getElem?_set_self hl]at hg;rw[ae rfl,<-Ye hg];exact hf
 rw[Yw (λc=>e c.symm)]at hg;rw[aa e];exact h.2 j g hg
def MxG.put {l:List (List α)}{M:Mx}(h:MxG P R C l M) {r:List α}{v:Nat->Rat}(hr:RwG P C r v) (k:Nat):MxG P R C (l.set k r) (λi=>if i=k then v else M i):=by
 refine⟨by rw[Yk];exact h.1,λj g hg=>?_⟩;dsimp only;by_cases e:j=k
 ·subst e;have hl:=(Yb.1 hg).1;rw[Yk]at hl;rw[List.getElem?_set_self hl]at hg;rw[ae rfl,<-Ye hg];exact hr
 rw[Yw (λc=>e c.symm)]at hg;rw[aa e];exact h.2 j g hg
def RwG.congr {r:List α}{v w:Nat->Rat}(h:RwG P C r v) (e:∀j<C,v j=w j):RwG P C r w:=⟨h.1,λj f hf=>by
 have:=h.2 j f hf
 rwa [e j (by have:=(Yb.1 hf).1;rw[h.1]at this;exact this)]at this⟩
def MxG.congr {l:List (List α)}{M M':Mx}(h:MxG P R C l M) (e:∀i<R,∀j<C,M i j=M' i j):MxG P R C l M':=⟨h.1,λi r hr=>(h.2 i r hr).congr (e i (by
 have:=(Yb.1 hr).1;rw[h.1]at this;exact this))⟩
end
def qfR {α:Type}(l:List α) (a:Nat) (x:α):jZ l (a:Int) x=l.set a x:=by unfold jZ;rfl
def qfG {f:qb}{q:Rat}(h:IsF f q):jM f=some (if q.num<0 then-1 else if q.num=0 then 0 else 1):=by
 unfold jM;rw[qeU h.1];rfl
def qby (q:Rat):((if q.num<0 then-1 else if q.num=0 then 0 else 1:Int)=0)↔q=0:=by
 rw[<-Rat.num_eq_zero];split
 ·constructor
  ·intro h;omega
  intro h;omega
 split
 ·exact⟨λ_=>by assumption,λ_=>rfl⟩
 exact⟨λh=>by omega,λh=>absurd h (by assumption)⟩
abbrev pI (p:List Nat):List Int:=p.map Int.ofNat
section
variable {N:Nat}(hN:600000<N) {R C:Nat}(hR:R<=100) (hC:C<=100) {p:List Int}{d:Nat}(hp:p.length=d) (hd:d<R)
include hN hR hC hp hd
theorem qtm {M:Mx}{s:Rat}{f:qb}(hs:IsF f s) (fs:qaN s 72) (fm:∀j<C,qaN (M d j) 72) {x:List qb}(hx:x.length=C):∀(K k:Nat) (l:List (List qb)),k<=C->C<K+k->MxF R C l (λi j=>if i=d/\j<k then M i j*s else M i j)->
 ∃l',za N x p f K l (k:Int)=some l'/\MxF R C l' (qgl M d s)
 |0,k,l,h1,h2,h=>by omega
 |K+1,k,l,h1,h2,h=>by
  unfold za;by_cases hk:k<C
  ·obtain⟨r,e1,g1⟩:=h.get hd;obtain⟨y,e2,g2⟩:=g1.get hk;rw[aa (by omega)]at g2;obtain⟨z,e3,g3⟩:=qlq hN g2 hs (n:=72) (by omega) (fm k hk) fs
   have hkr:k<r.length:=by rw[g1.1];exact hk
   rw[ae (by omega),hp,qf,e1,ZB,qf,e2,ZB,e3,ZB,jr hkr,ZB,qfR,qm (by omega)];refine qtm hs fs fm hx K (k+1) _ (by omega) (by omega) ((h.put (g1.put g3 k) d).congr λi hi j hj=>?_);by_cases a:i=d
   ·rw[ae a];by_cases b:j=k
    ·rw[ae b,ae ⟨a,by omega⟩,a,b]
    rw[aa b];by_cases c:j<k
    ·rw[ae ⟨rfl,c⟩,ae ⟨a,by omega⟩,a]
    rw[aa (λq=>c q.2),aa (λq=>by omega),a]
   rw[aa a,aa (λq=>a q.1),aa (λq=>a q.1)]
  rw[aa (by omega)];refine⟨l,rfl,h.congr λi hi j hj=>?_⟩;unfold qgl;by_cases a:i=d
  ·rw[ae ⟨a,by omega⟩,ae a]
  rw[aa (λq=>a q.1),aa a]
omit hR hd in
theorem qpT {u v:Nat->Rat}{t:Rat}{f:qb}(ht:IsF f t) (ft:qaN t 72) (fu:∀j<C,qaN (u j) 72) (fv:∀j<C,qaN (v j) 72) {l:List (List qb)}{w:List qb}(hw:l[d]? =some w) (gw:RwF C w v) {x:List qb}(hx:x.length=C) (i:Nat):∀(K k:Nat) (r:List qb),k<=C->C<K+k->RwF C r (λj=>if j<k then u j-t*v j else u j)->
 ∃r',kw N l x p (i:Int) f K r (k:Int)=some (l.set i r')/\RwF C r' (λj=>u j-t*v j)
 |0,k,r,h1,h2,h=>by omega
 |K+1,k,r,h1,h2,h=>by
  unfold kw;by_cases hk:k<C
  ·obtain⟨y,e2,g2⟩:=h.get hk;rw[aa (by omega)]at g2;obtain⟨q,e3,g3⟩:=gw.get hk;obtain⟨z,e4,g4⟩:=qlq hN ht g3 (n:=72) (by omega) ft (fv k hk);obtain⟨z',e5,g5⟩:=qsz hN g2 g4 (n:=72+72) (by omega) ((fu k hk).mono (show 72<=72+72 by decide)) (qjy ft (fv k hk))
   have hkr:k<r.length:=by rw[h.1];exact hk
   rw[ae (by omega),hp,qf,hw,ZB,qf,e2,ZB,qf,e3,ZB,e4,ZB,e5,ZB,jr hkr,ZB,qm (by omega)];refine qpT ht ft fu fv hw gw hx i K (k+1) _ (by omega) (by omega) ((h.put g5 k).congr λj hj=>?_);by_cases b:j=k
   ·rw[ae b,ae (by omega),b]
   rw[aa b];by_cases c:j<k
   ·rw[ae c,ae (by omega)]
   rw[aa c,aa (by omega)]
  rw[aa (by omega),qfR];refine⟨r,rfl,h.congr λj hj=>?_⟩;rw[ae (by omega)]
theorem qle {S:Mx}(fS:∀i<R,∀j<C,qaN (S i j) 72) {c:Nat}(hc:c<C) {q:List (List qb)}(hq:q.length=R):∀(K i:Nat) (l:List (List qb)),i<=R->R<K+i->MxF R C l (λi' j=>if i'<i then qeh S c d i' j else S i' j)->
 ∃l',ze N q p (c:Int) K l (i:Int)=some l'/\MxF R C l' (qeh S c d)
 |0,i,l,h1,h2,h=>by omega
 |K+1,i,l,h1,h2,h=>by
  unfold ze;by_cases hi:i<R
  ·obtain⟨r,e1,g1⟩:=h.get hi
   have g1:RwF C r (S i):=g1.congr λj hj=>by rw[aa (by omega)]
   obtain⟨y,e2,g2⟩:=g1.get hc;rw[ae (by omega),qf,e1,ZB,hp];by_cases a:i=d
   ·rw[ae (by omega),ZB,ae rfl,ZB,qm (by omega)];refine qle fS hc hq K (i+1) _ (by omega) (by omega) (h.congr λi' hi' j hj=>?_);by_cases b:i'=i
    ·rw[aa (by omega),ae (by omega)];unfold qeh;rw[ae (by omega)]
    by_cases b2:i'<i
    ·rw[ae b2,ae (by omega)]
    rw[aa b2,aa (by omega)]
   rw[aa (by omega),qf,e2,ZB,qfG g2,ZB,ZB];by_cases z:S i c=0
   ·rw[ap ((qby _).2 z),ae rfl,ZB,qm (by omega)];refine qle fS hc hq K (i+1) _ (by omega) (by omega) (h.congr λi' hi' j hj=>?_);by_cases b:i'=i
    ·rw[aa (by omega),ae (by omega)];unfold qeh;rw[aa (by omega),b,z];grind
    by_cases b2:i'<i
    ·rw[ae b2,ae (by omega)]
    rw[aa b2,aa (by omega)]
   rw[ak (λk=>z ((qby _).1 k)),aa (by decide),ZB,aa (by omega)];obtain⟨w,e3,g3⟩:=h.get hd
   have g3:RwF C w (S d):=g3.congr λj hj=>by
    by_cases b:d<i
    ·rw[ae b];unfold qeh;rw[ae rfl]
    rw[aa b]
   obtain⟨r',e4,g4⟩:=qpT hN hC hp g2 (fS i hi c hc) (λj hj=>fS i hi j hj) (λj hj=>fS d hd j hj) e3 g3 g1.1 i N 0 r (aD _) (by omega) (g1.congr λj hj=>by rw[aa (by omega)]);rw[show((0:Nat):Int)=0 from rfl]at e4;rw[e4,ZB,ZB,qm (by omega)];refine qle fS hc hq K (i+1) _ (by omega) (by omega) ((h.put g4 i).congr λi' hi' j hj=>?_);by_cases b:i'=i
   ·rw[ae b,ae (by omega)];unfold qeh;rw[aa (by omega),b]
   rw[aa b];by_cases b2:i'<i
   ·rw[ae b2,ae (by omega)]
   rw[aa b2,aa (by omega)]
  rw[aa (by omega)];exact⟨l,rfl,h.congr λi' hi' j hj=>by rw[ae (by omega)]⟩
omit hd in
theorem qrI {B:Int}(hB:zm B 151) {c:Nat}(hc:c<C) (hpl:d<=50) {l:List (List qb)}{M:Mx}(h:MxF R C l M) (hb:∀i<R,RoB B C (M i)):∀(K r:Nat),d<=r->r<=R->R<K+r->
 (qdD M c (R-r) r=none/\qV N l p (c:Int) K (r:Int)=some (.inr ()))\/(∃q l',qdD M c (R-r) r=some q/\qV N l p (c:Int) K (r:Int)=some (.inl (l',p++[(c:Int)]))/\MxF R C l' (qd1 M c d q))
 |0,r,h1,h2,h3=>by omega
 |K+1,r,h1,h2,h3=>by
  unfold qV
  have fq:∀{v:Nat->Rat},RoB B C v->∀j<C,qaN (v j) 72:=λhv j hj=>qfM (k:=9*151) (hv.sml (by decide) hB hj) (by decide) (by decide)
  by_cases hr:r<R
  ·obtain⟨x,e1,g1⟩:=h.get hr;obtain⟨y,e2,g2⟩:=g1.get hc
   have hf:R-r=(R-(r+1))+1:=by omega
   rw[ae (by have:=h.1;omega),qf,e1,ZB,qf,e2,ZB,qfG g2,ZB,hf];unfold qdD;by_cases z:M r c=0
   ·rw[ae ((qby _).2 z),qm (by omega),ae z];exact qrI hB hc hpl h hb K (r+1) (by omega) (by omega) (by omega)
   have hd:d<R:=by omega
   rw[aa (λk=>z ((qby _).1 k)),aa z];refine .inr ?_;obtain⟨x2,e3,g3⟩:=h.get hd
   have sw:∃l2,((if(r:Int)=(p.length:Int)then(idx l (p.length:Int)).bind λx27=>some l else(idx l (p.length:Int)).bind λx29=>some (jZ (jZ l (p.length:Int) x) (r:Int) x29):Option (List (List qb))))=some l2/\MxF R C l2 (xA M r d):=by
    rw[hp,qf,e3,ZB,ZB];by_cases a:r=d
    ·rw[ae (by omega)];refine⟨l,rfl,h.congr λi hi j hj=>?_⟩;unfold xA;by_cases b:i=d
     ·rw[ae b,b,a]
     rw[aa b,aa (by omega)]
    rw[aa (by omega),qfR,qfR];refine⟨_,rfl,((h.put g1 d).put g3 r).congr λi hi j hj=>?_⟩;unfold xA;by_cases b:i=r
    ·rw[ae b,aa (by omega),ae b]
    rw[aa b];by_cases b2:i=d
    ·rw[ae b2,ae b2]
    rw[aa b2,aa b2,aa b]
   obtain⟨l2,s1,s2⟩:=sw;rw[s1,ZB];have wd:xA M r d d=M r:=qkh M r d;obtain⟨x3,e4,g4⟩:=s2.get hd;obtain⟨y3,e5,g5⟩:=g4.get hc;rw[wd]at g5 g4;have br:=hb r hr;obtain⟨iv,e6,g6⟩:=qsT hN g5 ((fq br c hc).mono (by omega)) z;obtain⟨l3,e7,g7⟩:=qtm hN hR hC hp hd (M:=xA M r d) g6 (qqz (fq br c hc) (by decide)) (λj hj=>by rw[wd];exact fq br j hj) g4.1 N 0 l2 (aD _) (by omega) (s2.congr λi hi j hj=>by rw[aa (by omega)])
   have hS:∀i<R,RoB B C (qgl (xA M r d) d (M r c)⁻¹ i):=λi hi=>by
    by_cases a:i=d
    ·have e:qgl (xA M r d) d (M r c)⁻¹ i=λj=>M r j*(M r c)⁻¹:=by
      funext j;unfold qgl;rw[ae a,a,wd]
     rw[e];exact br.scl hc z
    have e:qgl (xA M r d) d (M r c)⁻¹ i=xA M r d i:=by
     funext j;unfold qgl;rw[aa a]
    rw[e];unfold xA;rw[aa a];by_cases b:i=r
    ·rw[ae b];exact hb d hd
    rw[aa b];exact hb i hi
   obtain⟨l4,e8,g8⟩:=qle hN hR hC hp hd (S:=qgl (xA M r d) d (M r c)⁻¹) (λi hi j hj=>fq (hS i hi) j hj) hc g7.1 N 0 l3 (aD _) (by omega) (g7.congr λi hi j hj=>by rw[aa (by omega)]);rw[show((0:Nat):Int)=0 from rfl]at e7 e8;refine⟨r,l4,rfl,?_,?_⟩
   ·rw[hp,qf,e4,ZB,qf,e5,ZB,e6,ZB,e7,ZB,e8,ZB,jU (by simp;omega) (by simp;omega),ZB]
   unfold qd1;rw[wd];exact g8
  rw[aa (by have:=h.1;omega)]
  have:R-r=0:=by omega
  rw[this];exact .inl ⟨rfl,rfl⟩
end
def qB (R:Nat):Nat->Nat->Mx×List Nat->Mx×List Nat
 |0,_,s=>s
 |k+1,c,s=>qB R k (c+1) (xz R s c)
def qqN {B:Int}(hB:1<=B) {a b:Nat}(h:a<=b):bdE B a<=bdE B b:=by
 induction h with
 |refl=>exact cz _
 |step _ ih=>exact cV ih (qrT hB _)
def fitd {B:Int}(hB:1<=B) {k:Nat}(h4:zm (bdE B 5) k) {n:Nat}(h:n<=5):zm (bdE B n) k:=zm.le (by have:=qqN hB h;have:=qlj hB n;omega) h4
structure qb8 (B:Int) (R C c:Nat) (s:Mx×List Nat):Prop where
 one:1<=B
 ei:EI R c s.1 s.2
 rb:∀i<R,RoB (bdE B s.2.length) C (s.1 i)
variable {B:Int}
def qb8.step {R C c:Nat}{s:Mx×List Nat}(h:qb8 B R C c s) (hc:c<C):qb8 B R C (c+1) (xz R s c):=⟨h.one,h.ei.step,qsN h.one hc h.ei.lr h.rb⟩
def qb8.run {R C:Nat}:∀(k c:Nat) {s:Mx×List Nat},qb8 B R C c s->c+k<=C->qb8 B R C (c+k) (qB R k c s)
 |0,c,s,h,hk=>h
 |k+1,c,s,h,hk=>by
  have:=qb8.run k (c+1) (h.step (by omega)) (by omega)
  rwa [show c+1+k=c+(k+1)by omega]at this
def qjZ {Q:(Nat->Rat)->Prop}(hQ:LinQ Q) {R C:Nat}:∀(k c:Nat) {s:Mx×List Nat},qb8 B R C c s->c+k<=C->((∀i<R,Q (s.1 i))↔ ∀i<R,Q ((qB R k c s).1 i))
 |0,c,s,h,hk=>Iff.rfl
 |k+1,c,s,h,hk=>(qrN hQ h.ei.lr).trans (qjZ hQ k (c+1) (h.step (by omega)) (by omega))
section
variable {N:Nat}(hN:600000<N) {R C:Nat}(hR:R<=5) (hC:C<=100) (h4:zm (bdE B 5) 151)
include hN hR hC h4
theorem qlB {n:Nat}(hn:n<=C):∀(K c k:Nat) (l:List (List qb)) (s:Mx×List Nat),c+k=n->k<K->qb8 B R C c s->MxF R C l s.1->
 ∃l',qG N (n:Int) K l (pI s.2) (c:Int)=some (l',pI (qB R k c s).2)/\MxF R C l' (qB R k c s).1
 |0,c,k,l,s,h1,h2,ok,h=>by omega
 |K+1,c,0,l,s,h1,h2,ok,h=>by
  unfold qG;rw[aa (by omega)];exact⟨l,rfl,h⟩
 |K+1,c,k+1,l,s,h1,h2,ok,h=>by
  obtain⟨M,p⟩:=s;unfold qG;have hpl:(pI p).length=p.length:=bq ..;have lr:p.length<=R:=ok.ei.lr;have st:=ok.step (c:=c) (by omega);have P:=qrI hN (by omega) hC hpl (fitd ok.one h4 (show p.length<=5 by omega)) (c:=c) (by omega) (by omega) h ok.rb N p.length (ai _) lr (by omega);rw[ae (by omega),hpl];rcases P with⟨f,e⟩|⟨q,l',f,e,g⟩
  ·have es:xz R (M,p) c=(M,p):=by
    unfold xz;dsimp only;rw[f]
   rw[e,ZB];dsimp only;rw[ZB,qm (by omega)];unfold qB;rw[es]at st⊢;exact qlB hn K (c+1) k l (M,p) (by omega) (by omega) st h
  have es:xz R (M,p) c=(qd1 M c p.length q,p++[c]):=by
   unfold xz;dsimp only;rw[f]
  rw[e,ZB];dsimp only;rw[ZB,qm (by omega)];unfold qB;rw[es]at st⊢;have:=qlB hn K (c+1) k l' (qd1 M c p.length q,p++[c]) (by omega) (by omega) st g;rw[show pI (qd1 M c p.length q,p++[c]).2=pI p++[(c:Int)]from eH]at this;exact this
theorem qoh {n:Nat}(hn:n<=C) {l:List (List qb)}{M:Mx}(h1:1<=B) (hb:∀i<R,RoB B C (M i)) (h:MxF R C l M):
 ∃l',zq N l (n:Int)=some (l',pI (qB R n 0 (M,[])).2)/\MxF R C l' (qB R n 0 (M,[])).1/\qb8 B R C n (qB R n 0 (M,[])):=by
 have ok:qb8 B R C 0 (M,[]):=⟨h1,EI.zero R M,hb⟩;obtain⟨l',e,g⟩:=qlB hN hR hC h4 hn N 0 n l (M,[]) (by omega) (by omega) ok h;refine⟨l',?_,g,by have:=ok.run n 0 (by omega);rwa [aG]at this⟩;unfold zq;have e:qG N (n:Int) N l ([]:List Int) 0=some (l',pI (qB R n 0 (M,[])).2):=e;rw[e];rfl
end
end
def qst {N:Nat}(hN:10<N) (a b:Int):qbZ N [a,b]=some (if a=0 then b else a):=by
 obtain⟨K,rfl⟩:∃K,N=K+1+1+1:=⟨N-3,by omega⟩;unfold qbZ;rw[xw,ae (by simp),yJ];simp only[Yj,ZB];by_cases c:a=0
 ·rw[aa (by simp[c]),ae c,show w64 (0+1)=((1:Nat):Int)from rfl,xw,ae (by simp),qf];simp only[YK,Yj,ZB];by_cases d:b=0
  ·rw[aa (by simp[d]),d,show w64 (((1:Nat):Int)+1)=2 from rfl,xw,aa (by simp)];rfl
  rw[ae (by simp[d])];rfl
 rw[ae (by simp[c]),aa c];rfl
def res (q:Rat):Str×Int:=if qlz q=true then([],4)else(T q,0)
section ops
variable {N:Nat}(hN:600000<N)
include hN
variable {p q:Rat}(hp:Sml p 600) (hq:Sml q 600) (cp:chk (T p)=0) (cq:chk (T q)=0)
include hp hq cp cq
end ops
section
open Classical
def qnt {q:Rat}{k:Nat}(hk:0<k) (h:(T q).length<=k):Sml q k:=by
 have h1:(Lib.decDigits q.num.natAbs).length<=(Lib.itoa q.num).length:=by
  by_cases c:q.num<0
  ·rw[yu c,Yr];omega
  rw[zR c];exact ai _
 unfold T at h;rw[Yq]at h;refine⟨by omega,?_⟩;by_cases c:q.den=1
 ·rw[c];exact(qaB hk).2 (Nat.one_lt_pow (by omega) (by decide))
 rw[aa c,Yr]at h;omega
def qsr {s:Str}{k:Nat}(hk:0<k) (hl:s.length<=k) (h:chk s=0):∃q:Rat,s=T q/\Sml q k/\chk (T q)=0:=by
 obtain⟨q,rfl,_,_⟩:=qml h;exact⟨q,rfl,qnt hk hl,h⟩
end
def sml0 {k:Nat}(hk:0<k):Sml 0 k:=⟨(qaB hk).2 (by exact Nat.pos_of_ne_zero (by have:=fT (n:=k) (show 0<10 by decide);omega)),(qaB hk).2 (Nat.one_lt_pow (by omega) (by decide))⟩
section ops
variable {N:Nat}(hN:600000<N)
include hN
variable {p p' q q':Rat}(hp:Sml p 60) (hp':Sml p' 60) (hq:Sml q 60) (hq':Sml q' 60) (cp:chk (T p)=0) (cp':chk (T p')=0) (cq:chk (T q)=0) (cq':chk (T q')=0) (hpp:p<=p') (hqq:q<=q')
include hp hp' hq hq' cp cp' cq cq' hpp hqq
end ops
def T_int (n:Int):T (n:Rat)=Lib.itoa n:=by
 unfold T;rw[eF,fU,ae rfl,YQ]
def qrt {n:Nat}:Lib.decDigits n=[48]↔n=0:=by
 constructor
 ·intro h;exact qnD (h.trans (by rw[jh (by decide)];rfl))
 rintro rfl;rw[jh (by decide)];rfl
def qug {n:Nat}:Lib.decDigits n=[49]↔n=1:=by
 constructor
 ·intro h;exact qnD (h.trans (by rw[jh (by decide)];rfl))
 rintro rfl;rw[jh (by decide)];rfl
def chk_T {q:Rat}(h:Sml q 600):chk (T q)=0:=by
 have n47:=no47 (qcg q.num.natAbs);have es:=qiY n47 q
 have et:(bdy (T q)).take (slA (bdy (T q)))=Lib.decDigits q.num.natAbs:=by
  rw[qmr,es,dO (ai _),bW]
 have hd:=den_pos q
 have ed:slA (bdy (T q))<(bdy (T q)).length↔q.den≠1:=by
  rw[qmr,es,Yq];unfold tl;by_cases c:q.den=1
  ·rw[ae c];simp[c]
  rw[aa c];simp[c]
 have er:(bdy (T q)).drop (slA (bdy (T q))+1)=if q.den=1 then[]else Lib.decDigits q.den:=by
  rw[qmr,es];unfold tl;by_cases c:q.den=1
  ·rw[ae c,ae c,YQ,aB (by omega)]
  rw[aa c,aa c,dI,aB (by omega),bp,show(Lib.decDigits q.num.natAbs).length+1-(Lib.decDigits q.num.natAbs).length=1 by omega];rfl
 have hok:okF (T q)=true:=by
  unfold okF;rw[et,qlZ];refine ap ⟨qq8 _,?_⟩;rintro⟨h1,h2⟩;have h1:=aP h1;have:=qrt.1 h2;omega
 have hbad:qiK (T q)=false:=by
  unfold qiK;refine ak ?_;rintro⟨h1,h2⟩;have c:=ed.1 h1;rw[er,aa c]at h2;exact h2 ⟨qq8 _,λe=>by have:=qrt.1 e;omega,λe=>c (qug.1 e)⟩
 unfold chk;rw[aa (by rw[hok,hbad];simp),et,er,aa,aa]
 ·rintro⟨h1,h2⟩;have c:=ed.1 h1;rw[aa c,qdP,qdP]at h2;exact h2 q.reduced
 have h1:=h.1;have h2:=h.2;split<;>simp<;>omega
def Num_T {N:Nat}(hN:100000<N) {q:Rat}(hl:(T q).length<=50000):qb5 N (T q)=some (Lib.itoa q.num):=by
 have hs:=qdX (N:=N) (s:=T q) (by omega) (by omega);unfold qb5;rw[hs,ZB];by_cases c:q.den=1
 ·obtain⟨t1,t2⟩:=qeZ q c;rw[jN (by omega),ZB,t2,bW,t1]
 obtain⟨t1,t2,t3⟩:=qgd q c;rw[jN (by omega),ZB,t2]
def Den_T {N:Nat}(hN:100000<N) {q:Rat}(hl:(T q).length<=50000):qb2 N (T q)=some (Lib.decDigits q.den):=by
 have hs:=qdX (N:=N) (s:=T q) (by omega) (by omega);unfold qb2;rw[hs,ZB];by_cases c:q.den=1
 ·obtain⟨t1,t2⟩:=qeZ q c;rw[ae (by omega),c,jh (by decide)];rfl
 obtain⟨t1,t2,t3⟩:=qgd q c;rw[aa (by omega),qm (by omega),xx (by omega),ZB,t3]
def qpw {z:Int}(hl:(Lib.itoa z).length<=50000):qb6 (Lib.itoa z)=some (Lib.decDigits z.natAbs):=by
 have hs:=qr6 (z:Rat);rw[T_int,eF]at hs;unfold qb6;rw[hs,ZB];by_cases c:z<0
 ·have h1:=xx (l:=(45:UInt8)::Lib.decDigits z.natAbs) (k:=1) (by simp);rw[ae c,ae (by decide),yu c,show(1:Int)=((1:Nat):Int)from rfl,h1];rfl
 rw[aa c,aa (by split<;>decide),zR (by omega)]
def qtH {N:Nat}(hN:600000<N) {s:Str}{d:Nat}(hd:0<d) (hd2:d<=1000):∃b,qdr N s (d:Int)=some b/\(b=true->∃q:Rat,s=T q/\Sml q d/\chk (T q)=0):=by
 unfold qdr;rw[qg (n:=2*(d:Int)) (by omega) (by omega),qg (n:=2*(d:Int)+2) (by omega) (by omega)];by_cases c:(s.length:Int)<=2*(d:Int)+2
 ·rw[ae c,qhQ hN (by omega),ZB];by_cases hc:chk s=0
  ·obtain⟨q,rfl,q1,q2⟩:=qml hc;have li:=qis q.num;rw[ae hc,Num_T (by omega) (by omega),ZB,qpw (by omega),ZB,Den_T (by omega) (by omega),ZB];by_cases e:(Lib.decDigits q.num.natAbs).length<=d
   ·rw[ae (by omega),ZB];exact⟨_,rfl,λh=>⟨q,rfl,⟨e,by have:=aP h;omega⟩,hc⟩⟩
   rw[aa (by omega),ZB];exact⟨_,rfl,λh=>by cases h⟩
  rw[aa hc,ZB];exact⟨_,rfl,λh=>by cases h⟩
 rw[aa c,ZB];exact⟨_,rfl,λh=>by cases h⟩
abbrev zT:Str->Rat->Prop:=λs q=>s=T q
def RwG.ext {r r':List Str}{n:Nat}{v:Nat->Rat}(h:RwG zT n r v) (h':RwG zT n r' v):r=r':=by
 refine List.ext_getElem (by rw[h.1,h'.1]) λi h1 h2=>?_
 rw[h.2 i _ (Ya h1),h'.2 i _ (Ya h2)]
def RwG.nil {α:Type}{P:α->Rat->Prop}(v:Nat->Rat):RwG P 0 [] v:=⟨rfl,λj f h=>by cases h⟩
def RwG.snoc {α:Type}{P:α->Rat->Prop}{r:List α}{n:Nat}{v:Nat->Rat}(h:RwG P n r v) {x:α}(hx:P x (v n)):RwG P (n+1) (r++[x]) v:=by
 refine⟨by rw[Yq,h.1];rfl,λj f hf=>?_⟩;by_cases c:j<n
 ·rw[Yf (by rw[h.1];exact c)]at hf;exact h.2 j f hf
 have:=(Yb.1 hf).1;rw[Yq,h.1]at this
 have e:j=n:=by simp at this;omega
 subst e;rw[Yo (by rw[h.1];exact ai _),h.1,cd]at hf;rw[<-Ye hf];exact hx
def RwG.app {α:Type}{P:α->Rat->Prop}{r s:List α}{n m:Nat}{v w:Nat->Rat}(h:RwG P n r v) (k:RwG P m s w):RwG P (n+m) (r++s) (λj=>if j<n then v j else w (j-n)):=by
 refine⟨by rw[Yq,h.1,k.1],λj f hf=>?_⟩;dsimp only;by_cases c:j<n
 ·rw[Yf (by rw[h.1];exact c)]at hf;rw[ae c];exact h.2 j f hf
 rw[Yo (by rw[h.1];omega),h.1]at hf;rw[aa c];exact k.2 (j-n) f hf
def RwG.take {α:Type}{P:α->Rat->Prop}{r:List α}{n k:Nat}{v:Nat->Rat}(h:RwG P n r v) (hk:k<=n):RwG P k (r.take k) v:=by
 refine⟨by rw[Ym,h.1];omega,λj f hf=>?_⟩;rw[Yt]at hf;split at hf
 ·exact h.2 j f hf
 cases hf
def RwG.drop {α:Type}{P:α->Rat->Prop}{r:List α}{n k:Nat}{v:Nat->Rat}(h:RwG P n r v) (hk:k<=n):RwG P (n-k) (r.drop k) (λj=>v (k+j)):=by
 refine⟨by rw[YJ,h.1],λj f hf=>?_⟩;rw[YI]at hf;exact h.2 (k+j) f hf
noncomputable def qfn (s:Str):Rat:=open Classical in if h:∃q,s=T q then Classical.choose h else 0
def qqj {s:Str}(h:∃q,s=T q):s=T (qfn s):=by
 unfold qfn;rw[dif_pos h];exact Classical.choose_spec h
def qkB (l:List Str):Prop:= ∀s∈l,∃q,s=T q/\Sml q 6/\chk (T q)=0
section
variable {N:Nat}(hN:600000<N)
include hN
theorem qrX {l:List Str}(hl:l.length<=100):∀(K i:Nat),i<=l.length->l.length<K+i->∃b:Bool,yU N l 6 K (i:Int)=some (if b=true then .inl ()else .inr false)/\(b=true->∀j,i<=j->∀s,l[j]? =some s->∃q,s=T q/\Sml q 6/\chk (T q)=0)
 |0,i,h,hK=>by omega
 |K+1,i,h,hK=>by
  unfold yU;by_cases c:i<l.length
  ·obtain⟨b,b1,b2⟩:=qtH hN (s:=l[i]) (d:=6) (by decide) (by decide);have b1:qdr N l[i] 6=some b:=b1;rw[ae (by omega),qf,Ya c,ZB,b1,ZB]
   cases b with
   |false=>exact⟨false,rfl,λe=>by cases e⟩
   |true=>
    rw[aa (by decide),qm (by omega)];obtain⟨r,e,g⟩:=qrX hl K (i+1) (by omega) (by omega);refine⟨r,e,λu j hj s hs=>?_⟩;by_cases d:j=i
    ·subst d;rw[Ya c]at hs;rw[<-Ye hs];exact b2 rfl
    exact g u j (by omega) s hs
  rw[aa (by omega)];refine⟨true,rfl,λu j hj s hs=>?_⟩;have:=(Yb.1 hs).1;omega
theorem qn6 (l:List Str):∃b,qaR N l 5 6=some b/\(b=true->l.length<=5/\qkB l):=by
 unfold qaR;by_cases c:(l.length:Int)>5
 ·rw[ae c];exact⟨_,rfl,λh=>by cases h⟩
 rw[aa c];obtain⟨b,e,g⟩:=qrX hN (l:=l) (by omega) N 0 (aD _) (by omega);rw[show((0:Nat):Int)=0 from rfl]at e;rw[e,ZB]
 cases b with
 |true=>exact⟨_,rfl,λ_=>⟨by omega,λs hs=>by
  obtain⟨j,hj⟩:=List.getElem?_of_mem hs
  exact g rfl j (aD _) s hj⟩⟩
 |false=>exact⟨_,rfl,λh=>by cases h⟩
theorem qrf {m:List (List Str)}(hl:m.length<=100) {n:Nat}{r0:List Str}(h0:m[0]? =some r0) (hn:r0.length=n):∀(K i:Nat),i<=m.length->m.length<K+i->∃b:Bool,vG N m 5 6 K (i:Int)=some (if b=true then .inl ()else .inr false)/\(b=true->∀j,i<=j->∀r,m[j]? =some r->r.length=n/\n<=5/\qkB r)
 |0,i,h,hK=>by omega
 |K+1,i,h,hK=>by
  unfold vG;by_cases c:i<m.length
  ·rw[ae (by omega),qf,Ya c,ZB,yJ,h0,ZB];by_cases d:m[i].length=n
   ·obtain⟨b,b1,b2⟩:=qn6 hN m[i];rw[ap (by omega),aa (by decide),b1,ZB,ZB]
    cases b with
    |false=>exact⟨false,rfl,λe=>by cases e⟩
    |true=>
     rw[aa (by decide),qm (by omega)];obtain⟨r,e,g⟩:=qrf hl h0 hn K (i+1) (by omega) (by omega);refine⟨r,e,λu j hj s hs=>?_⟩;by_cases d':j=i
     ·subst d';rw[Ya c]at hs;rw[<-Ye hs];exact⟨d,by have:=(b2 rfl).1;omega,(b2 rfl).2⟩
     exact g u j (by omega) s hs
   rw[ak (by omega),ae (by decide),ZB,ae rfl];exact⟨false,rfl,λe=>by cases e⟩
  rw[aa (by omega)];refine⟨true,rfl,λu j hj s hs=>?_⟩;have:=(Yb.1 hs).1;omega
theorem qsj {m:List (List Str)}{n:Nat}{r0:List Str}(h0:m[0]? =some r0) (hn:r0.length=n):∃b,qaJ N m 5 5 6=some b/\(b=true->m.length<=5/\n<=5/\∀r∈m,r.length=n/\qkB r):=by
 unfold qaJ;by_cases c:(m.length:Int)>5
 ·rw[ae c];exact⟨_,rfl,λh=>by cases h⟩
 rw[aa c];obtain⟨b,e,g⟩:=qrf hN (m:=m) (by omega) h0 hn N 0 (aD _) (by omega);rw[show((0:Nat):Int)=0 from rfl]at e;rw[e,ZB]
 cases b with
 |true=>exact⟨_,rfl,λ_=>⟨by omega,(g rfl 0 (ai _) r0 h0).2.1,λs hs=>by
  obtain⟨j,hj⟩:=List.getElem?_of_mem hs;have:=g rfl j (aD _) s hj
  exact⟨this.1,this.2.2⟩⟩⟩
 |false=>exact⟨_,rfl,λh=>by cases h⟩
def OkL (l:List Str):Prop:= ∀s∈l,s.length<=10000/\chk s=0
theorem qrl {l:List Str}(hl:l.length<=100) (h:OkL l):∀(K i:Nat),i<=l.length->l.length<K+i->jd N l K (i:Int)=some (.inl ())
 |0,i,h1,hK=>by omega
 |K+1,i,h1,hK=>by
  unfold jd;by_cases c:i<l.length
  ·have g:=h _ (bo c);rw[ae (by omega),qf,Ya c,ZB,qhQ hN g.1,g.2,ZB,aa (by decide),qm (by omega)];exact qrl hl h K (i+1) (by omega) (by omega)
  rw[aa (by omega)]
theorem qsX {l:List Str}(hl:l.length<=100) (h:OkL l):ko N l=some 0:=by
 have:=qrl hN hl h N 0 (aD _) (by omega);rw[show((0:Nat):Int)=0 from rfl]at this;unfold ko;rw[this];rfl
theorem qrz {l:List Str}(hl:l.length<=100) (h:OkL l):∀(K i:Nat),i<=l.length->l.length<K+i->zG N l K (i:Int)=some (.inl ())
 |0,i,h1,hK=>by omega
 |K+1,i,h1,hK=>by
  unfold zG;by_cases c:i<l.length
  ·have g:=h _ (bo c);rw[ae (by omega),qf,Ya c,ZB,qkK hN g.1,g.2,ZB,aa (by decide),qm (by omega)];exact qrz hl h K (i+1) (by omega) (by omega)
  rw[aa (by omega)]
theorem qo2 {l:List Str}(hl:l.length<=100) (h:OkL l):zL N l=some 0:=by
 have:=qrz hN hl h N 0 (aD _) (by omega);rw[show((0:Nat):Int)=0 from rfl]at this;unfold zL;rw[this];rfl
section
variable {m:List (List Str)}{n:Nat}(hm:0<m.length) (hm4:m.length<=5) (hn4:n<=5) (hr:∀r∈m,r.length=n/\OkL r) {b:List Str}(hb:OkL b) (hbl:b.length<=100)
include hm hm4 hn4 hr hb hbl
omit hb hbl hn4 hN in
omit hb hbl in
end
theorem qpG {r:List Str}{n:Nat}{v:Nat->Rat}(h:RwG zT n r v) (hn:n<=100) (hv:∀j<n,Sml (v j) 9000):∀(K i:Nat) (l:List qb),i<=n->n<K+i->RwF i l v->∃l',jJ N r K l (i:Int)=some l'/\RwF n l' v
 |0,i,l,h1,hK,g=>by omega
 |K+1,i,l,h1,hK,g=>by
  unfold jJ;by_cases c:i<n
  ·obtain⟨s,s1,s2⟩:=h.get c;obtain⟨f,f1,f2⟩:=qhm hN (hv i c);have s2:s=T (v i):=s2;have gl:=g.1;rw[ae (by have:=h.1;omega),qf,s1,ZB,s2,f1,ZB,jU (by simp;omega) (by simp;omega),ZB,qm (by omega)];exact qpG h hn hv K (i+1) _ (by omega) (by omega) (g.snoc f2)
  rw[aa (by have:=h.1;omega)]
  have e:i=n:=by omega
  subst e;exact⟨l,rfl,g⟩
theorem qlF {r:List Str}{n:Nat}{v:Nat->Rat}(h:RwG zT n r v) (hn:n<=100) (hv:∀j<n,Sml (v j) 9000):∃l,jV N r=some l/\RwF n l v:=by
 obtain⟨l,e,g⟩:=qpG hN h hn hv N 0 [] (aD _) (by omega) (RwG.nil v);rw[show((0:Nat):Int)=0 from rfl]at e;refine⟨l,?_,g⟩;unfold jV;rw[e];rfl
theorem cf_L {l:List qb}{n:Nat}{v:Nat->Rat}(h:RwF n l v) (hn:n<=100) (hv:∀j<n,Sml (v j) 600):∀(K i:Nat),i<=n->n<K+i->zb N l K (i:Int)=some (.inl ())
 |0,i,h1,hK=>by omega
 |K+1,i,h1,hK=>by
  unfold zb;by_cases c:i<n
  ·obtain⟨f,f1,f2⟩:=h.get c;have fq:qaN (v i) 3900:=(qfM (n:=39) (hv i c) (by decide) (by decide)).mono (by decide);rw[ae (by have:=h.1;omega),qf,f1,ZB,qqM hN f2 fq,qqG (hv i c),ZB,aa (by decide),qm (by omega)];exact cf_L h hn hv K (i+1) (by omega) (by omega)
  rw[aa (by have:=h.1;omega)]
theorem tx_L {l:List qb}{n:Nat}{v:Nat->Rat}(h:RwF n l v) (hn:n<=100) (hv:∀j<n,Sml (v j) 600):∀(K i:Nat) (o:List Str),i<=n->n<K+i->o.length=n->(∀(j:Nat) s,j<i->o[j]? =some s->s=T (v j))->∃o',qbx N l K o (i:Int)=some o'/\RwG zT n o' v
 |0,i,o,h1,hK,_,_=>by omega
 |K+1,i,o,h1,hK,ol,og=>by
  unfold qbx;by_cases c:i<n
  ·obtain⟨f,f1,f2⟩:=h.get c;have fq:qaN (v i) 3900:=(qfM (n:=39) (hv i c) (by decide) (by decide)).mono (by decide)
   have hio:i<o.length:=by omega
   rw[ae (by have:=h.1;omega),qf,f1,ZB,qs8 hN f2 fq,ZB,qf,Ya hio,ZB,jr hio,ZB,qm (by omega)]
   refine tx_L h hn hv K (i+1) _ (by omega) (by omega) (by rw[Yk];exact ol) λj s hj hs=>?_
   by_cases e:j=i
   ·subst e;rw[List.getElem?_set_self hio]at hs;exact(Ye hs).symm
   rw[Yw (λq=>e q.symm)]at hs;exact og j s (by omega) hs
  rw[aa (by have:=h.1;omega)];refine⟨o,rfl,ol,λj s hs=>og j s ?_ hs⟩;have:=(Yb.1 hs).1;omega
theorem qmT {l:List qb}{n:Nat}{v:Nat->Rat}(h:RwF n l v) (hn:n<=100) (hv:∀j<n,Sml (v j) 600):∃y,qbv N l=some (y,0)/\RwG zT n y v:=by
 have e1:=cf_L hN h hn hv N 0 (aD _) (by omega);have hl:=h.1
 have mk0:mk 16 (l.length:Int) ([]:Str)=some (List.replicate n []):=by
  unfold mk;rw[ae (by omega),hl];rfl
 obtain⟨o,e2,g⟩:=tx_L hN h hn hv N 0 (List.replicate n []) (aD _) (by omega) bS (λj s hj=>by omega);rw[show((0:Nat):Int)=0 from rfl]at e1 e2;refine⟨o,?_,g⟩;unfold qbv jK vM qgb;rw[e1];simp only[ZB];rw[aa (by decide),mk0,ZB,e2];rfl
end
def MxG.snoc {α:Type}{P:α->Rat->Prop}{i C:Nat}{l:List (List α)}{M:Mx}(h:MxG P i C l M) {r:List α}(hr:RwG P C r (M i)):MxG P (i+1) C (l++[r]) M:=by
 refine⟨by rw[Yq,h.1];rfl,λj f hf=>?_⟩;by_cases c:j<i
 ·rw[Yf (by rw[h.1];exact c)]at hf;exact h.2 j f hf
 have:=(Yb.1 hf).1;rw[Yq,h.1]at this
 have e:j=i:=by simp at this;omega
 subst e;rw[Yo (by rw[h.1];exact ai _),h.1,cd]at hf;rw[<-Ye hf];exact hr
def MxG.nil {α:Type}{P:α->Rat->Prop}{C:Nat}(M:Mx):MxG P 0 C [] M:=⟨rfl,λj f h=>by cases h⟩
abbrev f0:qb:=⟨⟨0,[]⟩,⟨1,[]⟩⟩
abbrev f1:qb:=⟨⟨1,[]⟩,⟨1,[]⟩⟩
def qkT:qhp 0=some f0:=rfl
def qqh:qhp 1=some f1:=rfl
def qtA (z:Int) (h:IsZ ⟨z,[]⟩ z):∃f,qhp z=some f/\IsF f (z:Rat):=by
 obtain⟨f,e,g⟩:=qi8 h;refine⟨f,?_,g⟩;unfold qhp qdc;rw[ZB,e];rfl
def isF0:IsF f0 0:=by
 obtain⟨f,e,g⟩:=qtA 0 (.inl ⟨rfl,rfl,by decide⟩);rw[qkT]at e;rw[<-Ye e]at g;exact g
def isF1:IsF f1 1:=by
 obtain⟨f,e,g⟩:=qtA 1 (.inl ⟨rfl,rfl,by decide⟩);rw[qqh]at e;rw[<-Ye e]at g;exact g
def qnL {N:Nat}(hN:600000<N) {k:Nat}(hk:k<=6):vo N 0 [] 1 [] (k:Int)=some (List.replicate k f0):=by
 obtain⟨K,rfl⟩:∃K,N=K+10:=⟨N-10,by omega⟩;rcases(show k=0\/k=1\/k=2\/k=3\/k=4\/k=5\/k=6 by omega)with rfl|rfl|rfl|rfl|rfl|rfl|rfl<;>rfl
def qss {k:Int}(h1:0<k) (h2:k<=1000):yG k=some (some []):=by
 have w:w64 (k-w64 (0-0))=k:=by rw[show w64 (0-0)=0 from rfl,qg (by omega) (by omega)];omega
 have c0:cut ([]:List qb) 0 0=some []:=rfl;unfold yG;rw[aa (by omega),ZB,w,ae h1,c0,ZB];unfold qoV;rw[ae ⟨h1,by omega,by omega⟩,ZB]
 have:cut (List.replicate k.toNat (⟨⟨0,[]⟩,⟨0,[]⟩⟩:qb)) 0 0=some []:=by
  have:=jN (l:=List.replicate k.toNat (⟨⟨0,[]⟩,⟨0,[]⟩⟩:qb)) (k:=0) (aD _);rw[bj]at this;exact this
 rw[this];rfl
def qt8 {N:Nat}(hN:600000<N) {a c:List qb}{f:qb}(ha:a.length<=100) (hc:c.length<=100):vz N a f.Num.s f.Num.w f.Den.s f.Den.w c=some (some (a++[f]++c)):=by
 obtain⟨K,rfl⟩:∃K,N=K+10:=⟨N-10,by omega⟩;have i0:idx ([a,([(⟨(⟨f.Num.s,f.Num.w⟩:qh),(⟨f.Den.s,f.Den.w⟩:qh)⟩:qb)]:List qb),c]:List (List qb)) 0=some a:=rfl;have i1:idx ([a,([(⟨(⟨f.Num.s,f.Num.w⟩:qh),(⟨f.Den.s,f.Den.w⟩:qh)⟩:qb)]:List qb),c]:List (List qb)) 1=some [f]:=rfl;have i2:idx ([a,([(⟨(⟨f.Num.s,f.Num.w⟩:qh),(⟨f.Den.s,f.Den.w⟩:qh)⟩:qb)]:List qb),c]:List (List qb)) 2=some c:=rfl
 have w0:w64 ((0:Int)+(a.length:Int))=(a.length:Int):=by rw[qg (by omega) (by omega)];omega
 have w1:w64 ((a.length:Int)+(([f]:List qb).length:Int))=(a.length:Int)+1:=by rw[qg (by simp;omega) (by simp;omega)];rfl
 have w2:w64 ((a.length:Int)+1+(c.length:Int))=(a.length:Int)+1+(c.length:Int):=qg (by omega) (by omega)
 have e0:qI a f.Num.s f.Num.w f.Den.s f.Den.w c (K+10) 0 0=some ((a.length:Int)+1+(c.length:Int)):=by
  unfold qI;rw[ae (by decide),i0,ZB,w0,aa (by omega),ZB,show w64 (0+1)=1 from rfl];unfold qI;rw[ae (by decide),i1,ZB,w1,aa (by omega),ZB,show w64 (1+1)=2 from rfl];unfold qI;rw[ae (by decide),i2,ZB,w2,aa (by omega),ZB,show w64 (2+1)=3 from rfl];unfold qI;rw[aa (by decide)]
 have e1:qJ a f.Num.s f.Num.w f.Den.s f.Den.w c (K+10) (some []) 0=some (some (a++[f]++c)):=by
  unfold qJ;rw[ae (by decide),i0,ZB];dsimp only;rw[jU (by simp;omega) (by simp;omega),ZB,ZB,show w64 (0+1)=1 from rfl,bp];unfold qJ;rw[ae (by decide),i1,ZB];dsimp only;rw[jU (by simp;omega) (by simp;omega),ZB,ZB,show w64 (1+1)=2 from rfl];unfold qJ;rw[ae (by decide),i2,ZB];dsimp only;rw[jU (by simp;omega) (by simp;omega),ZB,ZB,show w64 (2+1)=3 from rfl];unfold qJ;rw[aa (by decide)]
 unfold vz;rw[e0,ZB,qss (by omega) (by omega),ZB,e1];rfl
def jQ (n:Nat) (A:Mx) (b:Nat->Rat):Mx:=λi j=>if j<n then A i j else if j=n then b i else if j=n+1+i then 1 else 0
def qL (n:Nat) (A:Mx) (b:Nat->Rat):Mx:=λi j=>if j<n then A i j else b i
structure qpP (N R n:Nat) (m:List (List Str)) (b:List Str) (A:Mx) (v:Nat->Rat):Prop where
 R0:0<R
 R4:R<=5
 n4:n<=5
 mm:MxG zT R n m A
 bb:RwG zT R b v
 sA:∀i<R,∀j<n,Sml (A i j) 9000
 sb:∀i<R,Sml (v i) 9000
 ck:qD N m b=some 0
section
variable {N:Nat}(hN:600000<N) {R n:Nat}{m:List (List Str)}{b:List Str}{A:Mx}{v:Nat->Rat}(E:qpP N R n m b A v)
include hN E
theorem qkD:∀(K i:Nat) (l:List (List qb)),i<=R->R<K+i->MxF i (n+1+R) l (jQ n A v)->∃l',yR N m b K l (i:Int)=some l'/\MxF R (n+1+R) l' (jQ n A v)
 |0,i,l,h1,h2,h=>by omega
 |K+1,i,l,h1,h2,h=>by
  have ml:=E.mm.1;have R4:=E.R4;have n4:=E.n4;unfold yR;by_cases hi:i<R
  ·obtain⟨r,r1,r2⟩:=E.mm.get hi;obtain⟨s,s1,s2⟩:=E.bb.get hi;have s2:s=T (v i):=s2;obtain⟨l1,e1,g1⟩:=qlF hN r2 (by omega) (E.sA i hi);obtain⟨f,e2,g2⟩:=qhm hN (E.sb i hi)
   have lr:i<(List.replicate R f0).length:=by rw[bS];exact hi
   have own:RwF R ((List.replicate R f0).set i f1) (λk=>if k=i then 1 else 0):=by
    have z:RwF R (List.replicate R f0) (λ_=>0):=⟨bS,λj g hg=>by
     have:=Yb.1 hg;obtain⟨q,e⟩:=this;rw[dD]at e
     rw[<-e];exact isF0⟩
    exact z.put isF1 i
   have x0:(List.replicate R f0)[i]? =some f0:=by rw[Ya lr,dD]
   have row:RwF (n+1+R) (l1++[f]++(List.replicate R f0).set i f1) (jQ n A v i):=by
    refine((RwG.app (P:=IsF) (n:=n) (m:=1) (s:=[f]) (w:=λ_=>v i) g1 ⟨rfl,λj g hg=>?_⟩).app own).congr λj hj=>?_
    ·cases j with
     |zero=>rw[<-Ye hg];exact g2
     |succ j=>cases hg
    unfold jQ;by_cases c1:j<n
    ·rw[ae (by omega),ae c1,ae c1]
    by_cases c2:j=n
    ·rw[ae (by omega),aa c1,aa c1,ae c2]
    rw[aa (by omega),aa c1,aa c2];by_cases c3:j=n+1+i
    ·rw[ae (by omega),ae c3]
    rw[aa (by omega),aa c3]
   have rl:=row.1;rw[ae (by omega),qf,r1,ZB,qkT,ZB];dsimp only;rw[ml,qnL hN (show R<=6 by omega),ZB,qqh,ZB,qf,x0,ZB,jr lr,ZB,e1,ZB,qf,s1,ZB,s2,e2,ZB,qt8 hN (by rw[g1.1];omega) (by rw[own.1];omega),ZB];dsimp only;have hl:=h.1;rw[jU (by simp only[bE];omega) (by simp only[bE];omega),ZB,ae (by rw[rl];omega),ZB,ZB,qm (by omega)];exact qkD K (i+1) _ (by omega) (by omega) (h.snoc row)
  rw[aa (by omega)]
  have e:i=R:=by omega
  subst e;exact⟨l,rfl,h⟩
theorem qmQ:∀(K i:Nat) (l:List (List qb)),i<=R->R<K+i->MxF i (n+1) l (qL n A v)->∃l',xC N m b K l (i:Int)=some l'/\MxF R (n+1) l' (qL n A v)
 |0,i,l,h1,h2,h=>by omega
 |K+1,i,l,h1,h2,h=>by
  have ml:=E.mm.1;have R4:=E.R4;have n4:=E.n4;unfold xC;by_cases hi:i<R
  ·obtain⟨r,r1,r2⟩:=E.mm.get hi;obtain⟨s,s1,s2⟩:=E.bb.get hi;have s2:s=T (v i):=s2;obtain⟨l1,e1,g1⟩:=qlF hN r2 (by omega) (E.sA i hi);obtain⟨f,e2,g2⟩:=qhm hN (E.sb i hi)
   have row:RwF (n+1) (l1++[f]) (qL n A v i):=by
    refine(RwG.app (P:=IsF) (n:=n) (m:=1) (s:=[f]) (w:=λ_=>v i) g1 ⟨rfl,λj g hg=>?_⟩).congr λj hj=>rfl
    cases j with
    |zero=>rw[<-Ye hg];exact g2
    |succ j=>cases hg
   have hl:=h.1;have h11:=g1.1;rw[ae (by omega),qf,r1,ZB,e1,ZB,qf,s1,ZB,s2,e2,ZB,jU (by simp;omega) (by simp;omega),ZB,jU (by simp;omega) (by simp;omega),ZB,qm (by omega)];exact qmQ K (i+1) _ (by omega) (by omega) (h.snoc row)
  rw[aa (by omega)]
  have e:i=R:=by omega
  subst e;exact⟨l,rfl,h⟩
end
section
variable {N:Nat}(hN:600000<N) {R n:Nat}(R4:R<=5) (n4:n<=5)
include hN R4 n4
theorem qkn {l:List (List qb)}{M:Mx}(hM:MxF R (n+1+R) l M) {x:List Str}(hx:x.length=n) {d:Nat}(hd:d<=R) (hs:∀i,d<=i->i<R->M i n≠0->∀j<R,Sml (M i (n+1+j)) 600):∀(K k:Nat),d+k<=R->R<K+(d+k)->
 ((∀i,d+k<=i->i<R->M i n=0)/\jE N x l d K (k:Int)=some (.inl ()))\/ ∃i y,d+k<=i/\i<R/\M i n≠0/\jE N x l d K (k:Int)=some (.inr (y,0))/\RwG zT R y (λj=>M i (n+1+j))
 |0,k,h1,h2=>by omega
 |K+1,k,h1,h2=>by
  unfold jE;have hl:=hM.1;by_cases c:d+k<R
  ·obtain⟨r,r1,r2⟩:=hM.get c;obtain⟨f,e1,e2⟩:=r2.get (show n<n+1+R by omega)
   have g:(l.drop d)[k]? =some r:=by rw[YI];exact r1
   rw[ae (by rw[YJ];omega),qf,g,ZB,hx,qf,e1,ZB,qfG e2,ZB];by_cases z:M (d+k) n=0
   ·rw[ap ((qby _).2 z),aa (by decide),qm (by omega)];rcases qkn hM hx hd hs K (k+1) (by omega) (by omega)with⟨a,b⟩|⟨i,y,a1,a2,a3,a4,a5⟩
    ·refine .inl ⟨λi h3 h4=>?_,b⟩;by_cases e:i=d+k
     ·rw[e];exact z
     exact a i (by omega) h4
    exact .inr ⟨i,y,by omega,a2,a3,a4,a5⟩
   have rl:=r2.1
   have ct:cut r (w64 ((n:Int)+1)) (r.length:Int)=some (r.drop (n+1)):=by
    rw[qm (by omega)];exact xx (by omega)
   have rd:=r2.drop (k:=n+1) (by omega);rw[show n+1+R-(n+1)=R by omega]at rd;obtain⟨y,y1,y2⟩:=qmT hN rd (by omega) (hs (d+k) (by omega) c z);rw[ak (λq=>z ((qby _).1 q)),ae (by decide),ct,ZB,y1,ZB];exact .inr ⟨d+k,y,ai _,c,z,rfl,y2⟩
  rw[aa (by rw[YJ];omega)];exact .inl ⟨λi h3 h4=>by omega,rfl⟩
theorem qjW {l:List (List qb)}{M:Mx}(hM:MxF R (n+1) l M) {x:List Str}(hx:x.length=n) (hn:n<=R):∀(K i:Nat) (o:List qb),i<=R->R<K+i->RwF (min i n) o (λq=>M q n)->(∀q,n<=q->q<i->M q n=0)->
 ((∃q,n<=q/\q<R/\M q n≠0)/\yB x l K o (i:Int)=some (.inr ([],14)))\/((∀q,n<=q->q<R->M q n=0)/\∃o',yB x l K o (i:Int)=some (.inl o')/\RwF n o' (λq=>M q n))
 |0,i,o,h1,h2,h3,h4=>by omega
 |K+1,i,o,h1,h2,h3,h4=>by
  unfold yB;have hl:=hM.1;have ol:=h3.1;by_cases c:i<R
  ·obtain⟨r,r1,r2⟩:=hM.get c;obtain⟨f,e1,e2⟩:=r2.get (show n<n+1 by omega);rw[ae (by omega),qf,r1,ZB,hx];by_cases c2:i<n
   ·rw[ae (by omega),qf,e1,ZB,jU (by simp;omega) (by simp;omega),ZB,ZB];dsimp only;rw[qm (by omega)];rw[aX (by omega)]at h3;refine qjW hM hx hn K (i+1) _ (by omega) (by omega) ?_ (λq q1 q2=>by omega);rw[aX (by omega)];exact h3.snoc e2
   rw[aa (by omega),qf,e1,ZB,qfG e2,ZB];by_cases z:M i n=0
   ·rw[ap ((qby _).2 z),aa (by decide),ZB];dsimp only;rw[qm (by omega)];refine qjW hM hx hn K (i+1) o (by omega) (by omega) ?_ (λq q1 q2=>?_)
    ·rw[Nat.min_eq_right (by omega)]at h3⊢;exact h3
    by_cases e:q=i
    ·rw[e];exact z
    exact h4 q q1 (by omega)
   rw[ak (λq=>z ((qby _).1 q)),ae (by decide),ZB];exact .inl ⟨⟨i,by omega,c,z⟩,rfl⟩
  rw[aa (by omega)]
  have e:i=R:=by omega
  subst e;rw[Nat.min_eq_right hn]at h3;exact .inr ⟨h4,o,rfl,h3⟩
end
section
variable {N:Nat}(hN:600000<N) {R n:Nat}{m:List (List Str)}{b:List Str}{A:Mx}{v:Nat->Rat}(E:qpP N R n m b A v) {B:Int}(h4:zm (bdE B 5) 151) (hB:1<=B)
include hN E h4 hB
theorem qmG (hb:∀i<R,RoB B (n+1+R) (jQ n A v i)) (hs:∀i,(qB R n 0 (jQ n A v,[])).2.length<=i->i<R->(qB R n 0 (jQ n A v,[])).1 i n≠0->∀j<R,Sml ((qB R n 0 (jQ n A v,[])).1 i (n+1+j)) 600):
 ((∀i,(qB R n 0 (jQ n A v,[])).2.length<=i->i<R->(qB R n 0 (jQ n A v,[])).1 i n=0)/\zM N m b=some ([],7))\/ ∃i y,(qB R n 0 (jQ n A v,[])).2.length<=i/\i<R/\(qB R n 0 (jQ n A v,[])).1 i n≠0/\zM N m b=some (y,0)/\RwG zT R y (λj=>(qB R n 0 (jQ n A v,[])).1 i (n+1+j)):=by
 have R4:=E.R4;have n4:=E.n4;obtain⟨r0,m0,g0⟩:=E.mm.get E.R0;obtain⟨l,e1,g1⟩:=qkD hN E N 0 [] (aD _) (by omega) (MxG.nil _);obtain⟨l',e2,g2,ok⟩:=qoh hN R4 (show n+1+R<=100 by omega) h4 (show n<=n+1+R by omega) hB hb g1;have lr:=ok.ei.lr;have pl:(pI (qB R n 0 (jQ n A v,[])).2).length=(qB R n 0 (jQ n A v,[])).2.length:=bq ..;rw[show((0:Nat):Int)=0 from rfl]at e1;have key:=qkn hN R4 n4 g2 g0.1 lr hs N 0 (by omega) (by omega);rw[show((0:Nat):Int)=0 from rfl,bz]at key
 have go:∀o:Unit⊕(List Str×Int),jE N r0 l' (qB R n 0 (jQ n A v,[])).2.length N 0=some o->zM N m b=some (match o with| .inl ()=>([],7)| .inr q=>q):=λo ho=>by
  unfold zM;rw[E.ck,ZB,aa (by decide),yJ,m0,ZB,e1,ZB,g0.1,e2,ZB];dsimp only;rw[ae (by rw[g1.1,g2.1]),ZB,pl,qtN (by rw[g2.1];exact lr),ZB,ho,ZB];cases o<;>rfl
 rcases key with⟨a,b⟩|⟨i,y,a1,a2,a3,a4,a5⟩
 ·exact .inl ⟨a,go _ b⟩
 exact .inr ⟨i,y,a1,a2,a3,go _ a4,a5⟩
theorem qm6 (hb:∀i<R,RoB B (n+1) (qL n A v i)) (hs:(qB R n 0 (qL n A v,[])).2.length=n->(∀q,n<=q->q<R->(qB R n 0 (qL n A v,[])).1 q n=0)->∀i<n,Sml ((qB R n 0 (qL n A v,[])).1 i n) 600):
 (vJ N m b=some ([],14)/\((qB R n 0 (qL n A v,[])).2.length<n\/ ∃q,n<=q/\q<R/\(qB R n 0 (qL n A v,[])).1 q n≠0))\/((qB R n 0 (qL n A v,[])).2.length=n/\n<=R/\(∀q,n<=q->q<R->(qB R n 0 (qL n A v,[])).1 q n=0)/\∃z,vJ N m b=some (z,0)/\RwG zT n z (λi=>(qB R n 0 (qL n A v,[])).1 i n)):=by
 have R4:=E.R4;have n4:=E.n4;obtain⟨r0,m0,g0⟩:=E.mm.get E.R0;obtain⟨l,e1,g1⟩:=qmQ hN E N 0 [] (aD _) (by omega) (MxG.nil _);obtain⟨l',e2,g2,ok⟩:=qoh hN R4 (show n+1<=100 by omega) h4 (show n<=n+1 by omega) hB hb g1;have lr:=ok.ei.lr;have le:=ok.ei.le;have pl:(pI (qB R n 0 (qL n A v,[])).2).length=(qB R n 0 (qL n A v,[])).2.length:=bq ..;rw[show((0:Nat):Int)=0 from rfl]at e1;unfold vJ;rw[E.ck,ZB,aa (by decide),yJ,m0,ZB,e1,ZB,g0.1,e2,ZB];dsimp only;rw[ae (by rw[g1.1,g2.1]),ZB,pl];by_cases c:(qB R n 0 (qL n A v,[])).2.length<n
 ·rw[ae (by omega)];exact .inl ⟨rfl,.inl c⟩
 rw[aa (by omega)]
 have hd:(qB R n 0 (qL n A v,[])).2.length=n:=by omega
 have key:=qjW hN R4 n4 g2 g0.1 (by omega) N 0 [] (aD _) (by omega) (by rw[Nat.zero_min];exact RwG.nil _) (λq q1 q2=>by omega);rw[show((0:Nat):Int)=0 from rfl]at key;rcases key with⟨k0,k⟩|⟨k1,o,k2,k3⟩
 ·rw[k];exact .inl ⟨rfl,.inr k0⟩
 obtain⟨z,z1,z2⟩:=qmT hN k3 (by omega) (hs hd k1);rw[k2];refine .inr ⟨hd,by omega,k1,z,?_,z2⟩;dsimp only[ZB];rw[z1];rfl
end
def qpb {z:Int}{m n:Nat}(h:zm z m) (hn:m<=n):zm z n:=d6 h (xg (by decide) hn)
def qrm {p q:Rat}{n m:Nat}(hn:0<n) (hm:0<m) (hp:Sml p (9*n)) (hq:Sml q (9*m)):Sml (p+q) (9*(n+m+1)):=by
 rw[qdH];have a:=qdk hp (by omega) (ai _);have b:=qdl hp (by omega) (ai _);have c:=qdk hq (by omega) (ai _);have d:=qdl hq (by omega) (ai _);have e:=qaL c b;rw[Nat.add_comm m n]at e;obtain⟨f,g⟩:=qfP (qdK p q) (qmZ (qaL a d) e) (qpb (qaL b d) (Nat.le_succ _));exact qiZ f g (by omega)
def T0':([48]:Str)=T 0:=T0.symm
def qlf {u:Nat->Rat}{k:Nat}(hk:0<k):∀(n:Nat),(∀j<n,Sml (u j) (9*k))->Sml (qx n u) (9*(1+n*(k+1)))
 |0,h=>by
  rw[bC];exact sml0 (by decide)
 |n+1,h=>by
  have:=qrm (by omega) hk (qlf hk n λj hj=>h j (by omega)) (h n (by omega));rw[show 1+n*(k+1)+k+1=1+(n+1)*(k+1)by rw[fC];omega]at this;exact this
section
variable {N:Nat}(hN:600000<N)
include hN
theorem qpZ {n:Nat}(hn:n<=5) {a b:List Str}{u w:Nat->Rat}(ha:RwG zT n a u) (hb:RwG zT n b w) (su:∀j<n,Sml (u j) 243) (sw:∀j<n,Sml (w j) 243):∀(K i:Nat),i<=n->n<K+i->yO N a b K (T (qx i λj=>u j*w j)) (i:Int)=some (T (qx n λj=>u j*w j))
 |0,i,h1,h2=>by omega
 |K+1,i,h1,h2=>by
  unfold yO;have al:=ha.1;by_cases c:i<n
  ·obtain⟨s,s1,s2⟩:=ha.get c;obtain⟨t,t1,t2⟩:=hb.get c;have s2:s=T (u i):=s2;have t2:t=T (w i):=t2
   have pr:∀j<n,Sml (u j*w j) (9*54):=λj hj=>qlm (n:=27) (by decide) (su j hj) (sw j hj)
   have sm:=qlf (k:=54) (by decide) i λj hj=>pr j (by omega)
   rw[ae (by omega),qf,s1,ZB,qf,t1,ZB,s2,t2,qiC hN (k:=243) (by decide) (by decide) (su i c) (sw i c),ZB,
    qlw hN (k:=4000) (by decide) (by decide) (sm.mono (by have:i*55<=4*55:=aW _ (by omega);omega)) ((pr i c).mono (by decide)),ZB,qm (by omega)]
   exact qpZ hn ha hb su sw K (i+1) (by omega) (by omega)
  rw[aa (by omega)]
  have e:i=n:=by omega
  rw[e]
theorem qs6 {n:Nat}(hn:n<=5) {a b:List Str}{u w:Nat->Rat}(ha:RwG zT n a u) (hb:RwG zT n b w) (su:∀j<n,Sml (u j) 243) (sw:∀j<n,Sml (w j) 243):qbK N a b=some (T (qx n λj=>u j*w j)):=by
 have:=qpZ hN hn ha hb su sw N 0 (aD _) (by omega);unfold qbK;rw[T0',show(T 0:Str)=T (qx 0 λj=>u j*w j)from rfl];rw[show((0:Nat):Int)=0 from rfl]at this;rw[this];rfl
omit hN in
theorem qmU (q:Rat):xK (T q)=some (decide (q=0)):=by
 unfold xK;by_cases h:q=0
 ·rw[ap h,qkW.2 h];rfl
 rw[ak h];congr 1;rw[beq_eq_false_iff_ne]
 exact λe=>h (qkW.1 e)
section
variable {R n:Nat}(R0:0<R) (R4:R<=5) (n4:n<=5) {m:List (List Str)}{A:Mx}(hm:MxG zT R n m A) (sA:∀i<R,∀j<n,Sml (A i j) 243) {y:List Str}{w:Nat->Rat}(hy:RwG zT R y w) (sy:∀i<R,Sml (w i) 243)
include R0 R4 n4 hm sA hy sy
theorem qlD {c:Nat}(hc:c<n):∀(K i:Nat),i<=R->R<K+i->yV N m y (c:Int) K (T (qx i λr=>w r*A r c)) (i:Int)=some (T (qx R λr=>w r*A r c))
 |0,i,h1,h2=>by omega
 |K+1,i,h1,h2=>by
  unfold yV;have ml:=hm.1;by_cases hi:i<R
  ·obtain⟨r,r1,r2⟩:=hm.get hi;obtain⟨s,s1,s2⟩:=r2.get hc;obtain⟨t,t1,t2⟩:=hy.get hi;have s2:s=T (A i c):=s2;have t2:t=T (w i):=t2
   have pr:∀j<R,Sml (w j*A j c) (9*54):=λj hj=>qlm (n:=27) (by decide) (sy j hj) (sA j hj c hc)
   have sm:=qlf (k:=54) (by decide) i λj hj=>pr j (by omega)
   rw[ae (by omega),qf,t1,ZB,qf,r1,ZB,qf,s1,ZB,s2,t2,qiC hN (k:=243) (by decide) (by decide) (sy i hi) (sA i hi c hc),ZB,
    qlw hN (k:=4000) (by decide) (by decide) (sm.mono (by have:i*55<=4*55:=aW _ (by omega);omega)) ((pr i hi).mono (by decide)),ZB,qm (by omega)]
   exact qlD hc K (i+1) (by omega) (by omega)
  rw[aa (by omega)]
  have e:i=R:=by omega
  rw[e]
theorem qoO (h0:∀c<n,qx R (λr=>w r*A r c)=0):∀(K c:Nat),c<=n->n<K+c->jG N m y K (c:Int)=some (.inl ())
 |0,c,h1,h2=>by omega
 |K+1,c,h1,h2=>by
  unfold jG;obtain⟨r,r1,r2⟩:=hm.get R0;have rl:=r2.1;rw[yJ,r1,ZB];by_cases hc:c<n
  ·have e:=qlD hN R0 R4 n4 hm sA hy sy hc N 0 (aD _) (by omega);rw[show((0:Nat):Int)=0 from rfl,show(T (qx 0 λr=>w r*A r c):Str)=[48]from T0,h0 c hc]at e;rw[ae (by omega),e,ZB,qmU,ZB,ap rfl,aa (by decide),qm (by omega)];exact qoO h0 K (c+1) (by omega) (by omega)
  rw[aa (by omega)]
end
def fS:Nat->Nat
 |0=>32+32
 |i+1=>fS i+fS i+1
omit hN in
theorem qtE (i:Nat):32+32<=fS i:=by
 induction i with
 |zero=>exact ai _
 |succ i ih=>unfold fS;omega
omit hN in
theorem qoL {u:Nat->Rat}:∀(n:Nat),(∀j<n,qaN (u j) (32+32))->qaN (qx n u) (fS n)
 |0,h=>by
  show qaN 0 (32+32);exact(qfM (k:=9) (n:=1) (sml0 (by decide)) (by decide) (by decide)).mono (by decide)
 |n+1,h=>qqA (qoL n λj hj=>h j (by omega)) ((h n (by omega)).mono (qtE n))
section
variable {R n:Nat}{m:List (List Str)}{b:List Str}{A:Mx}{v:Nat->Rat}(E:qpP N R n m b A v) (sA:∀i<R,∀j<n,Sml (A i j) 243) (sv:∀i<R,Sml (v i) 243) {y:List Str}{w:Nat->Rat}(hy:RwG zT R y w) (sy:∀i<R,Sml (w i) 243)
include E sA sv hy sy
omit hy in
theorem qro {i:Nat}(hi:i<R) {f:qb}(hf:IsF f (w i)) {r:List qb}(hr:RwF (n+1) r (qL n A v i)):∀(K k:Nat) (l:List qb),k<=n+1->n+1<K+k->RwF (n+1) l (λj=>if j<k then qx (i+1) (λq=>w q*qL n A v q j)else qx i (λq=>w q*qL n A v q j))->∃l',je N f r K l (k:Int)=some l'/\RwF (n+1) l' (λj=>qx (i+1) (λq=>w q*qL n A v q j))
 |0,k,l,h1,h2,h=>by omega
 |K+1,k,l,h1,h2,h=>by
  unfold je;have R4:=E.R4;have n4:=E.n4;have rl:=hr.1
  have fq:∀{q:Rat},Sml q 243->qaN q 32:=λhq=>qfM hq (by decide) (by decide)
  have fm:∀q<R,∀j<n+1,qaN (qL n A v q j) 32:=λq hq j hj=>by
   unfold qL;by_cases c:j<n
   ·rw[ae c];exact fq (sA q hq j c)
   rw[aa c];exact fq (sv q hq)
  by_cases c:k<n+1
  ·obtain⟨x,x1,x2⟩:=hr.get c;obtain⟨z,z1,z2⟩:=h.get c;rw[aa (by omega)]at z2;obtain⟨p,p1,p2⟩:=qlq hN hf x2 (n:=32) (by omega) (fq (sy i hi)) (fm i hi k c)
   have sf:=qoL (u:=λq=>w q*qL n A v q k) i λq hq=>qjy (fq (sy q (by omega))) (fm q (by omega) k c)
   have f4:fS i<=1900:=by
    rcases(show i=0\/i=1\/i=2\/i=3\/i=4 by omega)with rfl|rfl|rfl|rfl|rfl<;>decide
   obtain⟨s,s1,s2⟩:=qn3 hN z2 p2 (n:=fS i) f4 sf ((qjy (fq (sy i hi)) (fm i hi k c)).mono (qtE i))
   have kl:k<l.length:=by rw[h.1];exact c
   rw[ae (by omega),qf,x1,ZB,qf,z1,ZB,p1,ZB,s1,ZB,jr kl,ZB,qm (by omega)];refine qro hi hf hr K (k+1) _ (by omega) (by omega) ((h.put s2 k).congr λj hj=>?_);by_cases d:j=k
   ·rw[ae d,ae (by omega),d];rfl
   rw[aa d];by_cases d2:j<k
   ·rw[ae d2,ae (by omega)]
   rw[aa d2,aa (by omega)]
  rw[aa (by omega)];exact⟨l,rfl,h.congr λj hj=>by rw[ae (by omega)]⟩
theorem qnE:∀(K i:Nat) (l:List qb),i<=R->R<K+i->RwF (n+1) l (λj=>qx i (λq=>w q*qL n A v q j))->∃l',jf N m b y K l (i:Int)=some l'/\RwF (n+1) l' (λj=>qx R (λq=>w q*qL n A v q j))
 |0,i,l,h1,h2,h=>by omega
 |K+1,i,l,h1,h2,h=>by
  unfold jf;have ml:=E.mm.1;have R4:=E.R4;have n4:=E.n4;by_cases hi:i<R
  ·obtain⟨r,r1,r2⟩:=E.mm.get hi;obtain⟨s,s1,s2⟩:=E.bb.get hi;obtain⟨t,t1,t2⟩:=hy.get hi;have s2:s=T (v i):=s2;have t2:t=T (w i):=t2;obtain⟨l1,e1,g1⟩:=qlF hN r2 (by omega) (E.sA i hi);obtain⟨f,e2,g2⟩:=qhm hN (E.sb i hi);obtain⟨f',e3,g3⟩:=qhm hN ((sy i hi).mono (show 243<=9000 by decide))
   have row:RwF (n+1) (l1++[f]) (qL n A v i):=by
    refine(RwG.app (P:=IsF) (n:=n) (m:=1) (s:=[f]) (w:=λ_=>v i) g1 ⟨rfl,λj g hg=>?_⟩).congr λj hj=>rfl
    cases j with
    |zero=>rw[<-Ye hg];exact g2
    |succ j=>cases hg
   have h11:=g1.1;obtain⟨l2,e4,g4⟩:=qro hN E sA sv sy hi g3 row N 0 l (aD _) (by omega) (h.congr λj hj=>by rw[aa (by omega)]);rw[show((0:Nat):Int)=0 from rfl]at e4;rw[ae (by omega),qf,r1,ZB,qf,t1,ZB,t2,e3,ZB,e1,ZB,qf,s1,ZB,s2,e2,ZB,jU (by simp;omega) (by simp;omega),ZB,e4,ZB,qm (by omega)];exact qnE K (i+1) l2 (by omega) (by omega) g4
  rw[aa (by omega)]
  have e:i=R:=by omega
  subst e;exact⟨l,rfl,h⟩
omit E sA sv hy sy hN in
theorem nz_L {l:List qb}{k:Nat}{u:Nat->Rat}(h:RwF k l u) (hk:k<=100) (h0:∀j<k,u j=0):∀(K i:Nat),i<=k->k<K+i->qF l K (i:Int)=some (.inl ())
 |0,i,h1,hK=>by omega
 |K+1,i,h1,hK=>by
  unfold qF;by_cases c:i<k
  ·obtain⟨f,f1,f2⟩:=h.get c;unfold vw;rw[ae (by have:=h.1;omega),qf,f1,ZB,qfG f2,ZB,ZB,ap ((qby _).2 (h0 i c)),aa (by decide),qm (by omega)];exact nz_L h hk h0 K (i+1) (by omega) (by omega)
  rw[aa (by have:=h.1;omega)]
theorem qt7 (oy:OkL y) (h0:∀c<n,qx R (λr=>w r*A r c)=0) (h1:qx R (λr=>w r*v r)≠0):qH N m b y=some 0:=by
 have R4:=E.R4;have n4:=E.n4;have ml:=E.mm.1;obtain⟨r0,m0,g0⟩:=E.mm.get E.R0
 have z:RwF (n+1) (List.replicate (n+1) f0) (λj=>qx 0 (λq=>w q*qL n A v q j)):=⟨bS,λj g hg=>by
  obtain⟨q,e⟩:=Yb.1 hg;rw[dD]at e
  rw[<-e];exact isF0⟩
 obtain⟨l,e1,g1⟩:=qnE hN E sA sv hy sy N 0 _ (aD _) (by omega) z;have ll:=g1.1
 have f3:zf N [0,0,0]=some 0:=by
  obtain⟨K,rfl⟩:∃K,N=K+10:=⟨N-10,by omega⟩;rfl
 have w1:w64 ((l.length:Int)-1)=(n:Int):=by rw[qg (by omega) (by omega)];omega
 have tk:=g1.take (k:=n) (by omega)
 have nz:=nz_L tk (by omega) (λj hj=>by
  rw[<-h0 j hj]
  exact qp R λq _=>by unfold qL;rw[ae hj]) N 0 (aD _) (by omega)
 obtain⟨x,x1,x2⟩:=g1.get (show n<n+1 by omega)
 have hx:qx R (λq=>w q*qL n A v q n)≠0:=by
  rw[show qx R (λq=>w q*qL n A v q n)=qx R (λr=>w r*v r)from qp R λq _=>by unfold qL;rw[aa (by omega)]];exact h1
 rw[show((0:Nat):Int)=0 from rfl]at e1 nz;unfold qH qC;rw[E.ck,ZB,ap (by have:=hy.1;omega),aa (by decide),ZB,qo2 hN (by have:=hy.1;omega) oy,ZB,f3,ZB,aa (by decide),qkT,ZB,yJ,m0,ZB,g0.1,qm (by omega)];dsimp only;rw[qnL hN (show n+1<=6 by omega),ZB,e1,ZB,w1,jN (by omega),ZB];unfold zz ji;rw[nz];simp only[ZB];rw[aa (by decide),qf,x1,ZB,qfG x2,ZB,ak (λq=>hx ((qby _).1 q)),aa (by decide)];rfl
end
end
section
open Go.Proofs Go.RowKit
variable [Glob]
def sml6 {q:Rat}(h:Sml q 6): -1000000<q.num/\q.num<1000000/\0<(q.den:Int)/\(q.den:Int)<1000000:=by
 have a:=(qaB (show 0<6 by decide)).1 h.1;have b:=(qaB (show 0<6 by decide)).1 h.2;have c:=q.den_pos;omega
def qsp (q:Rat):q*((q.den:Int):Rat)=(q.num:Rat):=by
 have h:(((q.den:Int):Rat))≠0:=qfD (by have:=q.den_pos;omega);have e:q=Rat.divInt q.num q.den:=(Rat.num_divInt_den q).symm
 have e2:q=(q.num:Rat)/((q.den:Int):Rat):=by rw[<-Rat.divInt_eq_div];exact e
 conv=>lhs;lhs;rw[e2]
 exact Rat.div_mul_cancel h
def cden {q:Nat->Rat}:∀(n:Nat),(∀j<n,Sml (q j) 6)->∃(D:Int) (z:Nat->Int),0<D/\D<=1000000^n/\∀j<n,q j*(D:Rat)=(z j:Rat)/\ -(1000000*1000000^n)<=z j/\z j<=1000000*1000000^n
 |0,h=>⟨1,λ_=>0,by decide,by decide,λj hj=>by omega⟩
 |n+1,h=>by
  obtain⟨D,z,h1,h2,h3⟩:=cden n λj hj=>h j (by omega)
  obtain⟨a1,a2,a3,a4⟩:=sml6 (h n (by omega));have P:(0:Int)<1000000^n:=Int.pow_pos (by decide);have e:(1000000:Int)^(n+1)=1000000^n*1000000:=aL _ _;have m0:D*((q n).den:Int)<=1000000^n*1000000:=bU h2 (by omega) (by omega) (by omega);refine⟨D*((q n).den:Int),λj=>if j=n then(q n).num*D else z j*((q n).den:Int),dL h1 a3,by omega,λj hj=>?_⟩;dsimp only;by_cases c:j=n
  ·rw[ae c,c,cm,cm];refine⟨?_,?_⟩
   ·have:=qsp (q n);grind
   have:=qik (B:=1000000^n*1000000) (by omega) (a:=(q n).num) (b:=D)
   have b1:((q n).num*D).natAbs<=1000000*(1000000^n:Int).natAbs:=by
    rw[bH];exact dY (by omega) (by omega)
   omega
  obtain⟨c1,c2,c3⟩:=h3 j (by omega);rw[aa c,cm,cm];refine⟨by grind,?_⟩
  have b1:(z j*((q n).den:Int)).natAbs<=(1000000*1000000^n:Int).natAbs*1000000:=by
   rw[bH];exact dY (by omega) (by omega)
  omega
def qm5 {n:Nat}(n4:n<=5) {A:Mx}{v:Nat->Rat}{i:Nat}(hA:∀j<n,Sml (A i j) 6) (hv:Sml (v i) 6) (C:Nat) (M:Mx) (hM:∀j<C,(j<=n/\M i j=qL n A v i j)\/M i j=0\/M i j=1):RoB (10^42) C (M i):=by
 obtain⟨D,z,h1,h2,h3⟩:=cden (q:=qL n A v i) (n+1) λj hj=>by
  unfold qL;by_cases c:j<n
  ·rw[ae c];exact hA j c
  rw[aa c];exact hv
 have P:(1000000:Int)^(n+1)<=10^36:=by
  rcases(show n=0\/n=1\/n=2\/n=3\/n=4\/n=5 by omega)with rfl|rfl|rfl|rfl|rfl|rfl<;>decide
 have e20:(10:Int)^36=1000000000000000000000000000000000000:=by decide
 have e24:(10:Int)^42=1000000000000000000000000000000000000000000:=by decide
 refine⟨D,λj=>if j<=n/\M i j=qL n A v i j then z j else if M i j=0 then 0 else D,h1,by omega,λj hj=>?_⟩;dsimp only;by_cases c:j<=n/\M i j=qL n A v i j
 ·rw[ae c,c.2];obtain⟨g1,g2,g3⟩:=h3 j (by omega);exact⟨g1,by omega,by omega⟩
 rw[aa c];by_cases c0:M i j=0
 ·rw[ae c0,c0];exact⟨by rw[cU];rfl,by omega,by omega⟩
 rw[aa c0];rcases hM j hj with q|q|q
 ·exact absurd q c
 ·exact absurd q c0
 rw[q,Rat.one_mul];exact⟨rfl,by omega,by omega⟩
def qmE:zm (bdE (10^42) 5) 151:=by
 unfold zm;exact aP rfl
def Car (R n:Nat) (S:Mx) (w:Nat->Rat):Prop:= ∀k,k<=n->w k=qx R λr=>w (n+1+r)*S r k
def Car.lin (R n:Nat) (S:Mx):LinQ (Car R n S):=⟨λa b t ha hb k hk=>by
 have h:=qft (λr=>a (n+1+r)*S r k) (λr=>b (n+1+r)*S r k) t R;rw[<-ha k hk,<-hb k hk]at h;show a k-t*b k=_;rw[<-h]
 refine qp R λr _=>?_
 dsimp only
 grind,λa t ha k hk=>by
 have h:=qcs (λr=>a (n+1+r)*S r k) t R;rw[<-ha k hk]at h;show a k*t=_;rw[<-h]
 refine qp R λr _=>?_
 dsimp only
 grind⟩
section
variable {R n:Nat}{A:Mx}{v:Nat->Rat}
def qnW {i:Nat}(hi:i<R):Car R n (qL n A v) (jQ n A v i):=λk hk=>by
 have e:qx R (λr=>jQ n A v i (n+1+r)*qL n A v r k)=qx R λr=>if r=i then(λr=>qL n A v r k) r else 0:=qp R λr _=>by
  unfold jQ;rw[aa (by omega),aa (by omega)];by_cases c:r=i
  ·rw[ae (by omega),ae c,Rat.one_mul]
  rw[aa (by omega),aa c,cU]
 rw[e,qdy,ae hi];unfold jQ qL;by_cases c:k<n
 ·rw[ae c,ae c]
 rw[aa c,aa c,ae (by omega)]
def qnj {B:Int}(hB:1<=B) (hb:∀i<R,RoB B (n+1+R) (jQ n A v i)) {i:Nat}(h1:(qB R n 0 (jQ n A v,[])).2.length<=i) (h2:i<R) (h3:(qB R n 0 (jQ n A v,[])).1 i n≠0):
 (∀c<n,qx R (λr=>(qB R n 0 (jQ n A v,[])).1 i (n+1+r)*A r c)=0)/\qx R (λr=>(qB R n 0 (jQ n A v,[])).1 i (n+1+r)*v r)≠0:=by
 have ok0:qb8 B R (n+1+R) 0 (jQ n A v,[]):=⟨hB,EI.zero R _,hb⟩;have ok:=ok0.run n 0 (by omega);rw[aG]at ok;have car:=(qjZ (Car.lin R n (qL n A v)) n 0 ok0 (by omega)).1 (λi hi=>qnW hi) i h2;refine⟨λc hc=>?_,λh=>h3 ?_⟩
 ·have:=car c (by omega);rw[ok.ei.z i h1 h2 c hc]at this;rw[this]
  exact qp R λr _=>by unfold qL;rw[ae hc]
 rw[car n (ai _),<-h]
 exact qp R λr _=>by unfold qL;rw[aa (by omega)]
def qqW (x:Nat->Rat) {i n:Nat}(hi:i<n):qx n (λj=>(if i=j then 1 else 0)*x j)=x i:=by
 have e:qx n (λj=>(if i=j then 1 else 0)*x j)=qx n λj=>if j=i then x j else 0:=qp n λj _=>by
  by_cases c:i=j
  ·rw[ae c,ae c.symm,Rat.one_mul]
  rw[aa c,aa (λq=>c q.symm),cU]
 rw[e,qdy,ae hi]
end
end
def php:∀(n:Nat) (f:Nat->Nat),(∀i,i<=n->f i<n)->∃i j,i<j/\j<=n/\f i=f j
 |0,f,h=>absurd (h 0 (ai _)) (dn _)
 |n+1,f,h=>by
  by_cases e:∃i,i<=n/\f i=f (n+1)
  ·obtain⟨i,h1,h2⟩:=e;exact⟨i,n+1,by omega,ai _,h2⟩
  have ne:∀i,i<=n->f i≠f (n+1):=λi hi h2=>e ⟨i,hi,h2⟩
  obtain⟨i,j,h1,h2,h3⟩:=php n (λi=>if f i=n then f (n+1)else f i) (λi hi=>by
   have a:=h i (by omega);have b:=h (n+1) (ai _);have c:=ne i hi;show(if f i=n then f (n+1)else f i)<n;by_cases d:f i=n
   ·rw[ae d];omega
   rw[aa d];omega)
  refine⟨i,j,h1,by omega,?_⟩;have a:=ne i (by omega);have b:=ne j h2;change (if f i=n then f (n+1)else f i)=(if f j=n then f (n+1)else f j)at h3;by_cases c:f i=n<;>by_cases d:f j=n
  ·rw[c,d]
  ·rw[ae c,aa d]at h3;exact absurd h3.symm b
  ·rw[aa c,ae d]at h3;exact absurd h3 a
  rw[aa c,aa d]at h3;exact h3
def dgX (b c j:Nat):Nat:=c/b^j%b
def qnr {b:Nat}(hb:0<b) (c j:Nat):dgX b c j<b:=eC _ hb
def qom {b:Nat}(hb:0<b):∀(k c d:Nat),c<b^k->d<b^k->(∀j,j<k->dgX b c j=dgX b d j)->c=d
 |0,c,d,h1,h2,_=>by
  rw[fD]at h1 h2;omega
 |k+1,c,d,h1,h2,h=>by
  have e:c/b=d/b:=qom hb k (c/b) (d/b) (eS (by rw[bP,<-Nat.pow_succ];exact h1)) (eS (by rw[bP,<-Nat.pow_succ];exact h2)) (λj hj=>by
   have:=h (j+1) (by omega);unfold dgX at this⊢;rw[eE,eE,bP b,<-Nat.pow_succ]
   exact this)
  have z:=h 0 (by omega);unfold dgX at z;rw[fD,Nat.div_one,Nat.div_one]at z;have p:=fX c b;have q:=fX d b;rw[e,z]at p;omega
def qmb (Q:Nat) (g:Nat->Nat):Nat->Nat
 |0=>0
 |k+1=>qmb Q g k+g k*Q^k
def qiG {Q:Nat}{g:Nat->Nat}:∀k,(∀i,i<k->g i<Q)->qmb Q g k<Q^k
 |0,_=>by
  rw[fD];exact Nat.one_pos
 |k+1,h=>by
  have a:=qiG k (λi hi=>h i (by omega));have b:=h k (by omega);have c:(g k+1)*Q^k<=Q*Q^k:=aW _ b;rw[Nat.add_mul,cy]at c;show qmb Q g k+g k*Q^k<Q^(k+1);rw[Nat.pow_succ,bP (Q^k)];omega
def ql3 {Q:Nat}{g g':Nat->Nat}:∀k,(∀i,i<k->g i<Q)->(∀i,i<k->g' i<Q)->qmb Q g k=qmb Q g' k->∀i,i<k->g i=g' i
 |0,_,_,_,i,hi=>absurd hi (dn _)
 |k+1,h,h',e,i,hi=>by
  have a:=qiG k (λi hi=>h i (by omega));have a':=qiG k (λi hi=>h' i (by omega))
  have p:0<Q^k:=by omega
  change qmb Q g k+g k*Q^k=qmb Q g' k+g' k*Q^k at e;have d:=az (· /Q^k) e;simp only[Nat.add_mul_div_right _ _ p,dH a,dH a',aG]at d;rw[d]at e;rcases aw i k with h1|h1
  ·exact ql3 k (λi hi=>h i (by omega)) (λi hi=>h' i (by omega)) (by omega) i h1
  rw[show i=k by omega];exact d
def qdR:Nat->(Nat->Int)->Int
 |0,_=>0
 |n+1,f=>qdR n f+f n
def qmn (f g:Nat->Int):∀n,qdR n (λj=>f j-g j)=qdR n f-qdR n g
 |0=>rfl
 |n+1=>by
  show qdR n (λj=>f j-g j)+(f n-g n)=qdR n f+f n-(qdR n g+g n);rw[qmn f g n];omega
def qiW {f g:Nat->Int}:∀n,(∀j,j<n->f j=g j)->qdR n f=qdR n g
 |0,_=>rfl
 |n+1,h=>by
  show qdR n f+f n=qdR n g+g n;rw[qiW n (λj hj=>h j (by omega)),h n (by omega)]
def ql4 {f:Nat->Int}{M:Nat}:∀n,(∀j,j<n->(f j).natAbs<=M)->(qdR n f).natAbs<=n*M
 |0,_=>by
  show(0:Int).natAbs<=_;omega
 |n+1,h=>by
  have a:=ql4 n (λj hj=>h j (by omega));have b:=h n (by omega);show(qdR n f+f n).natAbs<=_;rw[Nat.add_mul,cy];omega
def qrp (k:Nat) (a:Nat->Nat->Int) (B:Nat) (hB:1<=B) (h:∀i,i<k->∀j,j<k+1->(a i j).natAbs<=B):
 ∃v:Nat->Int,(∃j,j<k+1/\v j≠0)/\(∀j,j<k+1->(v j).natAbs<=(2*(k+1)*B)^k)/\∀i,i<k->qdR (k+1) (λj=>a i j*v j)=0:=by
 have hX:∃X,X=(2*(k+1)*B)^k:=⟨_,rfl⟩;obtain⟨X,hX⟩:=hX;rw[<-hX];have hQ:∃Q,Q=2*(k+1)*B*X+1:=⟨_,rfl⟩;obtain⟨Q,hQ⟩:=hQ;have hE:∃E,E=(k+1)*(B*X):=⟨_,rfl⟩;obtain⟨E,hE⟩:=hE
 have hQE:Q=2*E+1:=by
  rw[hQ,hE,Nat.mul_assoc,Nat.mul_assoc]
 have c1:1<=2*(k+1)*B:=Nat.mul_pos (by omega) hB
 have lt:Q^k<(X+1)^(k+1):=by
  have q1:Q<=2*(k+1)*B*(X+1):=by
   rw[hQ,Nat.mul_add (2*(k+1)*B) X 1,cR];omega
  have q2:Q^k<=X*(X+1)^k:=by
   have:=Nat.pow_le_pow_left q1 k;rw[Nat.mul_pow,<-hX]at this;exact this
  have q3:0<(X+1)^k:=fT (by omega);rw[Nat.pow_succ,bP ((X+1)^k),Nat.add_mul,cy];omega
 have im:∀c i,i<k->(qdR (k+1) (λj=>a i j*((dgX (X+1) c j:Nat):Int))).natAbs<=E:=λc i hi=>by
  rw[hE]
  refine ql4 (k+1) λj hj=>?_
  rw[bH,aS];exact dY (h i hi j hj) (by have:=qnr (b:=X+1) (by omega) c j;omega)
 have g1:∀c i,i<k->(qdR (k+1) (λj=>a i j*((dgX (X+1) c j:Nat):Int))+E).toNat<Q:=λc i hi=>by
  have:=im c i hi;rw[hQE];omega
 obtain⟨c,d,h1,h2,h3⟩:=php (Q^k) (λc=>qmb Q (λi=>(qdR (k+1) (λj=>a i j*((dgX (X+1) c j:Nat):Int))+E).toNat) k) (λc _=>qiG k (λi hi=>g1 c i hi));have e:=ql3 k (λi hi=>g1 c i hi) (λi hi=>g1 d i hi) h3;refine⟨λj=>((dgX (X+1) d j:Nat):Int)-((dgX (X+1) c j:Nat):Int),?_,λj hj=>?_,λi hi=>?_⟩
 ·by_cases z:∃j,j<k+1/\dgX (X+1) c j≠dgX (X+1) d j
  ·obtain⟨j,z1,z2⟩:=z
   exact⟨j,z1,by
    show((dgX (X+1) d j:Nat):Int)-((dgX (X+1) c j:Nat):Int)≠0
    omega⟩
  have:=qom (b:=X+1) (by omega) (k+1) c d (by omega) (by omega) (λj hj=>by
   by_cases q:dgX (X+1) c j=dgX (X+1) d j
   ·exact q
   exact absurd ⟨j,hj,q⟩ z)
  omega
 ·have p:=qnr (b:=X+1) (by omega) d j;have q:=qnr (b:=X+1) (by omega) c j;show(((dgX (X+1) d j:Nat):Int)-((dgX (X+1) c j:Nat):Int)).natAbs<=X;omega
 have q:=e i hi;have p1:=im c i hi;have p2:=im d i hi
 have:qdR (k+1) (λj=>a i j*(((dgX (X+1) d j:Nat):Int)-((dgX (X+1) c j:Nat):Int)))=qdR (k+1) (λj=>a i j*((dgX (X+1) d j:Nat):Int))-qdR (k+1) (λj=>a i j*((dgX (X+1) c j:Nat):Int)):=by
  rw[<-qmn];exact qiW _ (λj _=>by rw[Int.mul_sub])
 show qdR (k+1) (λj=>a i j*(((dgX (X+1) d j:Nat):Int)-((dgX (X+1) c j:Nat):Int)))=0;rw[this];omega
def qnf (π:Nat->Nat) (r d:Nat):Nat->Nat:=λi=>if i=d then π r else if i=r then π d else π i
structure PV (R:Nat) (q:Nat->Nat) (A M:Mx) (p:List Nat) (π:Nat->Nat):Prop where
 lr:p.length<=R
 rng:∀i,i<R->π i<R
 inj:∀i,i<R->∀k,k<R->π i=π k->i=k
 piv:∀u,u<p.length->∀i,i<R->M i (p.getD u 0)=if i=u then 1 else 0
 eq:∀t,t<R->∀j,A (π t) j=qx p.length (λu=>A (π t) (p.getD u 0)*M u j)+(if t<p.length then 0 else M t j)
 sup:∀u,u<p.length->∀r,r<R->(∀t,t<p.length->π t≠r)->M u (q r)=0
def PV.zero (R:Nat) (q:Nat->Nat) (A:Mx):PV R q A A [] id:=
 ⟨aD _,λi h=>h,λi _ k _ h=>h,λu h=>absurd h (dn _),λt _ j=>by
  show A t j=qx 0 _+(if t<0 then 0 else A t j);rw[aa (dn _)];show A t j=0+A t j
  grind,λu h=>absurd h (dn _)⟩
def qqy {p:List Nat}{c u:Nat}(h:u<p.length):(p++[c]).getD u 0=p.getD u 0:=by
 simp only[Yy];rw[Yf h]
def qr1 {p:List Nat}{c:Nat}:(p++[c]).getD p.length 0=c:=by
 simp[List.getD_eq_getElem?_getD]
def PV.step {R c:Nat}{q:Nat->Nat}{A M:Mx}{p:List Nat}{π:Nat->Nat}(hq:∀i,i<R->∀r,r<R->A i (q r)=if i=r then 1 else 0) (h:PV R q A M p π):∃π',PV R q A (xz R (M,p) c).1 (xz R (M,p) c).2 π':=by
 unfold xz;dsimp only
 cases hf:qdD M c (R-p.length) p.length with
 |none=>exact⟨π,h⟩
 |some r=>
  obtain⟨r1,r2,r3⟩:=qcX hf;have lr:=h.lr
  have hd:p.length<R:=by omega
  have hr:r<R:=by omega
  have hpl:(p++[c]).length=p.length+1:=by simp
  have cv:M r c*(M r c)⁻¹=1:=fh _ r3;dsimp only
  have row:∀i,i≠p.length->∃k,xA M r p.length i=M k/\qnf π r p.length i=π k/\(i<R->k<R)/\(i<p.length->k=i)/\(p.length<i->p.length<=k):=λi e=>by
   unfold xA qnf;by_cases g:i=r
   ·exact⟨p.length,by rw[aa e,ae g],by rw[aa e,ae g],λ_=>hd,λ_=>by omega,λ_=>ai _⟩
   exact⟨i,by rw[aa e,aa g],by rw[aa e,aa g],λh=>h,λ_=>rfl,λh=>by omega⟩
  have pd:qnf π r p.length p.length=π r:=ae rfl
  have lo:∀u,u<p.length->∀j,qd1 M c p.length r u j=M u j-M u c*(M r j*(M r c)⁻¹):=λu hu j=>by
   obtain⟨k,k1,_,_,k4,_⟩:=row u (by omega);rw[qfh M c p.length r (by omega),k1,k4 hu]
  have key:∀(a:Nat->Rat) (j:Nat),qx p.length (λu=>a u*qd1 M c p.length r u j)=qx p.length (λu=>a u*M u j)-(M r j*(M r c)⁻¹)*qx p.length (λu=>a u*M u c):=λa j=>by
   rw[<-qft]
   refine qp _ λu hu=>?_
   rw[lo u hu j];grind
  have sum:∀(b:Nat->Rat) (j:Nat),qx (p++[c]).length (λu=>b ((p++[c]).getD u 0)*qd1 M c p.length r u j)=qx p.length (λu=>b (p.getD u 0)*M u j)-(M r j*(M r c)⁻¹)*qx p.length (λu=>b (p.getD u 0)*M u c)+b c*(M r j*(M r c)⁻¹):=λb j=>by
   rw[hpl];show qx p.length _+b ((p++[c]).getD p.length 0)*qd1 M c p.length r p.length j=_;rw[qr1,qff,<-key (λu=>b (p.getD u 0)) j];congr 1
   exact qp _ λu hu=>by rw[qqy hu]
  refine⟨qnf π r p.length,by omega,λi hi=>?_,λi hi k hk e=>?_,λu hu i hi=>?_,λt ht j=>?_,λu hu s hs hz=>?_⟩
  ·unfold qnf;split
   ·exact h.rng r hr
   split
   ·exact h.rng _ hd
   exact h.rng i hi
  ·unfold qnf at e;by_cases i1:i=p.length<;>by_cases k1:k=p.length
   ·omega
   ·rw[ae i1,aa k1]at e;by_cases k2:k=r
    ·rw[ae k2]at e;have:=h.inj r hr _ hd e;omega
    rw[aa k2]at e;have:=h.inj r hr k hk e;omega
   ·rw[aa i1,ae k1]at e;by_cases i2:i=r
    ·rw[ae i2]at e;have:=h.inj _ hd r hr e;omega
    rw[aa i2]at e;have:=h.inj i hi r hr e;omega
   rw[aa i1,aa k1]at e;by_cases i2:i=r<;>by_cases k2:k=r
   ·omega
   ·rw[ae i2,aa k2]at e;have:=h.inj _ hd k hk e;omega
   ·rw[aa i2,ae k2]at e;have:=h.inj i hi _ hd e;omega
   rw[aa i2,aa k2]at e;exact h.inj i hi k hk e
  ·rw[hpl]at hu;by_cases u1:u=p.length
   ·rw[u1,qr1];by_cases i1:i=p.length
    ·rw[i1,qff,ae rfl];exact cv
    rw[qfh M c p.length r i1,aa i1];dsimp only;rw[cv];grind
   have u2:u<p.length:=by omega
   rw[qqy u2]
   have zr:M r (p.getD u 0)=0:=by rw[h.piv u u2 r hr,aa (by omega)]
   by_cases i1:i=p.length
   ·rw[i1,qff,aa (by omega)];dsimp only;rw[zr];grind
   rw[qfh M c p.length r i1];dsimp only;rw[zr]
   have:xA M r p.length i (p.getD u 0)=if i=u then 1 else 0:=by
    unfold xA;rw[aa i1];by_cases e3:i=r
    ·rw[ae e3,h.piv u u2 _ hd,aa (by omega),aa (by omega)]
    rw[aa e3];exact h.piv u u2 i hi
   rw[this];grind
  ·rw[sum (A (qnf π r p.length t)) j,hpl];by_cases t1:t=p.length
   ·rw[t1,pd,ae (by omega)];have e1:=h.eq r hr j;have e2:=h.eq r hr c;rw[aa (by omega)]at e1 e2
    have e3:M r j*(M r c)⁻¹*M r c=M r j:=by grind
    grind
   obtain⟨k,k1,k2,k3,k4,k5⟩:=row t t1;have e1:=h.eq k (k3 ht) j;have e2:=h.eq k (k3 ht) c;rw[k2];by_cases t2:t<p.length
   ·rw[ae (by omega)];rw[k4 t2]at e1 e2⊢;rw[ae t2]at e1 e2;grind
   have:=k5 (by omega);rw[aa (by omega)]at e1 e2;rw[aa (by omega),qfh M c p.length r t1,k1];grind
  rw[hpl]at hu hz
  have zu:∀u,u<p.length->M u (q s)=0:=λu hu=>h.sup u hu s hs (λt ht=>by
   have:=hz t (by omega);obtain⟨k,_,k2,_,k4,_⟩:=row t (by omega);rw[k2,k4 ht]at this
   exact this)
  have zd:M r (q s)=0:=by
   have:=hz p.length (by omega);rw[pd]at this;have e1:=h.eq r hr (q s);rw[aa (by omega),hq _ (h.rng r hr) s hs,aa this]at e1
   have e2:qx p.length (λu=>A (π r) (p.getD u 0)*M u (q s))=0:=by
    rw[<-qdq p.length]
    exact qp _ λu hu=>by rw[zu u hu];grind
   rw[e2]at e1;grind
  by_cases u1:u=p.length
  ·rw[u1,qff];dsimp only;rw[zd];grind
  rw[lo u (by omega),zd,zu u (by omega)];grind
def PV.run {R:Nat}{q:Nat->Nat}{A:Mx}(hq:∀i,i<R->∀r,r<R->A i (q r)=if i=r then 1 else 0):∀(k c:Nat) (s:Mx×List Nat) (π:Nat->Nat),PV R q A s.1 s.2 π->∃π',PV R q A (qB R k c s).1 (qB R k c s).2 π'
 |0,c,s,π,h=>⟨π,h⟩
 |k+1,c,s,π,h=>by
  obtain⟨π',h'⟩:=h.step (c:=c) hq;exact PV.run hq k (c+1) (xz R s c) π' h'
section
open Go.Proofs Go.RowKit
variable [Glob]
def qop {x:Rat}{a b:Int}{X:Nat}(hb:b≠0) (h:x*(b:Rat)=(a:Rat)) (ha:a.natAbs<=X) (hB:b.natAbs<=X) {k:Nat}(hk:0<k) (hX:zm (X:Int) k):Sml x (9*k):=by
 have:RoB (X:Int) 1 (λ_=>x):=by
  by_cases c:0<b
  ·exact⟨b,λ_=>a,c,by omega,λj _=>⟨h,by show-(X:Int)<=a;omega,by show a<=(X:Int);omega⟩⟩
  refine⟨-b,λ_=> -a,by omega,by omega,λj _=>⟨?_,by show-(X:Int)<= -a;omega,by show-a<=(X:Int);omega⟩⟩;show x*((-b:Int):Rat)=((-a:Int):Rat);rw[dl,dl,<-h];grind
 exact this.sml (j:=0) hk hX (by omega)
def qhx (f:Nat->Int):∀n,((qdR n f:Int):Rat)=qx n (λj=>(f j:Rat))
 |0=>rfl
 |n+1=>by
  show((qdR n f+f n:Int):Rat)=qx n _+(f n:Rat);rw[Rat.intCast_add,qhx f n]
section
variable {R:Nat}{q:Nat->Nat}{A M:Mx}{p:List Nat}{π:Nat->Nat}
def PV.mult (hq:∀i,i<R->∀r,r<R->A i (q r)=if i=r then 1 else 0) (h:PV R q A M p π) {i:Nat}(h1:p.length<=i) (h2:i<R) {v:Nat->Rat}
 (hv:∀r,r<R->v r≠0->r=π i\/ ∃t,t<p.length/\π t=r) (h0:∀u,u<p.length->qx R (λr=>v r*A r (p.getD u 0))=0):∀s,s<R->v s=v (π i)*M i (q s):=λs hs=>by
 have e1:qx R (λr=>v r*A r (q s))=v s:=by
  have:qx R (λr=>v r*A r (q s))=qx R λr=>if r=s then v r else 0:=qp R λr hr=>by
   rw[hq r hr s hs];by_cases c:r=s
   ·rw[ae c,ae c,Rat.mul_one]
   rw[aa c,aa c,Rat.mul_zero]
  rw[this,qdy,ae hs]
 have e2:∀r,r<R->v r*A r (q s)=qx p.length (λu=>v r*A r (p.getD u 0)*M u (q s))+(if r=π i then v r*M i (q s)else 0):=λr hr=>by
  have mul:∀t,qx p.length (λu=>v r*A t (p.getD u 0)*M u (q s))=v r*qx p.length (λu=>A t (p.getD u 0)*M u (q s)):=λt=>by
   rw[Rat.mul_comm (v r),<-qcs]
   exact qp _ λu _=>by grind
  by_cases c:v r=0
  ·rw[mul r,c,cU,cU,cU];split<;>grind
  rcases hv r hr c with e|⟨t,t1,t2⟩
  ·have:=h.eq i h2 (q s);rw[aa (by omega)]at this;rw[ae e,mul r,e,this];grind
  have lr:=h.lr;have:=h.eq t (by omega) (q s);rw[ae t1,t2]at this
  rw[aa (λe=>by
   have:=h.inj t (by omega) i h2 (by rw[t2,e])
   omega),mul r,this]
  grind
 rw[<-e1,qp R e2]
 have add:∀(f g:Nat->Rat) (n:Nat),qx n (λr=>f r+g r)=qx n f+qx n g:=λf g n=>by
  have:=qft f g (-1) n
  have e:qx n (λr=>f r+g r)=qx n (λj=>f j- -1*g j):=qp n λj _=>by grind
  rw[e,this];grind
 rw[add,qgc (λr u=>v r*A r (p.getD u 0)*M u (q s)) p.length R,qdy (λr=>v r*M i (q s)) (π i),ae (h.rng i h2)]
 have z:qx p.length (λu=>qx R λr=>v r*A r (p.getD u 0)*M u (q s))=0:=by
  rw[<-qdq p.length]
  exact qp _ λu hu=>by rw[qcs (λr=>v r*A r (p.getD u 0)) (M u (q s)),h0 u hu,cU]
 rw[z];grind
def atV (k:Nat) (ix:Nat->Nat) (v:Nat->Int) (r:Nat):Rat:=qx k λj=>if ix j=r then(v j:Rat)else 0
def qni {k:Nat}{ix:Nat->Nat}{v:Nat->Int}(inj:∀i,i<k->∀j,j<k->ix i=ix j->i=j) {j:Nat}(hj:j<k):atV k ix v (ix j)=(v j:Rat):=by
 unfold atV
 have:qx k (λi=>if ix i=ix j then(v i:Rat)else 0)=qx k λi=>if i=j then(v i:Rat)else 0:=qp k λi hi=>by
  by_cases c:i=j
  ·rw[ae c,ae (by rw[c])]
  rw[aa c,aa (λe=>c (inj i hi j hj e))]
 rw[this,qdy (λi=>(v i:Rat)) j,ae hj]
def qpO {k:Nat}{ix:Nat->Nat}{v:Nat->Int}{r:Nat}(h:∀j,j<k->ix j≠r):atV k ix v r=0:=by
 unfold atV;exact(qp k λj hj=>aa (h j hj)).trans (qdq k)
def qs2 {k:Nat}{ix:Nat->Nat}{v:Nat->Int}(hix:∀j,j<k->ix j<R) (f:Nat->Rat):qx R (λr=>atV k ix v r*f r)=qx k λj=>(v j:Rat)*f (ix j):=by
 have e:qx R (λr=>atV k ix v r*f r)=qx R λr=>qx k λj=>if ix j=r then(v j:Rat)*f r else 0:=qp R λr _=>by
  unfold atV;rw[<-qcs]
  exact qp k λj _=>by split<;>grind
 rw[e,qgc]
 refine qp k λj hj=>?_
 have:qx R (λr=>if ix j=r then(v j:Rat)*f r else 0)=qx R λr=>if r=ix j then(λr=>(v j:Rat)*f r) r else 0:=qp R λr _=>by
  by_cases c:ix j=r
  ·rw[ae c,ae c.symm]
  rw[aa c,aa (λe=>c e.symm)]
 rw[this,qdy,ae (hix j hj)]
def PV.small (hq:∀i,i<R->∀r,r<R->A i (q r)=if i=r then 1 else 0) (h:PV R q A M p π) {B:Nat}(hB:1<=B)
 (hc:∀u,u<p.length->∃(D:Int) (z:Nat->Int),0<D/\∀r,r<R->A r (p.getD u 0)*(D:Rat)=(z r:Rat)/\(z r).natAbs<=B) {i:Nat}(h1:p.length<=i) (h2:i<R) {k:Nat}(hk:0<k)
 (hX:zm (((2*(p.length+1)*B)^p.length:Nat):Int) k):∀s,s<R->Sml (M i (q s)) (9*k):=λs hs=>by
 have lr:=h.lr
 have ch:∀u,∃z:Nat->Int,u<p.length->∃D:Int,0<D/\∀r,r<R->A r (p.getD u 0)*(D:Rat)=(z r:Rat)/\(z r).natAbs<=B:=λu=>by
  by_cases c:u<p.length
  ·obtain⟨D,z,e⟩:=hc u c;exact⟨z,λ_=>⟨D,e⟩⟩
  exact⟨λ_=>0,λe=>absurd e c⟩
 obtain⟨z,hz⟩:=Classical.axiomOfChoice ch;have hix:∃ix:Nat->Nat,(∀j,j<p.length->ix j=π j)/\ix p.length=π i:=⟨λj=>if j<p.length then π j else π i,λj hj=>ae hj,aa (by omega)⟩;obtain⟨ix,x1,x2⟩:=hix
 have ixR:∀j,j<p.length+1->ix j<R:=λj hj=>by
  by_cases c:j<p.length
  ·rw[x1 j c];exact h.rng j (by omega)
  rw[show j=p.length by omega,x2];exact h.rng i h2
 have inj:∀a,a<p.length+1->∀b,b<p.length+1->ix a=ix b->a=b:=λa ha b hb e=>by
  by_cases c:a<p.length<;>by_cases d:b<p.length
  ·rw[x1 a c,x1 b d]at e;exact h.inj a (by omega) b (by omega) e
  ·rw[x1 a c,show b=p.length by omega,x2]at e;have:=h.inj a (by omega) i h2 e;omega
  ·rw[x1 b d,show a=p.length by omega,x2]at e;have:=h.inj i h2 b (by omega) e;omega
  omega
 obtain⟨v,⟨j0,j1,j2⟩,vb,v0⟩:=qrp p.length (λu j=>z u (ix j)) B hB (λu hu j hj=>by
  obtain⟨D,_,e⟩:=hz u hu
  exact(e (ix j) (ixR j hj)).2)
 have zero:∀u,u<p.length->qx R (λr=>atV (p.length+1) ix v r*A r (p.getD u 0))=0:=λu hu=>by
  rw[qs2 ixR (λr=>A r (p.getD u 0))];obtain⟨D,d0,e⟩:=hz u hu;have c:=az (λn:Int=>(n:Rat)) (v0 u hu);rw[qhx]at c
  have m:qx (p.length+1) (λj=>(v j:Rat)*A (ix j) (p.getD u 0))*(D:Rat)=0:=by
   rw[<-qcs];refine Eq.trans (qp _ λj hj=>?_) c;have:=(e (ix j) (ixR j hj)).1;rw[cm,<-this];grind
  rcases eG.1 m with g|g
  ·exact g
  exact absurd g (qfD (by omega))
 have key:=h.mult hq h1 h2 (v:=atV (p.length+1) ix v) (λr hr c=>by
  by_cases g:∃j,j<p.length+1/\ix j=r
  ·obtain⟨j,g1,g2⟩:=g;by_cases d:j<p.length
   ·exact .inr ⟨j,d,by rw[<-x1 j d];exact g2⟩
   exact .inl (by rw[<-g2,show j=p.length by omega,x2])
  exact absurd (qpO λj hj e=>g ⟨j,hj,e⟩) c) zero
 have top:atV (p.length+1) ix v (π i)=(v p.length:Rat):=by
  rw[<-x2];exact qni inj (by omega)
 have nz:v p.length≠0:=λe=>by
  have:=key (ix j0) (ixR j0 j1);rw[top,e,qni inj j1]at this;exact qfD j2 (by rw[this];show(0:Rat)*_=0;exact cU _)
 have K:=key s hs;rw[top]at K;by_cases g:∃j,j<p.length+1/\ix j=s
 ·obtain⟨j,g1,g2⟩:=g;rw[<-g2,qni inj g1]at K;rw[<-g2];exact qop nz (a:=v j) (by rw[K];grind) (vb j g1) (vb _ (by omega)) hk hX
 rw[qpO λj hj e=>g ⟨j,hj,e⟩]at K
 have:M i (q s)=0:=by
  rcases eG.1 K.symm with e|e
  ·exact absurd e (qfD nz)
  exact e
 rw[this];exact(sml0 (by omega))
end
end
section
open Go.Proofs Go.RowKit
variable [Glob]
def qrZ {R c:Nat}{s:Mx×List Nat}(h:∀x,x∈s.2->x<c):∀x,x∈(xz R s c).2->x<c+1:=by
 intro x hx;unfold xz at hx
 cases hf:qdD s.1 c (R-s.2.length) s.2.length with
 |none=>
  rw[hf]at hx;have:=h x hx;omega
 |some r=>
  rw[hf]at hx;rcases cG.1 hx with a|a
  ·have:=h x a;omega
  have:=List.mem_singleton.1 a;omega
def qgX {R:Nat}:∀(k c:Nat) (s:Mx×List Nat),(∀x,x∈s.2->x<c)->∀x,x∈(qB R k c s).2->x<c+k
 |0,c,s,h,x,hx=>h x hx
 |k+1,c,s,h,x,hx=>by
  have:=qgX k (c+1) (xz R s c) (qrZ h) x hx;omega
def qjQ {p:List Nat}{u:Nat}(h:u<p.length):p.getD u 0∈p:=by
 rw[Yy,Ya h];exact bo h
def qmp {R C c:Nat}{M M':Mx}(hc:c<C) (h:∀i,i<R->∀j,j<C->M i j=M' i j):∀(k r:Nat),r+k<=R->qdD M c k r=qdD M' c k r
 |0,_,_=>rfl
 |k+1,r,hr=>by
  unfold qdD;rw[h r (by omega) c hc,qmp hc h k (r+1) (by omega)]
def qr5 {R C c d r:Nat}{M M':Mx}(hc:c<C) (hd:d<R) (hr:r<R) (h:∀i,i<R->∀j,j<C->M i j=M' i j):∀i,i<R->∀j,j<C->qd1 M c d r i j=qd1 M' c d r i j:=λi hi j hj=>by
 have hs:∀i,i<R->∀j,j<C->xA M r d i j=xA M' r d i j:=λi hi j hj=>by
  unfold xA;by_cases a:i=d
  ·rw[ae a,ae a];exact h r hr j hj
  rw[aa a,aa a];by_cases b:i=r
  ·rw[ae b,ae b];exact h d hd j hj
  rw[aa b,aa b];exact h i hi j hj
 by_cases a:i=d
 ·rw[a,qff,qff];dsimp only;rw[h r hr j hj,h r hr c hc]
 rw[qfh M c d r a,qfh M' c d r a];dsimp only;rw[hs i hi j hj,hs i hi c hc,h r hr j hj,h r hr c hc]
def qht {R C:Nat}:∀(k c:Nat) (M M':Mx) (p:List Nat),p.length<=R->c+k<=C->(∀i,i<R->∀j,j<C->M i j=M' i j)->
 (qB R k c (M,p)).2=(qB R k c (M',p)).2/\∀i,i<R->∀j,j<C->(qB R k c (M,p)).1 i j=(qB R k c (M',p)).1 i j
 |0,c,M,M',p,lp,_,h=>⟨rfl,h⟩
 |k+1,c,M,M',p,lp,hk,h=>by
  have hf:=qmp (c:=c) (by omega) h (R-p.length) p.length (by omega);unfold qB
  cases e:qdD M c (R-p.length) p.length with
  |none=>
   have a:xz R (M,p) c=(M,p):=by unfold xz;dsimp only;rw[e]
   have b:xz R (M',p) c=(M',p):=by unfold xz;dsimp only;rw[<-hf,e]
   rw[a,b];exact qht k (c+1) M M' p lp (by omega) h
  |some r=>
   obtain⟨r1,r2,_⟩:=qcX e
   have a:xz R (M,p) c=(qd1 M c p.length r,p++[c]):=by unfold xz;dsimp only;rw[e]
   have b:xz R (M',p) c=(qd1 M' c p.length r,p++[c]):=by unfold xz;dsimp only;rw[<-hf,e]
   rw[a,b];exact qht k (c+1) _ _ _ (by simp;omega) (by omega) (qr5 (by omega) (by omega) (by omega) h)
section
variable {R n:Nat}(R5:R<=5) (n5:n<=5) {A:Mx}{v:Nat->Rat}(hA:∀i,i<R->∀j,j<n->Sml (A i j) 6) (hv:∀i,i<R->Sml (v i) 6)
theorem qon {i:Nat}:∀r,jQ n A v i (n+1+r)=if i=r then 1 else 0:=λr=>by
 unfold jQ;rw[aa (by omega),aa (by omega)];by_cases c:i=r
 ·rw[ae (by omega),ae c]
 rw[aa (by omega),aa c]
include R5 n5 hA hv
theorem qly:∀i,i<R->RoB (10^42) (n+1+R) (jQ n A v i):=λi hi=>qm5 n5 (hA i hi) (hv i hi) _ _ λj hj=>by
 unfold jQ qL;by_cases c:j<n
 ·exact .inl ⟨by omega,by rw[ae c,ae c]⟩
 by_cases d:j=n
 ·exact .inl ⟨by omega,by rw[aa c,ae d,aa c]⟩
 rw[aa c,aa d];by_cases e:j=n+1+i
 ·exact .inr (.inr (ae e))
 exact .inr (.inl (aa e))
theorem qjf:∀i,i<R->RoB (10^42) (n+1) (qL n A v i):=λi hi=>qm5 n5 (hA i hi) (hv i hi) _ _ λj hj=> .inl ⟨by omega,rfl⟩
theorem qna:∃π,PV R (λr=>n+1+r) (jQ n A v) (qB R n 0 (jQ n A v,[])).1 (qB R n 0 (jQ n A v,[])).2 π:=
 PV.run (λi _ r _=>qon r) n 0 (jQ n A v,[]) id (PV.zero R _ _)
theorem qm1:qb8 (10^42) R (n+1+R) n (qB R n 0 (jQ n A v,[])):=by
 have ok0:qb8 (10^42) R (n+1+R) 0 (jQ n A v,[]):=⟨by decide,EI.zero R _,qly R5 n5 hA hv⟩;have ok:=ok0.run n 0 (by omega)
 rwa [aG]at ok
theorem qkL {i:Nat}(h1:(qB R n 0 (jQ n A v,[])).2.length<=i) (h2:i<R):∀s,s<R->Sml ((qB R n 0 (jQ n A v,[])).1 i (n+1+s)) 243:=by
 obtain⟨π,P⟩:=qna R5 n5 hA hv;have le:=(qm1 R5 n5 hA hv).ei.le
 have P36:(1000000:Int)^R*1000000<=10^36:=by
  rcases(show R=0\/R=1\/R=2\/R=3\/R=4\/R=5 by omega)with e|e|e|e|e|e<;>rw[e]<;>decide
 have e36:(10:Int)^36=((10^36:Nat):Int):=by decide
 refine P.small (λi _ r _=>qon r) (B:=10^36) (by decide) (λu hu=>?_) h1 h2 (k:=27) (by decide) ?_
 ·have cn:(qB R n 0 (jQ n A v,[])).2.getD u 0<n:=by
   have:=qgX (R:=R) n 0 (jQ n A v,[]) (λx hx=>by cases hx) _ (qjQ hu);omega
  obtain⟨D,z,d1,d2,d3⟩:=cden (q:=λr=>A r ((qB R n 0 (jQ n A v,[])).2.getD u 0)) R λr hr=>hA r hr _ cn
  refine⟨D,z,d1,λr hr=>?_⟩;obtain⟨g1,g2,g3⟩:=d3 r hr;refine⟨?_,?_⟩
  ·have:jQ n A v r ((qB R n 0 (jQ n A v,[])).2.getD u 0)=A r ((qB R n 0 (jQ n A v,[])).2.getD u 0):=ae cn;rw[this];exact g1
  generalize hQ:(1000000:Int)^R=Q at*;omega
 have l5:(qB R n 0 (jQ n A v,[])).2.length<=5:=by omega
 generalize (qB R n 0 (jQ n A v,[])).2.length=d at l5;unfold zm;rcases(show d=0\/d=1\/d=2\/d=3\/d=4\/d=5 by omega)with e|e|e|e|e|e<;>rw[e]<;>exact aP rfl
theorem qk4:(qB R n 0 (qL n A v,[])).2=(qB R n 0 (jQ n A v,[])).2/\∀i,i<R->∀j,j<n+1->(qB R n 0 (qL n A v,[])).1 i j=(qB R n 0 (jQ n A v,[])).1 i j:=
 qht n 0 _ _ [] (aD _) (by omega) λi _ j hj=>by
  unfold qL jQ;by_cases c:j<n
  ·rw[ae c,ae c]
  rw[aa c,aa c,ae (by omega)]
theorem qkF (hd:(qB R n 0 (qL n A v,[])).2.length=n) {u:Nat}(hu:u<n):Sml ((qB R n 0 (qL n A v,[])).1 u n) 243:=by
 obtain⟨π,P⟩:=qna R5 n5 hA hv;obtain⟨s1,s2⟩:=qk4 R5 n5 hA hv;have ok:=qm1 R5 n5 hA hv;have lr:=ok.ei.lr;rw[s1]at hd;rw[s2 u (by omega) n (by omega)];have ok0:qb8 (10^42) R (n+1+R) 0 (jQ n A v,[]):=⟨by decide,EI.zero R _,qly R5 n5 hA hv⟩;have car:=(qjZ (Car.lin R n (qL n A v)) n 0 ok0 (by omega)).1 (λi hi=>qnW hi);have piv:=P.piv;have sup:=P.sup
 have cl:=λu (hu:u<(qB R n 0 (jQ n A v,[])).2.length)=>qgX (R:=R) n 0 (jQ n A v,[]) (λx hx=>by cases hx) _ (qjQ hu)
 rw[hd]at piv sup cl;generalize hM:(qB R n 0 (jQ n A v,[])).1=M at*;generalize hp:(qB R n 0 (jQ n A v,[])).2=p at*;have hcol:∃col:Nat->Nat,(∀j,j<n->col j=p.getD j 0)/\col n=n:=⟨λj=>if j<n then p.getD j 0 else n,λj hj=>ae hj,aa (by omega)⟩;obtain⟨col,c1,c2⟩:=hcol
 have cle:∀j,j<n+1->col j<=n:=λj hj=>by
  by_cases c:j<n
  ·rw[c1 j c];have:=cl j c;omega
  rw[show j=n by omega,c2];exact ai _
 have ch:∀t,∃z:Nat->Int,t<n->∃D:Int,0<D/\∀j,j<n+1->qL n A v (π t) j*(D:Rat)=(z j:Rat)/\(z j).natAbs<=10^42:=λt=>by
  by_cases c:t<n
  ·obtain⟨D,z,d1,d2,d3⟩:=cden (q:=qL n A v (π t)) (n+1) λj hj=>by
    have:=P.rng t (by omega);unfold qL;by_cases c:j<n
    ·rw[ae c];exact hA _ this j c
    rw[aa c];exact hv _ this
   refine⟨z,λ_=>⟨D,d1,λj hj=>?_⟩⟩;obtain⟨g1,g2,g3⟩:=d3 j hj;refine⟨g1,?_⟩
   have P42:(1000000:Int)*1000000^(n+1)<=10^42:=by
    rcases(show n=0\/n=1\/n=2\/n=3\/n=4\/n=5 by omega)with e|e|e|e|e|e<;>rw[e]<;>decide
   have e42:(10:Int)^42=((10^42:Nat):Int):=by decide
   generalize hQ:(1000000:Int)^(n+1)=Q at*;omega
  exact⟨λ_=>0,λe=>absurd e c⟩
 obtain⟨z,hz⟩:=Classical.axiomOfChoice ch
 obtain⟨w,⟨j0,j1,j2⟩,wb,w0⟩:=qrp n (λt j=>z t (col j)) (10^42) (by decide) (λt ht j hj=>by
  obtain⟨D,_,e⟩:=hz t ht
  exact(e (col j) (by have:=cle j hj;omega)).2)
 have row:∀t,t<n->qx (n+1) (λj=>qL n A v (π t) (col j)*(w j:Rat))=0:=λt ht=>by
  obtain⟨D,d0,e⟩:=hz t ht;have c:=az (λn:Int=>(n:Rat)) (w0 t ht);rw[qhx]at c
  have m:qx (n+1) (λj=>qL n A v (π t) (col j)*(w j:Rat))*(D:Rat)=0:=by
   rw[<-qcs];refine Eq.trans (qp _ λj hj=>?_) c;have:=(e (col j) (by have:=cle j hj;omega)).1;rw[cm,<-this];grind
  rcases eG.1 m with g|g
  ·exact g
  exact absurd g (qfD (by omega))
 have key:∀u,u<n->M u n*(w n:Rat)=((-(w u):Int):Rat):=λu hu=>by
  have e1:qx (n+1) (λj=>M u (col j)*(w j:Rat))=0:=by
   have:qx (n+1) (λj=>M u (col j)*(w j:Rat))=qx (n+1) λj=>qx R λr=>M u (n+1+r)*qL n A v r (col j)*(w j:Rat):=qp _ λj hj=>by
    rw[car u (by omega) (col j) (cle j hj),<-qcs]
   rw[this,qgc (λj r=>M u (n+1+r)*qL n A v r (col j)*(w j:Rat)) R (n+1)];refine(qp R λr hr=>?_).trans (qdq R)
   have m:qx (n+1) (λj=>M u (n+1+r)*qL n A v r (col j)*(w j:Rat))=qx (n+1) (λj=>qL n A v r (col j)*(w j:Rat))*M u (n+1+r):=by
    rw[<-qcs]
    exact qp _ λj _=>by grind
   rw[m];by_cases g:∃t,t<n/\π t=r
   ·obtain⟨t,t1,t2⟩:=g;rw[<-t2,row t t1,cU]
   rw[sup u hu r hr (λt ht e=>g ⟨t,ht,e⟩),Rat.mul_zero]
  have e2:qx (n+1) (λj=>M u (col j)*(w j:Rat))=(w u:Rat)+M u n*(w n:Rat):=by
   show qx n (λj=>M u (col j)*(w j:Rat))+M u (col n)*(w n:Rat)=_;rw[c2];congr 1
   have:qx n (λj=>M u (col j)*(w j:Rat))=qx n λj=>(if u=j then 1 else 0)*(w j:Rat):=qp n λj hj=>by
    rw[c1 j hj,piv j hj u (by omega)]
   rw[this];exact qqW (λj=>(w j:Rat)) hu
  rw[e2]at e1;rw[dl];grind
 have nz:w n≠0:=λe=>by
  by_cases c:j0=n
  ·exact j2 (by rw[c];exact e)
  have:=key j0 (by omega);rw[e,show((0:Int):Rat)=0 from rfl,Rat.mul_zero,dl]at this;exact qfD j2 (by grind)
 refine qop nz (key u hu) (X:=(2*(n+1)*10^42)^n) (by rw[cC];exact wb u (by omega)) (wb n (by omega)) (k:=27) (by decide) ?_;unfold zm;rcases(show n=0\/n=1\/n=2\/n=3\/n=4\/n=5 by omega)with e|e|e|e|e|e<;>rw[e]<;>exact aP rfl
end
end
section
open Go.Proofs Go.RowKit
variable [Glob]
section
variable {N:Nat}(hN:600000<N) {R C:Nat}(hR:R<=100) (hC:C<=100) {p:List Int}{d:Nat}(hp:p.length=d) (hd:d<R)
include hN hR hC hp hd
theorem qre {M:Mx}{s:Rat}(fs:Sml s 1359) (fm:∀j,j<C->Sml (M d j) 1359):∀(K k:Nat) (l:List (List Str)),k<=C->C<K+k->MxG zT R C l (λi j=>if i=d/\j<k then M i j*s else M i j)->
 ∃l',xD N (T s) p K l (k:Int)=some l'/\MxG zT R C l' (qgl M d s)
 |0,k,l,h1,h2,h=>by omega
 |K+1,k,l,h1,h2,h=>by
  unfold xD;obtain⟨r,e1,g1⟩:=h.get hd;rw[hp,qf,e1,ZB];by_cases hk:k<C
  ·obtain⟨y,e2,g2⟩:=g1.get hk;rw[aa (by omega)]at g2;have g2:y=T (M d k):=g2
   have hkr:k<r.length:=by rw[g1.1];exact hk
   rw[ae (by omega),qf,e2,ZB,g2,qiC hN (k:=1359) (by decide) (by decide) (fm k hk) fs,ZB,jr hkr,ZB,qfR,qm (by omega)];refine qre fs fm K (k+1) _ (by omega) (by omega) ((h.put (g1.put (P:=zT) (q:=M d k*s) rfl k) d).congr λi hi j hj=>?_);by_cases a:i=d
   ·rw[ae a];by_cases b:j=k
    ·rw[ae b,ae ⟨a,by omega⟩,a,b]
    rw[aa b];by_cases c:j<k
    ·rw[ae ⟨rfl,c⟩,ae ⟨a,by omega⟩,a]
    rw[aa (λq=>c q.2),aa (λq=>by omega),a]
   rw[aa a,aa (λq=>a q.1),aa (λq=>a q.1)]
  rw[aa (by have:=g1.1;omega)];refine⟨l,rfl,h.congr λi hi j hj=>?_⟩;unfold qgl;by_cases a:i=d
  ·rw[ae ⟨a,by omega⟩,ae a]
  rw[aa (λq=>a q.1),aa a]
theorem qnU {M:Mx}{t:Rat}{i:Nat}(hi:i<R) (hid:i≠d) (ft:Sml t 1359) (fu:∀j,j<C->Sml (M i j) 1359) (fv:∀j,j<C->Sml (M d j) 1359):∀(K k:Nat) (l:List (List Str)),k<=C->C<K+k->MxG zT R C l (λi' j=>if i'=i/\j<k then M i' j-t*M d j else M i' j)->
 ∃l',xG N (T t) p (i:Int) K l (k:Int)=some l'/\MxG zT R C l' (λi' j=>if i'=i then M i' j-t*M d j else M i' j)
 |0,k,l,h1,h2,h=>by omega
 |K+1,k,l,h1,h2,h=>by
  unfold xG;obtain⟨r,e1,g1⟩:=h.get hi;rw[qf,e1,ZB];by_cases hk:k<C
  ·obtain⟨y,e2,g2⟩:=g1.get hk;rw[aa (by omega)]at g2;have g2:y=T (M i k):=g2;obtain⟨w,e3,g3⟩:=h.get hd;obtain⟨q,e4,g4⟩:=g3.get hk;rw[aa (λa=>hid a.1.symm)]at g4;have g4:q=T (M d k):=g4
   have hkr:k<r.length:=by rw[g1.1];exact hk
   rw[ae (by omega),hp,qf,e3,ZB,qf,e2,ZB,qf,e4,ZB,g2,g4,qiC hN (k:=1359) (by decide) (by decide) ft (fv k hk),ZB,
    qsi hN (k:=2718) (by decide) (by decide) ((fu k hk).mono (by decide)) (qlm (n:=151) (by decide) ft (fv k hk)),ZB,jr hkr,ZB,qfR,qm (by omega)]
   refine qnU hi hid ft fu fv K (k+1) _ (by omega) (by omega) ((h.put (g1.put (P:=zT) (q:=M i k-t*M d k) rfl k) i).congr λi' hi' j hj=>?_);by_cases a:i'=i
   ·rw[ae a];by_cases b:j=k
    ·rw[ae b,ae ⟨a,by omega⟩,a,b]
    rw[aa b];by_cases c:j<k
    ·rw[ae ⟨rfl,c⟩,ae ⟨a,by omega⟩,a]
    rw[aa (λq=>c q.2),aa (λq=>by omega),a]
   rw[aa a,aa (λq=>a q.1),aa (λq=>a q.1)]
  rw[aa (by have:=g1.1;omega)];refine⟨l,rfl,h.congr λi' hi' j hj=>?_⟩;by_cases a:i'=i
  ·rw[ae ⟨a,by omega⟩,ae a]
  rw[aa (λq=>a q.1),aa a]
theorem qil {S:Mx}(fS:∀i,i<R->∀j,j<C->Sml (S i j) 1359) {c:Nat}(hc:c<C):∀(K i:Nat) (l:List (List Str)),i<=R->R<K+i->MxG zT R C l (λi' j=>if i'<i then qeh S c d i' j else S i' j)->
 ∃l',xH N p (c:Int) K l (i:Int)=some l'/\MxG zT R C l' (qeh S c d)
 |0,i,l,h1,h2,h=>by omega
 |K+1,i,l,h1,h2,h=>by
  unfold xH;have hl:=h.1;by_cases hi:i<R
  ·obtain⟨r,e1,g1⟩:=h.get hi
   have g1:RwG zT C r (S i):=g1.congr λj hj=>by rw[aa (by omega)]
   obtain⟨y,e2,g2⟩:=g1.get hc;have g2:y=T (S i c):=g2
   have same:(i=d\/S i c=0)->MxG zT R C l (λi' j=>if i'<i+1 then qeh S c d i' j else S i' j):=λhs=>h.congr λi' hi' j hj=>by
    by_cases b:i'=i
    ·rw[aa (by omega),ae (by omega)];unfold qeh;rcases hs with hs|hs
     ·rw[ae (by omega)]
     rw[b,hs];split<;>grind
    by_cases b2:i'<i
    ·rw[ae b2,ae (by omega)]
    rw[aa b2,aa (by omega)]
   rw[ae (by omega),qf,e1,ZB,qf,e2,ZB,g2,hp];by_cases a:i=d
   ·rw[ae (by omega),ZB,ae rfl,ZB,qm (by omega)];exact qil fS hc K (i+1) _ (by omega) (by omega) (same (.inl a))
   rw[aa (by omega),qmU,ZB,ZB];by_cases z:S i c=0
   ·rw[ap z,ae rfl,ZB,qm (by omega)];exact qil fS hc K (i+1) _ (by omega) (by omega) (same (.inr z))
   rw[ak z,aa (by decide),aa (by omega)]
   have h0:MxG zT R C l (λi' j=>if i'=i/\j<0 then(λi' j=>if i'<i then qeh S c d i' j else S i' j) i' j-S i c*(λi' j=>if i'<i then qeh S c d i' j else S i' j) d j else(λi' j=>if i'<i then qeh S c d i' j else S i' j) i' j):=h.congr λi' hi' j hj=>(aa (λq:_/\_=>absurd q.2 (dn _))).symm
   have sd:∀j,(if d<i then qeh S c d d j else S d j)=S d j:=λj=>by
    split
    ·unfold qeh;rw[ae rfl]
    rfl
   obtain⟨l',e4,g4⟩:=qnU hN hR hC hp hd (M:=λi' j=>if i'<i then qeh S c d i' j else S i' j) (t:=S i c) hi a (fS i hi c hc) (λj hj=>by
    show Sml (if i<i then _ else _) _
    rw[aa (by omega)];exact fS i hi j hj) (λj hj=>by
    show Sml (if d<i then qeh S c d d j else S d j) _
    rw[sd j];exact fS d hd j hj) N 0 l (aD _) (by omega) h0
   rw[show((0:Nat):Int)=0 from rfl]at e4;rw[e4,ZB,ZB,qm (by omega)];refine qil fS hc K (i+1) _ (by omega) (by omega) (g4.congr λi' hi' j hj=>?_);by_cases b:i'=i
   ·rw[ae b,sd j,aa (show¬i'<i by omega),ae (show i'<i+1 by omega)];unfold qeh;rw[aa (by omega),b]
   rw[aa b];by_cases b2:i'<i
   ·rw[ae b2,ae (by omega)]
   rw[aa b2,aa (by omega)]
  rw[aa (by omega)];exact⟨l,rfl,h.congr λi' hi' j hj=>by rw[ae (by omega)]⟩
omit hN hp hd in
theorem qn4 {c:Nat}(hc:c<C) {l:List (List Str)}{M:Mx}(h:MxG zT R C l M):∀(K r:Nat),r<=R->R<K+r->
 (qdD M c (R-r) r=none/\yz l (c:Int) K (r:Int)=some (R:Int))\/ ∃q,qdD M c (R-r) r=some q/\yz l (c:Int) K (r:Int)=some (q:Int)
 |0,r,h1,h2=>by omega
 |K+1,r,h1,h2=>by
  unfold yz;have hl:=h.1;by_cases hr:r<R
  ·obtain⟨x,e1,g1⟩:=h.get hr;obtain⟨y,e2,g2⟩:=g1.get hc;have g2:y=T (M r c):=g2
   have hf:R-r=(R-(r+1))+1:=by omega
   rw[ae (by omega),qf,e1,ZB,qf,e2,ZB,g2,qmU,ZB,hf];unfold qdD;by_cases z:M r c=0
   ·rw[ap z,ae z,ae rfl,qm (by omega)];exact qn4 hc h K (r+1) (by omega) (by omega)
   rw[ak z,aa z,aa dq];exact .inr ⟨r,rfl,rfl⟩
  rw[aa (by omega),show R-r=0 by omega,show r=R by omega];exact .inl ⟨rfl,rfl⟩
end
section
variable {N:Nat}(hN:600000<N) {R C:Nat}(R0:0<R) (R5:R<=5) (hC:C<=100) {B:Int}(h4:zm (bdE B 5) 151)
include hN R0 R5 hC h4
theorem qmk {l:List (List Str)}{M:Mx}(h:MxG zT R C l M):qbq l=some (C:Int):=by
 unfold qbq;obtain⟨r,e,g⟩:=h.get R0;rw[aa (by have:=h.1;omega),yJ,e,ZB,g.1]
theorem qkm:∀(K c k:Nat) (l:List (List Str)) (s:Mx×List Nat),c+k=C->k<K->qb8 B R C c s->MxG zT R C l s.1->
 ∃l' c',jo N K l (pI s.2) (c:Int)=some (l',pI (qB R k c s).2)/\MxG zT R C l' (qB R k c s).1/\c'=c
 |0,c,k,l,s,h1,h2,_,_=>by omega
 |K+1,c,0,l,s,h1,h2,ok,h=>by
  unfold jo;rw[qmk hN R0 R5 hC h4 h,ZB,aa (by omega),ZB,aa (by decide)];exact⟨l,c,rfl,h,rfl⟩
 |K+1,c,k+1,l,s,h1,h2,ok,h=>by
  obtain⟨M,p⟩:=s;unfold jo;have hpl:(pI p).length=p.length:=bq ..;have lr:p.length<=R:=ok.ei.lr;have hl:l.length=R:=h.1;have st:=ok.step (c:=c) (by omega)
  have nxt:=λl2 (g:MxG zT R C l2 (xz R (M,p) c).1)=>qkm K (c+1) k l2 (xz R (M,p) c) (by omega) (by omega) st g
  rw[qmk hN R0 R5 hC h4 h,ZB,ae (by omega),ZB,hpl];by_cases full:p.length<R
  ·rw[ap (by omega),ae rfl,qm (by omega)]
   have fq:∀i,i<R->∀j,j<C->Sml (M i j) 1359:=λi hi j hj=>(ok.rb i hi).sml (n:=151) (by decide) (fitd ok.one h4 (show p.length<=5 by omega)) hj
   rcases qn4 (by omega) (by omega) (c:=c) (by omega) h N p.length lr (by omega)with⟨f,e⟩|⟨q,f,e⟩
   ·have es:xz R (M,p) c=(M,p):=by unfold xz;dsimp only;rw[f]
    obtain⟨l',c',a,b,_⟩:=nxt l (by rw[es];exact h);rw[es]at a b;rw[e,ZB,ae (by omega),ZB];refine⟨l',c,?_,?_,rfl⟩
    ·show jo N K l (pI p) ((c+1:Nat):Int)=_;unfold qB;rw[es];exact a
    unfold qB;rw[es];exact b
   obtain⟨q1,q2,q3⟩:=qcX f
   have es:xz R (M,p) c=(qd1 M c p.length q,p++[c]):=by unfold xz;dsimp only;rw[f]
   obtain⟨x,x1,x2⟩:=h.get full;obtain⟨y,y1,y2⟩:=h.get (k:=q) (by omega)
   have sw:∃l2,(if((q:Nat):Int)=((p.length:Nat):Int)then(idx l ((p.length:Nat):Int)).bind λx32=>some l
    else(idx l ((p.length:Nat):Int)).bind λx34=>(idx l ((q:Nat):Int)).bind λx36=>some (jZ (jZ l ((q:Nat):Int) x34) ((p.length:Nat):Int) x36):Option (List (List Str)))=some l2/\MxG zT R C l2 (xA M q p.length):=by
    by_cases a:q=p.length
    ·rw[ae (by omega),qf,x1,ZB];refine⟨l,rfl,h.congr λi hi j hj=>?_⟩;unfold xA;by_cases b:i=p.length
     ·rw[ae b,b,a]
     rw[aa b,aa (by omega)]
    rw[aa (by omega),qf,x1,ZB,qf,y1,ZB,qfR,qfR];exact⟨_,rfl,((h.put x2 q).put y2 p.length).congr λi hi j hj=>rfl⟩
   obtain⟨l2,w1,w2⟩:=sw;obtain⟨z,z1,z2⟩:=w2.get full;rw[qkh]at z2;obtain⟨t,t1,t2⟩:=z2.get (k:=c) (by omega);have t2:t=T (M q c):=t2
   have hS:∀i,i<R->∀j,j<C->Sml (xA M q p.length i j) 1359:=λi hi j hj=>by
    unfold xA;by_cases a:i=p.length
    ·rw[ae a];exact fq q (by omega) j hj
    rw[aa a];by_cases b:i=q
    ·rw[ae b];exact fq p.length full j hj
    rw[aa b];exact fq i hi j hj
   have iv:Sml (M q c)⁻¹ 1359:=qs7 (fq q (by omega) c (by omega)) q3;obtain⟨l3,v1,v2⟩:=qre hN (by omega) hC hpl full (M:=xA M q p.length) (s:=(M q c)⁻¹) iv (hS p.length full) N 0 l2 (aD _) (by omega) (w2.congr λi hi j hj=>by rw[aa (λu=>by omega)])
   have hT:∀i,i<R->∀j,j<C->Sml (qgl (xA M q p.length) p.length (M q c)⁻¹ i j) 1359:=λi hi j hj=>by
    unfold qgl;by_cases a:i=p.length
    ·rw[ae a,a,qkh];exact((ok.rb q (by omega)).scl (show c<C by omega) q3).sml (n:=151) (by decide) (fitd ok.one h4 (show p.length<=5 by omega)) hj
    rw[aa a];exact hS i hi j hj
   obtain⟨l4,u1,u2⟩:=qil hN (by omega) hC hpl full (S:=qgl (xA M q p.length) p.length (M q c)⁻¹) hT (c:=c) (by omega) N 0 l3 (aD _) (by omega) (v2.congr λi hi j hj=>by rw[aa (by omega)]);rw[show((0:Nat):Int)=0 from rfl]at v1 u1
   have u3:MxG zT R C l4 (xz R (M,p) c).1:=by
    rw[es];show MxG zT R C l4 (qd1 M c p.length q);unfold qd1;rw[qkh];exact u2
   obtain⟨l',c',a,b,_⟩:=nxt l4 u3;rw[e,ZB,aa (by omega),w1,ZB,qf,z1,ZB,qf,t1,ZB,t2,qsI hN (k:=1359) (by decide) (by decide) (fq q (by omega) c (by omega)) q3,ZB,v1,ZB,u1,ZB,jU (by simp;omega) (by simp;omega),ZB,ZB];refine⟨l',c,?_,?_,rfl⟩
   ·have pe:pI (xz R (M,p) c).2=pI p++[(c:Int)]:=by rw[es];simp[pI]
    rw[pe]at a;unfold qB;exact a
   unfold qB;exact b
  rw[ak (by omega),aa (by decide)]
  have all:∀(k c:Nat),qB R k c (M,p)=(M,p):=λk=>by
   induction k with
   |zero=>intro c;rfl
   |succ k ih=>
    intro c
    have es:xz R (M,p) c=(M,p):=by
     unfold xz;dsimp only;rw[show R-p.length=0 by omega];rfl
    unfold qB;rw[es];exact ih (c+1)
  rw[all];exact⟨l,c,rfl,h,rfl⟩
end
end
section
open Go.Proofs Go.RowKit
variable [Glob]
section
variable {N:Nat}(hN:600000<N)
include hN
theorem qnQ {m:List (List Str)}(hm:m.length<=100) (hr:∀r,r∈m->r.length<=100):∀(K i:Nat),i<=m.length->m.length<K+i->yn m K (m.take i) (i:Int)=some m
 |0,i,h1,h2=>by omega
 |K+1,i,h1,h2=>by
  unfold yn;by_cases hi:i<m.length
  ·have tl:(m.take i).length=i:=by rw[Ym];omega
   have rl:=hr m[i] (bo hi)
   have tk:m.take i++[m[i]]=m.take (i+1):=by rw[List.take_add_one,Ya hi];rfl
   have ih:=qnQ hm hr K (i+1) (by omega) (by omega);rw[ae (by omega),qf,Ya hi,ZB];rw[<-tk]at ih;generalize m[i]=x at rl ih
   cases x with
   |nil=>
    dsimp only;rw[jU (by simp;omega) (by simp;omega),ZB,ZB,qm (by omega)];exact ih
   |cons a w=>
    dsimp only;simp only[Yr]at rl;rw[jU (by simp only[Yr,aN];omega) (by simp only[Yr,aN];omega),ZB,bp,jU (by simp;omega) (by simp;omega),ZB,ae (by simp),ZB,ZB,qm (by omega)];exact ih
  rw[aa (by omega),ar (by omega)]
theorem qrD {m:List (List Str)}(hm:m.length<=100) (hr:∀r,r∈m->r.length<=100):qal N m=some m:=by
 unfold qal;have:=qnQ hN hm hr N 0 (aD _) (by omega);rw[bj,show((0:Nat):Int)=0 from rfl]at this;rw[this];rfl
section
variable {R C:Nat}(R0:0<R) (R5:R<=5) (hC:C<=100) {B:Int}(h4:zm (bdE B 5) 151) (hB:1<=B)
include R0 R5 hC h4 hB
theorem qks {m:List (List Str)}{M:Mx}(h:MxG zT R C m M) (hb:∀i,i<R->RoB B C (M i)):
 ∃l,qbB N m=some (l.take (qB R C 0 (M,[])).2.length,pI (qB R C 0 (M,[])).2)/\MxG zT R C l (qB R C 0 (M,[])).1:=by
 have ok0:qb8 B R C 0 (M,[]):=⟨hB,EI.zero R _,hb⟩;have ok:=ok0.run C 0 (by omega);have lr:=ok.ei.lr;have hl:=h.1;obtain⟨l,c',e,g,_⟩:=qkm hN R0 R5 hC h4 N 0 C m (M,[]) (by omega) (by omega) ok0 h
 have cl:qal N m=some m:=qrD hN (by omega) λr hr=>by
  obtain⟨j,hj⟩:=List.getElem?_of_mem hr;have:=(h.2 j r hj).1;omega
 refine⟨l,?_,g⟩;have e:jo N N m ([]:List Int) 0=some (l,pI (qB R C 0 (M,[])).2):=e;have pl:(pI (qB R C 0 (M,[])).2).length=(qB R C 0 (M,[])).2.length:=bq ..;unfold qbB;rw[cl,ZB,e,ZB];dsimp only;rw[ae (by have:=g.1;omega),ZB,pl,jN (by have:=g.1;omega),ZB]
theorem qnV {m:List (List Str)}{M:Mx}(h:MxG zT R C m M) (hb:∀i,i<R->RoB B C (M i)):jF N m=some ((qB R C 0 (M,[])).2.length:Int):=by
 have ok0:qb8 B R C 0 (M,[]):=⟨hB,EI.zero R _,hb⟩;have lr:=(ok0.run C 0 (by omega)).ei.lr;obtain⟨l,e,g⟩:=qks hN R0 R5 hC h4 hB h hb;unfold jF qcQ;rw[e,ZB,ZB];dsimp only;rw[Ym,g.1,aX lr]
end
end
end
section
open Go.Proofs Go.RowKit
variable [Glob]
def qkj {R:Nat}:∀(k c:Nat) (s:Mx×List Nat),qB R (k+1) c s=xz R (qB R k c s) (c+k)
 |0,c,s=>rfl
 |k+1,c,s=>by
  show qB R (k+1) (c+1) (xz R s c)=_;rw[qkj k (c+1)];show xz R (qB R k (c+1) (xz R s c)) (c+1+k)=xz R (qB R k (c+1) (xz R s c)) (c+(k+1));rw[show c+1+k=c+(k+1)by omega]
def qqd {N:Nat}(hN:600000<N) {k:Nat}(hk:k<=5):qcf N (k:Int)=some (List.replicate k [48]):=by
 obtain⟨K,rfl⟩:∃K,N=K+10:=⟨N-10,by omega⟩;rcases(show k=0\/k=1\/k=2\/k=3\/k=4\/k=5 by omega)with rfl|rfl|rfl|rfl|rfl|rfl<;>rfl
section
variable {N:Nat}(hN:600000<N) {R n:Nat}(R0:0<R) (R5:R<=5) (n5:n<=5) {m:List (List Str)}{b:List Str}{A:Mx}{v:Nat->Rat}(mm:MxG zT R n m A) (bb:RwG zT R b v)
 (hA:∀i,i<R->∀j,j<n->Sml (A i j) 6) (hv:∀i,i<R->Sml (v i) 6)
include hN R0 R5 n5 mm bb hA hv
theorem qlJ {i:Nat}{r:List Str}{s:Str}(h:RwG zT n r (A i)) (hs:s=T (v i)):RwG zT (n+1) (r++[s]) (qL n A v i):=by
 refine(RwG.app (P:=zT) (n:=n) (m:=1) (s:=[s]) (w:=λ_=>v i) h ⟨rfl,λj g hg=>?_⟩).congr λj hj=>rfl
 cases j with
 |zero=>rw[<-Ye hg];exact hs
 |succ j=>cases hg
theorem qke:∀(K i:Nat) (l:List (List Str)),i<=R->R<K+i->MxG zT i (n+1) l (qL n A v)->∃l',qao m b K l (i:Int)=some l'/\MxG zT R (n+1) l' (qL n A v)
 |0,i,l,h1,h2,h=>by omega
 |K+1,i,l,h1,h2,h=>by
  have ml:=mm.1;unfold qao;by_cases hi:i<R
  ·obtain⟨r,r1,r2⟩:=mm.get hi;obtain⟨s,s1,s2⟩:=bb.get hi;have row:=qlJ hN R0 R5 n5 mm bb hA hv r2 s2;have rl:=r2.1;have hl:=h.1
   rw[ae (by omega),qf,r1,ZB,jU (by simp only[aN];omega) (by simp only[aN];omega),ZB,qf,s1,ZB,bp,jU (by simp only[Yr,aN];omega) (by simp only[Yr,aN];omega),ZB,
    jU (by simp only[Yr,aN];omega) (by simp only[Yr,aN];omega),ZB,qm (by omega)]
   exact qke K (i+1) _ (by omega) (by omega) (h.snoc row)
  rw[aa (by omega)]
  have e:i=R:=by omega
  subst e;exact⟨l,rfl,h⟩
theorem qhi:∀(K i:Nat) (l:List (List Str)),i<=R->R<K+i->MxG zT i (n+1) l (qL n A v)->∃l',ym m b K l (i:Int)=some l'/\MxG zT R (n+1) l' (qL n A v)
 |0,i,l,h1,h2,h=>by omega
 |K+1,i,l,h1,h2,h=>by
  have ml:=mm.1;unfold ym;by_cases hi:i<R
  ·obtain⟨r,r1,r2⟩:=mm.get hi;obtain⟨s,s1,s2⟩:=bb.get hi;have row:=qlJ hN R0 R5 n5 mm bb hA hv r2 s2;have rl:=r2.1;have hl:=h.1
   rw[ae (by omega),qf,r1,ZB,jU (by simp only[aN];omega) (by simp only[aN];omega),ZB,qf,s1,ZB,bp,jU (by simp only[Yr,aN];omega) (by simp only[Yr,aN];omega),ZB,
    jU (by simp only[Yr,aN];omega) (by simp only[Yr,aN];omega),ZB,qm (by omega)]
   exact qhi K (i+1) _ (by omega) (by omega) (h.snoc row)
  rw[aa (by omega)]
  have e:i=R:=by omega
  subst e;exact⟨l,rfl,h⟩
theorem qrd:jF N m=some ((qB R n 0 (qL n A v,[])).2.length:Int):=by
 have hb:∀i,i<R->RoB (10^42) n (A i):=λi hi=>qm5 (v:=v) n5 (hA i hi) (hv i hi) _ _ λj hj=> .inl ⟨by omega,by unfold qL;rw[ae hj]⟩
 rw[qnV hN R0 R5 (by omega) qmE (by decide) mm hb];have:=(qht (R:=R) (C:=n) n 0 A (qL n A v) [] (aD _) (by omega) λi hi j hj=>by unfold qL;rw[ae hj]).1;rw[this]
theorem qgf:(qdD (qB R n 0 (qL n A v,[])).1 n (R-(qB R n 0 (qL n A v,[])).2.length) (qB R n 0 (qL n A v,[])).2.length=none/\(∀q,(qB R n 0 (qL n A v,[])).2.length<=q->q<R->(qB R n 0 (qL n A v,[])).1 q n=0)/\qB R (n+1) 0 (qL n A v,[])=qB R n 0 (qL n A v,[]))\/
 ((∃q,(qB R n 0 (qL n A v,[])).2.length<=q/\q<R/\(qB R n 0 (qL n A v,[])).1 q n≠0)/\(qB R (n+1) 0 (qL n A v,[])).2=(qB R n 0 (qL n A v,[])).2++[n]):=by
 rw[qkj,aG];have ok0:qb8 (10^42) R (n+1) 0 (qL n A v,[]):=⟨by decide,EI.zero R _,qjf R5 n5 hA hv⟩;have lr:=(ok0.run n 0 (by omega)).ei.lr;generalize qB R n 0 (qL n A v,[])=s at*;unfold xz
 cases hf:qdD s.1 n (R-s.2.length) s.2.length with
 |none=>exact .inl ⟨rfl,λq h1 h2=>qjv hf q h1 (by omega),rfl⟩
 |some r=>
  obtain⟨r1,r2,r3⟩:=qcX hf;exact .inr ⟨⟨r,r1,by omega,r3⟩,rfl⟩
theorem qmN:∃c:Bool,xe N m b=some c/\(c=true↔ ∀q,(qB R n 0 (qL n A v,[])).2.length<=q->q<R->(qB R n 0 (qL n A v,[])).1 q n=0):=by
 obtain⟨l,e1,g1⟩:=qhi hN R0 R5 n5 mm bb hA hv N 0 [] (aD _) (by omega) (MxG.nil _);rw[show((0:Nat):Int)=0 from rfl]at e1;unfold xe;rw[e1,ZB,qrd hN R0 R5 n5 mm bb hA hv,ZB,qnV hN R0 R5 (by omega) qmE (by decide) g1 (qjf R5 n5 hA hv),ZB];refine⟨_,rfl,?_⟩;rcases qgf hN R0 R5 n5 mm bb hA hv with⟨_,a,e⟩|⟨⟨q,a1,a2,a3⟩,e⟩
 ·rw[e];exact⟨λ_=>a,λ_=>ap rfl⟩
 rw[e,Yq]
 exact⟨λh=>by
  have:=aP h;simp only[bE]at this
  omega,λh=>absurd (h q a1 a2) a3⟩
theorem qm7 (hd:(qB R n 0 (qL n A v,[])).2.length=n):∀u,u<n->(qB R n 0 (qL n A v,[])).2[u]? =some u:=λu hu=>by
 obtain⟨π,P⟩:=qna R5 n5 hA hv;obtain⟨s1,s2⟩:=qk4 R5 n5 hA hv;have ok:=qm1 R5 n5 hA hv;rw[s1]at hd⊢;have lr:=ok.ei.lr
 have hu':u<(qB R n 0 (jQ n A v,[])).2.length:=by omega
 have c:=qgX (R:=R) n 0 (jQ n A v,[]) (λx hx=>by cases hx) _ (qjQ hu');have a:=P.piv u hu' u (by omega);rw[ae rfl,ok.ei.one hd _ (by omega) u (by omega)]at a
 have e:u=(qB R n 0 (jQ n A v,[])).2.getD u 0:=by
  by_cases q:u=(qB R n 0 (jQ n A v,[])).2.getD u 0
  ·exact q
  rw[aa q]at a;exact absurd a (by decide)
 rw[Yy,Ya hu']at e;rw[Ya hu'];exact az some e.symm
theorem qkl {l:List (List Str)}{p:List Nat}{M:Mx}(hl:∀i,i<n->∃r,l[i]? =some r/\RwG zT (n+1) r (M i)) (hp:∀u,u<n->p[u]? =some u):∀(K i:Nat) (o:List Str),i<=n->n<K+i->RwG zT n o (λu=>if u<i then M u n else 0)->
 (p.length=n->∃z,xc (n:Int) (l,pI p) K o (i:Int)=some (.inl z)/\RwG zT n z (λu=>M u n))/\(p[n]? =some n->xc (n:Int) (l,pI p) K o (i:Int)=some (.inr ([],false)))
 |0,i,o,h1,h2,h=>by omega
 |K+1,i,o,h1,h2,h=>by
  unfold xc;have pl:(pI p).length=p.length:=bq ..;have ol:=h.1;dsimp only;rw[pl];by_cases c:i<n
  ·have hi:=hp i c;have il:=(Yb.1 hi).1;obtain⟨r,r1,r2⟩:=hl i c;obtain⟨f,f1,f2⟩:=r2.get (show n<n+1 by omega);have f2:f=T (M i n):=f2
   have pi:(pI p)[i]? =some (i:Int):=by rw[YA,hi];rfl
   obtain⟨x,x1,x2⟩:=h.get c
   have ih:=qkl hl hp K (i+1) (o.set i f) (by omega) (by omega) ((h.put (P:=zT) (q:=M i n) f2 i).congr λu hu=>by
    by_cases a:u=i
    ·rw[ae a,ae (by omega),a]
    rw[aa a];by_cases a2:u<i
    ·rw[ae a2,ae (by omega)]
    rw[aa a2,aa (by omega)])
   rw[ae (by omega),qf,pi,ZB,aa (by omega),qf,r1,ZB,qf,f1,ZB,qf,x1,ZB,jr (by omega),ZB,qm (by omega)];exact ih
  have e:i=n:=by omega
  subst e;refine⟨λe=>?_,λe=>?_⟩
  ·rw[aa (by omega)];exact⟨o,rfl,h.congr λu hu=>by rw[ae hu]⟩
  have il:=(Yb.1 e).1
  have pi:(pI p)[i]? =some (i:Int):=by rw[YA,e];rfl
  rw[ae (by omega),qf,pi,ZB,ae rfl]
theorem qr9:(qbk N m b=some ([],false)/\((qB R n 0 (qL n A v,[])).2.length<n\/ ∃q,n<=q/\q<R/\(qB R n 0 (qL n A v,[])).1 q n≠0))\/
 ((qB R n 0 (qL n A v,[])).2.length=n/\(∀q,n<=q->q<R->(qB R n 0 (qL n A v,[])).1 q n=0)/\∃z,qbk N m b=some (z,true)/\RwG zT n z (λi=>(qB R n 0 (qL n A v,[])).1 i n)):=by
 obtain⟨r0,m0,g0⟩:=mm.get R0;have ok0:qb8 (10^42) R (n+1) 0 (qL n A v,[]):=⟨by decide,EI.zero R _,qjf R5 n5 hA hv⟩;have ok:=ok0.run n 0 (by omega);have le:=ok.ei.le;have lr:=ok.ei.lr;rw[aG]at le;unfold qbk;rw[yJ,m0,ZB,qrd hN R0 R5 n5 mm bb hA hv,ZB,g0.1];by_cases c:(qB R n 0 (qL n A v,[])).2.length<n
 ·rw[ae (by omega)];exact .inl ⟨rfl,.inl c⟩
 rw[aa (by omega)]
 have hd:(qB R n 0 (qL n A v,[])).2.length=n:=by omega
 obtain⟨l,e1,g1⟩:=qke hN R0 R5 n5 mm bb hA hv N 0 [] (aD _) (by omega) (MxG.nil _);rw[show((0:Nat):Int)=0 from rfl]at e1;obtain⟨l6,e2,g2⟩:=qks hN R0 R5 (by omega) qmE (by decide) g1 (qjf R5 n5 hA hv)
 have w:qbr m=some (n:Int):=by
  unfold qbr;rw[aa (by have:=mm.1;omega),yJ,m0,ZB,g0.1]
 have z0:RwG zT n (List.replicate n [48]) (λu=>if u<0 then(qB R (n+1) 0 (qL n A v,[])).1 u n else 0):=⟨bS,λj f hf=>by
  show f=T (if j<0 then _ else 0);rw[aa (by omega),T0]
  exact List.eq_of_mem_replicate (Yn hf)⟩
 have pr:=qm7 hN R0 R5 n5 mm bb hA hv hd
 have hp:∀u,u<n->(qB R (n+1) 0 (qL n A v,[])).2[u]? =some u:=λu hu=>by
  rcases qgf hN R0 R5 n5 mm bb hA hv with⟨_,a,e⟩|⟨_,e⟩
  ·rw[e];exact pr u hu
  rw[e,Yf (by omega)];exact pr u hu
 have ge:n<=(qB R (n+1) 0 (qL n A v,[])).2.length:=by
  rcases qgf hN R0 R5 n5 mm bb hA hv with⟨_,a,e⟩|⟨_,e⟩
  ·rw[e];omega
  rw[e,Yq];omega
 have lk:∀i,i<n->∃r,(l6.take (qB R (n+1) 0 (qL n A v,[])).2.length)[i]? =some r/\RwG zT (n+1) r ((qB R (n+1) 0 (qL n A v,[])).1 i):=λi hi=>by
  obtain⟨r,r1,r2⟩:=g2.get (k:=i) (by omega);exact⟨r,by rw[List.getElem?_take_of_lt (by omega)];exact r1,r2⟩
 have key:=qkl hN R0 R5 n5 mm bb hA hv lk hp N 0 _ (aD _) (by omega) z0;rw[show((0:Nat):Int)=0 from rfl]at key;unfold qd9;rw[w,ZB,e1,ZB,e2,ZB,qqd hN n5,ZB];rcases qgf hN R0 R5 n5 mm bb hA hv with⟨_,a,e⟩|⟨⟨q,a1,a2,a3⟩,e⟩
 ·obtain⟨z,k1,k2⟩:=key.1 (by rw[e];exact hd);rw[k1,ZB];rw[e]at k2;rw[hd]at a;exact .inr ⟨hd,a,z,rfl,k2⟩
 have k1:=key.2 (by rw[e,Yo (by omega),hd,cd];rfl);rw[k1,ZB];exact .inl ⟨rfl,.inr ⟨q,by omega,a2,a3⟩⟩
end
end
section
open Go.Proofs Go.RowKit
variable [Glob]
def qpg (R n:Nat) (A:Mx) (v w:Nat->Rat):Prop:=(∀c,c<n->qx R (λr=>w r*A r c)=0)/\qx R (λr=>w r*v r)≠0
section
variable {N:Nat}(hN:600000<N)
include hN
section
variable {R n:Nat}(R0:0<R) (R4:R<=5) (n4:n<=5) {m:List (List Str)}{A:Mx}(hm:MxG zT R n m A) (sA:∀i<R,∀j<n,Sml (A i j) 243) {y:List Str}{w:Nat->Rat}(hy:RwG zT R y w) (sy:∀i<R,Sml (w i) 243)
include R0 R4 n4 hm sA hy sy
theorem qmJ:∀(K c:Nat),c<=n->n<K+c->(∃k,c<=k/\k<n/\qx R (λr=>w r*A r k)≠0)->jG N m y K (c:Int)=some (.inr false)
 |0,c,h1,h2,_=>by omega
 |K+1,c,h1,h2,⟨k,k1,k2,k3⟩=>by
  unfold jG;obtain⟨r,r1,r2⟩:=hm.get R0;have rl:=r2.1;rw[yJ,r1,ZB];have e:=qlD hN R0 R4 n4 hm sA hy sy (show c<n by omega) N 0 (aD _) (by omega);rw[show((0:Nat):Int)=0 from rfl,show(T (qx 0 λr=>w r*A r c):Str)=[48]from T0]at e;rw[ae (by omega),e,ZB,qmU,ZB];by_cases z:qx R (λr=>w r*A r c)=0
  ·rw[ap z,aa (by decide),qm (by omega)];refine qmJ K (c+1) (by omega) (by omega) ⟨k,?_,k2,k3⟩;by_cases q:k=c
   ·rw[q]at k3;exact absurd z k3
   omega
  rw[ak z,ae (by decide)]
theorem qlO {b:List Str}{v:Nat->Rat}(hb:RwG zT R b v) (sv:∀i<R,Sml (v i) 243):∃c:Bool,jl N m b y=some c/\(c=true↔qpg R n A v w):=by
 by_cases h0:∀c<n,qx R (λr=>w r*A r c)=0
 ·have e:=qoO hN R0 R4 n4 hm sA hy sy h0 N 0 (aD _) (by omega);rw[show((0:Nat):Int)=0 from rfl]at e;have p:=qs6 hN R4 hb hy sv sy
  have c:qx R (λj=>v j*w j)=qx R λr=>w r*v r:=qp R λj _=>Rat.mul_comm _ _
  unfold jl;rw[e];simp only[ZB];rw[p,ZB,qmU,ZB,c];refine⟨_,rfl,?_⟩;unfold qpg;by_cases z:qx R (λr=>w r*v r)=0
  ·rw[ap z];exact⟨λh=>(by cases h),λh=>absurd z h.2⟩
  rw[ak z];exact⟨λ_=>⟨h0,z⟩,λ_=>rfl⟩
 have ex:∃k,0<=k/\k<n/\qx R (λr=>w r*A r k)≠0:=by
  by_cases q:∃k,0<=k/\k<n/\qx R (λr=>w r*A r k)≠0
  ·exact q
  exact absurd (λc hc=>by
   by_cases z:qx R (λr=>w r*A r c)=0
   ·exact z
   exact absurd ⟨c,aD _,hc,z⟩ q) h0
 have e:=qmJ hN R0 R4 n4 hm sA hy sy N 0 (aD _) (by omega) ex;rw[show((0:Nat):Int)=0 from rfl]at e;unfold jl;rw[e];exact⟨false,rfl,λh=>(by cases h),λh=>absurd h.1 h0⟩
end
theorem qtu {l:List qb}{k:Nat}{u:Nat->Rat}(h:RwF k l u) (hk:k<=100):∀(K i:Nat),i<=k->k<K+i->(∃j,i<=j/\j<k/\u j≠0)->∃q:Nat,qF l K (i:Int)=some (.inr (q:Int))
 |0,i,h1,hK,_=>by omega
 |K+1,i,h1,hK,⟨j,j1,j2,j3⟩=>by
  unfold qF;obtain⟨f,f1,f2⟩:=h.get (show i<k by omega);unfold vw;rw[ae (by have:=h.1;omega),qf,f1,ZB,qfG f2,ZB,ZB];by_cases z:u i=0
  ·rw[ap ((qby _).2 z),aa (by decide),qm (by omega)];refine qtu h hk K (i+1) (by omega) (by omega) ⟨j,?_,j2,j3⟩;by_cases q:j=i
   ·rw[q]at j3;exact absurd z j3
   omega
  rw[ak (λq=>z ((qby _).1 q)),ae (by decide)];exact⟨i,rfl⟩
section
variable {R n:Nat}{m:List (List Str)}{b:List Str}{A:Mx}{v:Nat->Rat}(E:qpP N R n m b A v) (sA:∀i<R,∀j<n,Sml (A i j) 243) (sv:∀i<R,Sml (v i) 243) {y:List Str}{w:Nat->Rat}(hy:RwG zT R y w) (sy:∀i<R,Sml (w i) 243)
include E sA sv hy sy
theorem quC (oy:OkL y) (hw:¬qpg R n A v w):qH N m b y=some 21:=by
 have R4:=E.R4;have n4:=E.n4;have ml:=E.mm.1;obtain⟨r0,m0,g0⟩:=E.mm.get E.R0
 have z:RwF (n+1) (List.replicate (n+1) f0) (λj=>qx 0 (λq=>w q*qL n A v q j)):=⟨bS,λj g hg=>by
  obtain⟨q,e⟩:=Yb.1 hg;rw[dD]at e
  rw[<-e];exact isF0⟩
 obtain⟨l,e1,g1⟩:=qnE hN E sA sv hy sy N 0 _ (aD _) (by omega) z;have ll:=g1.1
 have f3:zf N [0,0,0]=some 0:=by
  obtain⟨K,rfl⟩:∃K,N=K+10:=⟨N-10,by omega⟩;rfl
 have w1:w64 ((l.length:Int)-1)=(n:Int):=by rw[qg (by omega) (by omega)];omega
 have tk:=g1.take (k:=n) (by omega);obtain⟨x,x1,x2⟩:=g1.get (show n<n+1 by omega)
 have sum:∀j,j<n->qx R (λq=>w q*qL n A v q j)=qx R (λr=>w r*A r j):=λj hj=>qp R λq _=>by unfold qL;rw[ae hj]
 rw[show((0:Nat):Int)=0 from rfl]at e1;unfold qH qC;rw[E.ck,ZB,ap (by have:=hy.1;omega),aa (by decide),ZB,qo2 hN (by have:=hy.1;omega) oy,ZB,f3,ZB,aa (by decide),qkT,ZB,yJ,m0,ZB,g0.1,qm (by omega)];dsimp only;rw[qnL hN (show n+1<=6 by omega),ZB,e1,ZB,w1,jN (by omega),ZB];unfold zz ji;by_cases h0:∃j,0<=j/\j<n/\qx R (λq=>w q*qL n A v q j)≠0
 ·obtain⟨q,nz⟩:=qtu hN tk (by omega) N 0 (aD _) (by omega) h0;rw[show((0:Nat):Int)=0 from rfl]at nz;rw[nz];simp only[ZB];rw[ap (show(q:Int)>=0 by omega),ae rfl];rfl
 have h1:∀j<n,qx R (λq=>w q*qL n A v q j)=0:=λj hj=>by
  by_cases z:qx R (λq=>w q*qL n A v q j)=0
  ·exact z
  exact absurd ⟨j,aD _,hj,z⟩ h0
 have nz:=nz_L tk (by omega) h1 N 0 (aD _) (by omega);rw[show((0:Nat):Int)=0 from rfl]at nz
 have hx:qx R (λq=>w q*qL n A v q n)=0:=by
  by_cases z:qx R (λq=>w q*qL n A v q n)=0
  ·exact z
  exact absurd ⟨λc hc=>by rw[<-sum c hc];exact h1 c hc,λe=>z (by rw[<-e];exact qp R λq _=>by unfold qL;rw[aa (by omega)])⟩ hw
 rw[nz];simp only[ZB];rw[aa (by decide),qf,x1,ZB,qfG x2,ZB,ap ((qby _).2 hx),ae rfl];rfl
theorem qsc (oy:OkL y):qH N m b y=some 0/\qpg R n A v w\/qH N m b y=some 21/\¬qpg R n A v w:=by
 rcases Classical.em (qpg R n A v w)with h|h
 ·exact .inl ⟨qt7 hN E sA sv hy sy oy h.1 h.2,h⟩
 exact .inr ⟨quC hN E sA sv hy sy oy h,h⟩
end
end
end
section
open Go.Proofs Go.RowKit
variable [Glob]
def ckR:List Str->Int
 |[]=>0
 |s::l=>if chk s=0 then ckR l else chk s
def ckM (n:Nat):List (List Str)->Int
 |[]=>0
 |r::m=>if r.length=n then(if ckR r=0 then ckM n m else ckR r)else 2
def ckE (m:List (List Str)) (b:List Str):Int:=
 match m with
 |[]=>12
 |r::_=>if m.length>24\/r.length>24 then 5 else if ckM r.length m=0 then(if b.length=m.length then ckR b else 2)else ckM r.length m
def qtJ {l:List Str}:ckR l=0↔ ∀s,s∈l->chk s=0:=by
 induction l with
 |nil=>exact⟨λ_ s h=>(by cases h),λ_=>rfl⟩
 |cons a l ih=>
  unfold ckR;by_cases c:chk a=0
  ·rw[ae c,ih]
   exact⟨λh s hs=>by
    rcases bT.1 hs with e|e
    ·rw[e];exact c
    exact h s e,λh s hs=>h s (eT _ hs)⟩
  rw[aa c];exact⟨λh=>absurd h c,λh=>h a d5⟩
section
variable {N:Nat}(hN:600000<N)
include hN
theorem qq5 {l:List Str}(hl:l.length<=100) (h:∀s,s∈l->s.length<=10000):∀(K i:Nat),i<=l.length->l.length<K+i->jd N l K (i:Int)=some (if ckR (l.drop i)=0 then .inl ()else .inr (ckR (l.drop i)))
 |0,i,h1,hK=>by omega
 |K+1,i,h1,hK=>by
  unfold jd;by_cases c:i<l.length
  ·have g:=h _ (bo c);have ih:=qq5 hl h K (i+1) (by omega) (by omega);rw[ae (by omega),qf,Ya c,ZB,qhQ hN g,ZB,YG c];unfold ckR;by_cases d:chk l[i]=0
   ·rw[ap d,aa (by decide),qm (by omega),ae d];exact ih
   rw[ak d,ae (by decide),aa d,aa d]
  rw[aa (by omega),aB (by omega)];rfl
theorem qjo {l:List Str}(hl:l.length<=100) (h:∀s,s∈l->s.length<=10000):ko N l=some (ckR l):=by
 have:=qq5 hN hl h N 0 (aD _) (by omega);rw[show((0:Nat):Int)=0 from rfl,YR]at this;unfold ko;rw[this];by_cases c:ckR l=0
 ·rw[ae c,c];rfl
 rw[aa c];rfl
theorem qq4 {l:List Str}(hl:l.length<=100) (h:∀s,s∈l->s.length<=10000):∀(K i:Nat),i<=l.length->l.length<K+i->zG N l K (i:Int)=some (if ckR (l.drop i)=0 then .inl ()else .inr (ckR (l.drop i)))
 |0,i,h1,hK=>by omega
 |K+1,i,h1,hK=>by
  unfold zG;by_cases c:i<l.length
  ·have g:=h _ (bo c);have ih:=qq4 hl h K (i+1) (by omega) (by omega);rw[ae (by omega),qf,Ya c,ZB,qkK hN g,ZB,YG c];unfold ckR;by_cases d:chk l[i]=0
   ·rw[ap d,aa (by decide),qm (by omega),ae d];exact ih
   rw[ak d,ae (by decide),aa d,aa d]
  rw[aa (by omega),aB (by omega)];rfl
theorem qg0 {l:List Str}(hl:l.length<=100) (h:∀s,s∈l->s.length<=10000):zL N l=some (ckR l):=by
 have:=qq4 hN hl h N 0 (aD _) (by omega);rw[show((0:Nat):Int)=0 from rfl,YR]at this;unfold zL;rw[this];by_cases c:ckR l=0
 ·rw[ae c,c];rfl
 rw[aa c];rfl
section
variable {m:List (List Str)}(hm:m.length<=100) (hr:∀r,r∈m->r.length<=100/\∀s,s∈r->s.length<=10000) {r0:List Str}(h0:m[0]? =some r0)
include hm hr h0
theorem qtt:∀(K i:Nat),i<=m.length->m.length<K+i->zA N m K (i:Int)=some (if ckM r0.length (m.drop i)=0 then .inl ()else .inr (ckM r0.length (m.drop i)))
 |0,i,h1,hK=>by omega
 |K+1,i,h1,hK=>by
  unfold zA;by_cases c:i<m.length
  ·have g:=hr _ (bo c);have ih:=qtt K (i+1) (by omega) (by omega);rw[ae (by omega),qf,Ya c,ZB,yJ,h0,ZB,YG c];unfold ckM;by_cases d:m[i].length=r0.length
   ·rw[ap (by omega),aa (by decide),qjo hN g.1 g.2,ZB,ae d];by_cases e:ckR m[i]=0
    ·rw[ap e,aa (by decide),qm (by omega),ae e];exact ih
    rw[ak e,ae (by decide),aa e,aa e]
   rw[ak (by omega),ae (by decide),aa d,aa (by decide)]
  rw[aa (by omega),aB (by omega)];rfl
theorem qty:∀(K i:Nat),i<=m.length->m.length<K+i->zy N m K (i:Int)=some (if ckM r0.length (m.drop i)=0 then .inl ()else .inr (ckM r0.length (m.drop i)))
 |0,i,h1,hK=>by omega
 |K+1,i,h1,hK=>by
  unfold zy qC;by_cases c:i<m.length
  ·have g:=hr _ (bo c);have ih:=qty K (i+1) (by omega) (by omega);rw[ae (by omega),qf,Ya c,ZB,yJ,h0,ZB,YG c,qg0 hN g.1 g.2];unfold ckM;by_cases d:m[i].length=r0.length
   ·rw[ap (by omega),aa (by decide),ZB,ZB,qf8 (by omega),ZB,ae rfl,ae d];by_cases e:ckR m[i]=0
    ·rw[ap e,aa (by decide),qm (by omega),ae e];exact ih
    rw[ak e,ae (by decide),aa e,aa e]
   rw[ak (by omega),ae (by decide),ZB,ZB,qf8 (by omega),ZB,show(if(2:Int)=0 then ckR m[i]else 2)=2 from aa (by decide),ae (show(!decide ((2:Int)=0))=true from rfl),aa d,aa (show¬(2:Int)=0 by decide)]
  rw[aa (by omega),aB (by omega)];rfl
end
theorem qsq {m:List (List Str)}(hm:m.length<=100) (hr:∀r,r∈m->r.length<=100/\∀s,s∈r->s.length<=10000) {b:List Str}(hb:b.length<=100) (sb:∀s,s∈b->s.length<=10000):vO N m b=some (ckE m b):=by
 unfold vO
 cases m with
 |nil=>rfl
 |cons r m'=>
  have g:=qtt hN hm hr (r0:=r) rfl N 0 (aD _) (by omega);rw[show((0:Nat):Int)=0 from rfl,YR]at g;unfold ckE;dsimp only;have l1:(r::m').length=m'.length+1:=rfl;rw[aa (by omega),yJ];by_cases c:(r::m').length>24
  ·rw[ae (by omega),ZB,ae rfl,ae (.inl c)]
  rw[aa (by omega)];show(some (decide ((r.length:Int)>24))).bind _=_;rw[ZB];by_cases d:r.length>24
  ·rw[ap (by omega),ae rfl,ae (.inr d)]
  rw[ak (by omega),aa dq,aa (show¬((r::m').length>24\/r.length>24)by omega),g];by_cases e:ckM r.length (r::m')=0
  ·rw[ae e,ae e];show(if(!decide ((b.length:Int)=((r::m').length:Int)))=true then some 2 else(ko N b).bind λr17=>some r17)=_;by_cases f:b.length=(r::m').length
   ·rw[ap (by omega),aa (by decide),qjo hN hb sb,ZB,ae f]
   rw[ak (by omega),ae (by decide),aa f]
  rw[aa e,aa e];rfl
theorem qsf {m:List (List Str)}(hm:m.length<=100) (hr:∀r,r∈m->r.length<=100/\∀s,s∈r->s.length<=10000) {b:List Str}(hb:b.length<=100) (sb:∀s,s∈b->s.length<=10000):qD N m b=some (ckE m b):=by
 unfold qD qC
 cases m with
 |nil=>rfl
 |cons r m'=>
  have g:=qty hN hm hr (r0:=r) rfl N 0 (aD _) (by omega);rw[show((0:Nat):Int)=0 from rfl,YR]at g;unfold ckE;dsimp only;have l1:(r::m').length=m'.length+1:=rfl;rw[aa (by omega),yJ];by_cases c:(r::m').length>24
  ·rw[ae (by omega),ZB,ae rfl,ae (.inl c)]
  rw[aa (by omega)];show(some (decide ((r.length:Int)>24))).bind _=_;rw[ZB];by_cases d:r.length>24
  ·rw[ap (by omega),ae rfl,ae (.inr d)]
  rw[ak (by omega),aa dq,aa (show¬((r::m').length>24\/r.length>24)by omega),g];by_cases e:ckM r.length (r::m')=0
  ·rw[ae e,ae e];show((if(!decide ((b.length:Int)=((r::m').length:Int)))=true then some 2 else some 0).bind λr17=>(zL N b).bind λr18=>(zf N ([r17,r18]:List Int)).bind λr19=>some r19)=_;rw[qg0 hN hb sb];by_cases f:b.length=(r::m').length
   ·rw[ap (by omega),aa (by decide),ZB,ZB,qf8 (by omega),ZB,ae rfl,ae f]
   rw[ak (by omega),ae (by decide),ZB,ZB,qf8 (by omega),ZB,show(if(2:Int)=0 then ckR b else 2)=2 from aa (by decide),aa f]
  rw[aa e,aa e];rfl
end
end
section
open Go.Proofs Go.RowKit
variable [Glob]
section
variable {N:Nat}(hN:600000<N)
include hN
theorem qoC {l:List Str}(hl:l.length<=30):∀(K i:Nat),i<=l.length->l.length<K+i->∃b:Bool,yx l 30 K (i:Int)=some (if b=true then .inl ()else .inr false)/\(b=true->∀j,i<=j->∀s,l[j]? =some s->s.length<=30)
 |0,i,h,hK=>by omega
 |K+1,i,h,hK=>by
  unfold yx;by_cases c:i<l.length
  ·rw[ae (by omega),qf,Ya c,ZB];by_cases d:l[i].length<=30
   ·rw[aa (by omega),qm (by omega)];obtain⟨b,e,g⟩:=qoC hl K (i+1) (by omega) (by omega);refine⟨b,e,λu j hj s hs=>?_⟩;by_cases q:j=i
    ·subst q;rw[Ya c]at hs;rw[<-Ye hs];exact d
    exact g u j (by omega) s hs
   rw[ae (by omega)];exact⟨false,rfl,λh=>(by cases h)⟩
  rw[aa (by omega)];refine⟨true,rfl,λu j hj s hs=>?_⟩;have:=(Yb.1 hs).1;omega
theorem qi7 (l:List Str):∃b,yY N l 30=some b/\(b=true->l.length<=30/\∀s,s∈l->s.length<=30):=by
 unfold yY;by_cases c:(l.length:Int)>30
 ·rw[ae c];exact⟨_,rfl,λh=>(by cases h)⟩
 rw[aa c];obtain⟨b,e,g⟩:=qoC hN (l:=l) (by omega) N 0 (aD _) (by omega);rw[show((0:Nat):Int)=0 from rfl]at e;rw[e]
 cases b with
 |true=>exact⟨_,rfl,λ_=>⟨by omega,λs hs=>by
  obtain⟨j,hj⟩:=List.getElem?_of_mem hs
  exact g rfl j (aD _) s hj⟩⟩
 |false=>exact⟨_,rfl,λh=>(by cases h)⟩
theorem qn5 {m:List (List Str)}(hl:m.length<=30):∀(K i:Nat),i<=m.length->m.length<K+i->∃b:Bool,jI N m 30 K (i:Int)=some (if b=true then .inl ()else .inr false)/\(b=true->∀j,i<=j->∀r,m[j]? =some r->r.length<=30/\∀s,s∈r->s.length<=30)
 |0,i,h,hK=>by omega
 |K+1,i,h,hK=>by
  unfold jI;by_cases c:i<m.length
  ·obtain⟨b0,f,f2⟩:=qi7 hN m[i];rw[ae (by omega),qf,Ya c,ZB,f,ZB]
   cases b0 with
   |true=>
    rw[aa (by decide),qm (by omega)];obtain⟨b,e,g⟩:=qn5 hl K (i+1) (by omega) (by omega);refine⟨b,e,λu j hj s hs=>?_⟩;by_cases q:j=i
    ·subst q;rw[Ya c]at hs;rw[<-Ye hs];exact f2 rfl
    exact g u j (by omega) s hs
   |false=>
    rw[ae (by decide)];exact⟨false,rfl,λh=>(by cases h)⟩
  rw[aa (by omega)];refine⟨true,rfl,λu j hj s hs=>?_⟩;have:=(Yb.1 hs).1;omega
theorem qqb (m:List (List Str)):∃b,xR N m 30=some b/\(b=true->m.length<=30/\∀r,r∈m->r.length<=30/\∀s,s∈r->s.length<=30):=by
 unfold xR;by_cases c:(m.length:Int)>30
 ·rw[ae c];exact⟨_,rfl,λh=>(by cases h)⟩
 rw[aa c];obtain⟨b,e,g⟩:=qn5 hN (m:=m) (by omega) N 0 (aD _) (by omega);rw[show((0:Nat):Int)=0 from rfl]at e;rw[e]
 cases b with
 |true=>exact⟨_,rfl,λ_=>⟨by omega,λs hs=>by
  obtain⟨j,hj⟩:=List.getElem?_of_mem hs
  exact g rfl j (aD _) s hj⟩⟩
 |false=>exact⟨_,rfl,λh=>(by cases h)⟩
theorem qlg {e bad:Int}(h:bad≠0) (want:List Str):jY N [] e bad want=some (decide (e=bad)):=by
 unfold jY;rw[aa h,ZB,ak h,ae (by decide)];rfl
end
end
section
open Go.Proofs Go.RowKit
variable [Glob]
def qhn {l:List Str}(h:qkB l):RwG zT l.length l (λj=>qfn (l.getD j []))/\∀j<l.length,Sml (qfn (l.getD j [])) 6:=by
 have key:∀(j:Nat) s,l[j]? =some s->s=T (qfn (l.getD j []))/\Sml (qfn (l.getD j [])) 6:=λj s hs=>by
  obtain⟨q,e,g,_⟩:=h s (Yn hs);rw[Yy,hs,YN];have t:=qqj ⟨q,e⟩;refine⟨t,?_⟩;rw[<-qqO (e.symm.trans t)];exact g
 exact⟨⟨rfl,λj s hs=>(key j s hs).1⟩,λj hj=>(key j _ (Ya hj)).2⟩
def quj {l:List Str}{n:Nat}{v:Nat->Rat}(h:RwG zT n l v) (hv:∀j<n,Sml (v j) 600):OkL l:=λs hs=>by
 obtain⟨j,hj⟩:=List.getElem?_of_mem hs;have hl:=(Yb.1 hj).1;have e:s=T (v j):=h.2 j s hj;have g:=hv j (by have:=h.1;omega);rw[e];exact⟨by have:=qkt g;omega,chk_T g⟩
def qqc {a:List Str}(ha:a.length<=100):∀(K i:Nat),i<=a.length->a.length<K+i->yS a a K (i:Int)=some (.inl ())
 |0,i,h1,h2=>by omega
 |K+1,i,h1,h2=>by
  unfold yS;by_cases c:i<a.length
  ·rw[ae (by omega),qf,Ya c,ZB,ZB,beq_self_eq_true,aa (by decide),qm (by omega)];exact qqc ha K (i+1) (by omega) (by omega)
  rw[aa (by omega)]
def same_eq {N:Nat}(hN:600000<N) {a:List Str}(ha:a.length<=100):qbN N a a=some true:=by
 have:=qqc ha N 0 (aD _) (by omega);rw[show((0:Nat):Int)=0 from rfl]at this;unfold qbN;rw[ap rfl,aa (by decide),this];rfl
def qn8 {N:Nat}(hN:600000<N) (a b c:Int):zf N [a,b,c]=some (if a=0 then(if b=0 then c else b)else a):=by
 obtain⟨K,rfl⟩:∃K,N=K+1+1+1+1:=⟨N-4,by omega⟩;unfold zf;by_cases ha:a=0
 ·by_cases hb:b=0
  ·by_cases hc:c=0
   ·subst ha;subst hb;subst hc;rfl
   subst ha;subst hb
   have h1:qy [0,0,c] (K+1+1+1+1) 0=some (.inr c):=by
    rw[qy,ae (by simp),yJ];simp only[Yj,ZB];rw[aa (by simp),qy,show w64 ((0:Int)+1)=((1:Nat):Int)from rfl,ae (by simp),qf];simp only[YK,Yj,ZB];rw[aa (by simp),qy,show w64 (((1:Nat):Int)+1)=((2:Nat):Int)from rfl,ae (by simp),qf];simp only[YK,Yj,ZB];rw[ae (by simp[hc])]
   rw[h1,ae rfl,ae rfl];rfl
  subst ha
  have h1:qy [0,b,c] (K+1+1+1+1) 0=some (.inr b):=by
   rw[qy,ae (by simp),yJ];simp only[Yj,ZB];rw[aa (by simp),qy,show w64 ((0:Int)+1)=((1:Nat):Int)from rfl,ae (by simp),qf];simp only[YK,Yj,ZB];rw[ae (by simp[hb])]
  rw[h1,ae rfl,aa hb];rfl
 have h1:qy [a,b,c] (K+1+1+1+1) 0=some (.inr a):=by
  rw[qy,ae (by simp),yJ];simp only[Yj,ZB];rw[ae (by simp[ha])]
 rw[h1,aa ha];rfl
def qpC {N:Nat}{m:List (List Str)}{b:List Str}{e:Int}(h:qD N m b=some e) (he:e≠0):vJ N m b=some ([],e)/\zM N m b=some ([],e):=by
 constructor
 ·unfold vJ;rw[h,ZB,ae (by simp[he])]
 unfold zM;rw[h,ZB,ae (by simp[he])]
def qhK {N:Nat}(hN:600000<N) {m:List (List Str)}{b y:List Str}{e:Int}(h:qD N m b=some e) (hy:y.length<=100) (sy:∀s,s∈y->s.length<=10000) (he:(if e=0 then(if y.length=m.length then ckR y else 2)else e)≠0):
 qH N m b y=some (if e=0 then(if y.length=m.length then ckR y else 2)else e):=by
 unfold qH qC;rw[h,ZB];by_cases c:y.length=m.length
 ·rw[ap (by omega),aa (by decide),ZB,qg0 hN hy sy,ZB,qn8 hN,ZB,ae rfl];rw[ae c]at he⊢;rw[ae (by simpa using he)]
 rw[ak (by omega),ae (by decide),ZB,qg0 hN hy sy,ZB,qn8 hN,ZB,aa (show¬(2:Int)=0 by decide)];rw[aa c]at he⊢;rw[ae (by simpa using he)]
end
section
open Go.Proofs Go.RowKit
variable [Glob]
def lrg0 {N:Nat}(hN:600000<N) {q:Rat}(h:Sml q 600):qb1 N (T q)=some 0:=by
 rw[qsd (by omega) h (by decide)]
 have:qlz q=false:=by
  obtain⟨h1,h2⟩:=h;unfold qlz lng;rw[ak (by omega),ak (by rw[aS];omega)];rfl
 rw[this];rfl
def qqF {N:Nat}(hN:600000<N) {l:List Str}{n:Nat}{v:Nat->Rat}(h:RwG zT n l v) (hn:n<=100) (hv:∀j<n,Sml (v j) 600):∀(K i:Nat),i<=n->n<K+i->yh N l K (i:Int)=some (.inl ())
 |0,i,h1,hK=>by omega
 |K+1,i,h1,hK=>by
  unfold yh;have hl:=h.1;by_cases c:i<n
  ·obtain⟨s,s1,s2⟩:=h.get c;have s2:s=T (v i):=s2;rw[ae (by omega),qf,s1,ZB,s2,lrg0 hN (hv i c),ZB,aa (by decide),qm (by omega)];exact qqF hN h hn hv K (i+1) (by omega) (by omega)
  rw[aa (by omega)]
def qsR {N:Nat}(hN:600000<N) {z:List Str}{n:Nat}{v:Nat->Rat}(h:RwG zT n z v) (hn:n<=5) (hv:∀j<n,Sml (v j) 600):jY N z 0 0 z=some true:=by
 have zl:=h.1
 have lg:qbj N z=some 0:=by
  have:=qqF hN h (by omega) hv N 0 (aD _) (by omega);rw[show((0:Nat):Int)=0 from rfl]at this;unfold qbj;rw[this];rfl
 unfold jY;rw[ae rfl,lg,ZB,ZB,aa (by decide),ae rfl,same_eq hN (by omega)];rfl
def qqa {N:Nat}(hN:600000<N) {m:List (List Str)}{b y r0:List Str}(e0:m[0]? =some r0) (m5:m.length<=5) (n5:r0.length<=5) (mg:∀r∈m,r.length=r0.length/\qkB r) (bg:qkB b) (bl:b.length=m.length) (yl:y.length<=30) (ys:∀s,s∈y->s.length<=30) (ys':∀s,s∈y->s.length<=10000)
 (ck:qD N m b=some 0) (ce:ckE m b=0):((some (!true)).bind λb20:Bool=>
 if b20=true then
 some true
 else
 (vJ N m b).bind λr23=>
 (zM N m b).bind λr24=>
 (qH N m b y).bind λr25=>
 if(!decide (ckE m b=0))=true then
 ((jY N r23.1 r23.2 (ckE m b) []).bind λr27=>
 if r27=true then
 (jY N r24.1 r24.2 (ckE m b) []).bind λr29=>
 if r29=true then
 some (decide (r25=ckE m b))
 else
 some false
 else
 some false:Option Bool).bind λb31=>
 some b31
 else
 (qbk N m b).bind λr33=>
 (xn (!r33.2) 14).bind λr34=>
 (jY N r23.1 r23.2 r34 r33.1).bind λr35=>
 if(!r35)=true then
 some false
 else
 (xn (!decide ((y.length:Int)=(m.length:Int))) 2).bind λr37=>
 (ko N y).bind λr38=>
 (qbZ N ([r37,r38]:List Int)).bind λr39=>
 ((if r39=0 then
 (jl N m b y).bind λr43=>
 (xn (!r43) 21).bind λr44=>
 some r44
 else
 some r39:Option Int)).bind λn40=>
 if(!decide (r25=n40))=true then
 some false
 else
 (xe N m b).bind λr46=>
 if r46=true then
 (jY N r24.1 r24.2 7 []).bind λr48=>
 some r48
 else
 (if r24.2=0 then
 if(r24.1.length:Int)=(m.length:Int)then
 (ko N r24.1).bind λr51=>
 if r51=0 then
 (jl N m b r24.1).bind λr53=>
 some r53
 else
 some false
 else
 some false
 else
 some false:Option Bool).bind λb54=>
 some b54)=some true:=by
 rw[ZB,aa (by decide)];generalize hn:r0.length=n at*
 have hR:0<m.length:=by have:=(Yb.1 e0).1;omega
 have hm:MxG zT m.length n m (λi j=>qfn ((m.getD i []).getD j [])):=⟨rfl,λi r hr=>by
  obtain⟨q1,q2⟩:=mg r (Yn hr);have g:=(qhn q2).1;rw[q1]at g
  have e:m.getD i []=r:=by rw[Yy,hr];rfl
  show RwG zT n r (λj=>qfn ((m.getD i []).getD j []));rw[e]
  exact g⟩
 have sA:∀i<m.length,∀j<n,Sml (qfn ((m.getD i []).getD j [])) 6:=λi hi j hj=>by
  obtain⟨q1,q2⟩:=mg m[i] (bo hi)
  have e:m.getD i []=m[i]:=by rw[Yy,Ya hi];rfl
  rw[e];exact(qhn q2).2 j (by omega)
 have hb:RwG zT m.length b (λj=>qfn (b.getD j [])):=by rw[<-bl];exact(qhn bg).1
 have sb:∀j<m.length,Sml (qfn (b.getD j [])) 6:=by rw[<-bl];exact(qhn bg).2
 generalize hA:(λi j=>qfn ((m.getD i []).getD j []):Mx)=A at hm
 have sA:∀i,i<m.length->∀j,j<n->Sml (A i j) 6:=λi hi j hj=>by rw[<-hA];exact sA i hi j hj
 generalize hv:(λj=>qfn (b.getD j []):Nat->Rat)=v at hb
 have sb:∀j,j<m.length->Sml (v j) 6:=λj hj=>by rw[<-hv];exact sb j hj
 have E:qpP N m.length n m b A v:=⟨hR,m5,n5,hm,hb,λi hi j hj=>(sA i hi j hj).mono (by decide),λi hi=>(sb i hi).mono (by decide),ck⟩
 have B1:(1:Int)<=10^42:=by decide
 have sA2:∀i<m.length,∀j<n,Sml (A i j) 243:=λi hi j hj=>(sA i hi j hj).mono (by decide)
 have sb2:∀i<m.length,Sml (v i) 243:=λi hi=>(sb i hi).mono (by decide)
 have S:=qm6 hN E qmE B1 (qjf m5 n5 sA sb) (λhd h0 i hi=>(qkF m5 n5 sA sb hd hi).mono (by decide));have F:=qmG hN E qmE B1 (qly m5 n5 sA sb) (λi h1 h2 _ j hj=>(qkL m5 n5 sA sb h1 h2 j hj).mono (by decide));have O:=qr9 hN hR m5 n5 hm hb sA sb;obtain⟨c,v1,v2⟩:=qmN hN hR m5 n5 hm hb sA sb;obtain⟨s1,s2⟩:=qk4 m5 n5 sA sb
 have row1:∃z e w t,vJ N m b=some (z,e)/\qbk N m b=some w/\xn (!w.2) 14=some t/\jY N z e t w.1=some true:=by
  rcases O with⟨o1,o2⟩|⟨o1,o2,z',o3,o4⟩
  ·rcases S with⟨a1,a2⟩|⟨a1,a2,a3,_⟩
   ·exact⟨_,_,_,14,a1,o1,rfl,by rw[qlg hN (by decide),ap rfl]⟩
   rcases o2 with o2|⟨q,q1,q2,q3⟩
   ·omega
   exact absurd (a3 q q1 q2) q3
  rcases S with⟨a1,a2⟩|⟨a1,a2,a3,z,a4,a5⟩
  ·rcases a2 with a2|⟨q,q1,q2,q3⟩
   ·omega
   exact absurd (o2 q q1 q2) q3
  have ez:z=z':=RwG.ext a5 o4;rw[ez]at a4;exact⟨_,_,_,0,a4,o3,rfl,qsR hN o4 n5 λi hi=>(qkF m5 n5 sA sb a1 hi).mono (by decide)⟩
 obtain⟨z,e,w,t,p1,p2,p3,p4⟩:=row1
 have chk2:∃k,qH N m b y=some k/\(if(if(if y.length=m.length then(0:Int)else 2)=0 then ckR y else(if y.length=m.length then(0:Int)else 2))=0 then
  (jl N m b y).bind λr43=>(xn (!r43) 21).bind λr44=>some r44
  else some (if(if y.length=m.length then(0:Int)else 2)=0 then ckR y else(if y.length=m.length then(0:Int)else 2)):Option Int)=some k:=by
  by_cases d:y.length=m.length
  ·rw[ae d,ae rfl];by_cases d2:ckR y=0
   ·rw[ae d2];have oky:=qtJ.1 d2
    have hy:RwG zT m.length y (λj=>qfn (y.getD j []))/\∀j<m.length,Sml (qfn (y.getD j [])) 30:=by
     have key:∀(j:Nat) s,y[j]? =some s->s=T (qfn (y.getD j []))/\Sml (qfn (y.getD j [])) 30:=λj s hs=>by
      have hs2:=Yn hs;obtain⟨q,e,g,_⟩:=qsr (k:=30) (by decide) (ys s hs2) (oky s hs2);rw[Yy,hs,YN];have t:=qqj ⟨q,e⟩;refine⟨t,?_⟩;rw[<-qqO (e.symm.trans t)];exact g
     exact⟨⟨d,λj s hs=>(key j s hs).1⟩,λj hj=>(key j _ (Ya (by omega))).2⟩
    have sy:∀i<m.length,Sml (qfn (y.getD i [])) 243:=λi hi=>(hy.2 i hi).mono (by decide)
    obtain⟨g,g1,g2⟩:=qlO hN hR m5 n5 hm sA2 hy.1 sy hb sb2;rcases qsc hN E sA2 sb2 hy.1 sy (λs hs=>⟨ys' s hs,oky s hs⟩)with⟨a,a2⟩|⟨a,a2⟩
    ·refine⟨0,a,?_⟩;rw[g1,g2.2 a2];rfl
    refine⟨21,a,?_⟩
    cases g with
    |true=>exact absurd (g2.1 rfl) a2
    |false=>rw[g1];rfl
   rw[aa d2];have:=qhK hN ck (y:=y) (by omega) ys' (by rw[ae rfl,ae d];exact d2);rw[ae rfl,ae d]at this;exact⟨_,this,rfl⟩
  rw[aa d,aa (show¬(2:Int)=0 by decide),aa (show¬(2:Int)=0 by decide)];have:=qhK hN ck (y:=y) (by omega) ys' (by rw[ae rfl,aa d];decide);rw[ae rfl,aa d]at this;exact⟨_,this,rfl⟩
 obtain⟨k,k1,k2⟩:=chk2
 have w37:xn (!decide ((y.length:Int)=(m.length:Int))) 2=some (if y.length=m.length then(0:Int)else 2):=by
  by_cases d:y.length=m.length
  ·rw[ap (by omega),ae d];rfl
  rw[ak (by omega),aa d];rfl
 have fin:∀(zr:List Str) (er:Int),zM N m b=some (zr,er)->((xe N m b).bind λr46=>
  if r46=true then(jY N zr er 7 []).bind λr48=>some r48
  else(if er=0 then if(zr.length:Int)=(m.length:Int)then(ko N zr).bind λr51=>if r51=0 then(jl N m b zr).bind λr53=>some r53 else some false else some false else some false:Option Bool).bind λb54=>some b54)=some true:=λzr er hr=>by
  rw[v1,ZB];rcases F with⟨a1,a2⟩|⟨i,y',i1,i2,i3,a2,a3⟩
  ·rw[a2]at hr;cases hr
   have:c=true:=v2.2 λq q1 q2=>by
    rw[s1]at q1;rw[s2 q q2 n (by omega)];exact a1 q q1 q2
   rw[ae this,qlg hN (by decide),ap rfl];rfl
  rw[a2]at hr;cases hr
  have cf:c=false:=by
   cases c with
   |false=>rfl
   |true=>
    have:=v2.1 rfl i (by rw[s1];exact i1) i2;rw[s2 i i2 n (by omega)]at this;exact absurd this i3
  have sy:∀j<m.length,Sml ((qB m.length n 0 (jQ n A v,[])).1 i (n+1+j)) 243:=λj hj=>qkL m5 n5 sA sb i1 i2 j hj
  obtain⟨g,g1,g2⟩:=qlO hN hR m5 n5 hm sA2 a3 sy hb sb2;have rf:=qnj B1 (qly m5 n5 sA sb) i1 i2 i3;have yl':=a3.1;rw[cf,aa (by decide),ae rfl,ae (by omega),qsX hN (by omega) (quj a3 λj hj=>(sy j hj).mono (by decide)),ZB,ae rfl,g1,g2.2 ⟨λc hc=>rf.1 c hc,rf.2⟩];rfl
 obtain⟨zr,er,hr⟩:∃zr er,zM N m b=some (zr,er):=by
  rcases F with⟨_,a2⟩|⟨i,y',_,_,_,a2,_⟩
  ·exact⟨_,_,a2⟩
  exact⟨_,_,a2⟩
 rw[p1,ZB,hr,ZB,k1,ZB,ap ce,aa (by decide),p2,ZB,p3,ZB];dsimp only;rw[p4,ZB,aa (by decide),w37,ZB,qjo hN (by omega) ys',ZB,qst (by omega),ZB,k2,ZB,ap rfl,aa (by decide)];exact fin zr er hr
def qgn {N:Nat}(hN:600000<N) (m:List (List Str)) (b y:List Str):qad N m b y=some true:=by
 unfold qad awk;simp only[ZB,Bool.not_true,ZF,bh];by_cases c1:(m.length:Int)>30
 ·rw[ae c1];rfl
 rw[aa c1];by_cases c2:(b.length:Int)>30
 ·rw[ae c2];rfl
 rw[aa c2];by_cases c3:(y.length:Int)>30
 ·rw[ae c3];rfl
 rw[aa c3];obtain⟨b1,f1,g1⟩:=qqb hN m;rw[f1,ZB]
 cases b1 with
 |false=>rfl
 |true=>
 obtain⟨b2,f2,g2⟩:=qi7 hN b;rw[aa (by decide),f2,ZB]
 cases b2 with
 |false=>rfl
 |true=>
 obtain⟨b3,f3,g3⟩:=qi7 hN y;rw[aa (by decide),f3,ZB]
 cases b3 with
 |false=>rfl
 |true=>
 obtain⟨ml,mr⟩:=g1 rfl;obtain⟨bl,bs⟩:=g2 rfl;obtain⟨yl,ys⟩:=g3 rfl
 have mr':∀r,r∈m->r.length<=100/\∀s,s∈r->s.length<=10000:=λr hr=>⟨by have:=(mr r hr).1;omega,λs hs=>by have:=(mr r hr).2 s hs;omega⟩
 have bs':∀s,s∈b->s.length<=10000:=λs hs=>by have:=bs s hs;omega
 have ys':∀s,s∈y->s.length<=10000:=λs hs=>by have:=ys s hs;omega
 have R:=qsq hN (m:=m) (by omega) mr' (b:=b) (by omega) bs';have P:=qsf hN (m:=m) (by omega) mr' (b:=b) (by omega) bs';rw[ZB,aa (by decide),R,ZB];by_cases ce:ckE m b=0
 ·rw[ae ce]
  have hm0:m≠[]:=λe=>by rw[e]at ce;exact absurd (show(12:Int)=0 from ce) (by decide)
  obtain⟨r0,m',em⟩:∃r m',m=r::m':=by
   cases m with
   |nil=>exact absurd rfl hm0
   |cons r m'=>exact⟨r,m',rfl⟩
  have e0:m[0]? =some r0:=by rw[em];rfl
  have ce2:ckM r0.length m=0/\b.length=m.length/\ckR b=0:=by
   rw[em]at ce⊢;unfold ckE at ce;dsimp only at ce;split at ce
   ·exact absurd ce (by decide)
   split at ce
   ·rename_i h1;split at ce
    ·rename_i h2;exact⟨h1,h2,ce⟩
    exact absurd ce (by decide)
   rename_i h1;exact absurd ce h1
  obtain⟨k1,k2,k3⟩:=ce2;obtain⟨b4,f4,g4⟩:=qsj hN e0 rfl;rw[f4,ZB]
  cases b4 with
  |false=>rfl
  |true=>
  obtain⟨b5,f5,g5⟩:=qn6 hN b;rw[aa (by decide),f5,ZB]
  cases b5 with
  |false=>rfl
  |true=>
  obtain⟨m5,n5,mg⟩:=g4 rfl;obtain⟨_,bg⟩:=g5 rfl;exact qqa hN e0 m5 n5 mg bg k2 (by omega) ys ys' (P.trans (az some ce)) ce
 obtain⟨q1,q2⟩:=qpC P ce;have q3:=qhK hN P (y:=y) (by omega) ys' (by rw[aa ce];exact ce);rw[aa ce]at q3;rw[aa ce,ZB,aa (by decide),q1,ZB,q2,ZB,q3,ZB,ak ce,ae (by decide)];dsimp only;rw[qlg hN ce,ap rfl,ZB,ae rfl,ZB,ae rfl];rfl
end
end Go.Av
end
