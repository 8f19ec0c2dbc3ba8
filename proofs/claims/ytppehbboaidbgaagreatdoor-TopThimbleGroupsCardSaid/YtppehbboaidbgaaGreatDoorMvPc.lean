/-
  Groups of plies: digits counted one by one, plies that are yarns.
-/
import Derived.Test.YtppehbboaidbgaaGreatDoorMvPb
noncomputable section
set_option linter.unusedVariables false
set_option linter.unusedSimpArgs false
set_option maxRecDepth 100000
section
namespace Go.Av
theorem qrF {a b:Int} {k:Nat} (hb:b≠0) (hk:0<k) (fa:a.natAbs<10^k) (fb:b.natAbs<10^k):Sml (Rat.divInt a b) k:=by
 have hg:0<Int.gcd b a:=Int.gcd_pos_of_ne_zero_left _ hb
 have h1:((Rat.divInt a b).num.natAbs:Int)<=(a.natAbs:Int):=by
  rw[Rat.num_divInt];exact Int.le_trans (yM _ (by omega)) (by rw[qgg hb];exact Int.le_refl _)
 have h2:((((Rat.divInt a b).den:Int)).natAbs:Int)<=(((b.natAbs:Int)).natAbs:Int):=by
  rw[Rat.den_divInt,if_neg hb,Int.natCast_ediv];exact yM _ (by omega)
 rw[Int.natAbs_natCast,Int.natAbs_natCast]at h2;exact⟨(xx hk).2 (by omega),(xx hk).2 (by omega)⟩
theorem qhI {q:Rat} {k:Nat} (h:Sml q k) (hk:0<k):q.num.natAbs<10^k/\q.den<10^k:=⟨(xx hk).1 h.1,(xx hk).1 h.2⟩
theorem qgz {x y a b:Nat} (hx:x<10^a) (hy:y<10^b):x*y<10^(a+b):=by
 rw[Nat.pow_add];rcases Nat.eq_zero_or_pos y with c|c
 ·subst c;rw[Nat.mul_zero];exact Nat.mul_pos (Nat.pow_pos (by omega)) (Nat.pow_pos (by omega))
 exact Nat.lt_of_lt_of_le (Nat.mul_lt_mul_of_pos_right hx c) (Nat.mul_le_mul_left _ (Nat.le_of_lt hy))
theorem qiv {p q:Rat} {a b:Nat} (ha:0<a) (hb:0<b) (hp:Sml p a) (hq:Sml q b):Sml (p+q) (a+b+1):=by
 obtain⟨p1,p2⟩:=qhI hp ha;obtain⟨q1,q2⟩:=qhI hq hb;rw[qcO];have h1:=qgz p1 q2;have h2:=qgz q1 p2;have h3:=qgz p2 q2;rw[Nat.add_comm b a]at h2;have e:10^(a+b+1)=10^(a+b)*10:=Nat.pow_succ ..
 have n1:(p.num*(q.den:Int)).natAbs=p.num.natAbs*q.den:=by rw[Int.natAbs_mul,Int.natAbs_natCast]
 have n2:(q.num*(p.den:Int)).natAbs=q.num.natAbs*p.den:=by rw[Int.natAbs_mul,Int.natAbs_natCast]
 have n3:((p.den:Int)*(q.den:Int)).natAbs=p.den*q.den:=by rw[Int.natAbs_mul,Int.natAbs_natCast,Int.natAbs_natCast]
 exact qrF (qc8 p q) (by omega) (by omega) (by omega)
theorem qf9 {p q:Rat} {a b:Nat} (ha:0<a) (hb:0<b) (hp:Sml p a) (hq:Sml q b):Sml (p*q) (a+b):=by
 obtain⟨p1,p2⟩:=qhI hp ha;obtain⟨q1,q2⟩:=qhI hq hb;rw[qcR];have h1:=qgz p1 q1;have h3:=qgz p2 q2;have n1:(p.num*q.num).natAbs=p.num.natAbs*q.num.natAbs:=Int.natAbs_mul ..
 have n3:((p.den:Int)*(q.den:Int)).natAbs=p.den*q.den:=by rw[Int.natAbs_mul,Int.natAbs_natCast,Int.natAbs_natCast]
 exact qrF (qc8 p q) (by omega) (by omega) (by omega)
theorem qfd {p q:Rat} {a b:Nat} (ha:0<a) (hb:0<b) (hp:Sml p a) (hq:Sml q b) (h0:q≠0):Sml (p/q) (a+b):=by
 rw[Rat.div_def];exact qf9 ha hb hp (qkp hq h0)
theorem qfF:Sml (0:Rat) 1:=qcY (by omega) (by rw[T0];simp)
structure GZ (N k:Nat) (y:qw):Prop where
 g:qkL N y
 d: ∃d:Rat,y.Density=T d/\Sml d k
 s: ∃b:Rat,stY 0 y=some b/\Sml b k/\0<=b
 o:y.Dye=[]\/qc0 y.Dye=true
theorem qjG {N k:Nat} (hk:0<k): ∀{l:List qw},(∀y∈l,GZ N k y)->Sml (vw l) (1+(k+1)*l.length)
 |[],h=>qfF
 |y::l,h=>by
  obtain⟨d,e,s⟩:=(h y (List.mem_cons_self ..)).d;have:=qiv hk (by omega) s (qjG hk fun z hz=>h z (List.mem_cons_of_mem _ hz));rw[vw,e,qaE,Yr,Nat.mul_succ];exact this.mono (by omega)
theorem qlS {N k:Nat} (hk:0<k): ∀{l:List qw},(∀y∈l,GZ N k y)->Sml (qa6 0 l) (1+(k+1)*l.length)/\0<=qa6 0 l
 |[],h=>⟨qfF,Rat.le_refl⟩
 |y::l,h=>by
  obtain⟨b,e,s,b0⟩:=(h y (List.mem_cons_self ..)).s
  obtain⟨i1,i2⟩:=qlS hk fun z hz=>h z (List.mem_cons_of_mem _ hz)
  have:=qiv hk (by omega) s i1;rw[qa6,e,YN,Yr,Nat.mul_succ];exact⟨this.mono (by omega),by grind⟩
theorem anyD {N k:Nat} {l:List qw} (h: ∀y∈l,GZ N k y):qiT 0 l=false:=by
 unfold qiT;rw[List.any_eq_false];intro y hy;obtain⟨b,e,_⟩:=(h y hy).s;rw[e];simp
theorem qn6 {N:Nat} (hN:600000<N):jQ N [48]=some 0:=by
 have:=(qfr hN (qfF.mono (show 1<=600 by omega))).2 Rat.le_refl
 rwa [T0]at this
theorem qj5 {N:Nat} (hN:600000<N) {nm dye:Str} {d s:Rat} (hn:nm.length<=60) (nn:qc0 nm=true) (sd:Sml d 600) (d0:0<d) (ss:Sml s 600) (s0:0<=s) (hd:dye.length<N) (hd2:dye.length<4611686018427387904) (od:dye=[]\/qc0 dye=true):
 zR N ⟨nm,T d,[48],[⟨[48],T s⟩],dye⟩=some 0/\zW N ⟨nm,T d,[48],[⟨[48],T s⟩],dye⟩=some 0:=by
 have n0:=qn6 hN;have ns:=(qfr hN ss).2 s0;have c0:=qfC (qfF.mono (show 1<=600 by omega));rw[T0]at c0;have f0:=qlq hN (qfF.mono (show 1<=600 by omega)) Rat.le_refl;rw[T0]at f0;have fs:=qlq hN ss s0
 have P:y9 N ⟨[48],T s⟩ []=some 0:=by
  unfold y9;simp only;rw[n0,ZB,ns,ZB,qgw (by omega)];rfl
 obtain⟨K,hK⟩: ∃K,N=K+1+1:=⟨N-2,by omega⟩
 have E:zM N [(⟨[48],T s⟩:zD)] 256=some 0:=by
  have e:qF N [(⟨[48],T s⟩:zD)] N 0=some (.inl ()):=by
   rw[show qF N [(⟨[48],T s⟩:zD)] N 0=qF N [(⟨[48],T s⟩:zD)] (K+1+1) 0 by rw[<-hK],qF,if_pos (by simp),
    show idx [(⟨[48],T s⟩:zD)] 0=some ⟨[48],T s⟩from rfl,ZB,show cut [(⟨[48],T s⟩:zD)] 0 0=some []from rfl,ZB,P,ZB,if_neg (by decide),show w64 (0+1)=1 from rfl,
    qF,if_neg (by simp)]
  unfold zM;rw[if_neg (by simp),e];rfl
 have O:vL N dye=some 0/\qaL N dye=some true:=by
  unfold vL qaL kK;rcases od with rfl|od
  ·exact⟨rfl,rfl⟩
  cases hb:(dye==[])with
  |true=>exact⟨rfl,rfl⟩
  |false=>
   rw[qcw hd,qdU hd hd2,od];exact⟨rfl,rfl⟩
 constructor
 ·unfold zR yN;simp only;rw[qcw (by omega),ZB,nn,(qfr hN sd).1 d0,qbT hN (show([48]:Str).length<=10000 by decide),c0,E,O.1];unfold kK;exact(by rw[qqQ (show 10<N by omega)];rfl:((zQ N [0,0,0,0,0,0]).bind fun r7=>some r7)=some 0)
 have e:qI N ⟨nm,T d,[48],[⟨[48],T s⟩],dye⟩ N 0=some (.inl ()):=by
  rw[show qI N ⟨nm,T d,[48],[⟨[48],T s⟩],dye⟩ N 0=qI N ⟨nm,T d,[48],[⟨[48],T s⟩],dye⟩ (K+1+1) 0 by rw[<-hK],qI,if_pos (by simp),
   show idx [(⟨[48],T s⟩:zD)] 0=some ⟨[48],T s⟩from rfl,ZB]
  simp only;rw[f0,ZB,if_pos rfl,fs,ZB,ZB,if_neg (by decide),if_neg (by decide),ZB,if_neg (by decide),show w64 (0+1)=1 from rfl,qI,if_neg (by simp)]
 unfold zW;simp only;rw[qdU (by omega) (by omega),ZB,nn,if_neg (by decide),qpz hN sd d0,ZB,if_pos rfl,qa0 hN (show([48]:Str).length<=10000 by decide),c0,ZB,ZB,if_neg (by decide),if_neg (by simp),if_neg (by simp),e,ZB];simp only;rw[O.2,ZB,if_neg (by decide)]
theorem grp {N k:Nat} (hN:600000<N) (hk:0<k) {c:UInt8} (hc:qc0 [c]=true) {l:List qw} (l0:0<l.length) (l12:l.length<=12) (h: ∀y∈l,GZ N k y) {f:Rat} (sf:Sml f 6) (f0:0<f) (f1:f<=1) (hb:1+(k+1)*l.length<=590):
 qa5 N [c] l [48] (T f)=some (⟨[c],T (vw l/f),[48],[⟨[48],T (qa6 0 l)⟩],dyL (dyH l) l (dyH l)⟩,0):=by
 have hg: ∀y∈l,qkL N y:=fun y hy=>(h y hy).g
 have hne:f≠0:=fun c=>by rw[c]at f0;exact absurd f0 (by decide)
 have c0:=qfC (qfF.mono (show 1<=600 by omega));rw[T0]at c0
 have hn:yN N [c]=some 0:=by
  unfold yN kK;rw[qcw (by simp;omega),ZB,hc];rfl
 have core:=qpB hN (name:=[c]) (l:=l) (u:=0) (f:=f) l0 l12 (qhY hg) hn (qqL hN l12 hg) (by rw[T0,qbT hN (show([48]:Str).length<=10000 by decide),c0]) ((qfr hN (sf.mono (show 6<=600 by omega))).1 f0) (qfF.mono (by omega)) (sf.mono (by omega)) f0;have lD:qfX (vw l/f)=false:=qiw ((qfd (by omega) (by omega) (qjG hk h) sf hne).mono (by omega));have lS:qfX (qa6 0 l)=false:=qiw ((qlS hk h).1.mono (by omega));rw[T0,if_neg (by grind),qpV,if_neg (by rw[anyD h];decide),if_neg (by rw[lD,lS];simp),T0]at core;exact core
theorem qki {N k:Nat} {l:List qw} (l0:0<l.length) (h: ∀y∈l,GZ N k y):(dyL (dyH l) l (dyH l)=[]\/qc0 (dyL (dyH l) l (dyH l))=true)/\ ∃y∈l,(dyL (dyH l) l (dyH l)).length<=y.Dye.length:=by
 obtain⟨y,hy,e⟩:=qqz l0;by_cases c: ∀y∈l,y.Dye=dyH l
 ·rw[(qml _ l).1 c,e];exact⟨(h y hy).o,y,hy,Nat.le_refl _⟩
 rw[(qml _ l).2 c];exact⟨.inl rfl,y,hy,by simp⟩
theorem qkB:qjd [48]=0:=by rw[<-T0];exact qaE 0
theorem qpv {N k:Nat} (hN:600000<N) {nm dye:Str} {d s:Rat} (hn:nm.length<=60) (nn:qc0 nm=true) (hk:0<k) (hk2:k<=60) (sd:Sml d k) (d0:0<d) (ss:Sml s k) (s0:0<=s) (hd:dye.length<=60) (od:dye=[]\/qc0 dye=true):
 GZ N k ⟨nm,T d,[48],[⟨[48],T s⟩],dye⟩:=by
 obtain⟨c1,c2⟩:=qj5 hN hn nn (sd.mono (show k<=600 by omega)) d0 (ss.mono (show k<=600 by omega)) s0 (dye:=dye) (by omega) (by omega) od;refine⟨⟨c1,c2,⟨⟨d,0,rfl,sd.mono hk2,d0,T0.symm,qfF.mono (by omega),by simp,by simp,fun j hj p hp=>?_,fun j hj=>?_⟩⟩⟩,⟨d,rfl,sd⟩,⟨s,?_,ss,s0⟩,od⟩
 ·have:j=0:=by simp at hj;omega
  subst this;simp at hp;subst hp;exact⟨0,s,by rw[T0],qfF.mono (by omega),ss.mono hk2,Rat.le_refl,s0⟩
 ·simp at hj
 unfold stY stA;dsimp only;rw[qkB,Rat.add_zero,stq];dsimp only;rw[qkB,qaE,show qlB 0=0 from rfl,if_neg (by decide)];rfl
end Go.Av
end
section
namespace Go.Av
def T6 (s:Str):Prop:= ∃q:Rat,s=T q/\Sml q 6
theorem qnF {N:Nat} (hN:600000<N) (s:Str): ∃b,xE N s 6=some b/\(b=true->T6 s):=by
 obtain⟨b,h1,h2⟩:=qr3 hN (s:=s) (d:=6) (by omega) (by omega);exact⟨b,h1,fun h=>by obtain⟨q,e,s,_⟩:=h2 h;exact⟨q,e,s⟩⟩
theorem qrv {N:Nat} (hN:600000<N) (x:qw) (hl:x.Strength.length<=1000): ∀(K i:Nat),i<=x.Strength.length->x.Strength.length<K+i->(∀j,j<i-> ∀p,x.Strength[j]? =some p->T6 p.X/\T6 p.Y)->
 ku N x K (i:Int)=some (.inr false)\/(ku N x K (i:Int)=some (.inl ())/\ ∀p∈x.Strength,T6 p.X/\T6 p.Y)
 |0,i,h,hK,hp=>by omega
 |K+1,i,h,hK,hp=>by
  unfold ku;by_cases hi:i<x.Strength.length
  ·have hx:x.Strength[i]? =some x.Strength[i]:=Ya hi;obtain⟨a,a1,a2⟩:=qnF hN x.Strength[i].X;obtain⟨b,b1,b2⟩:=qnF hN x.Strength[i].Y;rw[if_pos (by omega),qy,hx,ZB,a1,ZB]
   cases a with
   |false=>exact .inl rfl
   |true=>
    rw[if_neg (by decide),b1,ZB,ZB]
    cases b with
    |false=>exact .inl rfl
    |true=>
     rw[if_neg (by decide),ky (by omega)];refine qrv hN x hl K (i+1) (by omega) (by omega) (fun j hj p hp2=>?_);by_cases c:j=i
     ·subst c;rw[hx]at hp2;obtain rfl:=Ye hp2;exact⟨a2 rfl,b2 rfl⟩
     exact hp j (by omega) p hp2
  rw[if_neg (by omega)];refine .inr ⟨rfl,fun p hm=>?_⟩;obtain⟨j,hj,rfl⟩:=List.getElem_of_mem hm;exact hp j (by omega) _ (Ya hj)
theorem qlP {a:Rat}: ∀(l:List zD) (b:Rat),∃c,stq a l (some b)=some c
 |[],b=>⟨b,rfl⟩
 |p::l,b=>by
  rw[stq];split
  ·exact⟨b,rfl⟩
  exact qlP l _
theorem qqD (v:Rat):0<=qlB v:=by
 unfold qlB;split
 ·rename_i h
  have: ¬0<=v:=fun c=>by have:=Rat.num_nonneg.2 c;omega
  grind
 rename_i h;exact Rat.num_nonneg.1 (by omega)
structure GY (N:Nat) (y:qw):Prop where
 z:GZ N 6 y
 len:y.Dye.length<=60
theorem qrr {N:Nat} (hN:600000<N) {l:List qw} (hl:l.length<=1000): ∀(K i:Nat),i<=l.length->l.length<K+i->(∀j,j<i-> ∀y,l[j]? =some y->GY N y)->
 kw N l K (i:Int)=some (.inr false)\/(kw N l K (i:Int)=some (.inl ())/\ ∀y∈l,GY N y)
 |0,i,h,hK,hp=>by omega
 |K+1,i,h,hK,hp=>by
  unfold kw;by_cases hi:i<l.length
  ·have hx:l[i]? =some l[i]:=Ya hi;generalize hy:l[i]=y at hx;obtain⟨b,hb2,fb⟩:=qoJ hN y;rw[if_pos (by omega),qy,hx,ZB,hb2,ZB]
   cases b with
   |false=>exact .inl rfl
   |true=>
   obtain⟨h1,h2,h3,h4,h5,h6,hs⟩:=fb rfl;obtain⟨e,e1,e2,e3⟩:=qnG hN h1 h2 h3 h4 h6 hs;rw[if_neg (by decide),e2,ZB];by_cases he:e=0
   case neg=>rw[if_pos (by rw[decide_eq_false he];rfl)];exact .inl rfl
   subst he;obtain⟨Y⟩:=e3 rfl;rw[if_neg (by decide)];by_cases h8:(y.Strength.length:Int)>8
   ·rw[if_pos h8];exact .inl rfl
   rw[if_neg h8];have hp0:y.Strength[0]? =some (y.Strength[0]'Y.ne):=Ya Y.ne;obtain⟨x0,b0,ep,_,_,_,b0n⟩:=Y.pts.1 0 Y.ne _ hp0;rw[ep]at hp0;rw[show idx y.Strength 0=y.Strength[0]? from qbG _,hp0,ZB];by_cases hz:T x0=[48]
   case neg=>rw[if_pos (by simp[hz])];exact .inl rfl
   rw[if_neg (by simp[hz])];obtain⟨a,a1,a2⟩:=qnF hN y.Density;rw[a1,ZB]
   cases a with
   |false=>exact .inl rfl
   |true=>
   obtain⟨d,d1,d2⟩:=qnF hN y.Twist;rw[if_neg (by decide),d1,ZB,ZB]
   cases d with
   |false=>exact .inl rfl
   |true=>
   rw[if_neg (by decide)];rcases qrv hN y (by omega) N 0 (by omega) (by omega) (fun j hj=>by omega)with g|⟨g1,g2⟩
   ·rw[show((0:Nat):Int)=0 from rfl]at g;rw[g];exact .inl rfl
   rw[show((0:Nat):Int)=0 from rfl]at g1;rw[g1,ZB,ky (by omega)];have hx0:x0=0:=qjr (by rw[hz,T0])
   have hst: ∃b:Rat,stY 0 y=some b/\Sml b 6/\0<=b:=by
    have hc:y.Strength=⟨T x0,T b0⟩::y.Strength.tail:=by
     cases hq:y.Strength with
     |nil=>rw[hq]at hp0;simp at hp0
     |cons p q=>rw[hq]at hp0;simp at hp0;rw[hp0];rfl
    obtain⟨c,hc2⟩:=qlP (a:=qlB (qjd y.Twist+0)) y.Strength.tail b0
    have e:stY 0 y=some c:=by
     unfold stY stA;rw[hc,stq];dsimp only;rw[qaE,qaE,hx0,if_neg (by have:=qqD (qjd y.Twist+0);grind)];exact hc2
    refine⟨c,e,?_,?_⟩
    ·rcases qjZ e with h0|⟨p,hp,e⟩
     ·cases h0
     obtain⟨q,eq,sq⟩:=(g2 p hp).2;rw[e,eq,qaE];exact sq
    rcases qjZ e with h0|⟨p,hp,e⟩
    ·cases h0
    obtain⟨j,hj,hj2⟩:=List.getElem_of_mem hp;obtain⟨u,v,ep2,_,_,_,v0⟩:=Y.pts.1 j hj p (by rw[Ya hj,hj2]);rw[e,ep2,qaE];exact v0
   have hdye:y.Dye=[]\/qc0 y.Dye=true:=by
    cases hq:(y.Dye==[])with
    |true=>exact .inl (by simpa using hq)
    |false=>
     refine .inr ?_
     cases hn:qc0 y.Dye with
     |true=>rfl
     |false=>
      exfalso
      have o:vL N y.Dye=some 8:=by
       unfold vL kK;rw[hq,qcw (by omega),hn];rfl
      have h:=e1;unfold zR at h
      cases k1:yN N y.Name with
      |none=>rw[k1]at h;cases h
      |some r1=>
      rw[k1,ZB]at h
      cases k2:jl N y.Density with
      |none=>rw[k2]at h;cases h
      |some r2=>
      rw[k2,ZB]at h
      cases k3:vM N y.Twist with
      |none=>rw[k3]at h;cases h
      |some r3=>
      rw[k3,ZB]at h
      cases k4:kK (decide ((y.Strength.length:Int)=0)) 12 with
      |none=>rw[k4]at h;cases h
      |some r4=>
      rw[k4,ZB]at h
      cases k5:zM N y.Strength 256 with
      |none=>rw[k5]at h;cases h
      |some r5=>
      rw[k5,ZB,o,ZB,qhx (by omega),ZB]at h;have h:=Ye h;by_cases a1:r1=0
      ·by_cases a2:r2=0
       ·by_cases a3:r3=0
        ·by_cases a4:r4=0
         ·by_cases a5:r5=0
          ·rw[if_pos a1,if_pos a2,if_pos a3,if_pos a4,if_pos a5]at h;exact absurd h (by decide)
          rw[if_pos a1,if_pos a2,if_pos a3,if_pos a4,if_neg a5]at h;exact absurd h a5
         rw[if_pos a1,if_pos a2,if_pos a3,if_neg a4]at h;exact absurd h a4
        rw[if_pos a1,if_pos a2,if_neg a3]at h;exact absurd h a3
       rw[if_pos a1,if_neg a2]at h;exact absurd h a2
      rw[if_neg a1]at h;exact absurd h a1
   refine qrr hN hl K (i+1) (by omega) (by omega) (fun j hj y2 hy2=>?_);by_cases c:j=i
   ·subst c;rw[hx]at hy2;obtain rfl:=Ye hy2;exact⟨⟨⟨e1,e2,⟨Y⟩⟩,a2 rfl,hst,hdye⟩,h4⟩
   exact hp j (by omega) y2 hy2
  rw[if_neg (by omega)];refine .inr ⟨rfl,fun y hm=>?_⟩;obtain⟨j,hj,rfl⟩:=List.getElem_of_mem hm;exact hp j (by omega) _ (Ya hj)
theorem qkZ {N:Nat} (hN:600000<N) (l:List qw): ∃b,jG N l=some b/\(b=true->0<l.length/\l.length<=4/\ ∀y∈l,GY N y):=by
 unfold jG;by_cases h1:(l.length:Int)<1
 ·rw[if_pos h1];exact⟨false,rfl,fun h=>by cases h⟩
 rw[if_neg h1];by_cases h4:(l.length:Int)>4
 ·rw[decide_eq_true h4];exact⟨false,rfl,fun h=>by cases h⟩
 rw[decide_eq_false h4,ZB,if_neg (by decide)];rcases qrr hN (l:=l) (by omega) N 0 (by omega) (by omega) (fun j hj=>by omega)with g|⟨g1,g2⟩
 ·rw[show((0:Nat):Int)=0 from rfl]at g;rw[g];exact⟨false,rfl,fun h=>by cases h⟩
 rw[show((0:Nat):Int)=0 from rfl]at g1;rw[g1];exact⟨true,rfl,fun _=>⟨by omega,by omega,g2⟩⟩
theorem T100:T ((100:Int):Rat)=[49,48,48]:=by
 rw[show((100:Int):Rat)=(((100:Nat):Int):Rat)from rfl,<-qrC,qei (by decide),qei (by decide),jc (by decide)];rfl
theorem qoW {N:Nat} (hN:600000<N) {f g:Rat} {fs gs:Str} (ef:fs=T f) (eg:gs=T g) {l:List qw} (hl:l.length<=8) (h: ∀y∈l,GZ N 6 y) {q:Rat} (sq:Sml q 15) (q0:0<=q) (sf:Sml f 6) (sg:Sml g 6) (hq:qcz N [49,48,48] (T (f*g))=some (T q)):
 ∀(K i:Nat) (a:Rat),i<=l.length->l.length<K+i->Sml a (1+22*i)->qP N (fs,gs) l K (i:Int) (T a)=some (.inl (T (a+vw (l.drop i)*q)))
 |0,i,a,hi,hK,sa=>by omega
 |K+1,i,a,hi,hK,sa=>by
  unfold qP;by_cases c:i<l.length
  ·have hx:l[i]? =some l[i]:=Ya c;have Z:=h _ (List.getElem_mem c);obtain⟨d,ed,sd⟩:=Z.d;have sp:Sml (d*q) 21:=(qf9 (by omega) (by omega) sd sq);have m:=qlj hN Z.g.1 ed ((qfr hN (sq.mono (show 15<=600 by omega))).2 q0) (sd.mono (by omega)) (sq.mono (by omega));rw[qk3 (sp.mono (by omega))]at m
   have ck:yK N (T (d*q))=some 0:=by
    have:=qgl sp;rw[qa0 hN (by omega),qfC (sp.mono (by omega))]
   have sa2:=(qiv (by omega) (by omega) sa sp).mono (show 1+22*i+21+1<=1+22*(i+1)by omega);rw[if_pos (by omega),qy,hx,ZB,ef,eg,qhB hN (k:=6) (by omega) (by omega) sf sg,ZB,hq,ZB,m,ZB,if_neg (show¬(!decide ((T (d*q),(0:Int)).2=0))=true by simp),ck,ZB,ZB,if_neg (by decide),qm2 hN (k:=300) (by omega) (by omega) (sa.mono (by omega)) (sp.mono (by omega)),ZB,ky (by omega),YG c,vw,ed,qaE,Rat.add_mul,<-Rat.add_assoc];rw[<-ef,<-eg];exact qoW hN ef eg hl h sq q0 sf sg hq K (i+1) _ (by omega) (by omega) sa2
  rw[if_neg (by omega),List.drop_eq_nil_of_le (by omega),vw,Rat.zero_mul,Rat.add_zero]
theorem qep {N:Nat} (hN:600000<N) (a b:List qw) (factor:Str×Str):jN N a b factor=some true:=by
 unfold jN awk;obtain⟨fs,gs⟩:=factor;dsimp only;obtain⟨x,x1,x2⟩:=qkZ hN a;rw[x1,ZB]
 cases x with
 |false=>rfl
 |true=>
 obtain⟨y,y1,y2⟩:=qkZ hN b;rw[if_neg (by decide),y1,ZB]
 cases y with
 |false=>rfl
 |true=>
 obtain⟨z,z1,z2⟩:=qnF hN fs;rw[if_neg (by decide),z1,ZB]
 cases z with
 |false=>rfl
 |true=>
 obtain⟨w,w1,w2⟩:=qnF hN gs;rw[if_neg (by decide),w1,ZB]
 cases w with
 |false=>rfl
 |true=>
 obtain⟨a0,a4,ha⟩:=x2 rfl;obtain⟨b0,b4,hb⟩:=y2 rfl;obtain⟨f,ef,sf⟩:=z2 rfl;obtain⟨g,eg,sg⟩:=w2 rfl;subst ef;subst eg;rw[if_neg (by decide),qrq hN (sf.mono (by omega)),ZB,qrq hN (sg.mono (by omega)),ZB];by_cases f0:0<f
 case neg=>
  rw[if_neg f0];by_cases g0:0<g
  ·rw[if_pos g0];rfl
  rw[if_neg g0];rfl
 by_cases g0:0<g
 case neg=>rw[if_pos f0,if_neg g0];rfl
 rw[if_pos f0,if_pos g0,if_neg (show¬(!decide ((w64 ((0:Int)+0))=0))=true by decide)];have s1:Sml ((1:Int):Rat) 27:=qg5 (n:=1) (by omega) (by omega) (by omega);have cf:=qfp hN (k:=27) (by omega) (by omega) (sf.mono (by omega)) s1;have cg:=qfp hN (k:=27) (by omega) (by omega) (sg.mono (by omega)) s1;rw[show T ((1:Int):Rat)=[49]from T1n,show((1:Int):Rat)=(1:Rat)from rfl]at cf cg;rw[cf,ZB,cg]
 have gt: ∀q:Rat,((if q<1 then(-1:Int)else if q=1 then 0 else 1)>0)↔1<q:=fun q=>by
  by_cases c:q<1
  ·rw[if_pos c];constructor
   ·intro h;exact absurd h (by decide)
   intro h;grind
  rw[if_neg c];by_cases d:q=1
  ·rw[if_pos d];constructor
   ·intro h;exact absurd h (by decide)
   intro h;grind
  rw[if_neg d];constructor
  ·intro h;grind
  intro h;decide
 by_cases f1:1<f
 ·rw[if_pos ((gt f).2 f1)];rfl
 rw[if_neg (fun h=>f1 ((gt f).1 h)),ZB];by_cases g1:1<g
 ·rw[decide_eq_true ((gt g).2 g1)];rfl
 rw[decide_eq_false (fun h=>g1 ((gt g).1 h)),ZB,if_neg (by decide)]
 have za: ∀y∈a,GZ N 6 y:=fun y hy=>(ha y hy).z
 have zb: ∀y∈b,GZ N 6 y:=fun y hy=>(hb y hy).z
 have fne:f≠0:=fun c=>by rw[c]at f0;exact absurd f0 (by decide)
 have gne:g≠0:=fun c=>by rw[c]at g0;exact absurd g0 (by decide)
 have f1':f<=1:=by grind
 have g1':g<=1:=by grind
 have pa:=grp hN (k:=6) (by omega) (c:=120) (by decide) a0 (by omega) za sf f0 f1' (by omega);have pb:=grp hN (k:=6) (by omega) (c:=121) (by decide) b0 (by omega) zb sf f0 f1' (by omega);have da:=qjG (by omega) za;have db:=qjG (by omega) zb;obtain⟨sa,sa0⟩:=qlS (by omega) za;obtain⟨sb,sb0⟩:=qlS (by omega) zb;have dap:=qio (qhY fun y hy=>(za y hy).g) a0;have dbp:=qio (qhY fun y hy=>(zb y hy).g) b0;have qa:=qfd (by omega) (by omega) da sf fne;have qb:=qfd (by omega) (by omega) db sf fne
 have dpos: ∀d:Rat,0<d->0<d/f:=fun d hd=>by
  have:=(qp8 hd f0 f1').1;grind
 obtain⟨oa,ya,hya,la⟩:=qki a0 za;obtain⟨ob,yb,hyb,lb⟩:=qki b0 zb;have la':=(ha ya hya).len;have lb':=(hb yb hyb).len;have Zx:=qpv hN (nm:=[120]) (dye:=dyL (dyH a) a (dyH a)) (k:=35) (by simp) (by decide) (by omega) (by omega) (qa.mono (by omega)) (dpos _ dap) (sa.mono (by omega)) sa0 (by omega) oa;have Zy:=qpv hN (nm:=[121]) (dye:=dyL (dyH b) b (dyH b)) (k:=35) (by simp) (by decide) (by omega) (by omega) (qb.mono (by omega)) (dpos _ dbp) (sb.mono (by omega)) sb0 (by omega) ob;rw[pa,ZB,pb,ZB];dsimp only;generalize hX:(⟨[120],T (vw a/f),[48],[⟨[48],T (qa6 0 a)⟩],dyL (dyH a) a (dyH a)⟩:qw)=X at*;generalize hY:(⟨[121],T (vw b/f),[48],[⟨[48],T (qa6 0 b)⟩],dyL (dyH b) b (dyH b)⟩:qw)=Y at*
 have zz: ∀y∈[X,Y],GZ N 35 y:=fun y hy=>by
  simp only[List.mem_cons,List.not_mem_nil,or_false]at hy;rcases hy with rfl|rfl
  ·exact Zx
  exact Zy
 have pz:=grp hN (k:=35) (by omega) (c:=122) (by decide) (l:=[X,Y]) (by simp) (by simp) zz sg g0 g1' (by simp)
 have zab: ∀y∈a++b,GZ N 6 y:=fun y hy=>(List.mem_append.1 hy).elim (za y) (zb y)
 have hne1:Sml (1:Rat) 6:=sml_1.mono (by omega);have po:=grp hN (k:=6) (by omega) (c:=122) (by decide) (l:=a++b) (by rw[Yq];omega) (by rw[Yq];omega) zab hne1 (by decide) (by decide) (by rw[Yq];omega);rw[T1n]at po;rw[pz,ZB,qcH (by simp;omega) (by simp;omega),ZB,List.nil_append,qcH (by omega) (by omega),ZB,po,ZB]
 have e2:vw [X,Y]=vw a/f+vw b/f:=by
  rw[vw,vw,vw,Rat.add_zero,<-hX,<-hY];dsimp only;rw[qaE,qaE]
 have st1: ∀(nm dye:Str) (d s:Rat),stY 0 ⟨nm,T d,[48],[⟨[48],T s⟩],dye⟩=some s:=fun nm dye d s=>by
  unfold stY stA;dsimp only;rw[qkB,Rat.add_zero,stq];dsimp only;rw[qkB,qaE,show qlB 0=0 from rfl,if_neg (by decide)];rfl
 have e3:qa6 0 [X,Y]=qa6 0 (a++b):=by
  rw[qa6,qa6,qa6,Rat.add_zero,<-hX,<-hY,st1,st1,qoC];rfl
 have e4:vw (a++b)/1=vw a+vw b:=by rw[qiB,div_1]
 have hdq:=qjG (by omega) zz
 have ab0:0<vw a/f+vw b/f:=by
  have:=dpos _ dap;have:=dpos _ dbp;grind
 have sD:Sml ((vw a/f+vw b/f)/g) 79:=by
  rw[<-e2];exact(qfd (by omega) (by omega) hdq sg gne).mono (by simp)
 have sO:Sml (vw a+vw b) 58:=by
  have:=qjG (by omega) zab;rw[qiB]at this;exact this.mono (by rw[Yq];omega)
 obtain⟨sS,sS0⟩:=qlS (by omega) zab;have sS:=sS.mono (show 1+(6+1)*(a++b).length<=600 by rw[Yq];omega);obtain⟨oz,yz,hyz,lz⟩:=qki (by simp) zz;obtain⟨oo,yo,hyo,lo⟩:=qki (by rw[Yq];omega) zab
 have lX:yz.Dye.length<=60:=by
  simp only[List.mem_cons,List.not_mem_nil,or_false]at hyz;rcases hyz with rfl|rfl
  ·rw[<-hX];dsimp only;omega
  rw[<-hY];dsimp only;omega
 have lO:yo.Dye.length<=60:=(List.mem_append.1 hyo).elim (fun h=>(ha yo h).len) (fun h=>(hb yo h).len)
 have dz0:0<(vw a/f+vw b/f)/g:=by
  have:=(qp8 ab0 g0 g1').1;grind
 have cz:=qj5 hN (nm:=[122]) (dye:=dyL (dyH [X,Y]) [X,Y] (dyH [X,Y])) (by simp) (by decide) (sD.mono (show 79<=600 by omega)) dz0 sS sS0 (by omega) (by omega) oz;have co:=qj5 hN (nm:=[122]) (dye:=dyL (dyH (a++b)) (a++b) (dyH (a++b))) (by simp) (by decide) (sO.mono (show 58<=600 by omega)) (by grind) sS sS0 (by omega) (by omega) oo;rw[e2,e3,e4];dsimp only
 rw[if_neg (show¬(!decide ((0:Int)=0))=true by decide),if_neg (show¬(!decide ((0:Int)=0))=true by decide),if_neg (show¬(!decide ((0:Int)=0))=true by decide),if_neg (show¬(!decide ((0:Int)=0))=true by decide),if_neg (by simp),if_neg (by simp),
  show idx ([⟨[48],T (qa6 0 (a++b))⟩]:List zD) 0=some ⟨[48],T (qa6 0 (a++b))⟩from rfl,ZB,ZB]
 dsimp only;rw[if_neg (by simp),cz.2,ZB,co.2,ZB,show(some (!decide ((w64 ((0:Int)+0))=0)):Option Bool)=some false from by decide,ZB,if_neg (by decide)];have sfg:Sml (f*g) 12:=qf9 (by omega) (by omega) sf sg
 have fg0:f*g≠0:=fun c=>(Rat.mul_eq_zero.1 c).elim fne gne
 have k1:(vw a/f+vw b/f)/g*(f*g)=vw a+vw b:=by
  rw[Rat.mul_comm f g,<-Rat.mul_assoc,Rat.div_mul_cancel gne,Rat.add_mul,Rat.div_mul_cancel fne,Rat.div_mul_cancel fne]
 rw[qhB hN (k:=6) (by omega) (by omega) sf sg,ZB,qhB hN (k:=100) (by omega) (by omega) (sD.mono (by omega)) (sfg.mono (by omega)),ZB,k1,beq_self_eq_true,if_neg (by decide)];have s100:Sml ((100:Int):Rat) 3:=qcY (by omega) (by rw[T100];simp);have n100:=(qfr hN (s100.mono (show 3<=600 by omega))).2 (by decide);have mz:=qlj hN cz.1 rfl n100 (sD.mono (by omega)) (s100.mono (by omega));rw[qk3 ((qf9 (by omega) (by omega) sD s100).mono (by omega)),T100]at mz;rw[mz,ZB,if_neg (by simp)];have hdiv:=qrh hN (k:=12) (by omega) (by omega) (s100.mono (show 3<=12 by omega)) sfg fg0;rw[T100]at hdiv;have s15:Sml (((100:Int):Rat)/(f*g)) 15:=qfd (by omega) (by omega) s100 sfg fg0;have fgp:0<f*g:=Rat.mul_pos f0 g0
 have q0:0<=((100:Int):Rat)/(f*g):=by
  rw[Rat.div_def];exact Rat.mul_nonneg (by decide) (Rat.le_of_lt (Rat.inv_pos.2 fgp))
 have ml:=qoW hN (f:=f) (g:=g) rfl rfl (l:=a++b) (by rw[Yq];omega) zab s15 q0 sf sg hdiv N 0 0 (by omega) (by rw[Yq];omega) qfF;rw[show((0:Nat):Int)=0 from rfl,YR,T0,Rat.zero_add,qiB]at ml
 have k2:(vw a/f+vw b/f)/g*((100:Int):Rat)=(vw a+vw b)*(((100:Int):Rat)/(f*g)):=by
  rw[<-k1,Rat.div_def ((100:Int):Rat),Rat.mul_assoc,Rat.mul_comm ((100:Int):Rat),<-Rat.mul_assoc (f*g),Rat.mul_inv_cancel _ fg0,Rat.one_mul]
 rw[ml,ZB,<-k2];simp
end Go.Av
end
