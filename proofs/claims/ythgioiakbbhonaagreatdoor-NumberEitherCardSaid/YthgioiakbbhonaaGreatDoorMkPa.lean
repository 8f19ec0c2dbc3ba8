/-
  Digits to any base.
-/
import Derived.Test.YthgioiakbbhonaaGreatDoorAvPt
import Derived.Test.YthgioiakbbhonaaGreatDoorQGenEi
open Go.IntKind(wrap)
noncomputable section
set_option linter.unusedVariables false
set_option linter.unusedSimpArgs false
set_option maxRecDepth 100000
noncomputable section
namespace Go.Av
def dv (B:Int):List Int->Int
 |[]=>0
 |x::l=>x+B*dv B l
def Dg (B:Int) (l:List Int):Prop:= ∀x∈l,0<=x/\x<B
theorem Dg.nil {B:Int}:Dg B []:=λx h=>by cases h
theorem Dg.cons {B x:Int} {l:List Int} (h:0<=x/\x<B) (k:Dg B l):Dg B (x::l):=λy hy=>by
 rcases bK.1 hy with rfl|hy
 ·exact h
 exact k y hy
theorem Dg.head {B x:Int} {l:List Int} (h:Dg B (x::l)):0<=x/\x<B:=h x (dY ..)
theorem Dg.tail {B x:Int} {l:List Int} (h:Dg B (x::l)):Dg B l:=λy hy=>h y (List.mem_cons_of_mem _ hy)
theorem Dg.take {B:Int} {l:List Int} (h:Dg B l) (n:Nat):Dg B (l.take n):=λy hy=>h y (dh hy)
theorem Dg.drop {B:Int} {l:List Int} (h:Dg B l) (n:Nat):Dg B (l.drop n):=λy hy=>h y (List.mem_of_mem_drop hy)
theorem Dg.append {B:Int} {l r:List Int} (h:Dg B l) (k:Dg B r):Dg B (l++r):=λy hy=>by
 rcases cz.1 hy with hy|hy
 ·exact h y hy
 exact k y hy
theorem Dg.set {B:Int} {l:List Int} (h:Dg B l) {i:Nat} {v:Int} (hv:0<=v/\v<B):Dg B (l.set i v):=λy hy=>by
 rcases List.mem_or_eq_of_mem_set hy with hy|rfl
 ·exact h y hy
 exact hv
theorem Dg.at {B:Int} {l:List Int} (h:Dg B l) {i:Nat} (hi:i<l.length):0<=l[i]/\l[i]<B:=h _ (bq hi)
theorem Um {B:Int} (hB:0<B) (n:Nat):Dg B (List.replicate n 0):=λy hy=>by
 rw[(List.mem_replicate.1 hy).2];omega
theorem zz (B:Int):dv B []=0:=rfl
theorem zR (B x:Int) (l:List Int):dv B (x::l)=x+B*dv B l:=rfl
theorem xY (B:Int): ∀(l r:List Int),dv B (l++r)=dv B l+B^l.length*dv B r
 |[],r=>by simp[dv]
 |x::l,r=>by
  rw[cK,zR,zR,xY B l r,Yr,aE];grind
theorem qay (B:Int): ∀n,dv B (List.replicate n 0)=0
 |0=>rfl
 |n+1=>by rw[dQ,zR,qay B n];simp
theorem qF {B:Int} (hB:0<B): ∀{l:List Int},Dg B l->0<=dv B l
 |[],_=>bU _
 |x::l,h=>by
  have h1:=h.head;have h2:=Yv (aq hB) (qF hB h.tail);rw[zR];omega
theorem pow_pos {B:Int} (hB:0<B): ∀n:Nat,0<B^n
 |0=>by simp
 |n+1=>by rw[aE];exact cG (pow_pos hB n) hB
theorem xU {B:Int} (hB:0<B): ∀{l:List Int},Dg B l->dv B l<B^l.length
 |[],_=>by simp[dv]
 |x::l,h=>by
  have h1:=h.head;have h2:=xU hB h.tail;have h3:B*(dv B l+1)<=B*B^l.length:=Yc (by omega) (aq hB);rw[zR,Yr,aE,aD (B^l.length)];rw[Int.mul_add,bN]at h3;omega
theorem qbD (B:Int): ∀(l:List Int) (i:Nat) (v:Int) (h:i<l.length),dv B (l.set i v)=dv B l+B^i*(v-l[i])
 |[],i,v,h=>by simp at h
 |x::l,0,v,h=>by
  rw[List.set_cons_zero,zR,zR];simp only[ce,List.getElem_cons_zero];omega
 |x::l,i+1,v,h=>by
  have:=qbD B l i v (by simpa using h);rw[List.set_cons_succ,zR,zR,this,aE];simp only[List.getElem_cons_succ];grind
theorem qy (B:Int) (l:List Int) (i:Nat) (h:i<l.length):dv B (l.take (i+1))=dv B (l.take i)+B^i*l[i]:=by
 rw[cf h,xY,Ym,aP (Nat.le_of_lt h),zR,zz];simp
theorem qab (B:Int) (l:List Int) (k:Nat) (h:k<=l.length):dv B l=dv B (l.take k)+B^k*dv B (l.drop k):=by
 have:=xY B (l.take k) (l.drop k);rw[YS,Ym,aP h]at this;exact this
def Can (B:Int) (l:List Int):Prop:=Dg B l/\ ∀x,l.getLast? =some x->x≠0
theorem Can.nil {B:Int}:Can B []:=⟨Dg.nil,λx h=>by simp at h⟩
theorem Can.tail {B x:Int} {l:List Int} (h:Can B (x::l)):Can B l:=⟨h.1.tail,λy hy=>h.2 y (by
 cases l with
 |nil=>simp at hy
 |cons a l=>rw[List.getLast?_cons_cons];exact hy)⟩
theorem Can.pos {B:Int} (hB:1<B): ∀{l:List Int},Can B l->l≠[]->0<dv B l
 |[],_,h=>absurd rfl h
 |x::l,h,_=>by
  have h1:=h.1.head;rw[zR]
  cases l with
  |nil=>
   have:=h.2 x (by simp);rw[zz];omega
  |cons y l=>
   have h2:=h.tail.pos hB (by simp);have h3:0<B*dv B (y::l):=cG (by omega) h2;omega
theorem Can.uniq {B:Int} (hB:1<B): ∀{l r:List Int},Can B l->Can B r->dv B l=dv B r->l=r
 |[],[],_,_,_=>rfl
 |[],y::r,_,k,e=>by have:=k.pos hB (by simp);rw[<-e,zz]at this;omega
 |x::l,[],h,_,e=>by have:=h.pos hB (by simp);rw[e,zz]at this;omega
 |x::l,y::r,h,k,e=>by
  rw[zR,zR]at e;have h1:=h.1.head;have k1:=k.1.head
  have e1:x=y:=by
   have a:(x+B*dv B l)%B=x:=by rw[bi];exact bA h1.1 h1.2
   have b:(y+B*dv B r)%B=y:=by rw[bi];exact bA k1.1 k1.2
   rw[<-a,<-b,e]
  have e2:dv B l=dv B r:=Int.eq_of_mul_eq_mul_left (by omega) (show B*dv B l=B*dv B r by omega);rw[e1,h.tail.uniq hB k.tail e2]
theorem Can.low {B:Int} (hB:1<B): ∀{l:List Int} {n:Nat},Can B l->l.length=n+1->B^n<=dv B l
 |[],n,_,h=>by simp at h
 |x::l,0,h,hn=>by
  have:=h.pos hB (by simp);simp only[ce];omega
 |x::l,n+1,h,hn=>by
  have h1:=h.1.head;have h2:=h.tail.low hB (n:=n) (by simpa using hn);have h3:B*B^n<=B*dv B l:=Yc h2 (by omega);rw[zR,aE,aD (B^n)];omega
def dgF (B:Int):Nat->Int->List Int
 |0,_=>[]
 |t+1,z=>if z<=0 then[]else z%B::dgF B t (z/B)
def dg (B z:Int):List Int:=dgF B z.toNat z
theorem qg0 {B:Int} (hB:1<B): ∀(t:Nat) (z:Int),0<=z->z<=t->Can B (dgF B t z)/\dv B (dgF B t z)=z
 |0,z,h1,h2=>⟨Can.nil,by rw[dgF,zz];omega⟩
 |t+1,z,h1,h2=>by
  rw[dgF];split
  ·exact⟨Can.nil,by rw[zz];omega⟩
  rename_i hz;have hd:=aw z B;have hm:=aC z (show B≠0 by omega);have hm2:=ar z (show 0<B by omega);have hq:0<=z/B:=aM h1 (by omega);have hq2:z/B<z:=Int.ediv_lt_self_of_pos_of_ne_one (by omega) (by omega);obtain⟨c,e⟩:=qg0 hB t (z/B) hq (by omega);refine⟨⟨Dg.cons ⟨hm,hm2⟩ c.1,λx hx=>?_⟩,by rw[zR,e];omega⟩
  cases hl:dgF B t (z/B)with
  |nil=>
   rw[hl]at hx e;rw[zz]at e;rw[<-e,aO]at hd;simp only[List.getLast?_singleton,ZI]at hx;omega
  |cons a l=>
   rw[hl,List.getLast?_cons_cons]at hx;exact c.2 x (by rw[hl];exact hx)
theorem jD {B:Int} (hB:1<B) {z:Int} (h:0<=z):Can B (dg B z):=(qg0 hB _ z h (by omega)).1
theorem vY {B:Int} (hB:1<B) {z:Int} (h:0<=z):dv B (dg B z)=z:=(qg0 hB _ z h (by omega)).2
theorem qpp {B:Int} (hB:1<B) {l:List Int} (h:Can B l):dg B (dv B l)=l:=
 (jD hB (qF (by omega) h.1)).uniq hB h (vY hB (qF (by omega) h.1))
theorem qet (B:Int):dg B 0=[]:=rfl
theorem qh9 {B:Int} (hB:1<B) {z:Int} (h:0<=z):dg B z=[]↔z=0:=by
 constructor
 ·intro e;have:=vY hB h;rw[e,zz]at this;exact this.symm
 rintro rfl;rfl
theorem xe {B:Int} (hB:1<=B) {m n:Nat} (h:m<=n):B^m<=B^n:=by
 obtain⟨k,rfl⟩:=Nat.exists_eq_add_of_le h;rw[Int.pow_add]
 have h1:1<=B^k:=by have:=pow_pos (show 0<B by omega) k;omega
 have h2:=Yc h1 (aq (pow_pos (show 0<B by omega) m));omega
theorem qdM {B:Int} (hB:1<B) {z:Int} (h:0<=z) {n:Nat}:(dg B z).length<=n↔z<B^n:=by
 constructor
 ·intro hl;have h1:=xU (show 0<B by omega) (jD hB h).1;have h2:=xe (show 1<=B by omega) hl;rw[vY hB h]at h1;omega
 intro hz
 cases e:(dg B z).length with
 |zero=>omega
 |succ m=>
  have h1:=(jD hB h).low hB e;rw[vY hB h]at h1;rcases ak m n with h2|h2
  ·exact h2
  have:=xe (show 1<=B by omega) h2;omega
theorem qkK {B:Int} {z:Int} (h0:0<z) (h:z<B):dg B z=[z]:=by
 have hB:1<B:=by omega
 refine(jD hB (by omega)).uniq hB ⟨Dg.cons ⟨by omega,h⟩ Dg.nil,λx hx=>?_⟩ ?_
 ·simp only[List.getLast?_singleton,ZI]at hx;omega
 rw[vY hB (by omega),zR,zz];omega
theorem qmY {B:Int} (hB:1<B) {w:List Int} (h:Dg B w) {m:Nat} (hm:m<=w.length) (h0: ∀x,0<m->w[m-1]? =some x->x≠0) (hz: ∀(i:Nat) x,m<=i->w[i]? =some x->x=0):w.take m=dg B (dv B w):=by
 have hc:Can B (w.take m):=⟨h.take m,λx hx=>by
  rw[List.getLast?_eq_getElem?,Ym,aP hm]at hx
  cases m with
  |zero=>simp at hx
  |succ m=>
   refine h0 x (by omega) ?_;rw[Yt]at hx;split at hx
   ·exact hx
   cases hx⟩
 have e:dv B w=dv B (w.take m):=by
  rw[qab B w m hm]
  have:w.drop m=List.replicate (w.length-m) 0:=by
   refine List.ext_getElem? λi=>?_
   rw[YI,List.getElem?_replicate];by_cases hi:i<w.length-m
   ·rw[ae hi]
    cases hx:w[m+i]? with
    |none=>rw[List.getElem?_eq_none_iff]at hx;omega
    |some x=>rw[hz (m+i) x (by omega) hx]
   rw[aa hi];exact Yg (by omega)
  rw[this,qay,aO,aT]
 rw[e,qpp hB hc]
abbrev W:Int:=18446744073709551616
theorem wu (n:Int):wrap .u64 n=n%18446744073709551616:=rfl
theorem yQ {n:Int} (h0:0<=n) (h:n<18446744073709551616):wrap .u64 n=n:=by rw[wu];exact bA h0 h
theorem qcN {n:Int} (h0:0<=n) (h:n<18446744073709551616):(BitVec.ofInt 64 n).toNat=n.toNat:=by
 rw[BitVec.toNat_ofInt];have:n%((2:Nat)^64:Nat)=n:=bA h0 (by simpa using h);rw[this]
theorem qdQ {x:Int} (h0:0<=x) (h:x<18446744073709551616):qB .u64 x 4294967295=x%4294967296:=by
 show wrap .u64 _=_
 have e:(BitVec.ofInt IntKind.u64.bits x&&&BitVec.ofInt IntKind.u64.bits 4294967295).toNat=x.toNat%4294967296:=by
  rw[BitVec.toNat_and];show(BitVec.ofInt 64 x).toNat&&&(BitVec.ofInt 64 4294967295).toNat=_;rw[qcN h0 h,qcN (by omega) (by omega)];exact Nat.and_two_pow_sub_one_eq_mod x.toNat 32
 rw[e,wu];omega
theorem qkt (x:Int) (k:Nat):qz .u64 x (k:Int)=x/2^(min k 64):=by
 show x.fdiv (2^(min (k:Int).toNat 64))=_;rw[aL,dD _ (aq (pow_pos (by omega) _))]
theorem qfe (x:Int):qz .u64 x 32=x/4294967296:=qkt x 32
theorem shr16 (x:Int):qz .u64 x 16=x/65536:=qkt x 16
theorem shr8 (x:Int):qz .u64 x 8=x/256:=qkt x 8
theorem qd8 {a b:Int} (ha:0<=a/\a<4294967296) (hb:0<=b/\b<4294967296):0<=a*b/\a*b<=18446744065119617025:=by
 refine⟨Yv ha.1 hb.1,?_⟩;have:a*b<=4294967295*4294967295:=bB (by omega) (by omega) hb.1 (by omega);omega
theorem qgv {x y:Int} (hx:0<=x/\x<18446744073709551616) (hy:0<=y/\y<18446744073709551616):bits_Mul64 x y=some (x*y/18446744073709551616,x*y%18446744073709551616):=by
 unfold bits_Mul64;rw[qdQ hx.1 hx.2,qdQ hy.1 hy.2,qfe x,qfe y]
 have x1:0<=x/4294967296/\x/4294967296<4294967296:=by omega
 have x0:0<=x%4294967296/\x%4294967296<4294967296:=by omega
 have y1:0<=y/4294967296/\y/4294967296<4294967296:=by omega
 have y0:0<=y%4294967296/\y%4294967296<4294967296:=by omega
 have ex:x=x/4294967296*4294967296+x%4294967296:=by omega
 have ey:y=y/4294967296*4294967296+y%4294967296:=by omega
 have e:x*y=x/4294967296*(y/4294967296)*18446744073709551616+(x/4294967296*(y%4294967296)+x%4294967296*(y/4294967296))*4294967296+x%4294967296*(y%4294967296):=by
  generalize x/4294967296=a at*;generalize x%4294967296=b at*;generalize y/4294967296=c at*;generalize y%4294967296=d at*;subst ex ey;grind
 have b11:=qd8 x1 y1;have b10:=qd8 x1 y0;have b01:=qd8 x0 y1;have b00:=qd8 x0 y0;rw[e];generalize x/4294967296*(y/4294967296)=p11 at*;generalize x/4294967296*(y%4294967296)=p10 at*;generalize x%4294967296*(y/4294967296)=p01 at*;generalize x%4294967296*(y%4294967296)=p00 at*;rw[yQ b11.1 (by omega),yQ b10.1 (by omega),yQ b01.1 (by omega),yQ b00.1 (by omega),qfe p00,yQ (n:=p10+p00/4294967296) (by omega) (by omega),qfe (p10+_),qdQ (by omega) (by omega),yQ (n:=_+p01) (by omega) (by omega),qfe,yQ (n:=p11+(p10+p00/4294967296)/4294967296) (by omega) (by omega),yQ (by omega) (by omega),wu];congr 2;omega
def isLen (x l:Int):Prop:=(x=0/\l=0)\/(1<=l/\l<=64/\2^(l.toNat-1)<=x/\x<2^l.toNat)
def okT (T:List UInt8):Bool:=(List.range 256).all λn=>match T[n]? with
 |some c=>decide (c.toNat<=8)&&((n==0&&c.toNat==0)||(decide (1<=c.toNat)&&(decide (2^(c.toNat-1)<=n)&&decide (n<2^c.toNat))))
 |none=>false
theorem qsw {T:List UInt8} (h:okT T=true) {n:Int} (h0:0<=n) (h1:n<256): ∃c:UInt8,idx T n=some c/\c.toNat<=8/\isLen n (c.toNat:Int):=by
 obtain⟨n,rfl⟩:=bc h0;have k1:=Yp.1 h n (cn.2 (by omega));split at k1
 ·rename_i c hc;simp only[aI,dl,aH,bG]at k1;refine⟨c,by rw[ql];exact hc,k1.1,?_⟩;rcases k1.2 with⟨k,k2⟩|⟨k,k2,k3⟩
  ·exact .inl ⟨by omega,by omega⟩
  refine .inr ⟨by omega,by omega,?_,?_⟩
  ·rw[aL];exact_mod_cast k2
  rw[aL];exact_mod_cast k3
 cases k1
theorem qlM {x c:Int} (h0:0<=x) {k:Nat} (hk:k+c<=64) (h:isLen (x/2^k) c) (h1:1<=x/2^k\/k=0):isLen x (k+c):=by
 rcases h with⟨e,hc⟩|⟨c1,c2,l1,l2⟩
 ·rcases h1 with h1|rfl
  ·omega
  left;simp only[ce,Int.ediv_one]at e;omega
 right;have hp:=pow_pos (show(0:Int)<2 by omega) k;obtain⟨c,rfl⟩:=bc (show 0<=c by omega);rw[aL]at l1 l2
 have e1:((k:Int)+(c:Int)).toNat=k+c:=by omega
 rw[e1];refine⟨by omega,hk,?_,?_⟩
 ·have:=(bM hp).1 l1;rw[<-Int.pow_add]at this;rw[show k+c-1=c-1+k by omega];exact this
 have:=(Yu hp).1 l2;rw[<-Int.pow_add]at this;rw[show k+c=c+k by omega];exact this
theorem qqc {T:List UInt8} (hT:okT T=true) {x:Int} (h0:0<=x) (h:x<18446744073709551616): ∃l,(((if x>=4294967296 then
 some (qz .u64 x 32,32)
 else
 some (x,0):Option (Int×Int))).bind λ(n1,n2)=>
 ((if n1>=65536 then
 some (qz .u64 n1 16,w64 (n2+16))
 else
 some (n1,n2):Option (Int×Int))).bind λ(n5,n6)=>
 ((if n5>=256 then
 some (qz .u64 n5 8,w64 (n6+8))
 else
 some (n5,n6):Option (Int×Int))).bind λ(n9,n10)=>
 (idx T (wrap .u8 n9)).bind λc13=>
 some (w64 (n10+(w64 (c13.toNat:Int)))))=some l/\isLen x l:=by
 have A: ∃(n k:Nat),(if x>=4294967296 then some (qz .u64 x 32,32)else some (x,0):Option (Int×Int))=some ((n:Int),(k:Int))/\(n:Int)=x/2^k/\k<=32/\(1<=n\/k=0)/\n<4294967296:=by
  by_cases c:x>=4294967296
  ·refine⟨(x/4294967296).toNat,32,?_,?_,by omega,by omega,by omega⟩
   ·rw[ae c,qfe];congr 2;omega
   show _=x/4294967296;omega
  refine⟨x.toNat,0,?_,?_,by omega,by omega,by omega⟩
  ·rw[aa c];congr 2;omega
  show _=x/1;omega
 obtain⟨n,k,e,hn,hk,hp,hl⟩:=A;rw[e,ZB]
 have B: ∃(m j:Nat),(if(n:Int)>=65536 then some (qz .u64 n 16,w64 (k+16))else some ((n:Int),(k:Int)):Option (Int×Int))=some ((m:Int),(j:Int))/\(m:Int)=x/2^j/\j<=48/\(1<=m\/j=0)/\m<65536:=by
  by_cases c:(n:Int)>=65536
  ·refine⟨n/65536,k+16,?_,?_,by omega,by omega,by omega⟩
   ·rw[ae c,shr16,qo (by omega) (by omega)];congr 2
   rw[cL,hn,Int.pow_add,<-Int.ediv_ediv_of_nonneg (aq (pow_pos (by omega) _))];rfl
  refine⟨n,k,by rw[aa c],hn,by omega,hp,by omega⟩
 obtain⟨m,j,e,hm,hj,hp,hl⟩:=B;simp only;rw[e,ZB]
 have C: ∃(p i:Nat),(if(m:Int)>=256 then some (qz .u64 m 8,w64 (j+8))else some ((m:Int),(j:Int)):Option (Int×Int))=some ((p:Int),(i:Int))/\(p:Int)=x/2^i/\i<=56/\(1<=p\/i=0)/\p<256:=by
  by_cases c:(m:Int)>=256
  ·refine⟨m/256,j+8,?_,?_,by omega,by omega,by omega⟩
   ·rw[ae c,shr8,qo (by omega) (by omega)];congr 2
   rw[cL,hm,Int.pow_add,<-Int.ediv_ediv_of_nonneg (aq (pow_pos (by omega) _))];rfl
  refine⟨m,j,by rw[aa c],hm,by omega,hp,by omega⟩
 obtain⟨p,i,e,hpx,hi,hp,hl⟩:=C;simp only;rw[e,ZB];simp only;have w8:wrap .u8 (p:Int)=(p:Int):=bA (by omega) (show(p:Int)<256 by omega);obtain⟨c,hc,c8,hlen⟩:=qsw hT (n:=(p:Int)) (by omega) (by omega);rw[w8,hc,ZB,qo (n:=(c.toNat:Int)) (by omega) (by omega),qo (by omega) (by omega)];refine⟨_,rfl,qlM h0 (by omega) (hpx▸hlen) ?_⟩;rcases hp with hp|hp
 ·left;rw[<-hpx];omega
 exact .inr hp
theorem qk2 {x:Int} (h0:0<=x) (h:x<18446744073709551616): ∃l,bits_Len64 x=some l/\isLen x l:=by
 unfold bits_Len64;exact qqc (by kernel_rfl) h0 h
theorem qrL {y:Int} (h0:0<y) (h:y<18446744073709551616): ∃s:Nat,s<=63/\bits_LeadingZeros64 y=some (s:Int)/\9223372036854775808<=y*2^s/\y*2^s<18446744073709551616:=by
 obtain⟨l,e,hl⟩:=qk2 (by omega) h;rcases hl with⟨hy,_⟩|⟨l1,l2,g1,g2⟩
 ·omega
 obtain⟨l,rfl⟩:=bc (show 0<=l by omega);rw[aL]at g1 g2;have hp:=pow_pos (show(0:Int)<2 by omega) (64-l);refine⟨64-l,by omega,?_,?_,?_⟩
 ·unfold bits_LeadingZeros64;rw[e,ZB,qo (by omega) (by omega)];congr 1;omega
 ·have:=aB g1 (aq hp);rw[<-Int.pow_add,show l-1+(64-l)=63 by omega]at this;exact this
 have:=YH g2 hp;rw[<-Int.pow_add,show l+(64-l)=64 by omega]at this;exact this
theorem qlu {u u1 v1 v0 q r:Int} (hr:r=u-q*v1) (hv:0<v1*4294967296+v0):q*v0>4294967296*r+u1↔(u*4294967296+u1)/(v1*4294967296+v0)<q:=by
 rw[Yu hv,Int.mul_add,<-Int.mul_assoc];subst hr;rw[Int.mul_sub];have:4294967296*(q*v1)=q*v1*4294967296:=aD _ _;omega
structure qhb (u u1 v1 v0 q r:Int):Prop where
 e:r=u-q*v1
 p0:0<=r
 p1:r<4294967296
 q1:q<=4294967297
 le:(u*4294967296+u1)/(v1*4294967296+v0)<=q
theorem qjq {u u1 v1 v0 q r:Int} (hv1:2147483648<=v1/\v1<4294967296) (hv0:0<=v0/\v0<4294967296) (hu1:0<=u1/\u1<4294967296) (h:qhb u u1 v1 v0 q r) (c:(u*4294967296+u1)/(v1*4294967296+v0)<q) (hu:0<=u):
 (r+v1>=4294967296->q-1=(u*4294967296+u1)/(v1*4294967296+v0))/\(r+v1<4294967296->qhb u u1 v1 v0 (q-1) (r+v1)):=by
 have hr:r+v1=u-(q-1)*v1:=by rw[h.e,Int.sub_mul];omega
 have hQ:0<=(u*4294967296+u1)/(v1*4294967296+v0):=aM (by omega) (by omega);constructor
 ·intro hb
  have:(q-1)*v0<=4294967296*(r+v1)+u1:=by
   have hq:q-1<=4294967296:=by have:=h.q1;omega
   have e:(q-1)*v0<=4294967296*v0:=aB hq hv0.1;omega
  have: ¬(u*4294967296+u1)/(v1*4294967296+v0)<q-1:=λc2=>absurd ((qlu (u1:=u1) (v0:=v0) hr (by omega)).2 c2) (by omega)
  omega
 intro hb;refine⟨hr,by have:=h.p0;omega,hb,by have:=h.q1;omega,by omega⟩
theorem qjW {u u1 v1 v0 q r:Int} (hv1:2147483648<=v1/\v1<4294967296) (hv0:0<=v0/\v0<4294967296) (hu1:0<=u1/\u1<4294967296) (hu:0<=u) (hlt:u<v1*4294967296+v0) (h:qhb u u1 v1 v0 q r):
 (if q>=4294967296 then some true else some (decide (wrap .u64 (q*v0)>wrap .u64 (wrap .u64 (4294967296*r)+u1))):Option Bool)=some (decide ((u*4294967296+u1)/(v1*4294967296+v0)<q)):=by
 have hQ:0<=(u*4294967296+u1)/(v1*4294967296+v0):=aM (by omega) (by omega)
 have hQ2:(u*4294967296+u1)/(v1*4294967296+v0)<4294967296:=by
  rw[Yu (by omega)];omega
 have hq0:0<=q:=by have:=h.le;omega
 have hr0:=h.p0;have hr1:=h.p1;by_cases c:q>=4294967296
 ·rw[ae c,ai (by omega)]
 rw[aa c];have b:=qd8 (a:=q) (b:=v0) ⟨hq0,by omega⟩ hv0;rw[yQ b.1 (by omega),yQ (n:=4294967296*r) (by omega) (by omega),yQ (n:=4294967296*r+u1) (by omega) (by omega)];congr 1;exact decide_eq_decide.2 (qlu h.e (by omega))
theorem qmE {v x:Int} {u u1 v1 v0:Int} (e1:qz .u64 v 32=v1) (e0:qB .u64 v 4294967295=v0) (ex:qz .u64 x 32=u1) (hv1:2147483648<=v1/\v1<4294967296) (hv0:0<=v0/\v0<4294967296) (hu1:0<=u1/\u1<4294967296) (hu:0<=u) (hlt:u<v1*4294967296+v0): ∀(K:Nat) (q r:Int),qhb u u1 v1 v0 q r->4294967296<=r+K*v1->
 xK v x K q r=some ((u*4294967296+u1)/(v1*4294967296+v0))
 |0,q,r,h,hK=>by have:=h.p1;simp at hK;omega
 |K+1,q,r,h,hK=>by
  have hQ:0<=(u*4294967296+u1)/(v1*4294967296+v0):=aM (by omega) (by omega);have hq1:=h.q1;have hr0:=h.p0;have hr1:=h.p1;have hle:=h.le;rw[xK,e1,e0,ex,qjW hv1 hv0 hu1 hu hlt h,ZB];by_cases c:(u*4294967296+u1)/(v1*4294967296+v0)<q
  ·obtain⟨n1,n2⟩:=qjq hv1 hv0 hu1 h c hu;rw[ai c,ae rfl,yQ (n:=r+v1) (by omega) (by omega),yQ (n:=q-1) (by omega) (by omega)];by_cases d:r+v1>=4294967296
   ·rw[ae d,n1 d]
   rw[aa d];refine qmE e1 e0 ex hv1 hv0 hu1 hu hlt K _ _ (n2 (by omega)) ?_
   have:((K+1:Nat):Int)*v1=K*v1+v1:=by rw[cC,aV];simp
   omega
  rw[ah c,aa (by simp)];congr 1;omega
theorem qmV {v x:Int} {u u1 v1 v0:Int} (e1:qz .u64 v 32=v1) (e0:qB .u64 v 4294967295=v0) (ex:qB .u64 x 4294967295=u1) (hv1:2147483648<=v1/\v1<4294967296) (hv0:0<=v0/\v0<4294967296) (hu1:0<=u1/\u1<4294967296) (hu:0<=u) (hlt:u<v1*4294967296+v0): ∀(K:Nat) (q r:Int),qhb u u1 v1 v0 q r->4294967296<=r+K*v1->
 xO v x K r q=some ((u*4294967296+u1)/(v1*4294967296+v0))
 |0,q,r,h,hK=>by have:=h.p1;simp at hK;omega
 |K+1,q,r,h,hK=>by
  have hQ:0<=(u*4294967296+u1)/(v1*4294967296+v0):=aM (by omega) (by omega);have hq1:=h.q1;have hr0:=h.p0;have hr1:=h.p1;have hle:=h.le;rw[xO,e1,e0,ex,qjW hv1 hv0 hu1 hu hlt h,ZB];by_cases c:(u*4294967296+u1)/(v1*4294967296+v0)<q
  ·obtain⟨n1,n2⟩:=qjq hv1 hv0 hu1 h c hu;rw[ai c,ae rfl,yQ (n:=r+v1) (by omega) (by omega),yQ (n:=q-1) (by omega) (by omega)];by_cases d:r+v1>=4294967296
   ·rw[ae d,n1 d]
   rw[aa d];refine qmV e1 e0 ex hv1 hv0 hu1 hu hlt K _ _ (n2 (by omega)) ?_
   have:((K+1:Nat):Int)*v1=K*v1+v1:=by rw[cC,aV];simp
   omega
  rw[ah c,aa (by simp)];congr 1;omega
theorem qip {u u1 v1 v0:Int} (hv1:2147483648<=v1/\v1<4294967296) (hv0:0<=v0/\v0<4294967296) (hu1:0<=u1/\u1<4294967296) (hu:0<=u) (hlt:u<v1*4294967296+v0):qhb u u1 v1 v0 (u/v1) (u-u/v1*v1):=by
 have hm:=aC u (show v1≠0 by omega);have hm2:=ar u (show 0<v1 by omega)
 have e:u-u/v1*v1=u%v1:=by have:=aw u v1;rw[aD]at this;omega
 refine⟨rfl,by omega,by omega,?_,?_⟩
 ·have:u/v1<4294967298:=by
   rw[Yu (by omega)];omega
  omega
 have h1:(u*4294967296+u1)/(v1*4294967296+v0)<=(u*4294967296+u1)/(v1*4294967296):=by
  refine Int.le_ediv_of_mul_le (by omega) ?_;have hQ:0<=(u*4294967296+u1)/(v1*4294967296+v0):=aM (by omega) (by omega);have h2:=dM (u*4294967296+u1) (show v1*4294967296+v0≠0 by omega);rw[Int.mul_add]at h2;have:=Yv hQ hv0.1;omega
 have h3:(u*4294967296+u1)/(v1*4294967296)=u/v1:=by
  rw[aD v1,<-Int.ediv_ediv_of_nonneg (by omega)];congr 1;omega
 omega
theorem qjR {u u1 v:Int} (hv:0<v) (hW:v<18446744073709551616) (h0:0<=u*4294967296+u1):wrap .u64 (wrap .u64 (wrap .u64 (u*4294967296)+u1)-wrap .u64 ((u*4294967296+u1)/v*v))=(u*4294967296+u1)%v:=by
 simp only[wu];rw[Int.emod_add_emod,<-Int.sub_emod,eo (u*4294967296+u1) v,aD v];have h1:=aC (u*4294967296+u1) (show v≠0 by omega);have h2:=ar (u*4294967296+u1) hv;rw[eo,aD v]at h1 h2;exact bA h1 (by omega)
theorem qnC {x:Int} {k:Nat} (hk:k<=64) (h0:0<=x*2^k) (h:x*2^k<18446744073709551616):qh0 .u64 x (k:Int)=some (x*2^k):=by
 unfold qh0;rw[aa (by omega),aL,show min k IntKind.u64.bits=k from aP hk,yQ h0 h]
theorem qi8 {x:Int} {k:Nat} (hk:k<=64):qh0 .u64 x (k:Int)=some (x*2^k%18446744073709551616):=by
 unfold qh0;rw[aa (by omega),aL,show min k IntKind.u64.bits=k from aP hk,wu]
theorem qhM {x:Int} {k:Nat} (hk:k<=64):qk3 .u64 x (k:Int)=some (x/2^k):=by
 unfold qk3;rw[aa (by omega),aL,show min k IntKind.u64.bits=k from aP hk,dD _ (aq (pow_pos (by omega) _))]
theorem qmy {a b:Int} {k:Nat} (ha:0<=a) (hb:0<=b) (hk:b<2^k) (h:a*2^k+b<18446744073709551616):orI .u64 (a*2^k) b=a*2^k+b:=by
 show wrap .u64 _=_;obtain⟨a,rfl⟩:=bc ha;obtain⟨b,rfl⟩:=bc hb;have hp:=pow_pos (show(0:Int)<2 by omega) k;have hm:0<=(a:Int)*2^k:=Yv ha (aq hp)
 have e:(BitVec.ofInt IntKind.u64.bits ((a:Int)*2^k)|||BitVec.ofInt IntKind.u64.bits (b:Int)).toNat=a*2^k+b:=by
  rw[BitVec.toNat_or];show(BitVec.ofInt 64 ((a:Int)*2^k)).toNat|||(BitVec.ofInt 64 (b:Int)).toNat=_;rw[qcN hm (by omega),qcN hb (by omega)]
  have e1:((a:Int)*2^k).toNat=2^k*a:=by
   rw[show(a:Int)*2^k=((2^k*a:Nat):Int)by rw[aZ,cA,aD];rfl];exact aL _
  rw[e1,aL,<-Nat.two_pow_add_eq_or_of_lt (by exact_mod_cast hk),cd]
 rw[e,yQ (by omega) (by rw[cC,aZ,cA];exact h)];rw[cC,aZ,cA];rfl
theorem qqa {a b:Int} (ha:0<=a) (hb:0<b) (h:a<18446744073709551616):qc7 .u64 a b=some (a/b):=by
 unfold qc7;rw[aa (by omega),YF ha,yQ (aM ha (aq hb))];have:=eI b ha;omega
theorem rem_u {a b:Int} (ha:0<=a) (hb:0<b):qfc .u64 a b=some (a%b):=by
 unfold qfc;rw[aa (by omega),ba ha]
theorem halves {A x0 v:Int} (hv:0<v):(A*4294967296+x0)/v=A/v*4294967296+(A%v*4294967296+x0)/v/\(A*4294967296+x0)%v=(A%v*4294967296+x0)%v:=by
 have e:A*4294967296+x0=A%v*4294967296+x0+v*(A/v*4294967296):=by
  have h:=aw A v;rw[<-Int.mul_assoc];generalize v*(A/v)=m at*;generalize A%v=n at*;omega
 constructor
 ·rw[e,cE _ _ (by omega)];omega
 rw[e,bi]
theorem qk4 {N:Nat} (hN:5<=N) {hi lo y:Int} (h0:0<=hi) (h1:hi<y) (hy:y<18446744073709551616) (hlo:0<=lo/\lo<18446744073709551616):qby N hi lo y=some ((hi*18446744073709551616+lo)/y,(hi*18446744073709551616+lo)%y):=by
 unfold qby;rw[aa (by omega),ZB,aa (by omega),ZB];by_cases hz:hi=0
 ·subst hz;rw[ae rfl,qqa hlo.1 h1 hlo.2,rem_u hlo.1 h1,Int.zero_mul,dq];rfl
 rw[aa hz];obtain⟨s,hs,es,g1,g2⟩:=qrL (y:=y) (by omega) hy;have hp:=pow_pos (show(0:Int)<2 by omega) s;have hp2:=pow_pos (show(0:Int)<2 by omega) (64-s)
 have hpp:(2:Int)^s*2^(64-s)=18446744073709551616:=by
  rw[<-Int.pow_add,show s+(64-s)=64 by omega];rfl
 have ehi:hi*2^s<y*2^s:=YH h1 hp;have ehi0:0<=hi*2^s:=Yv h0 (aq hp)
 have e64:wrap .u64 (64-wrap .u64 (s:Int))=((64-s:Nat):Int):=by
  rw[yQ (n:=(s:Int)) (by omega) (by omega),yQ (by omega) (by omega)];omega
 rw[es,ZB,yQ (n:=(s:Int)) (by omega) (by omega),qnC (by omega) (by omega) g2,ZB,qnC (by omega) ehi0 (by omega),ZB];rw[show wrap .u64 (64-(s:Int))=((64-s:Nat):Int)by rw[yQ (by omega) (by omega)];omega,qhM (by omega),ZB,qi8 (by omega),ZB];have hl0:0<=lo/2^(64-s):=aM hlo.1 (aq hp2)
 have hl1:lo/2^(64-s)<2^s:=by
  rw[Yu hp2,hpp];exact hlo.2
 have eor:orI .u64 (hi*2^s) (lo/2^(64-s))=hi*2^s+lo/2^(64-s):=by
  refine qmy h0 hl0 hl1 ?_;have:(hi+1)*2^s<=y*2^s:=aB (by omega) (aq hp);rw[aV,bu]at this;omega
 have hUv:hi*2^s+lo/2^(64-s)<y*2^s:=by
  have:(hi+1)*2^s<=y*2^s:=aB (by omega) (aq hp);rw[aV,bu]at this;omega
 have enum:(hi*18446744073709551616+lo)*2^s=(hi*2^s+lo/2^(64-s))*18446744073709551616+lo*2^s%18446744073709551616:=by
  have e1:lo*2^s/18446744073709551616=lo/2^(64-s):=by
   rw[<-hpp,aD lo,Int.mul_ediv_mul_of_pos _ _ hp]
  have e2:=aw (lo*2^s) 18446744073709551616;rw[e1]at e2;rw[aV,aV];have e3:hi*18446744073709551616*2^s=hi*2^s*18446744073709551616:=Int.mul_right_comm _ _ _;omega
 rw[eor];have hx0:0<=lo*2^s%18446744073709551616:=aC _ (by omega);have hx1:lo*2^s%18446744073709551616<18446744073709551616:=ar _ (by omega);generalize hU:hi*2^s+lo/2^(64-s)=U at*;generalize hx:lo*2^s%18446744073709551616=x at*;generalize hv:y*2^s=v at*
 have hU0:0<=U:=by omega
 have ev:v=v/4294967296*4294967296+v%4294967296:=by omega
 have v1:2147483648<=v/4294967296/\v/4294967296<4294967296:=by omega
 have v0:0<=v%4294967296/\v%4294967296<4294967296:=by omega
 have x1:0<=x/4294967296/\x/4294967296<4294967296:=by omega
 have x0:0<=x%4294967296/\x%4294967296<4294967296:=by omega
 have hNv:(4294967296:Int)<=N*(v/4294967296):=by
  have:(5:Int)*(v/4294967296)<=N*(v/4294967296):=aB (by omega) (by omega);omega
 have am:qB .u64 v 4294967295=v%4294967296:=qdQ (by omega) (by omega);have ax:qB .u64 x 4294967295=x%4294967296:=qdQ hx0 hx1
 have wr: ∀u:Int,0<=u->u<18446744073709551616->wrap .u64 (u-wrap .u64 (u/(v/4294967296)*(v/4294967296)))=u-u/(v/4294967296)*(v/4294967296):=by
  intro u hu hu2;have a:=Yv (aM hu (show 0<=v/4294967296 by omega)) (show 0<=v/4294967296 by omega);have b:=dM u (show v/4294967296≠0 by omega);rw[yQ a (by omega),yQ (by omega) (by omega)]
 have hUvv:U<v/4294967296*4294967296+v%4294967296:=by omega
 rw[qfe v,qqa hU0 (by omega) (by omega),ZB,wr U hU0 (by omega)];have f1:=qip v1 v0 x1 hU0 hUvv;rw[qmE (qfe v) am (qfe x) v1 v0 x1 hU0 hUvv N _ _ f1 (by have:=f1.p0;omega),ZB,qfe x,<-ev,qjR (by omega) g2 (by omega)];have hR0:0<=(U*4294967296+x/4294967296)%v:=aC _ (by omega);have hR1:(U*4294967296+x/4294967296)%v<v:=ar _ (by omega);have hQ0:0<=(U*4294967296+x/4294967296)/v:=aM (by omega) (by omega)
 have hQ1:(U*4294967296+x/4294967296)/v<4294967296:=by
  rw[Yu (by omega)];omega
 have hh:=halves (A:=U*4294967296+x/4294967296) (x0:=x%4294967296) (v:=v) (by omega)
 have eN:(U*4294967296+x/4294967296)*4294967296+x%4294967296=(hi*18446744073709551616+lo)*2^s:=by rw[enum];omega
 generalize (U*4294967296+x/4294967296)%v=R at*;generalize (U*4294967296+x/4294967296)/v=Q at*
 have hRvv:R<v/4294967296*4294967296+v%4294967296:=by omega
 rw[qqa hR0 (by omega) (by omega),ZB,wr R hR0 (by omega)];have f2:=qip v1 v0 x0 hR0 hRvv;rw[qmV (qfe v) am ax v1 v0 x0 hR0 hRvv N _ _ f2 (by have:=f2.p0;omega),ZB,ax,<-ev,qjR (by omega) g2 (by omega),qhM (by omega),ZB];have hP0:0<=(R*4294967296+x%4294967296)/v:=aM (by omega) (by omega)
 have hP1:(R*4294967296+x%4294967296)/v<4294967296:=by
  rw[Yu (by omega)];omega
 rw[yQ (n:=Q*4294967296) (by omega) (by omega),yQ (by omega) (by omega),<-hh.1,<-hh.2,eN,<-hv,Int.mul_ediv_mul_of_pos_left _ _ hp,aD _ (2^s),aD y (2^s),cr _ _ hp,Int.mul_ediv_cancel_left _ (by omega)]
theorem W1:(1:Int)<W:=by decide
theorem W0:(0:Int)<W:=by decide
theorem qbP {n:Nat} (h:n<=100000):mk 8 (n:Int) (0:Int)=some (List.replicate n 0):=by
 unfold mk;rw[ae (by omega),aL]
theorem qmD {w:List Int} (hl:w.length<=100000): ∀(K m:Nat),m<=w.length->m<K->(∀(i:Nat) x,m<=i->w[i]? =some x->x=0)->
 ∃m':Nat,qa5 w K (m:Int)=some (m':Int)/\m'<=w.length/\(∀x,0<m'->w[m'-1]? =some x->x≠0)/\ ∀(i:Nat) x,m'<=i->w[i]? =some x->x=0
 |0,m,h,hK,_=>by omega
 |K+1,m,h,hK,hz=>by
  rw[qa5];by_cases h0:0<m
  ·have hm:m-1<w.length:=by omega
   rw[ae (by omega),qke (by omega) h0,ql,Ya hm,ZB,ZB];by_cases c:w[m-1]=0
   ·rw[ai c,ae rfl]
    refine qmD hl K (m-1) (by omega) (by omega) λi x hi hx=>?_
    rcases ak i m with h1|h1
    ·have e:i=m-1:=by omega
     subst e;rw[Ya hm]at hx;injection hx with hx;omega
    exact hz i x h1 hx
   rw[ah c,aa (by simp)];refine⟨m,rfl,h,λx _ hx=>?_,hz⟩;rw[Ya hm]at hx;injection hx with hx;omega
  rw[aa (by omega),ZB,aa (by simp)];exact⟨m,rfl,h,λx h1=>by omega,hz⟩
theorem qdu {N:Nat} {w:List Int} (hw:Dg W w) (hl:w.length<=100000) (hN:w.length<N):qaa N w=some (dg W (dv W w)):=by
 unfold qaa;obtain⟨m,e,h1,h2,h3⟩:=qmD hl N w.length (ag _) hN (λi x hi hx=>by rw[Yg hi]at hx;cases hx);rw[e,ZB,y9 h1,ZB,qmY W1 hw h1 h2 h3]
theorem take_at {l:List Int} {k:Nat}:dv W (l.take (k+1))=dv W (l.take k)+W^k*((l[k]?).getD 0):=by
 by_cases h:k<l.length
 ·rw[qy W l k h,Ya h];rfl
 rw[aj (by omega),aj (by omega),Yg (by omega)];simp
theorem qoA {l:List Int} (h:Dg W l) (k:Nat):0<=(l[k]?).getD 0/\(l[k]?).getD 0<W:=by
 by_cases hk:k<l.length
 ·rw[Ya hk];exact h.at hk
 rw[Yg (by omega)];exact⟨bU _,by decide⟩
theorem qnv {l:List Int} (k:Nat):((if(k:Int)<(l.length:Int)then(idx l (k:Int)).bind λx=>some x else some 0:Option Int))=some ((l[k]?).getD 0):=by
 by_cases h:k<l.length
 ·rw[ae (by omega),ql,Ya h];rfl
 rw[aa (by omega),Yg (by omega)];rfl
theorem qgo {l:List Int} {k:Nat} {v:Int} (h: ∀(i:Nat) x,k<=i->l[i]? =some x->x=0): ∀(i:Nat) x,k+1<=i->(l.set k v)[i]? =some x->x=0:=by
 intro i x hi hx;rw[Yw (by omega)]at hx;exact h i x (by omega) hx
theorem qkw {l:List Int} {k:Nat} {v:Int} (hk:k<l.length) (h: ∀(i:Nat) x,k<=i->l[i]? =some x->x=0):dv W (l.set k v)=dv W l+W^k*v:=by
 rw[qbD W l k v hk,h k l[k] (ag _) (Ya hk),dr]
theorem qpi {x y:List Int} (hx:Dg W x) (hy:Dg W y) (hxl:x.length<=100000) (hyx:y.length<=x.length): ∀(K k:Nat) (l:List Int) (c:Int),k<=x.length->x.length<K+k->l.length=x.length+1->Dg W l->(∀(i:Nat) z,k<=i->l[i]? =some z->z=0)->0<=c->c<=1->dv W l+W^k*c=dv W (x.take k)+dv W (y.take k)->
 ∃l' c',jA x y K l (k:Int) c=some (l',c')/\l'.length=x.length+1/\Dg W l'/\(∀(i:Nat) z,x.length<=i->l'[i]? =some z->z=0)/\0<=c'/\c'<=1/\dv W l'+W^x.length*c'=dv W x+dv W y
 |0,k,l,c,h,hK,_,_,_,_,_,_=>by omega
 |K+1,k,l,c,h,hK,hl,hd,hz,c0,c1,e=>by
  rw[jA];by_cases hk:k<x.length
  ·have ax:=hx.at hk;have ay:=qoA hy k
   have hkl:k<l.length:=by omega
   rw[ae (by omega),qnv k,ZB,ql,Ya hk,ZB]
   have ea:qaN x[k] ((y[k]?).getD 0) c=some ((x[k]+(y[k]?).getD 0+c)%18446744073709551616,(x[k]+(y[k]?).getD 0+c)/18446744073709551616):=by
    unfold qaN;rw[ae ⟨ax.1,ay.1,c0,c1⟩]
   rw[ea,ZB,ql,Ya hkl,ZB,vw hkl,ZB,qD (by omega)];have b0:=ax.2;have b1:=ay.2;unfold W at b0 b1;have hs:=aw (x[k]+(y[k]?).getD 0+c) 18446744073709551616;have m0:=aC (x[k]+(y[k]?).getD 0+c) (show(18446744073709551616:Int)≠0 by decide);have m1:=ar (x[k]+(y[k]?).getD 0+c) (show(0:Int)<18446744073709551616 by decide)
   have q0:0<=(x[k]+(y[k]?).getD 0+c)/18446744073709551616:=by omega
   have q1:(x[k]+(y[k]?).getD 0+c)/18446744073709551616<=1:=by omega
   refine qpi hx hy hxl hyx K (k+1) _ _ (by omega) (by omega) (by rw[Yk];exact hl) (hd.set ⟨m0,m1⟩) (qgo hz) q0 q1 ?_;rw[qkw hkl hz,take_at,take_at,Ya hk,YN,aE];simp only
   have e2:W^k*(x[k]+(y[k]?).getD 0+c)=W^k*(18446744073709551616*((x[k]+(y[k]?).getD 0+c)/18446744073709551616))+W^k*((x[k]+(y[k]?).getD 0+c)%18446744073709551616):=by rw[<-Int.mul_add,hs]
   rw[Int.mul_assoc];show _+W^k*((x[k]+(y[k]?).getD 0+c)%18446744073709551616)+W^k*(18446744073709551616*((x[k]+(y[k]?).getD 0+c)/18446744073709551616))=_;rw[Int.mul_add,Int.mul_add]at e2;omega
  rw[aa (by omega)]
  have ek:k=x.length:=by omega
  subst ek;rw[aj (ag _),aj hyx]at e;exact⟨l,c,rfl,hl,hd,hz,c0,c1,e⟩
theorem qm2 {N:Nat} {x y:List Int} (hx:Dg W x) (hy:Dg W y) (hxl:x.length<=10000) (hyx:y.length<=x.length) (hN:x.length+2<N):
 ((mk 8 (w64 ((x.length:Int)+1)) 0).bind λl5=>
 (jA x y N l5 0 0).bind λ(l9,n10)=>
 (idx l9 (x.length:Int)).bind λx21=>
 (put l9 (x.length:Int) n10).bind λl22=>
 (qaa N l22).bind λr23=>
 some r23)=some (dg W (dv W x+dv W y)):=by
 rw[qD (by omega),qbP (by omega),ZB]
 obtain⟨l,c,e,h1,h2,h3,h4,h5,h6⟩:=qpi hx hy (by omega) hyx N 0 (List.replicate (x.length+1) 0) 0 (by omega) (by omega) (by simp) (Um W0 _) (λi z _ hz=>by
  rw[List.getElem?_replicate]at hz;split at hz
  ·injection hz with hz;exact hz.symm
  cases hz) (by omega) (by omega) (by rw[qay];simp[dv])
 have e:jA x y N (List.replicate (x.length+1) 0) 0 0=some (l,c):=e
 have hx1:x.length<l.length:=by omega
 rw[e,ZB];simp only;rw[ql,Ya hx1,ZB,vw hx1,ZB,qdu (h2.set ⟨h4,by unfold W;omega⟩) (by rw[Yk];omega) (by rw[Yk];omega),ZB,qkw hx1 h3,h6]
theorem qlH {N:Nat} {x y:List Int} (hx:Dg W x) (hy:Dg W y) (hxl:x.length<=10000) (hyl:y.length<=10000) (hN1:x.length+2<N) (hN2:y.length+2<N):qbe N x y=some (dg W (dv W x+dv W y)):=by
 unfold qbe;by_cases h:(x.length:Int)<(y.length:Int)
 ·rw[ae h,ZB,Int.add_comm];exact qm2 hy hx hyl (by omega) hN2
 rw[aa h,ZB];exact qm2 hx hy hxl (by omega) hN1
theorem qpj {a b:List Int} (ha:Dg W a) (hl:a.length=b.length) (hb:Dg W b) {k:Nat} (hk:k<a.length) (he:a.drop (k+1)=b.drop (k+1)) (h:a[k]<b[k]'(by omega)):dv W a<dv W b:=by
 have e1:=qab W a (k+1) (by omega);have e2:=qab W b (k+1) (by omega);rw[qy W a k hk]at e1;rw[qy W b k (by omega)]at e2;have l1:=xU W0 (ha.take k);have l2:=qF W0 (hb.take k);rw[Ym,aP (by omega)]at l1;have l3:W^k*(a[k]+1)<=W^k*b[k]:=Yc (by omega) (aq (pow_pos W0 k));rw[Int.mul_add,bN]at l3;rw[he]at e1;omega
theorem qqj {a b:List Int} (ha:Dg W a) (hb:Dg W b) (hl:a.length=b.length) (hal:a.length<=100000): ∀(K k:Nat),k<=a.length->k<K->a.drop k=b.drop k->
 zI a b K ((k:Int)-1)=some (if dv W a<dv W b then .inr (-1)else if dv W a=dv W b then .inl ()else .inr 1)
 |0,k,h,hK,_=>by omega
 |K+1,0,h,hK,he=>by
  rw[YR,YR]at he;rw[zI,aa (by omega),he,aa (by omega),ae rfl]
 |K+1,k+1,h,hK,he=>by
  have hka:k<a.length:=by omega
  have hkb:k<b.length:=by omega
  have ek:((k+1:Nat):Int)-1=(k:Int):=by omega
  rw[ek,zI,ae (by omega),ql,Ya hka,ZB,ql,Ya hkb,ZB];by_cases c:a[k]=b[k]
  ·rw[aa (by simp[c]),qo (by omega) (by omega)];refine qqj ha hb hl hal K k (by omega) (by omega) ?_;rw[YG hka,YG hkb,c,he]
  rw[ae (by simp[c])];by_cases d:a[k]<b[k]
  ·rw[ae d,ae (qpj ha hl hb hka he d)]
  have:=qpj hb hl.symm ha hkb he.symm (by omega);rw[aa d,aa (by omega),aa (by omega)]
theorem qep {a b:List Int} (ha:Can W a) (hb:Can W b) (h:a.length<b.length):dv W a<dv W b:=by
 obtain⟨n,hn⟩: ∃n,b.length=n+1:=⟨b.length-1,by omega⟩;have h1:=xU W0 ha.1;have h2:=hb.low W1 hn;have h3:=xe (show(1:Int)<=W by decide) (show a.length<=n by omega);omega
theorem qez {N:Nat} {a b:List Int} (ha:Can W a) (hb:Can W b) (hal:a.length<=10000) (hN:a.length+1<N):vI N a b=some (if dv W a<dv W b then-1 else if dv W a=dv W b then 0 else 1):=by
 unfold vI;by_cases h:a.length=b.length
 ·have e:=qqj ha.1 hb.1 h (by omega) N a.length (ag _) (by omega) (by rw[aA (ag _),aA (by omega)]);rw[aa (by simp[h]),qo (by omega) (by omega),e,ZB];by_cases c:dv W a<dv W b
  ·rw[ae c,ae c]
  rw[aa c,aa c];by_cases d:dv W a=dv W b
  ·rw[ae d,ae d]
  rw[aa d,aa d]
 rw[ae (by simp;omega)];by_cases c:a.length<b.length
 ·rw[ae (by omega),ae (qep ha hb c)]
 have:=qep hb ha (by omega);rw[aa (by omega),aa (by omega),aa (by omega)]
theorem qok {x y:List Int} (hx:Dg W x) (hy:Dg W y) (hxl:x.length<=100000) (hyx:y.length<=x.length): ∀(K k:Nat) (l:List Int) (c:Int),k<=x.length->x.length<K+k->l.length=x.length->Dg W l->(∀(i:Nat) z,k<=i->l[i]? =some z->z=0)->0<=c->c<=1->dv W l+dv W (y.take k)=dv W (x.take k)+W^k*c->
 ∃l' c',jX x y K l (k:Int) c=some l'/\l'.length=x.length/\Dg W l'/\0<=c'/\c'<=1/\dv W l'+dv W y=dv W x+W^x.length*c'
 |0,k,l,c,h,hK,_,_,_,_,_,_=>by omega
 |K+1,k,l,c,h,hK,hl,hd,hz,c0,c1,e=>by
  rw[jX];by_cases hk:k<x.length
  ·have ax:=hx.at hk;have ay:=qoA hy k
   have hkl:k<l.length:=by omega
   rw[ae (by omega),qnv k,ZB,ql,Ya hk,ZB];have b0:=ax.2;have b1:=ay.2;unfold W at b0 b1
   have ea:qfa x[k] ((y[k]?).getD 0) c=some ((x[k]-(y[k]?).getD 0-c)%18446744073709551616,if x[k]<(y[k]?).getD 0+c then 1 else 0):=by
    unfold qfa;rw[ae ⟨ax.1,ay.1,b1,c0,c1⟩]
   rw[ea,ZB,ql,Ya hkl,ZB,vw hkl,ZB,qD (by omega)];have m0:=aC (x[k]-(y[k]?).getD 0-c) (show(18446744073709551616:Int)≠0 by decide);have m1:=ar (x[k]-(y[k]?).getD 0-c) (show(0:Int)<18446744073709551616 by decide)
   have hs:(x[k]-(y[k]?).getD 0-c)%18446744073709551616=x[k]-(y[k]?).getD 0-c+18446744073709551616*(if x[k]<(y[k]?).getD 0+c then 1 else 0):=by
    split<;>omega
   have q:(0:Int)<=(if x[k]<(y[k]?).getD 0+c then 1 else 0)/\(if x[k]<(y[k]?).getD 0+c then(1:Int)else 0)<=1:=by split<;>omega
   refine qok hx hy hxl hyx K (k+1) _ _ (by omega) (by omega) (by rw[Yk];exact hl) (hd.set ⟨m0,m1⟩) (qgo hz) q.1 q.2 ?_;rw[qkw hkl hz,take_at,take_at,Ya hk,YN,aE];simp only;generalize (if x[k]<(y[k]?).getD 0+c then(1:Int)else 0)=d at*
   have e2:W^k*((x[k]-(y[k]?).getD 0-c)%18446744073709551616)=W^k*x[k]-W^k*(y[k]?).getD 0-W^k*c+W^k*(18446744073709551616*d):=by rw[hs,Int.mul_add,Int.mul_sub,Int.mul_sub]
   rw[Int.mul_assoc];show _=_+W^k*(18446744073709551616*d);omega
  rw[aa (by omega)]
  have ek:k=x.length:=by omega
  subst ek;rw[aj (ag _),aj hyx]at e;exact⟨l,c,rfl,hl,hd,c0,c1,e⟩
theorem qhj {N:Nat} {x y:List Int} (hx:Can W x) (hy:Can W y) (hxl:x.length<=10000) (hN:x.length+2<N) (h:dv W y<=dv W x):xH N x y=some (dg W (dv W x-dv W y)):=by
 have hyx:y.length<=x.length:=by
  rcases ak x.length y.length with c|c
  ·have:=qep hx hy c;omega
  exact c
 unfold xH;rw[qbP (by omega),ZB]
 obtain⟨l,c,e,h1,h2,h4,h5,h6⟩:=qok hx.1 hy.1 (by omega) hyx N 0 (List.replicate x.length 0) 0 (by omega) (by omega) (by simp) (Um W0 _) (λi z _ hz=>by
  rw[List.getElem?_replicate]at hz;split at hz
  ·injection hz with hz;exact hz.symm
  cases hz) (by omega) (by omega) (by rw[qay];simp[dv])
 have e:jX x y N (List.replicate x.length 0) 0 0=some l:=e;have l1:=xU W0 h2;rw[h1]at l1;have hp:=pow_pos W0 x.length
 have hc:c=0:=by
  rcases(show c=0\/c=1 by omega)with c|c
  ·exact c
  subst c;omega
 rw[e,ZB,qdu h2 (by omega) (by omega),ZB];subst hc;rw[show dv W l=dv W x-dv W y by omega]
theorem qpf {b:List Int} (hb:Dg W b) (hbl:b.length<=10000) {x:Int} (hx:0<=x/\x<W) {i:Nat} (hi:i<=10000): ∀(K j:Nat) (l:List Int) (c:Int),j<=b.length->b.length<K+j->i+b.length<=l.length->Dg W l->0<=c->c<W->
 ∃l' c',jY b x (i:Int) K l (j:Int) c=some (l',c')/\l'.length=l.length/\Dg W l'/\(∀m,i+b.length<=m->l'[m]? =l[m]?)/\0<=c'/\c'<W/\dv W l'+W^(i+b.length)*c'+W^i*(x*dv W (b.take j))=dv W l+W^(i+j)*c+W^i*(x*dv W b)
 |0,j,l,c,h,hK,_,_,_,_=>by omega
 |K+1,j,l,c,h,hK,hl,hd,c0,c1=>by
  rw[jY];by_cases hj:j<b.length
  ·have ab:=hb.at hj
   have hil:i+j<l.length:=by omega
   have al:=hd.at hil;have b0:=ab.2;have b1:=al.2;have b2:=hx.2;unfold W at b0 b1 b2 c1;rw[ae (by omega),ql,Ya hj,ZB,qgv ⟨hx.1,b2⟩ ⟨ab.1,b0⟩,ZB];rw[show(i:Int)+(j:Int)=((i+j:Nat):Int)by omega,qo (by omega) (by omega),ql,Ya hil,ZB];have hp0:0<=x*b[j]:=Yv hx.1 ab.1;have hp1:x*b[j]<=18446744073709551615*18446744073709551615:=bB (by omega) (by omega) ab.1 (by omega);generalize hp:x*b[j]=p at*
   have ea:qaN (p%18446744073709551616) l[i+j] 0=some ((p%18446744073709551616+l[i+j])%18446744073709551616,(p%18446744073709551616+l[i+j])/18446744073709551616):=by
    unfold qaN;rw[ae (by omega),aT]
   rw[ea,ZB]
   have eb:qaN ((p%18446744073709551616+l[i+j])%18446744073709551616) c 0=some (((p%18446744073709551616+l[i+j])%18446744073709551616+c)%18446744073709551616,((p%18446744073709551616+l[i+j])%18446744073709551616+c)/18446744073709551616):=by
    unfold qaN;rw[ae (by omega),aT]
   simp only;rw[eb,ZB,vw hil,ZB,qD (by omega)]
   have hc:wrap .u64 (wrap .u64 (p/18446744073709551616+(p%18446744073709551616+l[i+j])/18446744073709551616)+((p%18446744073709551616+l[i+j])%18446744073709551616+c)/18446744073709551616)=(p+l[i+j]+c)/18446744073709551616:=by
    rw[yQ (n:=p/18446744073709551616+_) (by omega) (by omega),yQ (by omega) (by omega)];omega
   have hv:((p%18446744073709551616+l[i+j])%18446744073709551616+c)%18446744073709551616=(p+l[i+j]+c)%18446744073709551616:=by omega
   simp only;rw[hc,hv];have m0:=aC (p+l[i+j]+c) (show(18446744073709551616:Int)≠0 by decide);have m1:=ar (p+l[i+j]+c) (show(0:Int)<18446744073709551616 by decide);have hs:=aw (p+l[i+j]+c) 18446744073709551616;obtain⟨l',c',e1,e2,e3,e4,e5,e6,e7⟩:=qpf hb hbl hx hi K (j+1) (l.set (i+j) ((p+l[i+j]+c)%18446744073709551616)) ((p+l[i+j]+c)/18446744073709551616) (by omega) (by omega) (by rw[Yk];exact hl) (hd.set ⟨m0,m1⟩) (by omega) (by unfold W;omega);refine⟨l',c',e1,by rw[e2,Yk],e3,λm hm=>by rw[e4 m hm,Yw (by omega)],e5,e6,?_⟩;rw[qbD W l (i+j) _ hil,qy W b j hj,<-Nat.add_assoc,aE]at e7;rw[Int.mul_add x,<-Int.mul_assoc x,aD x (W^j),Int.mul_assoc (W^j),hp,Int.mul_add (W^i),<-Int.mul_assoc (W^i) (W^j),<-Int.pow_add]at e7
   have e8:W^(i+j)*(p+l[i+j]+c)=W^(i+j)*(18446744073709551616*((p+l[i+j]+c)/18446744073709551616))+W^(i+j)*((p+l[i+j]+c)%18446744073709551616):=by rw[<-Int.mul_add,hs]
   rw[Int.mul_assoc (W^(i+j))]at e7;have e7:dv W l'+W^(i+b.length)*c'+(W^i*(x*dv W (List.take j b))+W^(i+j)*p)=dv W l+W^(i+j)*((p+l[i+j]+c)%18446744073709551616-l[i+j])+W^(i+j)*(18446744073709551616*((p+l[i+j]+c)/18446744073709551616))+W^i*(x*dv W b):=e7;rw[Int.mul_add,Int.mul_add]at e8;rw[Int.mul_sub]at e7;omega
  rw[aa (by omega)]
  have ej:j=b.length:=by omega
  subst ej;rw[aj (ag _)];exact⟨l,c,rfl,rfl,hd,λ_ _=>rfl,c0,c1,rfl⟩
theorem qpQ {N:Nat} {a b:List Int} (ha:Dg W a) (hb:Dg W b) (hal:a.length<=10000) (hbl:b.length<=10000) (hN:b.length<N): ∀(K i:Nat) (l:List Int),i<=a.length->a.length<K+i->l.length=a.length+b.length->Dg W l->(∀(m:Nat) z,i+b.length<=m->l[m]? =some z->z=0)->dv W l=dv W (a.take i)*dv W b->
 ∃l',vg N a b K l (i:Int)=some l'/\l'.length=a.length+b.length/\Dg W l'/\dv W l'=dv W a*dv W b
 |0,i,l,h,hK,_,_,_,_=>by omega
 |K+1,i,l,h,hK,hl,hd,hz,e=>by
  rw[vg];by_cases hi:i<a.length
  ·obtain⟨l1,c,e1,e2,e3,e4,e5,e6,e7⟩:=qpf hb hbl (ha.at hi) (i:=i) (by omega) N 0 l 0 (by omega) (by omega) (by omega) hd (by omega) (by decide);have e1:jY b a[i] (i:Int) N l 0 0=some (l1,c):=e1
   have hib:i+b.length<l1.length:=by omega
   have hz1: ∀(m:Nat) z,i+b.length<=m->l1[m]? =some z->z=0:=λm z hm hx=>hz m z hm (by rw[<-e4 m hm];exact hx)
   rw[ae (by omega),ql,Ya hi,ZB,e1,ZB];simp only;rw[show(i:Int)+(b.length:Int)=((i+b.length:Nat):Int)by omega,qo (by omega) (by omega),ql,Ya hib,ZB,vw hib,ZB,qD (by omega)];refine qpQ ha hb hal hbl hN K (i+1) _ (by omega) (by omega) (by rw[Yk,e2,hl]) (e3.set ⟨e5,e6⟩) (λm z hm hx=>qgo hz1 m z (by omega) hx) ?_;rw[qkw hib hz1,qy W a i hi,aV,<-e,Int.mul_assoc];rw[bh,zz,aO,aO]at e7;omega
  rw[aa (by omega)]
  have ei:i=a.length:=by omega
  subst ei;rw[aj (ag _)]at e;exact⟨l,rfl,hl,hd,e⟩
theorem qlR {N:Nat} {a b:List Int} (ha:Dg W a) (hb:Dg W b) (hal:a.length<=10000) (hbl:b.length<=10000) (hN:a.length+b.length<N):qba N a b=some (dg W (dv W a*dv W b)):=by
 unfold qba;rw[show(a.length:Int)+(b.length:Int)=((a.length+b.length:Nat):Int)by omega,qo (by omega) (by omega),qbP (by omega),ZB]
 obtain⟨l,e,h1,h2,h3⟩:=qpQ ha hb hal hbl (N:=N) (by omega) N 0 (List.replicate (a.length+b.length) 0) (by omega) (by omega) (by simp) (Um W0 _) (λi z _ hz=>by
  rw[List.getElem?_replicate]at hz;split at hz
  ·injection hz with hz;exact hz.symm
  cases hz) (by rw[qay];simp[dv])
 have e:vg N a b N (List.replicate (a.length+b.length) 0) 0=some l:=e;rw[e,ZB,qdu h2 (by omega) (by omega),ZB,h3]
theorem qpa {b a:Int} {k:Nat} (ha:0<=a) (hb:0<=b) (hk:b<2^k) (h:a*2^k+b<18446744073709551616):orI .u64 b (a*2^k)=a*2^k+b:=by
 rw[<-qmy ha hb hk h];show wrap .u64 _=wrap .u64 _;rw[BitVec.or_comm]
theorem qiQ {a:List Int} (ha:Dg W a) (hal:a.length<=10000) {s:Nat} (hs:s<=63): ∀(K i:Nat) (l:List Int),i<=a.length->a.length<K+i->l.length=a.length+1->Dg W l->(∀(m:Nat) z,i+1<=m->l[m]? =some z->z=0)->(∀z,l[i]? =some z->z<2^s)->dv W l=dv W (a.take i)*2^s->
 ∃l',jh a (s:Int) K l (i:Int)=some l'/\l'.length=a.length+1/\Dg W l'/\dv W l'=dv W a*2^s
 |0,i,l,h,hK,_,_,_,_,_=>by omega
 |K+1,i,l,h,hK,hl,hd,hz,hlow,e=>by
  rw[jh];by_cases hi:i<a.length
  ·have hil:i<l.length:=by omega
   have hil2:i+1<l.length:=by omega
   have ax:=ha.at hi;have al:=hd.at hil;have b0:=ax.2;unfold W at b0;have hlo:=hlow l[i] (Ya hil);have hp:=pow_pos (show(0:Int)<2 by omega) s;have hp2:=pow_pos (show(0:Int)<2 by omega) (64-s)
   have hpp:(2:Int)^(64-s)*2^s=18446744073709551616:=by
    rw[<-Int.pow_add,show 64-s+s=64 by omega];rfl
   have em:a[i]*2^s%18446744073709551616=a[i]%2^(64-s)*2^s:=by
    rw[<-hpp,aD a[i],aD (2^(64-s)),cr _ _ hp,aD]
   have r0:0<=a[i]%2^(64-s):=aC _ (by omega);have r1:a[i]%2^(64-s)<2^(64-s):=ar _ hp2;have q0:0<=a[i]/2^(64-s):=aM ax.1 (aq hp2)
   have q1:a[i]/2^(64-s)<2^s:=by
    rw[Yu hp2,aD,hpp];exact b0
   have hdm:=aw a[i] (2^(64-s))
   have htop:a[i]%2^(64-s)*2^s+l[i]<18446744073709551616:=by
    have:(a[i]%2^(64-s)+1)*2^s<=2^(64-s)*2^s:=aB (by omega) (aq hp);rw[hpp,aV,bu]at this;omega
   have hq2:(2:Int)^s<W:=by
    have:(2:Int)^s<=2^63:=xe (by omega) hs;have e63:(2:Int)^63=9223372036854775808:=rfl;unfold W;omega
   rw[ae (by omega),ql,Ya hi,ZB,ql,Ya hil,ZB,qi8 (by omega),ZB,em,qpa r0 al.1 hlo htop,vw hil,ZB];have hlow0:0<=a[i]%2^(64-s)*2^s:=Yv r0 (aq hp)
   have eset:dv W (l.set i (a[i]%2^(64-s)*2^s+l[i]))=dv W l+W^i*(a[i]%2^(64-s)*2^s):=by
    rw[qbD W l i _ hil];congr 2;omega
   have efin:W^i*(a[i]%2^(64-s)*2^s)+W^(i+1)*(a[i]/2^(64-s))=W^i*a[i]*2^s:=by
    rw[aE,Int.mul_assoc,Int.mul_assoc,<-Int.mul_add];congr 1;show _+18446744073709551616*_=_;rw[<-hpp]
    have e6:a[i]*2^s=(2^(64-s)*(a[i]/2^(64-s))+a[i]%2^(64-s))*2^s:=by rw[hdm]
    rw[aV,Int.mul_right_comm]at e6;omega
   by_cases h0:s=0
   ·subst h0;rw[aa (by omega),ZB,qD (by omega)]
    have hq:a[i]/2^(64-0)=0:=by
     have:a[i]/2^(64-0)<1:=q1;omega
    refine qiQ ha hal hs K (i+1) _ (by omega) (by omega) (by rw[Yk];exact hl) (hd.set ⟨by omega,htop⟩) (λm z hm hx=>?_) (λz hx=>?_) ?_
    ·rw[Yw (by omega)]at hx;exact hz m z (by omega) hx
    ·rw[Yw (by omega)]at hx;have:=hz (i+1) z (by omega) hx;rw[this,ce];omega
    rw[eset,e,qy W a i hi,aV,<-efin,hq,aO,aT]
   have hil3:i+1<(l.set i (a[i]%2^(64-s)*2^s+l[i])).length:=by rw[Yk];exact hil2
   rw[ae (by omega),show(64:Int)-(s:Int)=((64-s:Nat):Int)by omega,qo (by omega) (by omega),qhM (by omega),ZB,qD (by omega),ql,Ya hil3,ZB,vw hil3,ZB,ZB]
   have hget:(l.set i (a[i]%2^(64-s)*2^s+l[i]))[i+1]=0:=by
    rw[List.getElem_set_ne (by omega)];exact hz (i+1) _ (by omega) (Ya hil2)
   refine qiQ ha hal hs K (i+1) _ (by omega) (by omega) (by rw[Yk,Yk];exact hl) ((hd.set ⟨by omega,htop⟩).set ⟨q0,by omega⟩) (λm z hm hx=>?_) (λz hx=>?_) ?_
   ·rw[Yw (by omega),Yw (by omega)]at hx;exact hz m z (by omega) hx
   ·rw[List.getElem?_set_self hil3]at hx;rw[<-Ye hx];exact q1
   rw[qbD W _ (i+1) _ hil3,hget,dr,eset,e,qy W a i hi,aV,<-efin];omega
  rw[aa (by omega)]
  have ei:i=a.length:=by omega
  subst ei;rw[aj (ag _)]at e;exact⟨l,rfl,hl,hd,e⟩
theorem qig {N:Nat} {a:List Int} (ha:Dg W a) (hal:a.length<=10000) {s:Nat} (hs:s<=63) (hN:a.length<N): ∃l,xW N a (s:Int)=some l/\l.length=a.length+1/\Dg W l/\dv W l=dv W a*2^s:=by
 unfold xW;rw[qD (by omega),qbP (by omega),ZB]
 have hz: ∀(m:Nat) z,(List.replicate (a.length+1) (0:Int))[m]? =some z->z=0:=λm z hz=>by
  rw[List.getElem?_replicate]at hz;split at hz
  ·injection hz with hz;exact hz.symm
  cases hz
 obtain⟨l,e,h1,h2,h3⟩:=qiQ ha hal hs N 0 (List.replicate (a.length+1) 0) (by omega) (by omega) (by simp) (Um W0 _) (λm z _ h=>hz m z h) (λz h=>by rw[hz 0 z h];exact pow_pos (by omega) s) (by rw[qay];simp[dv]);have e:jh a (s:Int) N (List.replicate (a.length+1) 0) 0=some l:=e;rw[e];exact⟨l,rfl,h1,h2,h3⟩
abbrev E9:Int:=1000000000
theorem E1:(1:Int)<E9:=by decide
theorem E0:(0:Int)<E9:=by decide
theorem qlD {w:List Int} (hl:w.length<=100000): ∀(K m:Nat),m<=w.length->m<K->(∀(i:Nat) x,m<=i->w[i]? =some x->x=0)->
 ∃m':Nat,xN K (w.take m)=some (w.take m')/\m'<=w.length/\(∀x,0<m'->w[m'-1]? =some x->x≠0)/\ ∀(i:Nat) x,m'<=i->w[i]? =some x->x=0
 |0,m,h,hK,_=>by omega
 |K+1,m,h,hK,hz=>by
  have el:(w.take m).length=m:=by rw[Ym];omega
  rw[xN,el];by_cases h0:0<m
  ·have hm:m-1<w.length:=by omega
   have e1:(w.take m)[m-1]? =some w[m-1]:=by rw[Yt,ae (by omega),Ya hm]
   rw[ae (by omega),qke (by omega) h0,ql,e1,ZB,ZB];by_cases c:w[m-1]=0
   ·rw[ai c,ae rfl,y9 (by omega),ZB,List.take_take,aP (by omega)]
    refine qlD hl K (m-1) (by omega) (by omega) λi x hi hx=>?_
    rcases ak i m with h1|h1
    ·have e:i=m-1:=by omega
     subst e;rw[Ya hm]at hx;rw[<-Ye hx];exact c
    exact hz i x h1 hx
   rw[ah c,aa (by simp)];refine⟨m,rfl,h,λx _ hx=>?_,hz⟩;rw[Ya hm]at hx;rw[<-Ye hx];exact c
  rw[aa (by omega),ZB,aa (by simp)];exact⟨m,rfl,h,λx h1=>by omega,hz⟩
theorem qda {N:Nat} {w:List Int} (hw:Dg E9 w) (hl:w.length<=100000) (hN:w.length<N):yZ N w=some (dg E9 (dv E9 w)):=by
 unfold yZ;obtain⟨m,e,h1,h2,h3⟩:=qlD hl N w.length (ag _) hN (λi x hi hx=>by rw[Yg hi]at hx;cases hx);rw[aj (ag _)]at e;rw[e,ZB,qmY E1 hw h1 h2 h3]
def rI (z:Int):qJ:=⟨decide (z<0),dg E9 z.natAbs⟩
theorem qa7 {N:Nat} (neg:Bool) {w:List Int} (hw:Dg E9 w) (hl:w.length<=100000) (hN:w.length<N):ja N neg w=some (rI (if neg=true then-dv E9 w else dv E9 w)):=by
 have h0:=qF E0 hw;have hn:=qh9 E1 h0;unfold ja;rw[qda hw hl hN,ZB]
 have hlen:0<(dg E9 (dv E9 w)).length↔0<dv E9 w:=by
  rw[cj];constructor
  ·intro c
   have:dv E9 w≠0:=λe=>c (hn.2 e)
   omega
  intro c e;have:=hn.1 e;omega
 cases neg with
 |true=>
  rw[ae rfl,ae rfl,ZB];unfold rI;rw[dz,show(dv E9 w).natAbs=dv E9 w by omega];congr 2;exact decide_eq_decide.2 (by omega)
 |false=>
  rw[aa (by simp),aa (by simp),ZB];unfold rI;rw[show((dv E9 w).natAbs:Int)=dv E9 w by omega,ah (by omega)]
theorem qdB {a b:List Int} (ha:Can E9 a) (hb:Can E9 b) (h:a.length<b.length):dv E9 a<dv E9 b:=by
 obtain⟨n,hn⟩: ∃n,b.length=n+1:=⟨b.length-1,by omega⟩;have h1:=xU E0 ha.1;have h2:=hb.low E1 hn;have h3:=xe (show(1:Int)<=E9 by decide) (show a.length<=n by omega);omega
theorem qnD {a b:List Int} (ha:Dg E9 a) (hl:a.length=b.length) (hb:Dg E9 b) {k:Nat} (hk:k<a.length) (he:a.drop (k+1)=b.drop (k+1)) (h:a[k]<b[k]'(by omega)):dv E9 a<dv E9 b:=by
 have e1:=qab E9 a (k+1) (by omega);have e2:=qab E9 b (k+1) (by omega);rw[qy E9 a k hk]at e1;rw[qy E9 b k (by omega)]at e2;have l1:=xU E0 (ha.take k);have l2:=qF E0 (hb.take k);rw[Ym,aP (by omega)]at l1;have l3:E9^k*(a[k]+1)<=E9^k*b[k]:=Yc (by omega) (aq (pow_pos E0 k));rw[Int.mul_add,bN]at l3;rw[he]at e1;omega
theorem qmL {a b:List Int} (ha:Dg E9 a) (hb:Dg E9 b) (hl:a.length=b.length) (hal:a.length<=100000): ∀(K k:Nat),k<=a.length->k<K->a.drop k=b.drop k->
 ze a b K ((k:Int)-1)=some (if dv E9 a<dv E9 b then .inr (-1)else if dv E9 a=dv E9 b then .inl ()else .inr 1)
 |0,k,h,hK,_=>by omega
 |K+1,0,h,hK,he=>by
  rw[YR,YR]at he;rw[ze,aa (by omega),he,aa (by omega),ae rfl]
 |K+1,k+1,h,hK,he=>by
  have hka:k<a.length:=by omega
  have hkb:k<b.length:=by omega
  have ek:((k+1:Nat):Int)-1=(k:Int):=by omega
  rw[ek,ze,ae (by omega),ql,Ya hka,ZB,ql,Ya hkb,ZB];by_cases d:a[k]<b[k]
  ·rw[ae d,ae (qnD ha hl hb hka he d)]
  rw[aa d];by_cases c:a[k]>b[k]
  ·have:=qnD hb hl.symm ha hkb he.symm c;rw[ae c,aa (by omega),aa (by omega)]
  rw[aa c,qo (by omega) (by omega)];refine qmL ha hb hl hal K k (by omega) (by omega) ?_;rw[YG hka,YG hkb,show a[k]=b[k]by omega,he]
theorem qd0 {N:Nat} {a b:List Int} (ha:Can E9 a) (hb:Can E9 b) (hal:a.length<=10000) (hN:a.length+1<N):jW N a b=some (if dv E9 a<dv E9 b then-1 else if dv E9 a=dv E9 b then 0 else 1):=by
 unfold jW;by_cases h:a.length=b.length
 ·have e:=qmL ha.1 hb.1 h (by omega) N a.length (ag _) (by omega) (by rw[aA (ag _),aA (by omega)]);rw[aa (by simp[h]),qo (by omega) (by omega),e,ZB];by_cases c:dv E9 a<dv E9 b
  ·rw[ae c,ae c]
  rw[aa c,aa c];by_cases d:dv E9 a=dv E9 b
  ·rw[ae d,ae d]
  rw[aa d,aa d]
 rw[ae (by simp;omega)];by_cases c:a.length<b.length
 ·rw[ae (by omega),ae (qdB ha hb c)]
 have:=qdB hb ha (by omega);rw[aa (by omega),aa (by omega),aa (by omega)]
theorem qiO {l:List Int} {k:Nat}:dv E9 (l.take (k+1))=dv E9 (l.take k)+E9^k*((l[k]?).getD 0):=by
 by_cases h:k<l.length
 ·rw[qy E9 l k h,Ya h];rfl
 rw[aj (by omega),aj (by omega),Yg (by omega)];simp
theorem qjY {l:List Int} (h:Dg E9 l) (k:Nat):0<=(l[k]?).getD 0/\(l[k]?).getD 0<1000000000:=by
 by_cases hk:k<l.length
 ·rw[Ya hk];exact h.at hk
 rw[Yg (by omega)];exact⟨bU _,by decide⟩
theorem digit_eq (l:List Int) (k:Nat):qa4 l (k:Int)=some ((l[k]?).getD 0):=by
 unfold qa4;by_cases h:k<l.length
 ·rw[ae (by omega),ql,Ya h];rfl
 rw[aa (by omega),Yg (by omega)];rfl
theorem qfp (l:List Int) (x:Int):dv E9 (l++[x])=dv E9 l+E9^l.length*x:=by rw[xY,zR,zz,aO,aT]
theorem qnl {a b:List Int} (ha:Dg E9 a) (hb:Dg E9 b) (hal:a.length<=10000) (hbl:b.length<=10000): ∀(K k:Nat) (l:List Int) (c:Int),10002<K+k->k<=10001->l.length=k->Dg E9 l->0<=c->c<=1->(c=1->k<=a.length\/k<=b.length)->dv E9 l+E9^k*c=dv E9 (a.take k)+dv E9 (b.take k)->
 ∃l',zV a b K l c (k:Int)=some l'/\Dg E9 l'/\l'.length<=10002/\dv E9 l'=dv E9 a+dv E9 b
 |0,k,l,c,hK,hk,_,_,_,_,_,_=>by omega
 |K+1,k,l,c,hK,hk,hl,hd,c0,c1,hc,e=>by
  rw[zV]
  have cond:(if(k:Int)<(a.length:Int)then some true else if(k:Int)<(b.length:Int)then some true else some (decide (c>0)):Option Bool)=some (decide (k<a.length\/k<b.length\/0<c)):=by
   by_cases h1:k<a.length
   ·rw[ae (by omega),ai (.inl h1)]
   rw[aa (by omega)];by_cases h2:k<b.length
   ·rw[ae (by omega),ai (.inr (.inl h2))]
   rw[aa (by omega)];congr 1;exact decide_eq_decide.2 (by omega)
  rw[cond,ZB];by_cases h:k<a.length\/k<b.length\/0<c
  ·have xa:=qjY ha k;have xb:=qjY hb k;rw[ai h,ae rfl,digit_eq,ZB,digit_eq,ZB];generalize hx:(a[k]?).getD 0=x at*;generalize hy:(b[k]?).getD 0=y at*;rw[qo (n:=x+y) (by omega) (by omega),qo (n:=x+y+c) (by omega) (by omega),ba (by omega),YF (by omega),xX (by simp;omega) (by simp;omega),ZB,qo (by omega) (by omega),qD (by omega)];have hs:=aw (x+y+c) 1000000000;have m0:=aC (x+y+c) (show(1000000000:Int)≠0 by decide);have m1:=ar (x+y+c) (show(0:Int)<1000000000 by decide)
   have hk2:k<=10000:=by
    rcases h with h|h|h
    ·omega
    ·omega
    rcases hc (by omega)with h|h<;>omega
   refine qnl ha hb hal hbl K (k+1) _ _ (by omega) (by omega) (by simp[hl]) (hd.append (Dg.cons ⟨m0,m1⟩ Dg.nil)) (by omega) (by omega) (λhq=>?_) ?_
   ·rcases ak k a.length with g|g
    ·exact .inl g
    rcases ak k b.length with g2|g2
    ·exact .inr g2
    rw[Yg g]at hx;rw[Yg g2]at hy;simp only[bO]at hx hy;omega
   rw[qfp,hl,qiO,qiO,hx,hy,aE,Int.mul_assoc]
   have e2:E9^k*(x+y+c)=E9^k*(E9*((x+y+c)/1000000000))+E9^k*((x+y+c)%1000000000):=by rw[<-Int.mul_add];exact ap (E9^k* ·) hs.symm
   rw[Int.mul_add,Int.mul_add]at e2;omega
  have hc0:c=0:=by omega
  rw[ah h,aa (by simp)];rw[aj (by omega),aj (by omega),hc0,aO,aT]at e;exact⟨l,rfl,hd,by omega,e⟩
theorem qj3 {N:Nat} {a b:List Int} (ha:Dg E9 a) (hb:Dg E9 b) (hal:a.length<=10000) (hbl:b.length<=10000) (hN:11000<N): ∃l,qav N a b=some l/\Dg E9 l/\l.length<=10002/\dv E9 l=dv E9 a+dv E9 b:=by
 unfold qav;obtain⟨l,e,h1,h2,h3⟩:=qnl ha hb hal hbl N 0 [] 0 (by omega) (by omega) rfl Dg.nil (by omega) (by omega) (by omega) (by simp[dv]);have e:zV a b N [] 0 0=some l:=e;rw[e,ZB];exact⟨l,rfl,h1,h2,h3⟩
theorem qnm {a b:List Int} (ha:Dg E9 a) (hb:Dg E9 b) (hal:a.length<=10000) (hba:b.length<=a.length): ∀(K k:Nat) (l:List Int) (c:Int),k<=a.length->a.length<K+k->l.length=k->Dg E9 l->0<=c->c<=1->dv E9 l+dv E9 (b.take k)=dv E9 (a.take k)+E9^k*c->
 ∃l' c',zw a b K l c (k:Int)=some l'/\Dg E9 l'/\l'.length=a.length/\0<=c'/\c'<=1/\dv E9 l'+dv E9 b=dv E9 a+E9^a.length*c'
 |0,k,l,c,h,hK,_,_,_,_,_=>by omega
 |K+1,k,l,c,h,hK,hl,hd,c0,c1,e=>by
  rw[zw];by_cases hk:k<a.length
  ·have xa:=ha.at hk;have xb:=qjY hb k;have xa2:a[k]<1000000000:=xa.2;rw[ae (by omega),ql,Ya hk,ZB,digit_eq,ZB];generalize hy:(b[k]?).getD 0=y at*;rw[qo (n:=a[k]-y) (by omega) (by omega),qo (n:=a[k]-y-c) (by omega) (by omega)]
   have step: ∀(s d:Int),(0<=s/\s<1000000000)->(0<=d/\d<=1)->s=a[k]-y-c+1000000000*d-> ∃l' c',zw a b K (l++[s]) d ((k+1:Nat):Int)=some l'/\Dg E9 l'/\l'.length=a.length/\0<=c'/\c'<=1/\dv E9 l'+dv E9 b=dv E9 a+E9^a.length*c':=by
    intro s d hs hd2 es;refine qnm ha hb hal hba K (k+1) _ _ (by omega) (by omega) (by simp[hl]) (hd.append (Dg.cons hs Dg.nil)) hd2.1 hd2.2 ?_;rw[qfp,hl,qiO,qy E9 a k hk,hy,aE,Int.mul_assoc,es]
    have e2:E9^k*(a[k]-y-c+1000000000*d)=E9^k*a[k]-E9^k*y-E9^k*c+E9^k*(E9*d):=by rw[Int.mul_add,Int.mul_sub,Int.mul_sub]
    omega
   by_cases c2:a[k]-y-c<0
   ·rw[ae c2,qo (by omega) (by omega),ZB];simp only;rw[xX (by simp;omega) (by simp;omega),ZB,qD (by omega)];exact step _ 1 (by omega) (by omega) (by omega)
   rw[aa c2,ZB];simp only;rw[xX (by simp;omega) (by simp;omega),ZB,qD (by omega)];exact step _ 0 (by omega) (by omega) (by omega)
  rw[aa (by omega)]
  have ek:k=a.length:=by omega
  subst ek;rw[aj (ag _),aj hba]at e;exact⟨l,c,rfl,hd,hl,c0,c1,e⟩
theorem qgx {N:Nat} {a b:List Int} (ha:Can E9 a) (hb:Can E9 b) (hal:a.length<=10000) (hN:a.length+2<N) (h:dv E9 b<=dv E9 a):xx N a b=some (dg E9 (dv E9 a-dv E9 b)):=by
 have hba:b.length<=a.length:=by
  rcases ak a.length b.length with c|c
  ·have:=qdB ha hb c;omega
  exact c
 unfold xx;obtain⟨l,c,e,h1,h2,h4,h5,h6⟩:=qnm ha.1 hb.1 hal hba N 0 [] 0 (by omega) (by omega) rfl Dg.nil (by omega) (by omega) (by simp[dv]);have e:zw a b N [] 0 0=some l:=e;have l1:=xU E0 h1;rw[h2]at l1;have hp:=pow_pos E0 a.length
 have hc:c=0:=by
  rcases(show c=0\/c=1 by omega)with c|c
  ·exact c
  subst c;omega
 rw[e,ZB,qda h1 (by omega) (by omega),ZB];subst hc;rw[show dv E9 l=dv E9 a-dv E9 b by omega]
theorem qrw {l:List Int} {k:Nat} {v:Int} (hk:k<l.length) (h: ∀(i:Nat) x,k<=i->l[i]? =some x->x=0):dv E9 (l.set k v)=dv E9 l+E9^k*v:=by
 rw[qbD E9 l k v hk,h k l[k] (ag _) (Ya hk),dr]
theorem qiD {n:Nat}: ∀(m:Nat) z,(List.replicate n (0:Int))[m]? =some z->z=0:=λm z hz=>by
 rw[List.getElem?_replicate]at hz;split at hz
 ·exact(Ye hz).symm
 cases hz
theorem qnk {a b:List Int} (ha:Dg E9 a) (hb:Dg E9 b) (hbl:b.length<=10000) {i:Nat} (hi:i<a.length) (hal:a.length<=10000): ∀(K j:Nat) (l:List Int) (c:Int),j<=b.length->b.length<K+j->i+b.length<=l.length->Dg E9 l->0<=c->c<1000000000->
 ∃l' c',zT a b (i:Int) K l c (j:Int)=some (l',c')/\l'.length=l.length/\Dg E9 l'/\(∀m,i+b.length<=m->l'[m]? =l[m]?)/\0<=c'/\c'<1000000000/\dv E9 l'+E9^(i+b.length)*c'+E9^i*(a[i]*dv E9 (b.take j))=dv E9 l+E9^(i+j)*c+E9^i*(a[i]*dv E9 b)
 |0,j,l,c,h,hK,_,_,_,_=>by omega
 |K+1,j,l,c,h,hK,hl,hd,c0,c1=>by
  rw[zT];by_cases hj:j<b.length
  ·have xa:=ha.at hi;have xb:=hb.at hj
   have hil:i+j<l.length:=by omega
   have xl:=hd.at hil;have a2:a[i]<1000000000:=xa.2;have b2:b[j]<1000000000:=xb.2;have l2:l[i+j]<1000000000:=xl.2;rw[ae (by omega),show(i:Int)+(j:Int)=((i+j:Nat):Int)by omega,qo (n:=((i+j:Nat):Int)) (by omega) (by omega),ql,Ya hil,ZB,ql,Ya hi,ZB,ql,Ya hj,ZB];have hp0:0<=a[i]*b[j]:=Yv xa.1 xb.1;have hp1:a[i]*b[j]<=999999999*999999999:=bB (by omega) (by omega) xb.1 (by omega);generalize hp:a[i]*b[j]=p at*;rw[qo (n:=p) (by omega) (by omega),qo (n:=l[i+j]+p) (by omega) (by omega),qo (n:=l[i+j]+p+c) (by omega) (by omega),ba (by omega),YF (by omega),vw hil,ZB,qD (by omega),qo (by omega) (by omega)];have hs:=aw (l[i+j]+p+c) 1000000000;have m0:=aC (l[i+j]+p+c) (show(1000000000:Int)≠0 by decide);have m1:=ar (l[i+j]+p+c) (show(0:Int)<1000000000 by decide);obtain⟨l',c',e1,e2,e3,e4,e5,e6,e7⟩:=qnk ha hb hbl hi hal K (j+1) (l.set (i+j) ((l[i+j]+p+c)%1000000000)) ((l[i+j]+p+c)/1000000000) (by omega) (by omega) (by rw[Yk];exact hl) (hd.set ⟨m0,m1⟩) (by omega) (by omega);refine⟨l',c',e1,by rw[e2,Yk],e3,λm hm=>by rw[e4 m hm,Yw (by omega)],e5,e6,?_⟩;rw[qbD E9 l (i+j) _ hil,qy E9 b j hj,<-Nat.add_assoc,aE]at e7;rw[Int.mul_add a[i],<-Int.mul_assoc a[i],aD a[i] (E9^j),Int.mul_assoc (E9^j),hp,Int.mul_add (E9^i),<-Int.mul_assoc (E9^i) (E9^j),<-Int.pow_add]at e7
   have e8:E9^(i+j)*(l[i+j]+p+c)=E9^(i+j)*(E9*((l[i+j]+p+c)/1000000000))+E9^(i+j)*((l[i+j]+p+c)%1000000000):=by rw[<-Int.mul_add];exact ap (E9^(i+j)* ·) hs.symm
   rw[Int.mul_assoc (E9^(i+j))]at e7;rw[Int.mul_add,Int.mul_add]at e8;rw[Int.mul_sub]at e7;omega
  rw[aa (by omega)]
  have ej:j=b.length:=by omega
  subst ej;rw[aj (ag _)];exact⟨l,c,rfl,rfl,hd,λ_ _=>rfl,c0,c1,rfl⟩
theorem qmz {N:Nat} {a b:List Int} (ha:Dg E9 a) (hb:Dg E9 b) (hal:a.length<=10000) (hbl:b.length<=10000) (hN:b.length<N): ∀(K i:Nat) (l:List Int),i<=a.length->a.length<K+i->l.length=a.length+b.length->Dg E9 l->(∀(m:Nat) z,i+b.length<=m->l[m]? =some z->z=0)->dv E9 l=dv E9 (a.take i)*dv E9 b->
 ∃l',zY N a b K l (i:Int)=some l'/\l'.length=a.length+b.length/\Dg E9 l'/\dv E9 l'=dv E9 a*dv E9 b
 |0,i,l,h,hK,_,_,_,_=>by omega
 |K+1,i,l,h,hK,hl,hd,hz,e=>by
  rw[zY];by_cases hi:i<a.length
  ·obtain⟨l1,c,e1,e2,e3,e4,e5,e6,e7⟩:=qnk ha hb hbl hi hal N 0 l 0 (by omega) (by omega) (by omega) hd (by omega) (by decide);have e1:zT a b (i:Int) N l 0 0=some (l1,c):=e1
   have hib:i+b.length<l1.length:=by omega
   have hz1: ∀(m:Nat) z,i+b.length<=m->l1[m]? =some z->z=0:=λm z hm hx=>hz m z hm (by rw[<-e4 m hm];exact hx)
   have h0:l1[i+b.length]=0:=hz1 _ _ (ag _) (Ya hib);rw[ae (by omega),e1,ZB];simp only;rw[show(i:Int)+(b.length:Int)=((i+b.length:Nat):Int)by omega,qo (by omega) (by omega),ql,Ya hib,ZB,vw hib,ZB,h0,dq,qo (n:=c) (by omega) (by omega),qD (by omega)];refine qmz ha hb hal hbl hN K (i+1) _ (by omega) (by omega) (by rw[Yk,e2,hl]) (e3.set ⟨e5,e6⟩) (λm z hm hx=>qgo hz1 m z (by omega) hx) ?_;rw[qrw hib hz1,qy E9 a i hi,aV,<-e,Int.mul_assoc];rw[bh,zz,aO,aO]at e7;omega
  rw[aa (by omega)]
  have ei:i=a.length:=by omega
  subst ei;rw[aj (ag _)]at e;exact⟨l,rfl,hl,hd,e⟩
theorem qev {N:Nat} {a b:List Int} (ha:Dg E9 a) (hb:Dg E9 b) (hal:a.length<=10000) (hbl:b.length<=10000) (hN:a.length+b.length<N):yM N a b=some (dg E9 (dv E9 a*dv E9 b)):=by
 unfold yM;rw[show(a.length:Int)+(b.length:Int)=((a.length+b.length:Nat):Int)by omega,qo (by omega) (by omega),qbP (by omega),ZB];obtain⟨l,e,h1,h2,h3⟩:=qmz ha hb hal hbl (N:=N) (by omega) N 0 (List.replicate (a.length+b.length) 0) (by omega) (by omega) (by simp) (Um E0 _) (λm z _ h=>qiD m z h) (by rw[qay];simp[dv]);have e:zY N a b N (List.replicate (a.length+b.length) 0) 0=some l:=e;rw[e,ZB,qda h2 (by omega) (by omega),ZB,h3]
theorem qiZ (l:List Int) {i:Nat} (h:i<l.length):dv E9 (l.drop i)=l[i]+E9*dv E9 (l.drop (i+1)):=by
 rw[YG h,zR]
theorem qlA {l:List Int} {k:Nat} {v:Int} (hk:k<l.length) (h: ∀(i:Nat) x,i<=k->l[i]? =some x->x=0):dv E9 (l.set k v)=dv E9 l+E9^k*v:=by
 rw[qbD E9 l k v hk,h k l[k] (ag _) (Ya hk),dr]
theorem qnn {a:List Int} (ha:Dg E9 a) (hal:a.length<=20000) {d:Int} (d0:0<d) (d1:d<1000000000): ∀(K i:Nat) (l:List Int) (r:Int),i<=a.length->i<K->l.length=a.length->Dg E9 l->(∀(m:Nat) x,m<i->l[m]? =some x->x=0)->dv E9 l=E9^i*(dv E9 (a.drop i)/d)->r=dv E9 (a.drop i)%d->
 ∃l',jg a d K l r ((i:Int)-1)=some (l',dv E9 a%d)/\l'.length=a.length/\Dg E9 l'/\dv E9 l'=dv E9 a/d
 |0,i,l,r,h,hK,_,_,_,_,_=>by omega
 |K+1,0,l,r,h,hK,hl,hd,hz,e,er=>by
  rw[YR]at e er;rw[jg,aa (by omega),er];exact⟨l,rfl,hl,hd,by rw[e];simp⟩
 |K+1,i+1,l,r,h,hK,hl,hd,hz,e,er=>by
  have hi:i<a.length:=by omega
  have hil:i<l.length:=by omega
  have ax:=ha.at hi;have ax2:a[i]<1000000000:=ax.2
  have r0:0<=r:=by rw[er];exact aC _ (by omega)
  have r1:r<d:=by rw[er];exact ar _ d0
  have ei:((i+1:Nat):Int)-1=(i:Int):=by omega
  have hr1:r*1000000000<=999999998*1000000000:=aB (by omega) (by omega);have q0:0<=(r*1000000000+a[i])/d:=aM (by omega) (by omega)
  have q1:(r*1000000000+a[i])/d<1000000000:=by
   rw[Yu d0];have:(r+1)*1000000000<=d*1000000000:=aB (by omega) (by omega);rw[aD 1000000000];omega
  have hq:qc7 .i64 (r*1000000000+a[i]) d=some ((r*1000000000+a[i])/d):=by
   unfold qc7;rw[aa (by omega),YF (by omega)];show some (w64 _)=_;rw[qo (by omega) (by omega)]
  have hm:qfc .i64 (r*1000000000+a[i]) d=some ((r*1000000000+a[i])%d):=by
   unfold qfc;rw[aa (by omega),ba (by omega)]
  rw[jg,ei,ae (by omega),ql,Ya hi,ZB,qo (n:=r*1000000000) (by omega) (by omega),qo (n:=r*1000000000+a[i]) (by omega) (by omega),hq,ZB,ql,Ya hil,ZB,vw hil,ZB,hm,ZB,qo (by omega) (by omega)]
  have ed:dv E9 (a.drop i)=r*1000000000+a[i]+d*(dv E9 (a.drop (i+1))/d*1000000000):=by
   have h1:=aw (dv E9 (a.drop (i+1))) d;rw[<-er]at h1;rw[qiZ a hi,<-Int.mul_assoc];have e9:E9*dv E9 (a.drop (i+1))=1000000000*dv E9 (a.drop (i+1)):=rfl;rw[e9];generalize d*(dv E9 (a.drop (i+1))/d)=m at*;omega
  refine qnn ha hal d0 d1 K i _ _ (by omega) (by omega) (by rw[Yk];exact hl) (hd.set ⟨q0,q1⟩) (λm x hm hx=>?_) ?_ ?_
  ·rw[Yw (by omega)]at hx;exact hz m x (by omega) hx
  ·rw[qlA hil (λm x hm hx=>hz m x (by omega) hx),e,ed,cE _ _ (by omega),aE,Int.mul_assoc,<-Int.mul_add];congr 1;have e9:E9*(dv E9 (a.drop (i+1))/d)=1000000000*(dv E9 (a.drop (i+1))/d):=rfl;rw[e9];omega
  rw[ed,bi]
theorem qhl {N:Nat} {a:List Int} (ha:Dg E9 a) (hal:a.length<=20000) (hN:a.length<N) {d:Int} (d0:0<d) (d1:d<1000000000):xZ N a d=some (dg E9 (dv E9 a/d),dv E9 a%d):=by
 unfold xZ;rw[qbP (by omega),ZB,qo (by omega) (by omega)];obtain⟨l,e,h1,h2,h3⟩:=qnn ha hal d0 d1 N a.length (List.replicate a.length 0) 0 (ag _) (by omega) (by simp) (Um E0 _) (λm x _ hx=>qiD m x hx) (by rw[qay,aA (ag _),zz];simp) (by rw[aA (ag _),zz];simp);rw[e,ZB];simp only;rw[qda h2 (by omega) (by omega),ZB,h3]
theorem qef {p u t:List Int} {m i:Nat} (hi:i<u.length) (hm:u.length<=m):qgu (p++(u++t)) p.length m (i:Int)=some u[i]:=by
 unfold qgu;rw[ae (by omega),aL,ql,Yo (by omega),dH,Yf hi,Ya hi]
theorem qhY {p u t:List Int} {i:Nat} (hi:i<u.length) (x:Int):put (p++(u++t)) ((p.length+((i:Nat):Int).toNat:Nat):Int) x=some (p++(u.set i x++t)):=by
 rw[aL,vw (by simp;omega)];congr 1;rw[cD _ _ (by omega),dH,bE _ _ hi]
theorem qog {p r x:Int} (hp:0<=p) (hx:0<=x/\x<18446744073709551616):(if p/18446744073709551616<r then some true else if p/18446744073709551616=r then some (decide (p%18446744073709551616<=x))else some false:Option Bool)=some (decide (p<=r*18446744073709551616+x)):=by
 have h1:=aw p 18446744073709551616;have h2:=aC p (show(18446744073709551616:Int)≠0 by decide);have h3:=ar p (show(0:Int)<18446744073709551616 by decide);by_cases a:p/18446744073709551616<r
 ·rw[ae a,ai (by omega)]
 rw[aa a];by_cases b:p/18446744073709551616=r
 ·rw[ae b];congr 1;exact decide_eq_decide.2 (by omega)
 rw[aa b,ah (by omega)]
theorem qlO {p u t v:List Int} {k:Nat} (hv:Dg W v) (hvl:v.length=k+2) (hk:k<=10000) (hu:Dg W u) (hul:u.length=k+3) {T v1 v2 u2 Q:Int} (e1:v[k+1]'(by omega)=v1) (e2:v[k]'(by omega)=v2) (e3:u[k]'(by omega)=u2) (hQ:Q*(v1*18446744073709551616+v2)<=T*18446744073709551616+u2) (hQ0:0<=Q) (hn:9223372036854775808<=v1): ∀(K:Nat) (q r o:Int),Q<=q->q<18446744073709551616->0<=r->r<18446744073709551616->(o=0\/o=1)->r+o*18446744073709551616=T-q*v1->18446744073709551616<=r+o*18446744073709551616+K*v1->
 ∃q',xk (p++(u++t)) p.length (k+3) v (K+1) q r o=some q'/\Q<=q'/\q'<18446744073709551616/\q'*(v1*18446744073709551616+v2)<=T*18446744073709551616+u2
 |K,q,r,o,h1,h2,h3,h4,h5,h6,h7=>by
  have a1:=hv.at (show k+1<v.length by omega);have a2:=hv.at (show k<v.length by omega);have a3:=hu.at (show k<u.length by omega);rw[e1]at a1;rw[e2]at a2;rw[e3]at a3;unfold W at a1 a2 a3
  have hq0:0<=q:=by omega
  have hp0:0<=q*v2:=Yv hq0 a2.1;have hp1:q*v2<=18446744073709551615*18446744073709551615:=bB (by omega) (by omega) a2.1 (by omega)
  have ed:q*(v1*18446744073709551616+v2)=q*v1*18446744073709551616+q*v2:=by rw[Int.mul_add,Int.mul_assoc]
  rw[xk];rcases h5 with rfl|rfl
  ·have ek:w64 ((v.length:Int)-2)=(k:Int):=by rw[qo (by omega) (by omega)];omega
   have ek1:w64 ((v.length:Int)-1)=((k+1:Nat):Int):=by rw[qo (by omega) (by omega)];omega
   rw[ae rfl,ek,ql,Ya (show k<v.length by omega),e2,ZB,qgv ⟨hq0,h2⟩ a2,ZB,qef (show k<u.length by omega) (by omega),e3];simp only[ZB];rw[qog hp0 a3,ZB];by_cases c:q*v2<=r*18446744073709551616+u2
   ·rw[ai c,ae rfl];exact⟨q,rfl,h1,h2,by rw[ed];omega⟩
   rw[ah c,aa (by simp),ek1,ql,Ya (show k+1<v.length by omega),e1,ZB]
   have ea:qaN r v1 0=some ((r+v1)%18446744073709551616,(r+v1)/18446744073709551616):=by
    unfold qaN;rw[ae (by omega),aT]
   have hlt:Q<=q-1:=by
    rcases bS Q q with h|h
    ·omega
    have e:q=Q:=by omega
    subst e;rw[ed]at hQ;omega
   have hm1:(q-1)*v1=q*v1-v1:=by rw[Int.sub_mul,bu]
   rw[ea,ZB,yQ (by omega) (by omega)]
   match K,h7 with
   |0,h7=>omega
   |K+1,h7=>
    have eK:((K+1:Nat):Int)*v1=K*v1+v1:=by rw[cC,aV];simp
    exact qlO hv hvl hk hu hul e1 e2 e3 hQ hQ0 hn K (q-1) _ _ hlt (by omega) (by omega) (by omega) (by omega) (by rw[hm1];omega) (by omega)
  rw[aa (by omega)];refine⟨q,rfl,h1,h2,?_⟩;rw[ed];omega
theorem qmF {v:List Int} (hv:Dg W v) (hvl:v.length<=10000) {q:Int} (hq:0<=q/\q<18446744073709551616) {p t:List Int} (hpl:p.length<=100000) {m:Nat}: ∀(K i:Nat) (u:List Int) (b c:Int),i<=v.length->v.length<K+i->u.length=v.length+1->u.length<=m->Dg W u->0<=b->b<=1->0<=c->c<18446744073709551616->
 ∃u' b' c',yf p.length m v q K (p++(u++t)) (i:Int) b c=some (p++(u'++t),b',c')/\u'.length=v.length+1/\Dg W u'/\u'[v.length]? =u[v.length]? /\0<=b'/\b'<=1/\0<=c'/\c'<18446744073709551616/\dv W u'+q*dv W v=dv W u+q*dv W (v.take i)-W^i*(b+c)+W^v.length*(b'+c')
 |0,i,u,b,c,h,hK,_,_,_,_,_,_,_=>by omega
 |K+1,i,u,b,c,h,hK,hul,hum,hu,b0,b1,c0,c1=>by
  rw[yf];by_cases hi:i<v.length
  ·have av:=hv.at hi
   have hiu:i<u.length:=by omega
   have au:=hu.at hiu;unfold W at av au;have hp0:0<=q*v[i]:=Yv hq.1 av.1;have hp1:q*v[i]<=18446744073709551615*18446744073709551615:=bB (by omega) (by omega) av.1 (by omega);rw[ae (by omega),ql,Ya hi,ZB,qgv hq av,ZB];generalize hp:q*v[i]=x at*
   have ea:qaN (x%18446744073709551616) c 0=some ((x%18446744073709551616+c)%18446744073709551616,(x%18446744073709551616+c)/18446744073709551616):=by
    unfold qaN;rw[ae (by omega),aT]
   rw[ea,ZB,qef hiu hum,ZB]
   have es:qfa u[i] ((x%18446744073709551616+c)%18446744073709551616) b=some ((u[i]-(x%18446744073709551616+c)%18446744073709551616-b)%18446744073709551616,if u[i]<(x%18446744073709551616+c)%18446744073709551616+b then 1 else 0):=by
    unfold qfa;rw[ae (by omega)]
   simp only;rw[es,ZB,qhY hiu,ZB,qD (by omega)]
   have hc:wrap .u64 (x/18446744073709551616+(x%18446744073709551616+c)/18446744073709551616)=(x+c)/18446744073709551616:=by
    rw[yQ (by omega) (by omega)];omega
   have hlo:(x%18446744073709551616+c)%18446744073709551616=(x+c)%18446744073709551616:=by omega
   simp only;rw[hc,hlo];have hxc:=aw (x+c) 18446744073709551616;have m0:=aC (x+c) (show(18446744073709551616:Int)≠0 by decide);have m1:=ar (x+c) (show(0:Int)<18446744073709551616 by decide)
   have k0:0<=(x+c)/18446744073709551616:=by omega
   have k1:(x+c)/18446744073709551616<18446744073709551616:=by omega
   generalize (x+c)/18446744073709551616=c2 at*;generalize (x+c)%18446744073709551616=lo at*
   have hs:(u[i]-lo-b)%18446744073709551616=u[i]-lo-b+18446744073709551616*(if u[i]<lo+b then 1 else 0):=by split<;>omega
   have n0:=aC (u[i]-lo-b) (show(18446744073709551616:Int)≠0 by decide);have n1:=ar (u[i]-lo-b) (show(0:Int)<18446744073709551616 by decide)
   have q2:(0:Int)<=(if u[i]<lo+b then 1 else 0)/\(if u[i]<lo+b then(1:Int)else 0)<=1:=by split<;>omega
   generalize (if u[i]<lo+b then(1:Int)else 0)=b2 at*;generalize (u[i]-lo-b)%18446744073709551616=un at*;obtain⟨u',b',c',f1,f2,f3,f4,f5,f6,f7,f8,f9⟩:=qmF hv hvl hq hpl K (i+1) (u.set i un) b2 c2 (by omega) (by omega) (by rw[Yk];exact hul) (by rw[Yk];exact hum) (hu.set ⟨n0,n1⟩) q2.1 q2.2 k0 k1;refine⟨u',b',c',f1,f2,f3,by rw[f4,Yw (by omega)],f5,f6,f7,f8,?_⟩;rw[f9,qbD W u i un hiu,qy W v i hi,Int.mul_add q,<-Int.mul_assoc q,aD q (W^i),Int.mul_assoc (W^i) q,hp,aE,Int.mul_assoc (W^i) W]
   have e5:W^i*(un-u[i])+W^i*x-W^i*(W*(b2+c2))= -(W^i*(b+c)):=by
    rw[<-Int.mul_add,<-Int.mul_sub,<-Int.mul_neg];congr 1;unfold W;omega
   omega
  rw[aa (by omega)]
  have ei:i=v.length:=by omega
  subst ei;rw[aj (ag _)];exact⟨u,b,c,rfl,hul,hu,rfl,b0,b1,c0,c1,by omega⟩
theorem qmN {v:List Int} (hv:Dg W v) (hvl:v.length<=10000) {p t:List Int} (hpl:p.length<=100000) {m:Nat}: ∀(K i:Nat) (u:List Int) (c:Int),i<=v.length->v.length<K+i->u.length=v.length+1->u.length<=m->Dg W u->0<=c->c<=1->
 ∃u' c',yg p.length m v K (p++(u++t)) (i:Int) c=some (p++(u'++t),c')/\u'.length=v.length+1/\Dg W u'/\u'[v.length]? =u[v.length]? /\0<=c'/\c'<=1/\dv W u'+W^v.length*c'=dv W u+dv W v-dv W (v.take i)+W^i*c
 |0,i,u,c,h,hK,_,_,_,_,_=>by omega
 |K+1,i,u,c,h,hK,hul,hum,hu,c0,c1=>by
  rw[yg];by_cases hi:i<v.length
  ·have av:=hv.at hi
   have hiu:i<u.length:=by omega
   have au:=hu.at hiu;unfold W at av au;rw[ae (by omega),qef hiu hum,ZB,ql,Ya hi,ZB]
   have ea:qaN u[i] v[i] c=some ((u[i]+v[i]+c)%18446744073709551616,(u[i]+v[i]+c)/18446744073709551616):=by
    unfold qaN;rw[ae (by omega)]
   rw[ea,ZB,qhY hiu,ZB,qD (by omega)];have hs:=aw (u[i]+v[i]+c) 18446744073709551616;have m0:=aC (u[i]+v[i]+c) (show(18446744073709551616:Int)≠0 by decide);have m1:=ar (u[i]+v[i]+c) (show(0:Int)<18446744073709551616 by decide)
   have k0:0<=(u[i]+v[i]+c)/18446744073709551616/\(u[i]+v[i]+c)/18446744073709551616<=1:=by omega
   simp only;generalize (u[i]+v[i]+c)/18446744073709551616=c2 at*;generalize (u[i]+v[i]+c)%18446744073709551616=un at*;obtain⟨u',c',f1,f2,f3,f4,f5,f6,f7⟩:=qmN hv hvl hpl K (i+1) (u.set i un) c2 (by omega) (by omega) (by rw[Yk];exact hul) (by rw[Yk];exact hum) (hu.set ⟨m0,m1⟩) k0.1 k0.2;refine⟨u',c',f1,f2,f3,by rw[f4,Yw (by omega)],f5,f6,?_⟩;rw[f7,qbD W u i un hiu,qy W v i hi,aE,Int.mul_assoc (W^i) W]
   have e5:W^i*(un-u[i])-W^i*v[i]+W^i*(W*c2)=W^i*c:=by
    rw[<-Int.mul_sub,<-Int.mul_add];congr 1;unfold W;omega
   omega
  rw[aa (by omega)]
  have ei:i=v.length:=by omega
  subst ei;rw[aj (ag _)];exact⟨u,c,rfl,hul,hu,rfl,c0,c1,by omega⟩
theorem qkY {P ulo vlo T3 V2 U V Q q v1 v2:Int} (hP:0<P) (eU:U=ulo+P*T3) (eV:V=vlo+P*V2) (hu:0<=ulo/\ulo<P) (hv:0<=vlo/\vlo<P) (e2:V2=v1*18446744073709551616+v2) (h1:1<=v1) (h2:0<=v2) (hU:0<=U) (eQ:Q=U/V):0<V/\Q*V2<=T3/\(0<=q->q<18446744073709551616->q*V2<=T3->q<=Q+1):=by
 have hPW:P*18446744073709551616<=P*V2:=Yc (by omega) (by omega)
 have hV:0<V:=by omega
 have q0:0<=Q:=by rw[eQ];exact aM hU (by omega)
 have q1:Q*V<=U:=by rw[eQ];exact dM U (by omega)
 have q2:U<(Q+1)*V:=by
  rw[eQ];exact eR U hV
 refine⟨hV,?_,λa b c=>?_⟩
 ·rcases bS T3 (Q*V2)with h|h
  ·exfalso;have a1:P*(T3+1)<=P*(Q*V2):=Yc (by omega) (by omega)
   have a2:P*(Q*V2)<=Q*V:=by
    rw[eV,Int.mul_add]
    have:P*(Q*V2)=Q*(P*V2):=by rw[<-Int.mul_assoc,aD P Q,Int.mul_assoc]
    have:=Yv q0 hv.1;omega
   rw[Int.mul_add,bN]at a1;omega
  exact h
 have a1:q*V=q*vlo+P*(q*V2):=by
  rw[eV,Int.mul_add];congr 1;rw[<-Int.mul_assoc,aD q P,Int.mul_assoc]
 have a2:P*(q*V2)<=P*T3:=Yc c (by omega);have a3:q*vlo<=18446744073709551615*P:=bB (by omega) (by omega) hv.1 (by omega)
 have a4:q*V<(Q+2)*V:=by
  rw[aV];rw[aV]at q2;omega
 have:=dC a4 (by omega);omega
theorem qqK {N:Nat} (hN:11000<N) {p u t v:List Int} {k c:Nat} (hv:Dg W v) (hvl:v.length=k+2) (hk:k<=9000) (hu:Dg W u) (hul:u.length=k+3) (hpl:p.length<=100000) (hn:9223372036854775808<=v[k+1]'(by omega)) (hlt:dv W u<18446744073709551616*dv W v):
 ∃u',qcp N (p++(u++t)) p.length (k+3) c v=some (p++(u'++t),dv W u/dv W v)/\u'.length=k+3/\Dg W u'/\dv W u'=dv W u%dv W v:=by
 have a1:=hv.at (show k+1<v.length by omega);have a2:=hv.at (show k<v.length by omega);have b0:=hu.at (show k+2<u.length by omega);have b1:=hu.at (show k+1<u.length by omega);have b2:=hu.at (show k<u.length by omega)
 have eV:dv W v=dv W (v.take k)+W^k*(v[k+1]*18446744073709551616+v[k]):=by
  have e1:=qy W v (k+1) (by omega);have e2:=qy W v k (by omega);rw[aj (by omega),e2,aE,Int.mul_assoc]at e1;rw[e1,Int.mul_add,aD v[k+1]];show _=_+(W^k*(W*v[k+1])+_);omega
 have eU:dv W u=dv W (u.take k)+W^k*((u[k+2]*18446744073709551616+u[k+1])*18446744073709551616+u[k]):=by
  have e0:=qy W u (k+2) (by omega);have e1:=qy W u (k+1) (by omega);have e2:=qy W u k (by omega);have p1:W^(k+1)=W^k*W:=aE _ _
  have p2:W^(k+2)=W^k*W*W:=by rw[<-p1];exact aE _ _
  rw[aj (by omega),e1,e2,p2,p1]at e0
  have e3:(u[k+2]*18446744073709551616+u[k+1])*18446744073709551616+u[k]=u[k]+W*u[k+1]+W*(W*u[k+2]):=by unfold W;omega
  rw[e0,e3,Int.mul_add,Int.mul_add];simp only[Int.mul_assoc];omega
 have vlo0:=qF W0 (hv.take k);have vlo1:=xU W0 (hv.take k);have ulo0:=qF W0 (hu.take k);have ulo1:=xU W0 (hu.take k);rw[Ym,aP (by omega)]at vlo1 ulo1;have U0:=qF W0 hu;have hP:=pow_pos W0 k
 have DF:=λq=>qkY (q:=q) hP eU eV ⟨ulo0,ulo1⟩ ⟨vlo0,vlo1⟩ rfl (by omega) a2.1 U0 rfl
 have V0:=(DF 0).1;have hQ0:0<=dv W u/dv W v:=aM U0 (by omega)
 have hQ1:dv W u/dv W v<18446744073709551616:=by rw[Yu V0];exact hlt
 have hQ2:=(DF 0).2.1;generalize hQ:dv W u/dv W v=Q at*;unfold W at a1 a2 b0 b1 b2
 have ek:w64 ((v.length:Int)-1)=((k+1:Nat):Int):=by rw[qo (by omega) (by omega)];omega
 have el:(v.length:Int)=((k+2:Nat):Int):=by rw[hvl]
 unfold qcp;rw[ek,el,qef (show k+2<u.length by omega) (by omega),ZB,ql,Ya (show k+1<v.length by omega),ZB,qef (show k+1<u.length by omega) (by omega)];simp only[ZB]
 have G: ∃q r o:Int,(if u[k+2]>=v[k+1]then(qaN u[k+1] v[k+1] 0).bind λr11=>some (18446744073709551615,r11.1,r11.2)else(qby N u[k+2] u[k+1] v[k+1]).bind λr14=>some (r14.1,r14.2,0):Option (Int×Int×Int))=some (q,r,o)/\Q<=q/\q<18446744073709551616/\0<=r/\r<18446744073709551616/\(o=0\/o=1)/\r+o*18446744073709551616=(u[k+2]*18446744073709551616+u[k+1])-q*v[k+1]:=by
  by_cases h:u[k+2]>=v[k+1]
  ·have he:u[k+2]=v[k+1]:=by
    rcases bS v[k+1] u[k+2]with g|g
    ·exfalso;have g1:W^k*((v[k+1]*18446744073709551616+v[k]+1)*18446744073709551616)<=W^k*((u[k+2]*18446744073709551616+u[k+1])*18446744073709551616+u[k]):=Yc (by omega) (by omega);rw[<-Int.mul_assoc,Int.mul_add (W^k) _ 1]at g1;omega
    omega
   have ea:qaN u[k+1] v[k+1] 0=some ((u[k+1]+v[k+1])%18446744073709551616,(u[k+1]+v[k+1])/18446744073709551616):=by
    unfold qaN;rw[ae (by omega),aT]
   rw[ae h,ea,ZB];exact⟨_,_,_,rfl,by omega,by omega,by omega,by omega,by omega,by omega⟩
  rw[aa h,qk4 (by omega) b0.1 (by omega) a1.2 b1,ZB];have d1:=aw (u[k+2]*18446744073709551616+u[k+1]) v[k+1];have d2:=aC (u[k+2]*18446744073709551616+u[k+1]) (show v[k+1]≠0 by omega);have d3:=ar (u[k+2]*18446744073709551616+u[k+1]) (show 0<v[k+1]by omega)
  have d4:(u[k+2]*18446744073709551616+u[k+1])/v[k+1]<18446744073709551616:=by
   rw[Yu (by omega)];omega
  refine⟨_,_,_,rfl,?_,d4,d2,by omega,.inl rfl,by rw[aD (_/_)];omega⟩;rw[bM (by omega)]
  have e:Q*(v[k+1]*18446744073709551616+v[k])=Q*v[k+1]*18446744073709551616+Q*v[k]:=by rw[Int.mul_add,Int.mul_assoc]
  have:=Yv hQ0 a2.1;omega
 obtain⟨q,r,o,e,g1,g2,g3,g4,g5,g6⟩:=G;rw[e,ZB];simp only;obtain⟨K,rfl⟩: ∃K,N=K+1:=⟨N-1,by omega⟩
 have hKv:(18446744073709551616:Int)<=r+o*18446744073709551616+K*v[k+1]:=by
  have:(2:Int)*v[k+1]<=K*v[k+1]:=aB (by omega) (by omega);omega
 obtain⟨q',f1,f2,f3,f4⟩:=qlO (p:=p) (t:=t) hv hvl (by omega) hu hul rfl rfl rfl hQ2 hQ0 hn K q r o g1 g2 g3 g4 g5 g6 hKv;rw[f1,ZB];have hle:=(DF q').2.2 (by omega) f3 f4;obtain⟨u',b',c',m1,m2,m3,m4,m5,m6,m7,m8,m9⟩:=qmF hv (by omega) (q:=q') ⟨by omega,f3⟩ (p:=p) (t:=t) hpl (m:=k+3) (K+1) 0 u 0 0 (by omega) (by omega) (by omega) (by omega) hu (by omega) (by omega) (by omega) (by omega);have m1:yf p.length (k+3) v q' (K+1) (p++(u++t)) 0 0 0=some (p++(u'++t),b',c'):=m1;rw[m1,ZB];simp only
 have hku':k+2<u'.length:=by omega
 have eu:u'[k+2]=u[k+2]:=by
  rw[hvl,Ya hku',Ya (show k+2<u.length by omega)]at m4;injection m4
 have es:qfa u'[k+2] c' b'=some ((u'[k+2]-c'-b')%18446744073709551616,if u'[k+2]<c'+b' then 1 else 0):=by
  unfold qfa;rw[ae (by omega)]
 rw[qef hku' (by omega),ZB,es,ZB,qhY hku',ZB];simp only;have n0:=aC (u'[k+2]-c'-b') (show(18446744073709551616:Int)≠0 by decide);have n1:=ar (u'[k+2]-c'-b') (show(0:Int)<18446744073709551616 by decide)
 have hs:(u'[k+2]-c'-b')%18446744073709551616=u'[k+2]-c'-b'+18446744073709551616*(if u'[k+2]<c'+b' then 1 else 0):=by split<;>omega
 have hset:=qbD W u' (k+2) ((u'[k+2]-c'-b')%18446744073709551616) hku';have dset:Dg W (u'.set (k+2) ((u'[k+2]-c'-b')%18446744073709551616)):=m3.set ⟨n0,n1⟩
 have lset:(u'.set (k+2) ((u'[k+2]-c'-b')%18446744073709551616)).length=k+3:=by rw[Yk];omega
 have bset:=xU W0 dset;have bset0:=qF W0 dset;rw[lset]at bset;rw[bh,zz,aO,hvl]at m9;simp only[ce]at m9;have hWk:W^(k+3)=W^(k+2)*18446744073709551616:=aE _ _
 have tot:dv W (u'.set (k+2) ((u'[k+2]-c'-b')%18446744073709551616))=dv W u-q'*dv W v+W^(k+3)*(if u'[k+2]<c'+b' then 1 else 0):=by
  rw[hset,hs,hWk,Int.mul_assoc]
  have e5:W^(k+2)*(u'[k+2]-c'-b'+18446744073709551616*(if u'[k+2]<c'+b' then 1 else 0)-u'[k+2])=W^(k+2)*(18446744073709551616*(if u'[k+2]<c'+b' then 1 else 0))-W^(k+2)*(b'+c'):=by
   rw[<-Int.mul_sub];congr 1;omega
  rw[e5];omega
 generalize u'.set (k+2) ((u'[k+2]-c'-b')%18446744073709551616)=u2 at*
 have hmod:dv W u%dv W v=dv W u-Q*dv W v:=by rw[<-hQ,eo,aD]
 have hm0:=aC (dv W u) (show dv W v≠0 by omega);have hm1:=ar (dv W u) V0
 have hVk:dv W v<W^(k+2):=by have:=xU W0 hv;rw[hvl]at this;exact this
 have hPk:=pow_pos W0 (k+2);by_cases hq:q'=Q
 ·subst hq
  have hb: ¬u'[k+2]<c'+b':=by
   intro h;rw[ae h,bN]at tot;omega
  rw[aa hb]at tot;rw[aa hb,ae rfl];exact⟨u2,rfl,lset,dset,by omega⟩
 have hq1:q'=Q+1:=by omega
 have hqm:q'*dv W v=Q*dv W v+dv W v:=by rw[hq1,aV,bu]
 have hb:u'[k+2]<c'+b':=by
  rcases bS u'[k+2] (c'+b')with h|h
  ·exact h
  rw[aa (by omega)]at tot;omega
 rw[ae hb]at tot;rw[ae hb,aa (by omega)];obtain⟨u3,c3,a1',a2',a3',a4',a5',a6',a7'⟩:=qmN hv (by omega) (p:=p) (t:=t) hpl (m:=k+3) (K+1) 0 u2 0 (by omega) (by omega) (by omega) (by omega) dset (by omega) (by omega);have a1':yg p.length (k+3) v (K+1) (p++(u2++t)) 0 0=some (p++(u3++t),c3):=a1'
 have hk3:k+2<u3.length:=by omega
 rw[a1',ZB];simp only;rw[qef hk3 (by omega),ZB,qhY hk3,ZB,wu,yQ (n:=q'-1) (by omega) (by omega)];have au:=a3'.at hk3;unfold W at au;have r0:=aC (u3[k+2]+c3) (show(18446744073709551616:Int)≠0 by decide);have r1:=ar (u3[k+2]+c3) (show(0:Int)<18446744073709551616 by decide);refine⟨_,by rw[hq1,Int.add_sub_cancel],by rw[Yk];omega,a3'.set ⟨r0,r1⟩,?_⟩;have dfin:=qbD W u3 (k+2) ((u3[k+2]+c3)%18446744073709551616) hk3;have dd:Dg W (u3.set (k+2) ((u3[k+2]+c3)%18446744073709551616)):=a3'.set ⟨r0,r1⟩;have l1:=xU W0 dd;have l0:=qF W0 dd;rw[Yk,a2',hvl]at l1;have l1:_<W^(k+3):=l1;rw[bh,zz,hvl]at a7';simp only[ce]at a7'
 have hd:(u3[k+2]+c3)%18446744073709551616=u3[k+2]+c3-18446744073709551616*((u3[k+2]+c3)/18446744073709551616):=by omega
 have hd1:0<=(u3[k+2]+c3)/18446744073709551616/\(u3[k+2]+c3)/18446744073709551616<=1:=by omega
 have e6:W^(k+2)*((u3[k+2]+c3)%18446744073709551616-u3[k+2])=W^(k+2)*c3-W^(k+3)*((u3[k+2]+c3)/18446744073709551616):=by
  rw[hWk,Int.mul_assoc,<-Int.mul_sub];congr 1;omega
 rw[dfin]at l0 l1⊢;rw[e6]at l0 l1⊢;generalize (u3[k+2]+c3)/18446744073709551616=z at*;rcases(show z=0\/z=1 by omega)with rfl|rfl<;>omega
theorem e9m (x:Int):E9*x=1000000000*x:=rfl
theorem qcr {p u t:List Int} {i:Nat} (hi:i<u.length):idx (p++(u++t)) ((i+p.length:Nat):Int)=some u[i]:=by
 rw[ql,Yo (by omega),Nat.add_sub_cancel,Yf hi,Ya hi]
theorem qe2 {p u t:List Int} {i:Nat} (hi:i<u.length) (x:Int):put (p++(u++t)) ((i+p.length:Nat):Int) x=some (p++(u.set i x++t)):=by
 rw[vw (by simp;omega)];congr 1;rw[cD _ _ (by omega),Nat.add_sub_cancel,bE _ _ hi]
theorem qif {i j:Nat} (hi:i<=100000) (hj:j<=100000):w64 ((i:Int)+(j:Int))=((i+j:Nat):Int):=by rw[qo (by omega) (by omega)];omega
theorem qjw {p u t v:List Int} {k:Nat} (hv:Dg E9 v) (hvl:v.length=k+2) (hk:k<=10000) (hu:Dg E9 u) (hul:u.length=k+3) (hpl:p.length<=50000) {T v1 v2 u2 Q:Int} (e1:v[k+1]'(by omega)=v1) (e2:v[k]'(by omega)=v2) (e3:u[k]'(by omega)=u2) (hT:T<=v1*1000000000+999999999) (hQ:Q*(v1*1000000000+v2)<=T*1000000000+u2) (hQ0:0<=Q) (hQ1:Q<1000000000) (hn:1<=v1): ∀(K:Nat) (q r:Int),Q<=q->q<=4000000000->0<=r->r<1000000000->r=T-q*v1->1000000000<=r+K*v1->
 ∃q',(yw (p++(u++t)) v (p.length:Int) K r q=some (.inl q')\/yw (p++(u++t)) v (p.length:Int) K r q=some (.inr q'))/\Q<=q'/\q'<1000000000/\q'*(v1*1000000000+v2)<=T*1000000000+u2
 |0,q,r,h1,h2,h3,h4,h6,h7=>by simp at h7;omega
 |K+1,q,r,h1,h2,h3,h4,h6,h7=>by
  have a1:=hv.at (show k+1<v.length by omega);have a2:=hv.at (show k<v.length by omega);have a3:=hu.at (show k<u.length by omega);rw[e1]at a1;rw[e2]at a2;rw[e3]at a3;have b1:v1<1000000000:=a1.2;have b2:v2<1000000000:=a2.2;have b3:u2<1000000000:=a3.2
  have hq0:0<=q:=by omega
  have hp0:0<=q*v2:=Yv hq0 a2.1
  have ed: ∀q:Int,q*(v1*1000000000+v2)=q*v1*1000000000+q*v2:=λq=>by rw[Int.mul_add,Int.mul_assoc]
  have ek:w64 ((v.length:Int)-2)=(k:Int):=by rw[qo (by omega) (by omega)];omega
  have ek1:w64 ((v.length:Int)-1)=((k+1:Nat):Int):=by rw[qo (by omega) (by omega)];omega
  have eku:w64 (w64 ((p.length:Int)+(v.length:Int))-2)=((k+p.length:Nat):Int):=by
   rw[qif (by omega) (by omega),qo (by omega) (by omega)];omega
  have cond:(if q>=1000000000 then some true else(idx v (w64 ((v.length:Int)-2))).bind λx12=>(idx (p++(u++t)) (w64 ((w64 ((p.length:Int)+(v.length:Int)))-2))).bind λx13=>some (decide ((w64 (q*x12))>(w64 ((w64 (r*1000000000))+x13)))):Option Bool)=some (decide (q>=1000000000\/q*v2>r*1000000000+u2)):=by
   by_cases c:q>=1000000000
   ·rw[ae c,ai (.inl c)]
   have hp1:q*v2<=999999999*999999999:=bB (by omega) (by omega) a2.1 (by omega);rw[aa c,ek,ql,Ya (show k<v.length by omega),e2,ZB,eku,qcr (show k<u.length by omega),e3,ZB,qo (n:=q*v2) (by omega) (by omega),qo (n:=r*1000000000) (by omega) (by omega),qo (by omega) (by omega)];congr 1;exact decide_eq_decide.2 (by omega)
  rw[yw,cond,ZB];by_cases c:q>=1000000000\/q*v2>r*1000000000+u2
  ·have hm1:(q-1)*v1=q*v1-v1:=by rw[Int.sub_mul,bu]
   have hlt:Q<=q-1:=by
    rcases bS Q q with h|h
    ·omega
    exfalso
    have e:q=Q:=by omega
    subst e;rw[ed]at hQ;rcases c with c|c<;>omega
   rw[ai c,ae rfl,ek1,ql,Ya (show k+1<v.length by omega),e1,ZB,qo (n:=r+v1) (by omega) (by omega),qo (n:=q-1) (by omega) (by omega)];by_cases d:r+v1>=1000000000
   ·rw[ae d]
    have hq1:q-1<1000000000:=by
     rcases bS (q-1) 1000000000 with h|h
     ·exact h
     have:v1*1000000000<=(q-1)*v1:=by rw[aD];exact aB h (by omega)
     omega
    have hp1:(q-1)*v2<=999999999*999999999:=bB (by omega) (by omega) a2.1 (by omega);refine⟨q-1,.inr rfl,hlt,hq1,?_⟩;rw[ed];omega
   rw[aa d]
   have eK:((K+1:Nat):Int)*v1=K*v1+v1:=by rw[cC,aV];simp
   exact qjw hv hvl hk hu hul hpl e1 e2 e3 hT hQ hQ0 hQ1 hn K (q-1) _ hlt (by omega) (by omega) (by omega) (by rw[hm1];omega) (by omega)
  rw[ah c,aa (by simp)];refine⟨q,.inl rfl,h1,by omega,?_⟩;rw[ed];omega
theorem qlB {v:List Int} (hv:Dg E9 v) (hvl:v.length<=10002) {q:Int} (hq:0<=q/\q<1000000000) {p t:List Int} (hpl:p.length<=50000): ∀(K i:Nat) (u:List Int) (b:Int),i<=v.length->v.length<K+i->u.length=v.length+1->Dg E9 u->0<=b->b<=1000000000->
 ∃u' b',ky v (p.length:Int) q K (p++(u++t)) b (i:Int)=some (p++(u'++t),b')/\u'.length=v.length+1/\Dg E9 u'/\u'[v.length]? =u[v.length]? /\0<=b'/\b'<=1000000000/\dv E9 u'+q*dv E9 v=dv E9 u+q*dv E9 (v.take i)-E9^i*b+E9^v.length*b'
 |0,i,u,b,h,hK,_,_,_,_=>by omega
 |K+1,i,u,b,h,hK,hul,hu,b0,b1=>by
  rw[ky];by_cases hi:i<v.length
  ·have av:=hv.at hi
   have hiu:i<u.length:=by omega
   have au:=hu.at hiu;have av2:v[i]<1000000000:=av.2;have au2:u[i]<1000000000:=au.2;have hp0:0<=q*v[i]:=Yv hq.1 av.1;have hp1:q*v[i]<=999999999*999999999:=bB (by omega) (by omega) av.1 (by omega);rw[ae (by omega),ql,Ya hi,ZB,qif (by omega) (by omega),qcr hiu,ZB];generalize hp:q*v[i]=x at*;rw[qo (n:=x) (by omega) (by omega),qo (n:=x+b) (by omega) (by omega),ba (by omega),YF (by omega),qo (n:=u[i]-(x+b)%1000000000) (by omega) (by omega)];have hxc:=aw (x+b) 1000000000;have step: ∀(un b2 d:Int),(0<=un/\un<1000000000)->(0<=d/\d<=1)->b2=(x+b)/1000000000+d->un=u[i]-(x+b)%1000000000+1000000000*d->
    ∃u' b',ky v (p.length:Int) q K (p++(u.set i un++t)) b2 ((i+1:Nat):Int)=some (p++(u'++t),b')/\u'.length=v.length+1/\Dg E9 u'/\u'[v.length]? =u[v.length]? /\0<=b'/\b'<=1000000000/\dv E9 u'+q*dv E9 v=dv E9 u+q*dv E9 (v.take i)-E9^i*b+E9^v.length*b':=by
    intro un b2 d hun hd eb eun;obtain⟨u',b',f1,f2,f3,f4,f5,f6,f9⟩:=qlB hv hvl hq hpl K (i+1) (u.set i un) b2 (by omega) (by omega) (by rw[Yk];exact hul) (hu.set hun) (by omega) (by omega);refine⟨u',b',f1,f2,f3,by rw[f4,Yw (by omega)],f5,f6,?_⟩;rw[f9,qbD E9 u i un hiu,qy E9 v i hi,Int.mul_add q,<-Int.mul_assoc q,aD q (E9^i),Int.mul_assoc (E9^i) q,hp,aE,Int.mul_assoc (E9^i) E9]
    have e5:E9^i*(un-u[i])+E9^i*x-E9^i*(E9*b2)= -(E9^i*b):=by
     rw[<-Int.mul_add,<-Int.mul_sub,<-Int.mul_neg];congr 1;rw[e9m];omega
    omega
   by_cases c:u[i]-(x+b)%1000000000<0
   ·rw[ae c,qo (n:=(x+b)/1000000000) (by omega) (by omega),qo (n:=(x+b)/1000000000+1) (by omega) (by omega),qo (n:=u[i]-(x+b)%1000000000+1000000000) (by omega) (by omega),ZB];simp only;rw[qe2 hiu,ZB,qD (by omega)];exact step _ _ 1 (by omega) (by omega) rfl (by omega)
   rw[aa c,qo (n:=(x+b)/1000000000) (by omega) (by omega),ZB];simp only;rw[qe2 hiu,ZB,qD (by omega)];exact step _ _ 0 (by omega) (by omega) (by omega) (by omega)
  rw[aa (by omega)]
  have ei:i=v.length:=by omega
  subst ei;rw[aj (ag _)];exact⟨u,b,rfl,hul,hu,rfl,b0,b1,by omega⟩
theorem qlm {v:List Int} (hv:Dg E9 v) (hvl:v.length<=10002) {p t:List Int} (hpl:p.length<=50000): ∀(K i:Nat) (u:List Int) (y c:Int),i<=v.length->v.length<K+i->u.length=v.length->Dg E9 u->0<=c->c<=1->
 ∃u' c',zy v (p.length:Int) K (p++(u++[y]++t)) c (i:Int)=some (p++(u'++[y]++t),c')/\u'.length=v.length/\Dg E9 u'/\0<=c'/\c'<=1/\dv E9 u'+E9^v.length*c'=dv E9 u+dv E9 v-dv E9 (v.take i)+E9^i*c
 |0,i,u,y,c,h,hK,_,_,_,_=>by omega
 |K+1,i,u,y,c,h,hK,hul,hu,c0,c1=>by
  rw[zy];by_cases hi:i<v.length
  ·have av:=hv.at hi
   have hiu:i<u.length:=by omega
   have hiu2:i<(u++[y]).length:=by simp;omega
   have au:=hu.at hiu;have av2:v[i]<1000000000:=av.2;have au2:u[i]<1000000000:=au.2;have eg:(u++[y])[i]=u[i]:=List.getElem_append_left hiu;rw[ae (by omega),qif (by omega) (by omega),qcr hiu2,eg,ZB,ql,Ya hi,ZB,qo (n:=u[i]+v[i]) (by omega) (by omega),qo (n:=u[i]+v[i]+c) (by omega) (by omega),ba (by omega),YF (by omega),qe2 hiu2,ZB,bE _ _ hiu,qo (n:=(u[i]+v[i]+c)/1000000000) (by omega) (by omega),qD (by omega)];have hs:=aw (u[i]+v[i]+c) 1000000000;have m0:=aC (u[i]+v[i]+c) (show(1000000000:Int)≠0 by decide);have m1:=ar (u[i]+v[i]+c) (show(0:Int)<1000000000 by decide)
   have k0:0<=(u[i]+v[i]+c)/1000000000/\(u[i]+v[i]+c)/1000000000<=1:=by omega
   generalize (u[i]+v[i]+c)/1000000000=c2 at*;generalize (u[i]+v[i]+c)%1000000000=un at*;obtain⟨u',c',f1,f2,f3,f5,f6,f7⟩:=qlm hv hvl hpl K (i+1) (u.set i un) y c2 (by omega) (by omega) (by rw[Yk];exact hul) (hu.set ⟨m0,m1⟩) k0.1 k0.2;refine⟨u',c',f1,f2,f3,f5,f6,?_⟩;rw[f7,qbD E9 u i un hiu,qy E9 v i hi,aE,Int.mul_assoc (E9^i) E9]
   have e5:E9^i*(un-u[i])-E9^i*v[i]+E9^i*(E9*c2)=E9^i*c:=by
    rw[<-Int.mul_sub,<-Int.mul_add];congr 1;rw[e9m];omega
   omega
  rw[aa (by omega)]
  have ei:i=v.length:=by omega
  subst ei;rw[aj (ag _)];exact⟨u,c,rfl,hul,hu,c0,c1,by omega⟩
theorem qj1 {P ulo vlo T3 V2 U V Q q v1 v2:Int} (hP:0<P) (eU:U=ulo+P*T3) (eV:V=vlo+P*V2) (hu:0<=ulo/\ulo<P) (hv:0<=vlo/\vlo<P) (e2:V2=v1*1000000000+v2) (h1:1<=v1) (h2:0<=v2) (hU:0<=U) (eQ:Q=U/V):0<V/\Q*V2<=T3/\(0<=q->q<1000000000->q*V2<=T3->q<=Q+1):=by
 have hPW:P*1000000000<=P*V2:=Yc (by omega) (by omega)
 have hV:0<V:=by omega
 have q0:0<=Q:=by rw[eQ];exact aM hU (by omega)
 have q1:Q*V<=U:=by rw[eQ];exact dM U (by omega)
 have q2:U<(Q+1)*V:=by
  rw[eQ];exact eR U hV
 refine⟨hV,?_,λa b c=>?_⟩
 ·rcases bS T3 (Q*V2)with h|h
  ·exfalso;have a1:P*(T3+1)<=P*(Q*V2):=Yc (by omega) (by omega)
   have a2:P*(Q*V2)<=Q*V:=by
    rw[eV,Int.mul_add]
    have:P*(Q*V2)=Q*(P*V2):=by rw[<-Int.mul_assoc,aD P Q,Int.mul_assoc]
    have:=Yv q0 hv.1;omega
   rw[Int.mul_add,bN]at a1;omega
  exact h
 have a1:q*V=q*vlo+P*(q*V2):=by
  rw[eV,Int.mul_add];congr 1;rw[<-Int.mul_assoc,aD q P,Int.mul_assoc]
 have a2:P*(q*V2)<=P*T3:=Yc c (by omega);have a3:q*vlo<=999999999*P:=bB (by omega) (by omega) hv.1 (by omega)
 have a4:q*V<(Q+2)*V:=by
  rw[aV];rw[aV]at q2;omega
 have:=dC a4 (by omega);omega
set_option maxHeartbeats 1000000 in
theorem qor {N:Nat} (hN:11000<N) {p u t v:List Int} {k:Nat} (hv:Dg E9 v) (hvl:v.length=k+2) (hk:k<=9000) (hu:Dg E9 u) (hul:u.length=k+3) (hpl:p.length<=50000) (hn:1000000<=v[k+1]'(by omega)) (hlt:dv E9 u<1000000000*dv E9 v):
 ∃u',u'.length=k+3/\Dg E9 u'/\dv E9 u'=dv E9 u%dv E9 v/\((qa3 N (p++(u++t)) v (p.length:Int)).bind λr25=>
 (ky v (p.length:Int) r25 N (p++(u++t)) 0 0).bind λ(l29,n30)=>
 (idx l29 (w64 ((p.length:Int)+(v.length:Int)))).bind λx40=>
 (put l29 (w64 ((p.length:Int)+(v.length:Int))) (w64 (x40-n30))).bind λl41=>
 (idx l41 (w64 ((p.length:Int)+(v.length:Int)))).bind λx42=>
 ((if x42<0 then
 (zy v (p.length:Int) N l41 0 0).bind λ(l50,n51)=>
 (idx l50 (w64 ((p.length:Int)+(v.length:Int)))).bind λx57=>
 (put l50 (w64 ((p.length:Int)+(v.length:Int))) (w64 (x57+n51))).bind λl58=>
 some (l58,w64 (r25-1))
 else
 some (l41,r25):Option ((List Int)×Int))))=some (p++(u'++t),dv E9 u/dv E9 v):=by
 have a1:=hv.at (show k+1<v.length by omega);have a2:=hv.at (show k<v.length by omega);have b0:=hu.at (show k+2<u.length by omega);have b1:=hu.at (show k+1<u.length by omega);have b2:=hu.at (show k<u.length by omega)
 have eV:dv E9 v=dv E9 (v.take k)+E9^k*(v[k+1]*1000000000+v[k]):=by
  have e1:=qy E9 v (k+1) (by omega);have e2:=qy E9 v k (by omega);have p1:E9^(k+1)=E9^k*E9:=aE _ _;rw[aj (by omega),e2,p1]at e1;rw[e1,show v[k+1]*1000000000+v[k]=v[k]+E9*v[k+1]by rw[e9m];omega,Int.mul_add];simp only[Int.mul_assoc];omega
 have eU:dv E9 u=dv E9 (u.take k)+E9^k*((u[k+2]*1000000000+u[k+1])*1000000000+u[k]):=by
  have e0:=qy E9 u (k+2) (by omega);have e1:=qy E9 u (k+1) (by omega);have e2:=qy E9 u k (by omega);have p1:E9^(k+1)=E9^k*E9:=aE _ _
  have p2:E9^(k+2)=E9^k*E9*E9:=by rw[<-p1];exact aE _ _
  rw[aj (by omega),e1,e2,p2,p1]at e0
  have e3:(u[k+2]*1000000000+u[k+1])*1000000000+u[k]=u[k]+E9*u[k+1]+E9*(E9*u[k+2]):=by
   have h1:E9*u[k+1]=1000000000*u[k+1]:=rfl;have h2:E9*(E9*u[k+2])=1000000000*(1000000000*u[k+2]):=rfl;omega
  rw[e0,e3,Int.mul_add,Int.mul_add];simp only[Int.mul_assoc];omega
 have vlo0:=qF E0 (hv.take k);have vlo1:=xU E0 (hv.take k);have ulo0:=qF E0 (hu.take k);have ulo1:=xU E0 (hu.take k);rw[Ym,aP (by omega)]at vlo1 ulo1;have U0:=qF E0 hu;have hP:=pow_pos E0 k
 have DF:=λq=>qj1 (q:=q) hP eU eV ⟨ulo0,ulo1⟩ ⟨vlo0,vlo1⟩ rfl (by omega) a2.1 U0 rfl
 have V0:=(DF 0).1;have hQ0:0<=dv E9 u/dv E9 v:=aM U0 (by omega)
 have hQ1:dv E9 u/dv E9 v<1000000000:=by rw[Yu V0];exact hlt
 have hQ2:=(DF 0).2.1
 have hmod:dv E9 u%dv E9 v=dv E9 u-dv E9 u/dv E9 v*dv E9 v:=by rw[eo,aD]
 have hm0:=aC (dv E9 u) (show dv E9 v≠0 by omega);have hm1:=ar (dv E9 u) V0;generalize hQ:dv E9 u/dv E9 v=Q at*;have c1:v[k+1]<1000000000:=a1.2;have c2:v[k]<1000000000:=a2.2;have d0:u[k+2]<1000000000:=b0.2;have d1:u[k+1]<1000000000:=b1.2;have d2:u[k]<1000000000:=b2.2
 have hle:u[k+2]<=v[k+1]:=by
  rcases bS v[k+1] u[k+2]with g|g
  ·exfalso;have g1:E9^k*((v[k+1]*1000000000+v[k]+1)*1000000000)<=E9^k*((u[k+2]*1000000000+u[k+1])*1000000000+u[k]):=Yc (by omega) (by omega);rw[<-Int.mul_assoc,Int.mul_add (E9^k) _ 1]at g1;omega
  exact g
 have G: ∃q',qa3 N (p++(u++t)) v (p.length:Int)=some q'/\Q<=q'/\q'<1000000000/\q'*(v[k+1]*1000000000+v[k])<=(u[k+2]*1000000000+u[k+1])*1000000000+u[k]:=by
  have ek:w64 ((v.length:Int)-1)=((k+1:Nat):Int):=by rw[qo (by omega) (by omega)];omega
  have ek2:w64 ((p.length:Int)+(v.length:Int))=((k+2+p.length:Nat):Int):=by rw[qif (by omega) (by omega)];congr 1;omega
  have ek1:w64 (((k+2+p.length:Nat):Int)-1)=((k+1+p.length:Nat):Int):=by rw[qo (by omega) (by omega)];omega
  have e1:=aw (u[k+2]*1000000000+u[k+1]) v[k+1];have e2:=aC (u[k+2]*1000000000+u[k+1]) (show v[k+1]≠0 by omega);have e3:=ar (u[k+2]*1000000000+u[k+1]) (show 0<v[k+1]by omega)
  have e4:(u[k+2]*1000000000+u[k+1])/v[k+1]<=1000001000:=by
   have:(u[k+2]*1000000000+u[k+1])/v[k+1]<1000001001:=by
    rw[Yu (by omega)];omega
   omega
  have e5:Q<=(u[k+2]*1000000000+u[k+1])/v[k+1]:=by
   rw[bM (by omega)]
   have e:Q*(v[k+1]*1000000000+v[k])=Q*v[k+1]*1000000000+Q*v[k]:=by rw[Int.mul_add,Int.mul_assoc]
   have:=Yv hQ0 a2.1;omega
  have hq:qc7 .i64 (u[k+2]*1000000000+u[k+1]) v[k+1]=some ((u[k+2]*1000000000+u[k+1])/v[k+1]):=by
   unfold qc7;rw[aa (by omega),YF (by omega)];show some (w64 _)=_;rw[qo (by omega) (by omega)]
  have hm:qfc .i64 (u[k+2]*1000000000+u[k+1]) v[k+1]=some ((u[k+2]*1000000000+u[k+1])%v[k+1]):=by
   unfold qfc;rw[aa (by omega),ba (by omega)]
  have hKv:(1000000000:Int)<=(u[k+2]*1000000000+u[k+1])%v[k+1]+N*v[k+1]:=by
   have:(1000:Int)*v[k+1]<=N*v[k+1]:=aB (by omega) (by omega);omega
  obtain⟨q',g1,g2,g3,g4⟩:=qjw (p:=p) (t:=t) hv hvl (by omega) hu hul hpl rfl rfl rfl (T:=u[k+2]*1000000000+u[k+1]) (by omega) hQ2 hQ0 hQ1 (by omega) N _ _ e5 (by omega) e2 (by omega) (by rw[aD (_/_)];omega) hKv;refine⟨q',?_,g2,g3,g4⟩;unfold qa3;rw[ek2,ek1,ek,qcr (show k+2<u.length by omega),ZB,qcr (show k+1<u.length by omega),ZB,ql,Ya (show k+1<v.length by omega),ZB,qo (n:=u[k+2]*1000000000) (by omega) (by omega),qo (n:=u[k+2]*1000000000+u[k+1]) (by omega) (by omega),hq,ZB,hm,ZB];rcases g1 with g1|g1<;>rw[g1]<;>rfl
 obtain⟨q',g1,f2,f3,f4⟩:=G;have hle2:=(DF q').2.2 (by omega) f3 f4;obtain⟨w,b',m1,m2,m3,m4,m5,m6,m9⟩:=qlB hv (by omega) (q:=q') ⟨by omega,f3⟩ (p:=p) (t:=t) hpl N 0 u 0 (by omega) (by omega) (by omega) hu (by omega) (by omega);have m1:ky v (p.length:Int) q' N (p++(u++t)) 0 0=some (p++(w++t),b'):=m1
 have hkw:k+2<w.length:=by omega
 have ew:w[k+2]=u[k+2]:=by
  rw[hvl,Ya hkw,Ya (show k+2<u.length by omega)]at m4;exact Ye m4
 have wsp:w=w.take (k+2)++[w[k+2]]:=by
  have:=cf hkw;rw[aj (by omega)]at this;exact this
 have wl:(w.take (k+2)).length=k+2:=by rw[Ym];omega
 have wd:=m3.take (k+2)
 have wv:dv E9 w=dv E9 (w.take (k+2))+E9^(k+2)*w[k+2]:=by
  have:=qy E9 w (k+2) hkw;rw[aj (by omega)]at this;exact this
 have lo0:=qF E0 wd;have lo1:=xU E0 wd;rw[wl]at lo1;rw[bh,zz,aO,hvl]at m9;simp only[ce]at m9
 have hVk:dv E9 v<E9^(k+2):=by have:=xU E0 hv;rw[hvl]at this;exact this
 have hPk:=pow_pos E0 (k+2)
 have ek2:w64 ((p.length:Int)+(v.length:Int))=((k+2+p.length:Nat):Int):=by rw[qif (by omega) (by omega)];congr 1;omega
 have eset:w.set (k+2) (u[k+2]-b')=w.take (k+2)++[u[k+2]-b']:=by
  rw[List.set_eq_take_append_cons_drop,ae hkw,aA (by omega)]
 have hks:k+2<(w.set (k+2) (u[k+2]-b')).length:=by rw[Yk];exact hkw
 have tot:dv E9 (w.take (k+2))+E9^(k+2)*(u[k+2]-b')=dv E9 u-q'*dv E9 v:=by
  rw[Int.mul_sub,<-ew];omega
 rw[g1,ZB,m1,ZB];simp only;rw[ek2,qcr hkw,ZB,ew,qo (n:=u[k+2]-b') (by omega) (by omega),qe2 hkw,ZB,qcr hks,dN,ZB];by_cases hq:q'=Q
 ·have hy:u[k+2]-b'=0:=by
   subst hq
   have h1: ¬(1<=u[k+2]-b'):=λh=>by
    have:=Yc h (aq hPk);omega
   have h2: ¬(u[k+2]-b'<= -1):=λh=>by
    have:=Yc h (aq hPk);omega
   omega
  rw[aa (by omega),eset,hy,hq];rw[hy,aO,aT,hq]at tot;refine⟨w.take (k+2)++[0],by simp;omega,wd.append (Dg.cons ⟨by omega,by decide⟩ Dg.nil),?_,rfl⟩;rw[qfp,aO,aT];omega
 have hq1:q'=Q+1:=by omega
 have hqm:q'*dv E9 v=Q*dv E9 v+dv E9 v:=by rw[hq1,aV,bu]
 have hy:u[k+2]-b'<0:=by
  rcases bS (u[k+2]-b') 0 with h|h
  ·exact h
  have:=Yv (aq hPk) h;omega
 obtain⟨u3,c3,a1',a2',a3',a5',a6',a7'⟩:=qlm hv (by omega) (p:=p) (t:=t) hpl N 0 (w.take (k+2)) (u[k+2]-b') 0 (by omega) (by omega) (by omega) wd (by omega) (by omega);have a1':zy v (p.length:Int) N (p++(w.take (k+2)++[u[k+2]-b']++t)) 0 0=some (p++(u3++[u[k+2]-b']++t),c3):=a1';rw[bh,zz,hvl]at a7';simp only[ce]at a7';have l0:=qF E0 a3';have l1:=xU E0 a3';rw[a2',hvl]at l1
 have hyc:u[k+2]-b'+c3=0:=by
  have e1:dv E9 u3+E9^(k+2)*(u[k+2]-b'+c3)=dv E9 u-Q*dv E9 v:=by
   rw[Int.mul_add];omega
  have h1: ¬(1<=u[k+2]-b'+c3):=λh=>by
   have:=Yc h (aq hPk);omega
  have h2: ¬(u[k+2]-b'+c3<= -1):=λh=>by
   have:=Yc h (aq hPk);omega
  omega
 have hk3:k+2<(u3++[u[k+2]-b']).length:=by simp;omega
 have eg:(u3++[u[k+2]-b'])[k+2]=u[k+2]-b':=by
  rw[List.getElem_append_right (by omega)];simp
 have es:(u3++[u[k+2]-b']).set (k+2) 0=u3++[0]:=by
  rw[cD _ _ (by omega),show k+2-u3.length=0 by omega];rfl
 rw[ae hy,eset,a1',ZB];simp only;rw[qcr hk3,eg,ZB,hyc,show w64 (0:Int)=0 from rfl,qe2 hk3,ZB,es,qo (n:=q'-1) (by omega) (by omega),hq1,Int.add_sub_cancel];refine⟨u3++[0],by simp;omega,a3'.append (Dg.cons ⟨by omega,by decide⟩ Dg.nil),?_,rfl⟩;rw[qfp,aO,aT]
 have e1:dv E9 u3+E9^(k+2)*(u[k+2]-b'+c3)=dv E9 u-Q*dv E9 v:=by
  rw[Int.mul_add];omega
 rw[hyc,aO,aT]at e1;omega
theorem rep0 {n m:Nat} {z:Int} (h:(List.replicate n (0:Int))[m]? =some z):z=0:=List.eq_of_mem_replicate (Yn h)
theorem qhT (l:List Int) {i:Nat} (h:i<l.length):dv W (l.drop i)=l[i]+W*dv W (l.drop (i+1)):=by
 rw[YG h,zR]
theorem qnx {l:List Int} {k:Nat} {v:Int} (hk:k<l.length) (h: ∀(i:Nat) x,i<=k->l[i]? =some x->x=0):dv W (l.set k v)=dv W l+W^k*v:=by
 rw[qbD W l k v hk,h k l[k] (ag _) (Ya hk),dr]
theorem qpS {N:Nat} (hN:5<=N) {a b:List Int} (ha:Dg W a) (hal:a.length<=10000) {d:Int} (hb:b[0]? =some d) (d0:0<d) (d1:d<18446744073709551616): ∀(K i:Nat) (l:List Int) (r:Int),i<=a.length->i<K->l.length=a.length->Dg W l->(∀(m:Nat) x,m<i->l[m]? =some x->x=0)->dv W l=W^i*(dv W (a.drop i)/d)->r=dv W (a.drop i)%d->
 ∃l',yT N a b K l r ((i:Int)-1)=some (l',dv W a%d)/\l'.length=a.length/\Dg W l'/\dv W l'=dv W a/d
 |0,i,l,r,h,hK,_,_,_,_,_=>by omega
 |K+1,0,l,r,h,hK,hl,hd,hz,e,er=>by
  rw[YR]at e er;rw[yT,aa (by omega),er];exact⟨l,rfl,hl,hd,by rw[e];simp⟩
 |K+1,i+1,l,r,h,hK,hl,hd,hz,e,er=>by
  have hi:i<a.length:=by omega
  have hil:i<l.length:=by omega
  have ax:=ha.at hi;unfold W at ax
  have r0:0<=r:=by rw[er];exact aC _ (by omega)
  have r1:r<d:=by rw[er];exact ar _ d0
  have ei:((i+1:Nat):Int)-1=(i:Int):=by omega
  rw[yT,ei,ae (by omega),ql,Ya hi,ZB,qau,hb,ZB,qk4 hN r0 r1 d1 ax,ZB,ql,Ya hil,ZB,vw hil,ZB];simp only;rw[qo (by omega) (by omega)]
  have ed:dv W (a.drop i)=r*18446744073709551616+a[i]+d*(dv W (a.drop (i+1))/d*18446744073709551616):=by
   have h1:=aw (dv W (a.drop (i+1))) d;rw[<-er]at h1;rw[qhT a hi,<-Int.mul_assoc,show W*dv W (a.drop (i+1))=18446744073709551616*dv W (a.drop (i+1))from rfl];generalize d*(dv W (a.drop (i+1))/d)=m at*;omega
  have q0:0<=(r*18446744073709551616+a[i])/d:=aM (by omega) (by omega)
  have q1:(r*18446744073709551616+a[i])/d<18446744073709551616:=by
   rw[Yu d0];have:(r+1)*18446744073709551616<=d*18446744073709551616:=aB (by omega) (by omega);rw[aD 18446744073709551616];omega
  refine qpS hN ha hal hb d0 d1 K i _ _ (by omega) (by omega) (by rw[Yk];exact hl) (hd.set ⟨q0,q1⟩) (λm x hm hx=>?_) ?_ ?_
  ·rw[Yw (by omega)]at hx;exact hz m x (by omega) hx
  ·rw[qnx hil (λm x hm hx=>hz m x (by omega) hx),e,ed,cE _ _ (by omega),aE,Int.mul_assoc,<-Int.mul_add];congr 1;show 18446744073709551616*_+_=_;omega
  rw[ed,bi]
theorem qeP {l:List Int} (h:Dg W l) {n:Nat} (hl:dv W l<W^n):dv W (l.drop n)=0:=by
 by_cases hn:n<=l.length
 ·have e:=qab W l n hn;have h1:=qF W0 (h.take n);have h2:=qF W0 (h.drop n);rcases bS 0 (dv W (l.drop n))with c|c
  ·have:=Yc (show 1<=dv W (l.drop n)by omega) (aq (pow_pos W0 n));omega
  omega
 rw[aA (by omega),zz]
theorem qmw {N:Nat} (hN:11000<N) {v:List Int} {k:Nat} (hv:Dg W v) (hvl:v.length=k+2) (hk:k<=9000) (hn:9223372036854775808<=v[k+1]'(by omega)) {A:Int} {m:Nat} (hm:m<=9000): ∀(K i:Nat) (l qs:List Int),i<=m+1->i<K->l.length=m+k+3->qs.length=m+1->Dg W l->Dg W qs->(∀(j:Nat) x,j<i->qs[j]? =some x->x=0)->dv W (l.drop i)<dv W v->dv W l+dv W v*dv W qs=A->
 ∃l' qs',yR N v K l qs ((i:Int)-1)=some (l',qs')/\l'.length=m+k+3/\qs'.length=m+1/\Dg W l'/\Dg W qs'/\dv W l'<dv W v/\dv W l'+dv W v*dv W qs'=A
 |0,i,l,qs,h,hK,_,_,_,_,_,_,_=>by omega
 |K+1,0,l,qs,h,hK,hl,hql,hd,hqd,hz,hlt,e=>by
  rw[yR,aa (by omega)];exact⟨l,qs,rfl,hl,hql,hd,hqd,hlt,e⟩
 |K+1,i+1,l,qs,h,hK,hl,hql,hd,hqd,hz,hlt,e=>by
  have hil:i<l.length:=by omega
  have hiq:i<qs.length:=by omega
  have ei:((i+1:Nat):Int)-1=(i:Int):=by omega
  have V1:=xU W0 hv;rw[hvl]at V1
  have V0:0<dv W v:=by
   have:=qF W0 (hd.drop (i+1));omega
  have lp:(l.take i).length=i:=by rw[Ym];omega
  have lu:((l.drop i).take (k+3)).length=k+3:=by rw[Ym,YJ];omega
  have el:l=l.take i++((l.drop i).take (k+3)++(l.drop i).drop (k+3)):=by rw[YS,YS]
  have hu:=(hd.drop i).take (k+3)
  have ht:dv W ((l.drop i).drop (k+3))=0:=by
   have:=qeP (hd.drop (i+1)) (n:=k+2) (by omega);rw[eW]at this⊢;rw[show i+(k+3)=i+1+(k+2)by omega];exact this
  have eu:dv W ((l.drop i).take (k+3))=dv W (l.drop i):=by
   have:=xY W ((l.drop i).take (k+3)) ((l.drop i).drop (k+3));rw[YS,ht,aO,aT]at this;exact this.symm
  have hUlt:dv W ((l.drop i).take (k+3))<18446744073709551616*dv W v:=by
   rw[eu,qhT l hil];have:=(hd.at hil).2;have:W*(dv W (l.drop (i+1))+1)<=W*dv W v:=Yc (by omega) (by decide);rw[Int.mul_add,bN]at this;show _<W*dv W v;omega
  have ew:win l (i:Int) (w64 (w64 ((i:Int)+(v.length:Int))+1))=some (i,k+3):=by
   rw[qo (n:=(i:Int)+(v.length:Int)) (by omega) (by omega),qo (by omega) (by omega)];unfold win;rw[ae (by omega)];congr 2;omega
  obtain⟨u',s1,s2,s3,s4⟩:=qqK hN (p:=l.take i) (t:=(l.drop i).drop (k+3)) (c:=l.length-i) hv hvl hk hu lu (by omega) hn hUlt;rw[lp,<-el]at s1;rw[yR,ei,ae (by omega),ew,ZB];simp only;rw[s1,ZB];simp only
  have hlen:l.length=(l.take i++(u'++(l.drop i).drop (k+3))).length:=by
   simp only[Yq,Ym,YJ];omega
  rw[ae hlen,ZB,ql,Ya hiq,ZB,vw hiq,ZB,qo (by omega) (by omega)];have hU0:=qF W0 hu;have Q0:0<=dv W ((l.drop i).take (k+3))/dv W v:=aM hU0 (by omega)
  have Q1:dv W ((l.drop i).take (k+3))/dv W v<W:=by rw[Yu V0];exact hUlt
  have hR:=ar (dv W ((l.drop i).take (k+3))) V0;have hdm:=aw (dv W ((l.drop i).take (k+3))) (dv W v)
  have hdrop:(l.take i++(u'++(l.drop i).drop (k+3))).drop i=u'++(l.drop i).drop (k+3):=by
   rw[cx (by omega),aA (by omega),bn]
  have hdn:dv W (u'++(l.drop i).drop (k+3))=dv W u':=by rw[xY,ht,aO,aT]
  refine qmw hN hv hvl hk hn hm K i _ _ (by omega) (by omega) ?_ (by rw[Yk];exact hql) ((hd.take i).append (s3.append ((hd.drop i).drop _))) (hqd.set ⟨Q0,Q1⟩) (λj x hj hx=>?_) ?_ ?_
  ·rw[Yq,Yq,lp,s2,YJ,YJ];omega
  ·rw[Yw (by omega)]at hx;exact hz j x (by omega) hx
  ·rw[hdrop,hdn,s4];exact hR
  rw[qnx hiq (λj x hj hx=>hz j x (by omega) hx),xY,lp,hdn,s4,Int.mul_add];have e1:=qab W l i (by omega);rw[<-eu]at e1
  have e2:W^i*dv W ((l.drop i).take (k+3))=W^i*(dv W v*(dv W ((l.drop i).take (k+3))/dv W v))+W^i*(dv W ((l.drop i).take (k+3))%dv W v):=by rw[<-Int.mul_add,hdm]
  have e3:dv W v*(W^i*(dv W ((l.drop i).take (k+3))/dv W v))=W^i*(dv W v*(dv W ((l.drop i).take (k+3))/dv W v)):=Int.mul_left_comm _ _ _;rw[e3];omega
theorem qmQ {o v:List Int} (ho:Dg W o) {s:Nat} (hs:s<=63) (hvo:v.length<o.length) (hol:o.length<=100000) {z:Int} (hz:z=(o[0]'(by omega))%2^s): ∀(K i:Nat) (l:List Int),i<=v.length->v.length<K+i->l.length=o.length->Dg W l->(∀(m:Nat),i<=m->l[m]? =o[m]?)->dv W (l.take i)*2^s=dv W (o.take i)-z+W^i*((o[i]?.getD 0)%2^s)->
 ∃l',vV (s:Int) v K l (i:Int)=some l'/\l'.length=o.length/\Dg W l'/\dv W (l'.take v.length)*2^s=dv W (o.take v.length)-z+W^v.length*((o[v.length]?.getD 0)%2^s)
 |0,i,l,h,hK,_,_,_,_=>by omega
 |K+1,i,l,h,hK,hl,hd,hsame,e=>by
  rw[vV];by_cases hi:i<v.length
  ·have hil:i<l.length:=by omega
   have hil1:i+1<l.length:=by omega
   have hio:i<o.length:=by omega
   have hio1:i+1<o.length:=by omega
   have ax:=ho.at hio;have ay:=ho.at hio1;unfold W at ax ay
   have el0:l[i]=o[i]:=by
    have:=hsame i (ag _);rw[Ya hil,Ya hio]at this;injection this
   have el1:l[i+1]=o[i+1]:=by
    have:=hsame (i+1) (by omega);rw[Ya hil1,Ya hio1]at this;injection this
   have hp:=pow_pos (show(0:Int)<2 by omega) s;have hp2:=pow_pos (show(0:Int)<2 by omega) (64-s)
   have hpp:(2:Int)^s*2^(64-s)=18446744073709551616:=by
    rw[<-Int.pow_add,show s+(64-s)=64 by omega];rfl
   have q0:0<=o[i]/2^s:=aM ax.1 (aq hp)
   have q1:o[i]/2^s<2^(64-s):=by
    rw[Yu hp,aD,hpp];exact ax.2
   have r0:0<=o[i+1]%2^s:=aC _ (by omega);have r1:o[i+1]%2^s<2^s:=ar _ hp;have hdm:=aw o[i] (2^s)
   have htop:o[i+1]%2^s*2^(64-s)+o[i]/2^s<18446744073709551616:=by
    have:(o[i+1]%2^s+1)*2^(64-s)<=2^s*2^(64-s):=aB (by omega) (aq hp2);rw[hpp,aV,bu]at this;omega
   have hlow0:0<=o[i+1]%2^s*2^(64-s):=Yv r0 (aq hp2)
   have efin:(o[i+1]%2^s*2^(64-s)+o[i]/2^s)*2^s=18446744073709551616*(o[i+1]%2^s)+o[i]-o[i]%2^s:=by
    rw[aV,Int.mul_assoc,aD (2^(64-s)),hpp,aD (o[i]/2^s)];omega
   have fin: ∀l2:List Int,l2=l.set i (o[i+1]%2^s*2^(64-s)+o[i]/2^s)-> ∃l',vV (s:Int) v K l2 ((i+1:Nat):Int)=some l'/\l'.length=o.length/\Dg W l'/\dv W (l'.take v.length)*2^s=dv W (o.take v.length)-z+W^v.length*((o[v.length]?.getD 0)%2^s):=by
    rintro l2 rfl;refine qmQ ho hs hvo hol hz K (i+1) _ (by omega) (by omega) (by rw[Yk];exact hl) (hd.set ⟨by omega,htop⟩) (λm hm=>?_) ?_
    ·rw[Yw (by omega)];exact hsame m (by omega)
    have hls:i<(l.set i (o[i+1]%2^s*2^(64-s)+o[i]/2^s)).length:=by rw[Yk];exact hil
    rw[qy W _ i hls,dN,List.take_set_of_le (ag _),aV,Int.mul_assoc,efin,e,qy W o i hio,Ya hio,Ya hio1,YN,YN,aE,Int.mul_assoc (W^i) W]
    have e5:W^i*(18446744073709551616*(o[i+1]%2^s)+o[i]-o[i]%2^s)=W^i*(W*(o[i+1]%2^s))+W^i*o[i]-W^i*(o[i]%2^s):=by
     rw[<-Int.mul_add,<-Int.mul_sub]
    omega
   rw[ae (by omega),ql,Ya hil,el0,ZB,qhM (by omega),ZB,vw hil,ZB,qD (by omega)];by_cases h0:s=0
   ·subst h0;rw[aa (by omega),ZB,aa (by simp),ZB];refine fin _ ?_;congr 1
    have:o[i+1]%2^0=0:=by simp[Int.emod_one]
    rw[this];omega
   have hls0:i<(l.set i (o[i]/2^s)).length:=by rw[Yk];exact hil
   have hls1:i+1<(l.set i (o[i]/2^s)).length:=by rw[Yk];exact hil1
   have em:o[i+1]*2^(64-s)%18446744073709551616=o[i+1]%2^s*2^(64-s):=by
    rw[<-hpp,aD o[i+1],aD (2^s),cr _ _ hp2,aD]
   rw[ae (by omega),ZB,ae (ai (by omega)),ql,Ya hls0,dN,ZB,ql,Ya hls1,List.getElem_set_ne (by omega),el1,ZB,show(64:Int)-(s:Int)=((64-s:Nat):Int)by omega,qo (by omega) (by omega),qi8 (by omega),ZB,em,qpa r0 q0 q1 htop,vw hls0,ZB,ZB];refine fin _ ?_;rw[bx]
  rw[aa (by omega)]
  have ei:i=v.length:=by omega
  subst ei;exact⟨l,rfl,hl,hd,e⟩
theorem qjA {N:Nat} (hN:11000<N) {a b:List Int} (ha:Can W a) (hb:Can W b) (hal:a.length<=4000) (hb0:0<dv W b):qbE N a b=some (dg W (dv W a/dv W b),dg W (dv W a%dv W b)):=by
 have A0:=qF W0 ha.1;unfold qbE;rw[qez ha hb (by omega) (by omega),ZB];by_cases h:dv W a<dv W b
 ·rw[ae h,ae (by omega),cZ A0 h,bA A0 h,qet,qpp W1 ha]
 have hlen:b.length<=a.length:=by
  rcases ak a.length b.length with c|c
  ·have:=qep ha hb c;omega
  exact c
 have hb1:0<b.length:=by
  rcases bj b.length with c|c
  ·rw[YL.1 c,zz]at hb0;omega
  exact c
 have hge: ¬((if dv W a<dv W b then-1 else if dv W a=dv W b then(0:Int)else 1)<0):=by
  rw[aa h];split<;>omega
 rw[aa hge];by_cases hone:b.length=1
 ·obtain⟨d,rfl⟩:=cX.1 hone
  have ed:dv W [d]=d:=by rw[zR,zz];omega
  rw[ed]at hb0⊢;have hd:=hb.1.head;unfold W at hd;rw[ae (by simp),qbP (by omega),ZB,qo (by omega) (by omega)];obtain⟨l,e,h1,h2,h3⟩:=qpS (N:=N) (by omega) ha.1 (by omega) (b:=[d]) rfl hb0 hd.2 N a.length (List.replicate a.length 0) 0 (ag _) (by omega) (by simp) (Um W0 _) (λm x _ hx=>rep0 hx) (by rw[qay,aA (ag _),zz];simp) (by rw[aA (ag _),zz];simp);have m0:=aC (dv W a) (show d≠0 by omega);have m1:=ar (dv W a) hb0;rw[e,ZB];simp only;rw[qdu h2 (by omega) (by omega),ZB,qdu (Dg.cons ⟨m0,show _<(18446744073709551616:Int)by omega⟩ Dg.nil) (by simp) (by simp;omega),ZB,h3,zR,zz,aO,aT]
 obtain⟨k,hk⟩: ∃k,b.length=k+2:=⟨b.length-2,by omega⟩;obtain⟨m,hm⟩: ∃m,a.length=m+k+2:=⟨a.length-(k+2),by omega⟩
 have hkb:k+1<b.length:=by omega
 have at1:=hb.1.at hkb;have at0:b[k+1]≠0:=hb.2 _ (by rw[List.getLast?_eq_getElem?,hk];exact Ya hkb);unfold W at at1;obtain⟨s,hs,es,g1,g2⟩:=qrL (y:=b[k+1]) (by omega) at1.2;have hp:=pow_pos (show(0:Int)<2 by omega) s;have hPk:=pow_pos W0 (k+1);rw[aa (by omega),show w64 ((b.length:Int)-1)=((k+1:Nat):Int)by rw[qo (by omega) (by omega)];omega,ql,Ya hkb,ZB,es,ZB];obtain⟨vb,e1,l1,d1,x1⟩:=qig (N:=N) hb.1 (by omega) hs (by omega);obtain⟨ua,e2,l2,d2,x2⟩:=qig (N:=N) ha.1 (by omega) hs (by omega);rw[e1,ZB,qdu d1 (by omega) (by omega),ZB,e2,ZB];have V0:0<dv W b*2^s:=cG hb0 hp
 have ebs:dv W b=dv W (b.take (k+1))+W^(k+1)*b[k+1]:=by
  have:=qy W b (k+1) hkb;rw[aj (by omega)]at this;exact this
 have blo0:=qF W0 (hb.1.take (k+1));have blo1:=xU W0 (hb.1.take (k+1));rw[Ym,aP (by omega)]at blo1
 have Vlow:W^(k+1)*9223372036854775808<=dv W b*2^s:=by
  have h1:=Yc g1 (aq hPk);rw[ebs,aV,Int.mul_assoc];have:=Yv blo0 (aq hp);omega
 have Vhigh:dv W b*2^s<W^(k+2):=by
  have h1:(dv W b)*2^s<W^(k+1)*((b[k+1]+1)*2^s):=by
   rw[<-Int.mul_assoc];refine YH ?_ hp;rw[ebs,Int.mul_add,bN];omega
  have h2:(b[k+1]+1)*2^s<=18446744073709551616:=by
   have hpp:(2:Int)^(64-s)*2^s=18446744073709551616:=by
    rw[<-Int.pow_add,show 64-s+s=64 by omega];rfl
   have:b[k+1]<2^(64-s):=by
    rw[<-hpp]at g2;exact dC g2 (aq hp)
   rw[<-hpp];exact aB (by omega) (aq hp)
  have h3:=Yc h2 (aq hPk);rw[aE];show _<W^(k+1)*18446744073709551616;omega
 rw[x1];have cv:=jD W1 (aq V0);have evv:=vY W1 (aq V0)
 have lv:(dg W (dv W b*2^s)).length=k+2:=by
  have h1:=(qdM W1 (aq V0) (n:=k+2)).2 Vhigh
  have h2:=(not_congr (qdM W1 (aq V0) (n:=k+1))).2 (by
   have:W^(k+1)*1<=W^(k+1)*9223372036854775808:=Yc (by omega) (aq hPk)
   omega)
  omega
 generalize hvv:dg W (dv W b*2^s)=v at*
 have hkv:k+1<v.length:=by omega
 have hn:9223372036854775808<=v[k+1]:=by
  have e:=qy W v (k+1) hkv;rw[aj (by omega),evv]at e;have h1:=xU W0 (cv.1.take (k+1));rw[Ym,aP (by omega)]at h1
  have h2:W^(k+1)*9223372036854775808<W^(k+1)*(v[k+1]+1):=by rw[Int.mul_add,bN];omega
  have:=cM h2 (aq hPk);omega
 have htop:dv W (ua.drop (m+1))<dv W v:=by
  rw[evv];have e:=qab W ua (m+1) (by omega);have h1:=qF W0 (d2.take (m+1));have hA:=xU W0 ha.1
  have h2:dv W ua<W^(m+1)*(W^(k+1)*2^s):=by
   rw[x2,<-Int.mul_assoc,<-Int.pow_add,show m+1+(k+1)=a.length by omega];exact YH hA hp
  have hPm:=pow_pos W0 (m+1)
  have h3:W^(m+1)*dv W (ua.drop (m+1))<W^(m+1)*(W^(k+1)*2^s):=by omega
  have h4:=cM h3 (aq hPm);have h5:W^(k+1)*2^s<=W^(k+1)*9223372036854775808:=Yc (xe (by omega) hs) (aq hPk);omega
 rw[show w64 (w64 ((a.length:Int)-(v.length:Int))+1)=((m+1:Nat):Int)by rw[qo (n:=(a.length:Int)-(v.length:Int)) (by omega) (by omega),qo (by omega) (by omega)];omega,qbP (by omega),ZB,show w64 ((a.length:Int)-(v.length:Int))=((m+1:Nat):Int)-1 by rw[qo (by omega) (by omega)];omega];obtain⟨l,qs,f1,f2,f3,f4,f5,f6,f7⟩:=qmw hN cv.1 lv (by omega) hn (A:=dv W ua) (m:=m) (by omega) N (m+1) ua (List.replicate (m+1) 0) (ag _) (by omega) (by omega) (by simp) d2 (Um W0 _) (λj x _ hx=>rep0 hx) htop (by rw[qay,aO,aT]);rw[f1,ZB];simp only;rw[x2]at f7;rw[evv]at f6 f7;have hl0:=qF W0 f4
 have eq:dv W qs=dv W a/dv W b:=by
  rw[<-Int.mul_ediv_mul_of_pos_left (dv W a) (dv W b) hp,<-f7,cE _ _ (by omega),cZ hl0 f6,dq]
 have er:dv W l=dv W a%dv W b*2^s:=by
  have:(dv W a*2^s)%(dv W b*2^s)=dv W l:=by rw[<-f7,bi,bA hl0 f6]
  rw[<-this,aD (dv W a),aD (dv W b),cr _ _ hp,aD]
 have hzl:dv W (l.drop (k+2))=0:=qeP f4 (by omega)
 have etk:dv W (l.take (k+2))=dv W l:=by
  have:=qab W l (k+2) (by omega);rw[hzl,aO,aT]at this;exact this.symm
 have hkl:k+2<l.length:=by omega
 have hl2:l[k+2]%2^s=0:=by
  have h1:=qhT l hkl;have h2:=qF W0 (f4.drop (k+2+1));have h3:=f4.at hkl;have h4:=Yv (aq W0) h2
  have:l[k+2]=0:=by omega
  rw[this];exact Int.zero_emod _
 have h0l:0<l.length:=by omega
 have hl0m:l[0]%2^s=0:=by
  have h1:=qhT l h0l;rw[YR,er]at h1
  have e63:W=2^(64-s)*2^s:=by
   rw[<-Int.pow_add,show 64-s+s=64 by omega];rfl
  have h2:l[0]=0+2^s*(dv W a%dv W b-2^(64-s)*dv W (l.drop (0+1))):=by
   rw[Int.mul_sub,<-Int.mul_assoc,aD (2^s) (2^(64-s)),<-e63,aD (2^s)];omega
  rw[h2,bi];exact Int.zero_emod _
 obtain⟨l4,j1,j2,j3,j4⟩:=qmQ (o:=l) (v:=v) f4 hs (by omega) (by omega) (z:=0) hl0m.symm N 0 l (by omega) (by omega) rfl f4 (λ_ _=>rfl) (by
  rw[bh,zz,Ya h0l,YN,hl0m]
  simp)
 have j1:vV (s:Int) v N l 0=some l4:=j1;rw[lv,etk,Ya hkl,YN,hl2,aO,aT,dr,er]at j4;have j5:=Int.eq_of_mul_eq_mul_right (by omega) j4;rw[j1,ZB,qdu f5 (by omega) (by omega),ZB,y9 (by omega),ZB,lv,qdu (j3.take _) (by rw[Ym];omega) (by rw[Ym];omega),ZB,j5,eq]
def IsZ (x:qm) (z:Int):Prop:=(x.w=[]/\x.s=z/\ -9223372036854775808<=z/\z<=9223372036854775807)\/(x.w=dg W z.natAbs/\x.w≠[]/\9223372036854775808<=(z.natAbs:Int)/\x.s=if z<0 then-1 else 1)
abbrev Fit (z:Int) (n:Nat):Prop:=(z.natAbs:Int)<W^n
theorem Ue {z:Int} (h1: -9223372036854775808<=z) (h2:z<=9223372036854775807):IsZ ⟨z,[]⟩ z:= .inl ⟨rfl,rfl,h1,h2⟩
theorem Fit.len {z:Int} {n:Nat} (h:Fit z n):(dg W z.natAbs).length<=n:=(qdM W1 (by omega)).2 h
theorem Fit.mono {z:Int} {m n:Nat} (h:Fit z m) (hn:m<=n):Fit z n:=dA h (xe (by decide) hn)
theorem IsZ.sgn {x:qm} {z:Int} (h:IsZ x z):(x.s<0↔z<0)/\(0<x.s↔0<z)/\(x.s=0↔z=0):=by
 rcases h with⟨_,h,_,_⟩|⟨_,_,h1,h2⟩
 ·subst h;exact⟨Iff.rfl,Iff.rfl,Iff.rfl⟩
 split at h2<;>omega
theorem IsZ.emp {x:qm} {z:Int} (h:IsZ x z) (he:x.w.isEmpty=true):x.s=z/\ -9223372036854775808<=z/\z<=9223372036854775807:=by
 rcases h with⟨_,h⟩|⟨_,h,_⟩
 ·exact h
 exact absurd (dG.1 he) h
theorem qjK (n:Int):qcx n=some ⟨n,[]⟩:=rfl
theorem size_eq {n:Int} (h1: -9223372036854775808<=n) (h2:n<=9223372036854775807):qdg n=some (n.natAbs:Int):=by
 unfold qdg;by_cases h:n<0
 ·rw[ae h];congr 1
  have e:w64 (0-n)=(if n= -9223372036854775808 then-9223372036854775808 else-n):=by
   split
   ·rename_i e;subst e;rfl
   rw[qo (by omega) (by omega)];omega
  rw[e,wu];split<;>omega
 rw[aa h,yQ (by omega) (by omega)];congr 1;omega
theorem parts_eq {x:qm} {z:Int} (h:IsZ x z):qL x=some (decide (z<0),dg W z.natAbs):=by
 unfold qL;have hs:=h.sgn;rcases h with⟨hw,hz,h1,h2⟩|⟨hw,hne,h1,h2⟩
 ·rw[hw,aa (by simp)];by_cases h0:x.s=0
  ·rw[ae h0]
   have:z=0:=by omega
   subst this;rfl
  rw[aa h0,hz,size_eq h1 h2,ZB,qkK (by omega) (by unfold W;omega)]
 rw[ae (by cases e:x.w with|nil=>exact absurd e hne|cons a l=>rfl),<-hw];congr 2;exact decide_eq_decide.2 hs.1
theorem qmH {m:Int} (h0:0<=m) (h:m<=9223372036854775807):w64 (0-w64 m)= -m:=by
 rw[qo (n:=m) (by omega) (by omega),qo (by omega) (by omega)];omega
theorem qel (neg:Bool) {m:Int} (h:0<=m): ∃r,yo neg (dg W m)=some r/\IsZ r (if neg=true then-m else m):=by
 have hc:=jD W1 h;have hv:=vY W1 h;unfold yo
 cases hl:dg W m with
 |nil=>
  rw[hl,zz]at hv;subst hv;refine⟨⟨0,[]⟩,rfl,?_⟩
  have:(if neg=true then-(0:Int)else 0)=0:=by cases neg<;>rfl
  rw[this];exact Ue (by omega) (by omega)
 |cons a l=>
  rw[hl]at hc hv;have ha:=hc.1.head;rw[aa (by simp;omega)]
  have hm0:0<m:=by have:=hc.pos W1 (by simp);omega
  have big:9223372036854775808<=m-> ∀s:Int,s=(if(if neg=true then-m else m)<0 then-1 else 1)->IsZ ⟨s,a::l⟩ (if neg=true then-m else m):=by
   intro hm s hs
   have e:((if neg=true then-m else m).natAbs:Int)=m:=by split<;>omega
   exact .inr ⟨by rw[e];exact hl.symm,by simp,by omega,hs⟩
  cases l with
  |nil=>
   rw[zR,zz]at hv
   have hma:a=m:=by omega
   subst hma;have e0:idx [a] 0=some a:=rfl;by_cases hs:a<=9223372036854775807
   ·cases neg with
    |true=>
     simp only[Yr,be,e0,ZB,ae hs];refine⟨⟨w64 (0-w64 a),[]⟩,by simp,?_⟩;rw[qmH (by omega) hs];have q:=Ue (z:= -a) (by omega) (by omega);simpa using q
    |false=>
     simp only[Yr,be,e0,ZB,ae hs,ai hs];refine⟨⟨w64 a,[]⟩,by simp,?_⟩;rw[qo (by omega) (by omega)];have q:=Ue (z:=a) (by omega) (by omega);simpa using q
   simp only[Yr,be,e0,ZB,aa hs,ah hs]
   cases neg with
   |true=>exact⟨⟨-1,[a]⟩,by simp,big (by omega) _ (by simp;omega)⟩
   |false=>exact⟨⟨1,[a]⟩,by simp,big (by omega) _ (by simp;omega)⟩
  |cons b l=>
   have hm:9223372036854775808<=m:=by
    have:=hc.low W1 (n:=l.length+1) (by simp);have h2:=xe (show(1:Int)<=W by decide) (show 1<=l.length+1 by omega);rw[dO]at h2;rw[hv]at this;unfold W at h2 this;omega
   have hl1: ¬(((a::b::l).length:Int)=1):=by simp;omega
   simp only[aa hl1,ZB,ZF,aU]
   cases neg with
   |true=>exact⟨⟨-1,a::b::l⟩,by simp,big hm _ (by simp;omega)⟩
   |false=>exact⟨⟨1,a::b::l⟩,by simp,big hm _ (by simp;omega)⟩
theorem qhd {x:qm} {z:Int} (h:IsZ x z): ∃r,zW x=some r/\IsZ r (-z):=by
 have hp:=parts_eq h;obtain⟨r,e,hr⟩:=qel (!decide (z<0)) (m:=(z.natAbs:Int)) (by omega)
 have ez:(if(!decide (z<0))=true then-(z.natAbs:Int)else(z.natAbs:Int))= -z:=by
  by_cases hz:z<0
  ·rw[ai hz,aa (by simp)];omega
  rw[ah hz,ae (by simp)];omega
 rw[ez]at hr;unfold zW
 cases he:x.w.isEmpty with
 |true=>
  obtain⟨h1,h2,h3⟩:=h.emp he;rw[ae rfl,ZB];by_cases hm:x.s= -9223372036854775808
  ·rw[aa (by simp[hm]),hp,ZB,e,ZB];exact⟨r,rfl,hr⟩
  rw[ae (by simp[hm]),qo (by omega) (by omega),show 0-x.s= -z by omega];exact⟨_,rfl,Ue (by omega) (by omega)⟩
 |false=>
  rw[aa (by simp),ZB,aa (by simp),hp,ZB,e,ZB];exact⟨r,rfl,hr⟩
theorem qpT {x:qm} {z:Int} (h:IsZ x z): ∃r,qbH x=some r/\IsZ r (z.natAbs:Int):=by
 unfold qbH;by_cases hz:z<0
 ·obtain⟨r,e,hr⟩:=qhd h;rw[ae (h.sgn.1.2 hz),e,ZB];refine⟨r,rfl,?_⟩;rw[show(z.natAbs:Int)= -z by omega];exact hr
 rw[aa (λc=>hz (h.sgn.1.1 c))];refine⟨x,rfl,?_⟩;rw[show(z.natAbs:Int)=z by omega];exact h
theorem qek {x:qm} {z:Int} (h:IsZ x z):zi x=some (if z<0 then-1 else if z=0 then 0 else 1):=by
 have hs:=h.sgn;unfold zi;congr 1
 repeat' split
 all_goals omega
theorem qiC {N:Nat} (hN:11000<N) {x y:qm} {a b:Int} (hx:IsZ x a) (hy:IsZ y b) (ha:Fit a 4000) (hb:Fit b 4000): ∃r,yC N x y=some r/\IsZ r (a+b):=by
 have px:=parts_eq hx;have py:=parts_eq hy;have la:=ha.len;have lb:=hb.len;have ca:=jD W1 (show 0<=(a.natAbs:Int)by omega);have cb:=jD W1 (show 0<=(b.natAbs:Int)by omega);have va:=vY W1 (show 0<=(a.natAbs:Int)by omega);have vb:=vY W1 (show 0<=(b.natAbs:Int)by omega)
 have long: ∃r,((qL x).bind λr8=>
  (qL y).bind λr9=>
  if(r8.1==r9.1)=true then
  (qbe N r8.2 r9.2).bind λr11=>
  (yo r8.1 r11).bind λr12=>
  some r12
  else
  (vI N r8.2 r9.2).bind λr13=>
  if r13>=0 then
  (xH N r8.2 r9.2).bind λr15=>
  (yo r8.1 r15).bind λr16=>
  some r16
  else
  (xH N r9.2 r8.2).bind λr17=>
  (yo r9.1 r17).bind λr18=>
  some r18)=some r/\IsZ r (a+b):=by
  rw[px,ZB,py,ZB];by_cases hs:(a<0↔b<0)
  ·rw[ae (by rw[bG];exact decide_eq_decide.2 hs),qlH ca.1 cb.1 (by omega) (by omega) (by omega) (by omega),ZB,va,vb];obtain⟨r,e,hr⟩:=qel (decide (a<0)) (m:=(a.natAbs:Int)+(b.natAbs:Int)) (by omega);rw[e,ZB];refine⟨r,rfl,?_⟩
   have:(if decide (a<0)=true then-((a.natAbs:Int)+(b.natAbs:Int))else(a.natAbs:Int)+(b.natAbs:Int))=a+b:=by
    simp only[aH];split<;>omega
   rw[this]at hr;exact hr
  rw[aa (by rw[bG];exact λc=>hs (decide_eq_decide.1 c)),qez ca cb (by omega) (by omega),ZB,va,vb];by_cases hc:(a.natAbs:Int)<(b.natAbs:Int)
  ·rw[ae hc,aa (by omega),qhj cb ca (by omega) (by omega) (by omega),ZB,va,vb];obtain⟨r,e,hr⟩:=qel (decide (b<0)) (m:=(b.natAbs:Int)-(a.natAbs:Int)) (by omega);rw[e,ZB];refine⟨r,rfl,?_⟩
   have:(if decide (b<0)=true then-((b.natAbs:Int)-(a.natAbs:Int))else(b.natAbs:Int)-(a.natAbs:Int))=a+b:=by
    simp only[aH];split<;>omega
   rw[this]at hr;exact hr
  rw[aa hc,ae (by split<;>omega),qhj ca cb (by omega) (by omega) (by omega),ZB,va,vb];obtain⟨r,e,hr⟩:=qel (decide (a<0)) (m:=(a.natAbs:Int)-(b.natAbs:Int)) (by omega);rw[e,ZB];refine⟨r,rfl,?_⟩
  have:(if decide (a<0)=true then-((a.natAbs:Int)-(b.natAbs:Int))else(a.natAbs:Int)-(b.natAbs:Int))=a+b:=by
   simp only[aH];split<;>omega
  rw[this]at hr;exact hr
 unfold yC
 cases ex:x.w.isEmpty with
 |false=>
  rw[aa (by simp),ZB,aa (by simp),ZB];exact long
 |true=>
  rw[ae rfl,ZB]
  cases ey:y.w.isEmpty with
  |false=>
   rw[aa (by simp),ZB];exact long
  |true=>
   obtain⟨h1,h2,h3⟩:=hx.emp ex;obtain⟨k1,k2,k3⟩:=hy.emp ey;rw[ae rfl,h1,k1];by_cases hi: -9223372036854775808<=a+b/\a+b<=9223372036854775807
   ·have e:w64 (a+b)=a+b:=qo hi.1 hi.2;rw[e,ae (by rw[bG];exact decide_eq_decide.2 (by omega)),ZB];exact⟨_,rfl,Ue hi.1 hi.2⟩
   have e:w64 (a+b)=a+b-18446744073709551616\/w64 (a+b)=a+b+18446744073709551616:=by
    unfold w64 at*;simp only[wrap,IntKind.bits,IntKind.signed];simp;split<;>omega
   have hne: ¬((decide (w64 (a+b)>a)==decide (b>0))=true):=by
    rw[bG];intro c;have c:=decide_eq_decide.1 c
    have hw: -9223372036854775808<=w64 (a+b)/\w64 (a+b)<=9223372036854775807:=by
     simp only[wrap,IntKind.bits,IntKind.signed];simp;split<;>omega
    omega
   rw[aa hne,ZB];exact long
theorem qqx {N:Nat} (hN:11000<N) {x y:qm} {a b:Int} (hx:IsZ x a) (hy:IsZ y b) (ha:Fit a 4000) (hb:Fit b 4000): ∃r,qaf N x y=some r/\IsZ r (a-b):=by
 obtain⟨n,e,hn⟩:=qhd hy;obtain⟨r,e2,hr⟩:=qiC hN hx hn ha (by unfold Fit;rw[dz];exact hb);unfold qaf;rw[e,ZB,e2,ZB];exact⟨r,rfl,by rw[Int.sub_eq_add_neg];exact hr⟩
theorem qsa {N:Nat} (hN:11000<N) {x y:qm} {a b:Int} (hx:IsZ x a) (hy:IsZ y b) (ha:Fit a 4000) (hb:Fit b 4000):qct N x y=some (if a<b then-1 else if a=b then 0 else 1):=by
 obtain⟨r,e,hr⟩:=qqx hN hx hy ha hb
 have long:((qaf N x y).bind λr7=>(zi r7).bind λr8=>some r8)=some (if a<b then-1 else if a=b then 0 else 1):=by
  rw[e,ZB,qek hr,ZB];congr 1
  repeat' split
  all_goals omega
 unfold qct
 cases ex:x.w.isEmpty with
 |false=>
  rw[aa (by simp),ZB,aa (by simp)];exact long
 |true=>
  rw[ae rfl,ZB]
  cases ey:y.w.isEmpty with
  |false=>
   rw[aa (by simp)];exact long
  |true=>
   obtain⟨h1,_,_⟩:=hx.emp ex;obtain⟨k1,_,_⟩:=hy.emp ey;rw[ae rfl,h1,k1];by_cases c:a<b
   ·rw[ae c,ae c]
   rw[aa c,aa c];by_cases d:a=b
   ·rw[aa (by omega),ae d]
   rw[ae (by omega),aa d]
theorem qe9 {N:Nat} (hN:11000<N) {x y:qm} {a b:Int} (hx:IsZ x a) (hy:IsZ y b) (ha:Fit a 4000) (hb:Fit b 4000): ∃r,qR N x y=some r/\IsZ r (a*b):=by
 have px:=parts_eq hx;have py:=parts_eq hy;have la:=ha.len;have lb:=hb.len;have ca:=jD W1 (show 0<=(a.natAbs:Int)by omega);have cb:=jD W1 (show 0<=(b.natAbs:Int)by omega);have va:=vY W1 (show 0<=(a.natAbs:Int)by omega);have vb:=vY W1 (show 0<=(b.natAbs:Int)by omega)
 have hab:(a.natAbs:Int)*(b.natAbs:Int)=((a*b).natAbs:Int):=by rw[bm,aZ]
 have sg:(if(!((decide (a<0))==(decide (b<0))))=true then-((a*b).natAbs:Int)else((a*b).natAbs:Int))=a*b:=by
  by_cases h1:a<0
  ·by_cases h2:b<0
   ·have:=Int.mul_pos_of_neg_of_neg h1 h2;rw[ai h1,ai h2,aa (by simp)];omega
   have:=dZ (show a<=0 by omega) (show 0<=b by omega);rw[ai h1,ah h2,ae (by simp)];omega
  by_cases h2:b<0
  ·have:=ee (show 0<=a by omega) (show b<=0 by omega);rw[ah h1,ai h2,ae (by simp)];omega
  have:=Yv (show 0<=a by omega) (show 0<=b by omega);rw[ah h1,ah h2,aa (by simp)];omega
 have long: ∃r,((qL x).bind λr15=>
  (qL y).bind λr16=>
  (qba N r15.2 r16.2).bind λr17=>
  (yo (!(r15.1==r16.1)) r17).bind λr18=>
  some r18)=some r/\IsZ r (a*b):=by
  rw[px,ZB,py,ZB,qlR ca.1 cb.1 (by omega) (by omega) (by omega),ZB,va,vb,hab];obtain⟨r,e,hr⟩:=qel (!((decide (a<0))==(decide (b<0)))) (m:=((a*b).natAbs:Int)) (by omega);rw[sg]at hr;rw[e,ZB];exact⟨r,rfl,hr⟩
 unfold qR
 cases ex:x.w.isEmpty with
 |false=>
  rw[aa (by simp),ZB,aa (by simp),ZB];exact long
 |true=>
  rw[ae rfl,ZB]
  cases ey:y.w.isEmpty with
  |false=>
   rw[aa (by simp),ZB];exact long
  |true=>
   obtain⟨h1,h2,h3⟩:=hx.emp ex;obtain⟨k1,k2,k3⟩:=hy.emp ey;rw[ae rfl,h1,k1,size_eq h2 h3,ZB,size_eq k2 k3,ZB,qgv (by omega) (by omega),ZB,hab];by_cases hi:((a*b).natAbs:Int)/18446744073709551616=0
   ·rw[ae hi,ZB];by_cases hj:((a*b).natAbs:Int)%18446744073709551616<=9223372036854775807
    ·have em:((a*b).natAbs:Int)%18446744073709551616=((a*b).natAbs:Int):=by omega
     rw[ai hj,ae rfl,em];by_cases hs:(!((decide (a<0))==(decide (b<0))))=true
     ·rw[ae hs]at sg;rw[ae hs,ZB,qmH (by omega) (by omega),sg];exact⟨_,rfl,Ue (by omega) (by omega)⟩
     rw[aa hs]at sg;rw[aa hs,ZB,qo (by omega) (by omega),sg];exact⟨_,rfl,Ue (by omega) (by omega)⟩
    rw[ah hj,aa (by simp),ZB];exact long
   rw[aa hi,ZB,aa (by simp),ZB];exact long
theorem qgW {N:Nat} (hN:11000<N) {x y:qm} {a b:Int} (hx:IsZ x a) (hy:IsZ y b) (ha:Fit a 3900) (hb:Fit b 3900) (hb0:0<b): ∃q r,jT N x y=some (q,r)/\IsZ q (a/b)/\IsZ r (a%b):=by
 have px:=parts_eq hx;have py:=parts_eq hy;have la:=ha.len;have lb:=hb.len;have ca:=jD W1 (show 0<=(a.natAbs:Int)by omega);have cb:=jD W1 (show 0<=(b.natAbs:Int)by omega);have va:=vY W1 (show 0<=(a.natAbs:Int)by omega);have vb:=vY W1 (show 0<=(b.natAbs:Int)by omega)
 have eb:(b.natAbs:Int)=b:=by omega
 have m0:=aC (a.natAbs:Int) (show b≠0 by omega);have m1:=ar (a.natAbs:Int) hb0;have q0:0<=(a.natAbs:Int)/b:=aM (by omega) (by omega);have q1:(a.natAbs:Int)/b<=(a.natAbs:Int):=eI _ (by omega);have dm:=aw (a.natAbs:Int) b
 have long: ∃q r,((qL x).bind λr12=>
  (qL y).bind λr13=>
  (qbE N r12.2 r13.2).bind λr14=>
  (yo r12.1 r14.1).bind λr15=>
  (yo r12.1 r14.2).bind λr16=>
  (zi r16).bind λr17=>
  ((if r17<0 then
  (qcx 1).bind λr24=>
  (qaf N r15 r24).bind λr25=>
  (yC N r16 y).bind λr26=>
  some (r25.s,r25.w,r26.s,r26.w)
  else
  some (r15.s,r15.w,r16.s,r16.w):Option (Int×(List Int)×Int×(List Int)))).bind λ(n18,l19,n20,l21)=>
  some ((⟨n18,l19⟩:qm),(⟨n20,l21⟩:qm)))=some (q,r)/\IsZ q (a/b)/\IsZ r (a%b):=by
  rw[px,ZB,py,ZB,qjA hN ca cb (by omega) (by rw[vb,eb];exact hb0),ZB,va,vb,eb];obtain⟨q,e1,hq⟩:=qel (decide (a<0)) q0;obtain⟨r,e2,hr⟩:=qel (decide (a<0)) m0;simp only;rw[e1,ZB,e2,ZB,qek hr,ZB];by_cases hz:a<0
  ·rw[ai hz,ae rfl]at hq hr;by_cases hm:(a.natAbs:Int)%b=0
   ·rw[hm]at hr dm;have:=Int.ediv_emod_unique (a:=a) (b:=b) (r:=0) (q:= -((a.natAbs:Int)/b)) hb0;have u:=this.2 ⟨by rw[Int.mul_neg];omega,by omega,hb0⟩;rw[u.1,u.2,ai hz,ae rfl,hm];simp only[Int.neg_zero,Int.lt_irrefl,aU,aJ,ZB];exact⟨q,r,rfl,hq,hr⟩
   have u:=(Int.ediv_emod_unique (a:=a) (b:=b) (r:=b-(a.natAbs:Int)%b) (q:= -((a.natAbs:Int)/b)-1) hb0).2 ⟨by rw[Int.mul_sub,Int.mul_neg,bN];omega,by omega,by omega⟩;rw[u.1,u.2,ai hz,ae rfl,ae (by omega),qjK,ZB]
   have f1:Fit (-((a.natAbs:Int)/b)) 4000:=by
    refine Fit.mono (m:=3900) ?_ (by omega);unfold Fit at ha⊢;omega
   have f2:Fit (-((a.natAbs:Int)%b)) 4000:=by
    refine Fit.mono (m:=3900) ?_ (by omega);unfold Fit at hb⊢;omega
   have f0:Fit 1 4000:=by
    have:=xe (show(1:Int)<=W by decide) (show 1<=4000 by omega);rw[dO]at this
    have hw:(1:Int)<=W-1:=by decide
    have hw2: -W< -(1:Int):=by decide
    unfold Fit;omega
   obtain⟨q2,g1,hq2⟩:=qqx hN hq (Ue (z:=1) (by omega) (by omega)) f1 f0;obtain⟨r2,g2,hr2⟩:=qiC hN hr hy f2 (hb.mono (by omega));rw[g1,ZB,g2,ZB,ZB];refine⟨q2,r2,rfl,hq2,?_⟩;rw[show b-(a.natAbs:Int)%b= -((a.natAbs:Int)%b)+b by omega];exact hr2
  rw[ah hz,aa (by simp)]at hq hr
  have ea:(a.natAbs:Int)=a:=by omega
  rw[ea]at hq hr m0
  have hm': ¬((a.natAbs:Int)%b<0):=by rw[ea];omega
  rw[ah hz,aa (by rw[aa (show¬(false=true)by simp),aa hm'];split<;>omega),ZB];exact⟨q,r,rfl,hq,hr⟩
 unfold jT
 cases ex:x.w.isEmpty with
 |false=>
  rw[aa (by simp),ZB,aa (by simp)];exact long
 |true=>
  rw[ae rfl]
  cases ey:y.w.isEmpty with
  |false=>
   rw[aa (by simp),ZB,aa (by simp)];exact long
  |true=>
   obtain⟨h1,h2,h3⟩:=hx.emp ex;obtain⟨k1,k2,k3⟩:=hy.emp ey;rw[ae rfl,ZB];by_cases hm:x.s= -9223372036854775808
   ·rw[aa (by simp[hm])];exact long
   rw[ae (by simp[hm]),h1,k1]
   have b1: -9223372036854775807<=a:=by omega
   have d1:=aw a b;have d2:=aC a (show b≠0 by omega);have d3:=ar a hb0;have t1:=Int.mul_tdiv_add_tmod a b
   have hq:qc7 .i64 a b=some (a.tdiv b):=by
    unfold qc7;have h4:=Int.natAbs_tdiv_le_natAbs a b;rw[aa (by omega)];show some (w64 _)=_;rw[qo (by omega) (by omega)]
   have hr:qfc .i64 a b=some (a.tmod b):=by
    unfold qfc;rw[aa (by omega)]
   have h4:=Int.natAbs_tdiv_le_natAbs a b;rw[hq,ZB,hr,ZB]
   have t2:a.tmod b=if 0<=a\/b∣a then a%b else a%b-b:=by
    rw[Int.tmod_eq_emod];have:(b.natAbs:Int)=b:=eb;split<;>omega
   have t3:a.tdiv b=if 0<=a\/b∣a then a/b else a/b+1:=by
    rw[Int.tdiv_eq_ediv];have:b.sign=1:=cY hb0;split<;>omega
   by_cases hc:0<=a\/b∣a
   ·rw[ae hc]at t2 t3;rw[t2,t3,aa (by omega),ZB];rw[t3]at h4;exact⟨_,_,rfl,Ue (by omega) (by omega),Ue (by omega) (by omega)⟩
   rw[aa hc]at t2 t3;rw[t3]at h4
   have e1:w64 (a/b+1-1)=a/b:=by rw[qo (by omega) (by omega)];omega
   have e2:w64 (a%b-b+b)=a%b:=by rw[qo (by omega) (by omega)];omega
   rw[t2,t3,ae (by omega),ZB,e1,e2]
   have h5: -9223372036854775808<=a/b/\a/b<=9223372036854775807:=by
    constructor
    ·omega
    omega
   exact⟨_,_,rfl,Ue h5.1 h5.2,Ue (by omega) (by omega)⟩
theorem qdO {a b:Int} (ha:0<=a) (hb:0<=b):Int.gcd a b=Int.gcd b (a%b):=by
 obtain⟨m,rfl⟩:=bc ha;obtain⟨n,rfl⟩:=bc hb;show Nat.gcd m n=Nat.gcd n (m%n);rw[Nat.gcd_comm m n,Nat.gcd_rec n m,Nat.gcd_comm]
theorem qcv {a b:Int} {n:Nat} (h:(a.natAbs:Int)<=(b.natAbs:Int)) (k:Fit b n):Fit a n:=Int.lt_of_le_of_lt h k
theorem qoz {N:Nat} (hN:11000<N) (B:Nat) (hB:B<=3900): ∀(k K:Nat) (x y:qm) (a b:Int),IsZ x a->IsZ y b->0<=a->0<=b->b<2^k->2*k+2<=K->Fit a B->Fit b B->
 ∃g:qm,y8 N K x.s x.w y.s y.w=some (g.s,g.w)/\IsZ g (Int.gcd a b:Int)
 |k,0,x,y,a,b,_,_,_,_,_,hK,_,_=>by omega
 |k,K+1,x,y,a,b,hx,hy,ha,hb,hk,hK,fa,fb=>by
  have sg:=qek hy
  have done:b=0-> ∃g:qm,y8 N (K+1) x.s x.w y.s y.w=some (g.s,g.w)/\IsZ g (Int.gcd a b:Int):=by
   intro h0;rw[h0,aa (by omega),ae rfl]at sg;have sg:zi ⟨y.s,y.w⟩=some 0:=sg;rw[y8,sg,ZB,aa (by simp)];refine⟨x,rfl,?_⟩;rw[h0,dx,show(a.natAbs:Int)=a by omega];exact hx
  rcases(show b=0\/0<b by omega)with h0|h0
  ·exact done h0
  match k,hk,hK with
  |0,hk,hK=>simp at hk;omega
  |k+1,hk,hK=>
   rw[aa (by omega),aa (by omega)]at sg;have sg:zi ⟨y.s,y.w⟩=some 1:=sg;have m0:=aC a (show b≠0 by omega);have m1:=ar a h0;obtain⟨q,r,e,hq,hr⟩:=qgW hN hx hy (fa.mono hB) (fb.mono hB) h0;have e:jT N ⟨x.s,x.w⟩ ⟨y.s,y.w⟩=some (q,r):=e;rw[y8,sg,ZB,ae (by simp),e,ZB];have fr:Fit (a%b) B:=qcv (by omega) fb;simp only;rw[qdO ha hb]
   match K,hK with
   |0,hK=>omega
   |K+1,hK=>
    have sr:=qek hr;rcases(show a%b=0\/0<a%b by omega)with g0|g0
    ·rw[g0,aa (by omega),ae rfl]at sr;have sr:zi ⟨r.s,r.w⟩=some 0:=sr;rw[y8,sr,ZB,aa (by simp)];refine⟨y,rfl,?_⟩;rw[g0,dx,show(b.natAbs:Int)=b by omega];exact hy
    rw[aa (by omega),aa (by omega)]at sr;have sr:zi ⟨r.s,r.w⟩=some 1:=sr;obtain⟨q2,r2,e2,hq2,hr2⟩:=qgW hN hy hr (fb.mono hB) (fr.mono hB) g0;have e2:jT N ⟨y.s,y.w⟩ ⟨r.s,r.w⟩=some (q2,r2):=e2;rw[y8,sr,ZB,ae (by simp),e2,ZB];have n0:=aC b (show a%b≠0 by omega);have n1:=ar b g0
    have hhalf:b%(a%b)<2^k:=by
     have d1:=aw b (a%b)
     have d2:1<=b/(a%b):=by
      rw[bM g0];omega
     have d3:a%b*1<=a%b*(b/(a%b)):=Yc d2 (by omega);rw[aE]at hk;omega
    simp only;rw[qdO hb m0];exact qoz hN B hB k K r r2 (a%b) (b%(a%b)) hr hr2 m0 n0 hhalf (by omega) fr (qcv (by omega) fr)
theorem qpn {N:Nat} (hN:600000<N) {x y:qm} {a b:Int} (hx:IsZ x a) (hy:IsZ y b) (fa:Fit a 3900) (fb:Fit b 3900): ∃g,qdw N x y=some g/\IsZ g (Int.gcd a b:Int):=by
 obtain⟨x',e1,hx'⟩:=qpT hx;obtain⟨y',e2,hy'⟩:=qpT hy
 have hb:(b.natAbs:Int)<2^(64*3900):=by
  have e:W^3900=2^(64*3900):=by
   rw[Int.pow_mul];rfl
  unfold Fit at fb;rw[<-e];exact fb
 obtain⟨g,e3,hg⟩:=qoz (N:=N) (by omega) 3900 (ag _) (64*3900) N x' y' _ _ hx' hy' (by omega) (by omega) hb (by omega) (by unfold Fit;rw[aS];exact fa) (by unfold Fit;rw[aS];exact fb);unfold qdw;rw[e1,ZB,e2,ZB,e3,ZB];refine⟨g,rfl,?_⟩;rw[show Int.gcd a b=Int.gcd (a.natAbs:Int) (b.natAbs:Int)from rfl];exact hg
theorem qoP {N:Nat} (hN:11000<N) {x y:qm} {a b:Int} (hx:IsZ x a) (hy:IsZ y b) (fa:Fit a 3900) (fb:Fit b 3900) (hb:0<b): ∃q,yU N x y=some q/\IsZ q (a/b):=by
 obtain⟨q,r,e,hq,_⟩:=qgW hN hx hy fa fb hb;have e:jT N ⟨x.s,x.w⟩ ⟨y.s,y.w⟩=some (q,r):=e;unfold yU;rw[qek hy,ZB,aa (by split<;>omega),ZB];simp only;rw[e,ZB];exact⟨q,rfl,hq⟩
def IsF (f:qb) (q:Rat):Prop:=IsZ f.Num q.num/\IsZ f.Den (q.den:Int)
abbrev qax (q:Rat) (n:Nat):Prop:=Fit q.num n/\Fit (q.den:Int) n
theorem qax.mono {q:Rat} {m n:Nat} (h:qax q m) (hn:m<=n):qax q n:=⟨h.1.mono hn,h.2.mono hn⟩
theorem qao (a:Int) {g:Int} (hg:0<g):((a/g).natAbs:Int)<=(a.natAbs:Int):=by
 have:=Int.natAbs_ediv_le_natAbs a g;omega
theorem qi4 {a b:Int} {n:Nat} (hb:b≠0) (fa:Fit a n) (fb:Fit b n):qax (Rat.divInt a b) n:=by
 have hg:0<Int.gcd b a:=bT _ hb;constructor
 ·rw[cS];refine qcv (cy (qao _ (by omega)) ?_) fa;rw[bm,cJ hb,de];exact bU _
 rw[cT,aa hb];have:=Nat.div_le_self b.natAbs (Int.gcd b a);refine qcv ?_ fb;rw[aS];omega
theorem qkp {N:Nat} (hN:600000<N) {x y:qm} {a b:Int} (hx:IsZ x a) (hy:IsZ y b) (fa:Fit a 3900) (fb:Fit b 3900) (hb:b≠0): ∃f,qcq N x y=some f/\IsF f (Rat.divInt a b):=by
 have hg:0<Int.gcd b a:=bT _ hb
 have S: ∃n d:qm,(if(if b<0 then-1 else if b=0 then 0 else(1:Int))<0 then
  (zW x).bind λr8=>(zW y).bind λr9=>some (r8.s,r8.w,r9.s,r9.w)
  else some (x.s,x.w,y.s,y.w):Option (Int×(List Int)×Int×(List Int)))=some (n.s,n.w,d.s,d.w)/\IsZ n (b.sign*a)/\IsZ d (b.natAbs:Int):=by
  by_cases h:b<0
  ·obtain⟨n,e1,h1⟩:=qhd hx;obtain⟨d,e2,h2⟩:=qhd hy;rw[ae h,ae (by omega),e1,ZB,e2,ZB];refine⟨n,d,rfl,?_,?_⟩
   ·rw[dB h,Int.neg_mul,bu];exact h1
   rw[show(b.natAbs:Int)= -b by omega];exact h2
  rw[aa h,aa (by split<;>omega)];refine⟨x,y,rfl,?_,?_⟩
  ·rw[cY (by omega),bu];exact hx
  rw[show(b.natAbs:Int)=b by omega];exact hy
 obtain⟨n,d,e,hn,hd⟩:=S;unfold qcq;rw[qek hy,ZB,e,ZB];simp only
 have ha:((b.sign*a).natAbs:Int)=(a.natAbs:Int):=by rw[bm,cJ hb,de]
 have fn:Fit (b.sign*a) 3900:=qcv (by omega) fa;have fd:Fit (b.natAbs:Int) 3900:=qcv (by omega) fb
 have long: ∃f,((qdw N (⟨n.s,n.w⟩:qm) (⟨d.s,d.w⟩:qm)).bind λr14=>
  (yU N (⟨n.s,n.w⟩:qm) r14).bind λr15=>
  (yU N (⟨d.s,d.w⟩:qm) r14).bind λr16=>
  some (⟨r15,r16⟩:qb))=some f/\IsF f (Rat.divInt a b):=by
  obtain⟨g,e1,h1⟩:=qpn hN hn hd fn fd
  have eg:Int.gcd (b.sign*a) (b.natAbs:Int)=Int.gcd b a:=by
   rw[Int.gcd_comm];show Nat.gcd (b.natAbs:Int).natAbs (b.sign*a).natAbs=Nat.gcd b.natAbs a.natAbs;rw[show(b.sign*a).natAbs=a.natAbs by omega];rfl
  rw[eg]at h1
  have fg:Fit (Int.gcd b a:Int) 3900:=by
   have:Int.gcd b a<=b.natAbs:=Nat.le_of_dvd (by omega) (Int.gcd_dvd_natAbs_left b a);exact qcv (by rw[aS];omega) fb
  obtain⟨p,e2,h2⟩:=qoP (N:=N) (by omega) hn h1 fn fg (by omega);obtain⟨q,e3,h3⟩:=qoP (N:=N) (by omega) hd h1 fd fg (by omega);have e1:qdw N (⟨n.s,n.w⟩:qm) (⟨d.s,d.w⟩:qm)=some g:=e1;have e2:yU N (⟨n.s,n.w⟩:qm) g=some p:=e2;have e3:yU N (⟨d.s,d.w⟩:qm) g=some q:=e3;rw[e1,ZB,e2,ZB,e3,ZB];refine⟨⟨p,q⟩,rfl,?_,?_⟩
  ·rw[cS];exact h2
  rw[cT,aa hb,cL];exact h3
 have hs:=hd.sgn
 cases ed:d.w.isEmpty with
 |false=>
  rw[aa (by simp),ZB,aa (by simp)];exact long
 |true=>
  obtain⟨h1,h2,h3⟩:=hd.emp ed;rw[ae rfl,ZB];by_cases h:d.s=1
  ·rw[ae (by simp[h])]
   have hb1:b.natAbs=1:=by omega
   have eg:Int.gcd b a=1:=by
    show Nat.gcd b.natAbs a.natAbs=1;rw[hb1,Nat.gcd_one_left]
   refine⟨⟨⟨n.s,n.w⟩,⟨d.s,d.w⟩⟩,rfl,?_,?_⟩
   ·rw[cS,eg,Int.natCast_one,Int.ediv_one];exact hn
   rw[cT,aa hb,eg,Nat.div_one];exact hd
  rw[aa (by simp[h])];exact long
theorem F1 {n:Nat} (h:1<=n):Fit 1 n:=by
 have:=xe (show(1:Int)<=W by decide) h;rw[dO]at this
 have hw:(1:Int)<=W-1:=by decide
 have hw2: -W< -(1:Int):=by decide
 unfold Fit;omega
theorem qiw {x:qm} {z:Int} (h:IsZ x z): ∃f,qcb x=some f/\IsF f (z:Rat):=by
 unfold qcb;rw[qjK,ZB];exact⟨_,rfl,h,Ue (by decide) (by decide)⟩
theorem qf1 {f:qb} {q:Rat} (h:IsF f q):vM f=some (decide (q.den=1)):=by
 have hs:=h.2.sgn;have hd:=q.den_pos;unfold vM
 cases ed:f.Den.w.isEmpty with
 |true=>
  obtain⟨h1,_,_⟩:=h.2.emp ed;rw[ae rfl,ZB];congr 1;exact decide_eq_decide.2 (by omega)
 |false=>
  rw[aa (by simp),ZB];rcases h.2 with⟨hw,_⟩|⟨_,_,h1,_⟩
  ·rw[hw]at ed;simp at ed
  rw[ah (by omega)]
theorem qbu {a b:Int} {m n:Nat} (ha:Fit a m) (hb:Fit b n):Fit (a*b) (m+n):=by
 unfold Fit at*;rw[bm,aZ,Int.pow_add];have h1:(a.natAbs:Int)*(b.natAbs:Int)<=(a.natAbs:Int)*W^n:=Yc (aq hb) (by omega);have h2:(a.natAbs:Int)*W^n<W^m*W^n:=YH ha (pow_pos W0 n);omega
theorem qmI {a b:Int} {n:Nat} (ha:Fit a n) (hb:Fit b n):Fit (a+b) (n+1):=by
 unfold Fit at*;rw[aE];have hp:=pow_pos W0 n
 have:((a+b).natAbs:Int)<=(a.natAbs:Int)+(b.natAbs:Int):=by omega
 unfold W at*;omega
theorem qqV {a:Int} {n:Nat} (h:Fit a n):Fit (-a) n:=by unfold Fit;rw[dz];exact h
theorem qqO {f:qb} {q:Rat} (h:IsF f q): ∃r,qb0 f=some r/\IsF r (-q):=by
 obtain⟨n,e,hn⟩:=qhd h.1;unfold qb0;rw[e,ZB];exact⟨_,rfl,by rw[Rat.neg_num];exact hn,by rw[Rat.neg_den];exact h.2⟩
theorem qdi (p q:Rat):p+q=Rat.divInt (p.num*q.den+q.num*p.den) ((p.den:Int)*q.den):=by
 rw[Rat.add_def',<-Rat.divInt_ofNat,aZ]
theorem qdj (p q:Rat):p*q=Rat.divInt (p.num*q.num) ((p.den:Int)*q.den):=by
 rw[Rat.mul_def',<-Rat.divInt_ofNat,aZ]
theorem qdl (p q:Rat):(p.den:Int)*q.den≠0:=Int.mul_ne_zero (by have:=p.den_pos;omega) (by have:=q.den_pos;omega)
theorem qqm {p q:Rat} {n:Nat} (hp:qax p n) (hq:qax q n):qax (p+q) (n+n+1):=by
 rw[qdi];exact qi4 (qdl p q) (qmI (qbu hp.1 hq.2) (qbu hq.1 hp.2)) ((qbu hp.2 hq.2).mono (by omega))
theorem qiR {p q:Rat} {n:Nat} (hp:qax p n) (hq:qax q n):qax (p*q) (n+n):=by
 rw[qdj];exact qi4 (qdl p q) (qbu hp.1 hq.1) (qbu hp.2 hq.2)
theorem qo3 {p:Rat} {n:Nat} (hp:qax p n):qax (-p) n:=⟨by rw[Rat.neg_num];exact qqV hp.1,by rw[Rat.neg_den];exact hp.2⟩
theorem qpU {p:Rat} {n:Nat} (hp:qax p n) (hn:1<=n):qax p⁻¹ n:=by
 by_cases h:p.num=0
 ·constructor
  ·rw[Rat.num_inv,h];refine qcv ?_ (F1 hn);simp
  rw[Rat.den_inv,ae h];exact F1 hn
 constructor
 ·rw[Rat.num_inv];refine qcv ?_ hp.2;rw[bm,cJ h,de];exact bU _
 rw[Rat.den_inv,aa h];exact qcv (by omega) hp.1
theorem qne {N:Nat} (hN:600000<N) {f g:qb} {p q:Rat} (hf:IsF f p) (hg:IsF g q) {n:Nat} (hn:n<=1900) (fp:qax p n) (fq:qax q n): ∃r,qbd N f g=some r/\IsF r (p+q):=by
 have fp':=fp.mono hn;have fq':=fq.mono hn
 have long: ∃r,((qR N f.Num g.Den).bind λr9=>
  (qR N g.Num f.Den).bind λr10=>
  (yC N r9 r10).bind λr11=>
  (qR N f.Den g.Den).bind λr12=>
  (qcq N r11 r12).bind λr13=>
  some r13)=some r/\IsF r (p+q):=by
  obtain⟨a,e1,h1⟩:=qe9 (N:=N) (by omega) hf.1 hg.2 (fp'.1.mono (by omega)) (fq'.2.mono (by omega));obtain⟨b,e2,h2⟩:=qe9 (N:=N) (by omega) hg.1 hf.2 (fq'.1.mono (by omega)) (fp'.2.mono (by omega));have s1:=qbu fp'.1 fq'.2;have s2:=qbu fq'.1 fp'.2;obtain⟨c,e3,h3⟩:=qiC (N:=N) (by omega) h1 h2 (s1.mono (by omega)) (s2.mono (by omega));obtain⟨d,e4,h4⟩:=qe9 (N:=N) (by omega) hf.2 hg.2 (fp'.2.mono (by omega)) (fq'.2.mono (by omega));obtain⟨m,e5,h5⟩:=qkp hN h3 h4 ((qmI s1 s2).mono (by omega)) ((qbu fp'.2 fq'.2).mono (by omega)) (qdl p q);rw[e1,ZB,e2,ZB,e3,ZB,e4,ZB,e5,ZB];exact⟨m,rfl,by rw[qdi];exact h5⟩
 unfold qbd;rw[qf1 hf,ZB];by_cases h1:p.den=1
 ·rw[ai h1,ae rfl,qf1 hg,ZB,ZB];by_cases h2:q.den=1
  ·rw[ai h2,ae rfl];obtain⟨c,e3,h3⟩:=qiC (N:=N) (by omega) hf.1 hg.1 (fp'.1.mono (by omega)) (fq'.1.mono (by omega));obtain⟨m,e4,h4⟩:=qiw h3;rw[e3,ZB,e4,ZB];refine⟨m,rfl,?_⟩;have ep:p=(p.num:Rat):=Rat.ext (by simp) (by simp[h1]);have eq:q=(q.num:Rat):=Rat.ext (by simp) (by simp[h2]);rw[ep,eq,<-Rat.intCast_add];exact h4
  rw[ah h2,aa (by simp)];exact long
 rw[ah h1,aa (by simp),ZB,aa (by simp)];exact long
theorem qq4 {N:Nat} (hN:600000<N) {f g:qb} {p q:Rat} (hf:IsF f p) (hg:IsF g q) {n:Nat} (hn:n<=1900) (fp:qax p n) (fq:qax q n): ∃r,qbY N f g=some r/\IsF r (p-q):=by
 obtain⟨m,e1,h1⟩:=qqO hg;obtain⟨r,e2,h2⟩:=qne hN hf h1 hn fp (qo3 fq);unfold qbY;rw[e1,ZB,e2,ZB];exact⟨r,rfl,by rw[Rat.sub_eq_add_neg];exact h2⟩
theorem qkC {N:Nat} (hN:600000<N) {f g:qb} {p q:Rat} (hf:IsF f p) (hg:IsF g q) {n:Nat} (hn:n<=1900) (fp:qax p n) (fq:qax q n): ∃r,qal N f g=some r/\IsF r (p*q):=by
 have fp':=fp.mono hn;have fq':=fq.mono hn;obtain⟨a,e1,h1⟩:=qe9 (N:=N) (by omega) hf.1 hg.1 (fp'.1.mono (by omega)) (fq'.1.mono (by omega));obtain⟨b,e2,h2⟩:=qe9 (N:=N) (by omega) hf.2 hg.2 (fp'.2.mono (by omega)) (fq'.2.mono (by omega));obtain⟨m,e3,h3⟩:=qkp hN h1 h2 ((qbu fp'.1 fq'.1).mono (by omega)) ((qbu fp'.2 fq'.2).mono (by omega)) (qdl p q);unfold qal;rw[e1,ZB,e2,ZB,e3,ZB];exact⟨m,rfl,by rw[qdj];exact h3⟩
theorem qqZ {N:Nat} (hN:600000<N) {f:qb} {p:Rat} (hf:IsF f p) (fp:qax p 3900) (h0:p≠0): ∃r,qbX N f=some r/\IsF r p⁻¹:=by
 obtain⟨m,e,h⟩:=qkp hN hf.2 hf.1 fp.2 fp.1 (λc=>h0 (Rat.num_eq_zero.1 c));unfold qbX;rw[e,ZB];exact⟨m,rfl,by rw[Rat.inv_def];exact h⟩
theorem qeB {l:List Int} (h:Dg E9 l) {n:Nat} (hl:dv E9 l<E9^n):dv E9 (l.drop n)=0:=by
 by_cases hn:n<=l.length
 ·have e:=qab E9 l n hn;have h1:=qF E0 (h.take n);have h2:=qF E0 (h.drop n);rcases bS 0 (dv E9 (l.drop n))with c|c
  ·have:=Yc (show 1<=dv E9 (l.drop n)by omega) (aq (pow_pos E0 n));omega
  omega
 rw[aA (by omega),zz]
theorem qlj {N:Nat} (hN:11000<N) {v:List Int} {k:Nat} (hv:Dg E9 v) (hvl:v.length=k+2) (hk:k<=9000) (hn:1000000<=v[k+1]'(by omega)) {A:Int} {m:Nat} (hm:m<=9000): ∀(K i:Nat) (l qs:List Int),i<=m+1->i<K->l.length=m+k+3->qs.length=m+1->Dg E9 l->Dg E9 qs->(∀(j:Nat) x,j<i->qs[j]? =some x->x=0)->dv E9 (l.drop i)<dv E9 v->dv E9 l+dv E9 v*dv E9 qs=A->
 ∃l' qs',zU N v K l qs ((i:Int)-1)=some (l',qs')/\l'.length=m+k+3/\qs'.length=m+1/\Dg E9 l'/\Dg E9 qs'/\dv E9 l'<dv E9 v/\dv E9 l'+dv E9 v*dv E9 qs'=A
 |0,i,l,qs,h,hK,_,_,_,_,_,_,_=>by omega
 |K+1,0,l,qs,h,hK,hl,hql,hd,hqd,hz,hlt,e=>by
  rw[zU,aa (by omega)];exact⟨l,qs,rfl,hl,hql,hd,hqd,hlt,e⟩
 |K+1,i+1,l,qs,h,hK,hl,hql,hd,hqd,hz,hlt,e=>by
  have hil:i<l.length:=by omega
  have hiq:i<qs.length:=by omega
  have ei:((i+1:Nat):Int)-1=(i:Int):=by omega
  have V1:=xU E0 hv;rw[hvl]at V1
  have V0:0<dv E9 v:=by
   have:=qF E0 (hd.drop (i+1));omega
  have lp:(l.take i).length=i:=by rw[Ym];omega
  have lu:((l.drop i).take (k+3)).length=k+3:=by rw[Ym,YJ];omega
  have el:l=l.take i++((l.drop i).take (k+3)++(l.drop i).drop (k+3)):=by rw[YS,YS]
  have hu:=(hd.drop i).take (k+3)
  have ht:dv E9 ((l.drop i).drop (k+3))=0:=by
   have:=qeB (hd.drop (i+1)) (n:=k+2) (by omega);rw[eW]at this⊢;rw[show i+(k+3)=i+1+(k+2)by omega];exact this
  have eu:dv E9 ((l.drop i).take (k+3))=dv E9 (l.drop i):=by
   have:=xY E9 ((l.drop i).take (k+3)) ((l.drop i).drop (k+3));rw[YS,ht,aO,aT]at this;exact this.symm
  have hUlt:dv E9 ((l.drop i).take (k+3))<1000000000*dv E9 v:=by
   rw[eu,qiZ l hil];have:=(hd.at hil).2;have h1:E9*(dv E9 (l.drop (i+1))+1)<=E9*dv E9 v:=Yc (by omega) (by decide);rw[Int.mul_add,bN]at h1;have h2:E9*dv E9 v=1000000000*dv E9 v:=rfl;omega
  obtain⟨u',s2,s3,s4,s1⟩:=qor hN (p:=l.take i) (t:=(l.drop i).drop (k+3)) hv hvl hk hu lu (by omega) hn hUlt;rw[lp,<-el]at s1;rw[zU,ei,ae (by omega)];have hU0:=qF E0 hu;have Q0:0<=dv E9 ((l.drop i).take (k+3))/dv E9 v:=aM hU0 (by omega)
  have Q1:dv E9 ((l.drop i).take (k+3))/dv E9 v<E9:=by rw[Yu V0];exact hUlt
  have hR:=ar (dv E9 ((l.drop i).take (k+3))) V0;have hdm:=aw (dv E9 ((l.drop i).take (k+3))) (dv E9 v)
  have hdrop:(l.take i++(u'++(l.drop i).drop (k+3))).drop i=u'++(l.drop i).drop (k+3):=by
   rw[cx (by omega),aA (by omega),bn]
  have hdn:dv E9 (u'++(l.drop i).drop (k+3))=dv E9 u':=by rw[xY,ht,aO,aT]
  have main:=qlj hN hv hvl hk hn (A:=A) hm K i (l.take i++(u'++(l.drop i).drop (k+3))) (qs.set i (dv E9 ((l.drop i).take (k+3))/dv E9 v)) (by omega) (by omega) (by rw[Yq,Yq,lp,s2,YJ,YJ];omega) (by rw[Yk];exact hql) ((hd.take i).append (s3.append ((hd.drop i).drop _))) (hqd.set ⟨Q0,Q1⟩) (λj x hj hx=>by
   rw[Yw (by omega)]at hx
   exact hz j x (by omega) hx) (by rw[hdrop,hdn,s4];exact hR) (by
   rw[qlA hiq (λj x hj hx=>hz j x (by omega) hx),xY,lp,hdn,s4,Int.mul_add];have e1:=qab E9 l i (by omega);rw[<-eu]at e1
   have e2:E9^i*dv E9 ((l.drop i).take (k+3))=E9^i*(dv E9 v*(dv E9 ((l.drop i).take (k+3))/dv E9 v))+E9^i*(dv E9 ((l.drop i).take (k+3))%dv E9 v):=by rw[<-Int.mul_add,hdm]
   have e3:dv E9 v*(E9^i*(dv E9 ((l.drop i).take (k+3))/dv E9 v))=E9^i*(dv E9 v*(dv E9 ((l.drop i).take (k+3))/dv E9 v)):=Int.mul_left_comm _ _ _;rw[e3]
   omega)
  obtain⟨l',qs',g1,g2⟩:=main;refine⟨l',qs',?_,g2⟩;rw[<-g1];generalize hw:qa3 N l v (i:Int)=og at s1⊢
  cases og with
  |none=>cases s1
  |some r25=>
   simp only[ZB]at s1⊢;generalize ky v (i:Int) r25 N l 0 0=o2 at s1⊢
   cases o2 with
   |none=>cases s1
   |some p2=>
    obtain⟨l29,n30⟩:=p2;simp only[ZB]at s1⊢;generalize idx l29 (w64 ((i:Int)+(v.length:Int)))=o3 at s1⊢
    cases o3 with
    |none=>cases s1
    |some x40=>
     simp only[ZB]at s1⊢;generalize put l29 (w64 ((i:Int)+(v.length:Int))) (w64 (x40-n30))=o4 at s1⊢
     cases o4 with
     |none=>cases s1
     |some l41=>
      simp only[ZB]at s1⊢;generalize idx l41 (w64 ((i:Int)+(v.length:Int)))=o5 at s1⊢
      cases o5 with
      |none=>cases s1
      |some x42=>
       simp only[ZB]at s1⊢;refine(ap (λz=>Option.bind z _) s1).trans ?_;rw[ZB];simp only;rw[ql,Ya hiq,ZB,vw hiq,ZB,qo (by omega) (by omega)]
theorem qqd {a:List Int} (hal:a.length<=50000): ∀(K:Nat) (l:List Int),a.length+1<K+l.length->l.length<=a.length+1->jC a K l=some (l++List.replicate (a.length+1-l.length) 0)
 |0,l,h,h2=>by omega
 |K+1,l,h,h2=>by
  rw[jC,qD (by omega)];by_cases c:l.length<a.length+1
  ·rw[ae (by omega),xX (by simp;omega) (by simp;omega),ZB,qqd hal K (l++[0]) (by simp;omega) (by simp;omega),Yz,Yq,bw];rw[show a.length+1-l.length=a.length+1-(l.length+1)+1 by omega,dQ];rfl
  rw[aa (by omega),show a.length+1-l.length=0 by omega];simp
theorem qen {N:Nat} (hN:60000<N) {a b:List Int} (ha:Can E9 a) (hb:Can E9 b) (hal:a.length<=8000) (hb0:0<dv E9 b):ve N a b=some (dg E9 (dv E9 a/dv E9 b),dg E9 (dv E9 a%dv E9 b)):=by
 have A0:=qF E0 ha.1;unfold ve;rw[qd0 ha hb (by omega) (by omega),ZB];by_cases h:dv E9 a<dv E9 b
 ·rw[ae h,ae (by omega),cZ A0 h,bA A0 h,qet,qpp E1 ha]
 have hlen:b.length<=a.length:=by
  rcases ak a.length b.length with c|c
  ·have:=qdB ha hb c;omega
  exact c
 have hb1:0<b.length:=by
  rcases bj b.length with c|c
  ·rw[YL.1 c,zz]at hb0;omega
  exact c
 have hge: ¬((if dv E9 a<dv E9 b then-1 else if dv E9 a=dv E9 b then(0:Int)else 1)<0):=by
  rw[aa h];split<;>omega
 rw[aa hge];by_cases hone:b.length=1
 ·obtain⟨d,rfl⟩:=cX.1 hone
  have ed:dv E9 [d]=d:=by rw[zR,zz];omega
  rw[ed]at hb0⊢;have hd:d<1000000000:=hb.1.head.2;have m0:=aC (dv E9 a) (show d≠0 by omega);have m1:=ar (dv E9 a) hb0;rw[ae (by simp),qau];simp only[Yj,ZB];rw[qhl ha.1 (by omega) (by omega) hb0 hd,ZB];simp only;rw[qda (Dg.cons ⟨m0,Int.lt_trans m1 hd⟩ Dg.nil) (by simp) (by simp;omega),ZB,zR,zz,aO,aT]
 obtain⟨k,hk⟩: ∃k,b.length=k+2:=⟨b.length-2,by omega⟩;obtain⟨m,hm⟩: ∃m,a.length=m+k+2:=⟨a.length-(k+2),by omega⟩
 have hkb:k+1<b.length:=by omega
 have at1:=hb.1.at hkb;have at2:b[k+1]<1000000000:=at1.2;have at0:b[k+1]≠0:=hb.2 _ (by rw[List.getLast?_eq_getElem?,hk];exact Ya hkb);have hPk:=pow_pos E0 (k+1);rw[aa (by omega),show w64 ((b.length:Int)-1)=((k+1:Nat):Int)by rw[qo (by omega) (by omega)];omega,ql,Ya hkb,ZB,qo (n:=b[k+1]+1) (by omega) (by omega)]
 have hq:qc7 .i64 1000000000 (b[k+1]+1)=some (1000000000/(b[k+1]+1)):=by
  unfold qc7;have:(1000000000:Int)/(b[k+1]+1)<=1000000000:=eI _ (by omega);have:0<=(1000000000:Int)/(b[k+1]+1):=aM (by omega) (by omega);rw[aa (by omega),YF (by omega)];show some (w64 _)=_;rw[qo (by omega) (by omega)]
 rw[hq,ZB];have f1:=aw 1000000000 (b[k+1]+1);have f2:=ar 1000000000 (show 0<b[k+1]+1 by omega);have f3:=aC 1000000000 (show b[k+1]+1≠0 by omega)
 have f0:1<=(1000000000:Int)/(b[k+1]+1):=by
  rw[bM (by omega)];omega
 have f5:(1000000000:Int)/(b[k+1]+1)<=500000000:=by
  have:(1000000000:Int)/(b[k+1]+1)<500000001:=by
   rw[Yu (by omega)];omega
  omega
 generalize hf:(1000000000:Int)/(b[k+1]+1)=f at*
 have f4:250000000<=b[k+1]*f:=by
  rw[aV,bu]at f1
  have:f<=b[k+1]*f:=by
   have:=aB (show 1<=b[k+1]by omega) (show 0<=f by omega);omega
  have:b[k+1]<=b[k+1]*f:=by
   have:=Yc (show 1<=f by omega) (show 0<=b[k+1]by omega);omega
  omega
 have fd:Dg E9 [f]:=Dg.cons ⟨by omega,show f<1000000000 by omega⟩ Dg.nil
 have fv:dv E9 [f]=f:=by rw[zR,zz];omega
 have hf0:0<f:=by omega
 rw[qev hb.1 fd (by omega) (by simp) (by simp;omega),ZB,qev ha.1 fd (by omega) (by simp) (by simp;omega),ZB,fv];have V0:0<dv E9 b*f:=cG hb0 hf0
 have ebs:dv E9 b=dv E9 (b.take (k+1))+E9^(k+1)*b[k+1]:=by
  have:=qy E9 b (k+1) hkb;rw[aj (by omega)]at this;exact this
 have blo0:=qF E0 (hb.1.take (k+1));have blo1:=xU E0 (hb.1.take (k+1));rw[Ym,aP (by omega)]at blo1
 have Vlow:E9^(k+1)*250000000<=dv E9 b*f:=by
  have h1:=Yc f4 (aq hPk);rw[ebs,aV,Int.mul_assoc];have:=Yv blo0 (aq hf0);omega
 have Vhigh:dv E9 b*f<E9^(k+2):=by
  have h1:(dv E9 b)*f<E9^(k+1)*((b[k+1]+1)*f):=by
   rw[<-Int.mul_assoc];refine YH ?_ hf0;rw[ebs,Int.mul_add,bN];omega
  have h3:E9^(k+1)*((b[k+1]+1)*f)<=E9^(k+1)*1000000000:=Yc (by omega) (aq hPk);rw[aE];exact dA h1 h3
 have U0:0<=dv E9 a*f:=Yv A0 (aq hf0);have cu:=jD E1 U0;have euu:=vY E1 U0;have hA:=xU E0 ha.1
 have lu:(dg E9 (dv E9 a*f)).length<=a.length+1:=by
  refine(qdM E1 U0).2 ?_;rw[aE];have h1:dv E9 a*f<E9^a.length*f:=YH hA hf0;have h2:E9^a.length*f<=E9^a.length*E9:=Yc (show f<=1000000000 by omega) (aq (pow_pos E0 _));omega
 generalize hua:dg E9 (dv E9 a*f)=ua at*;rw[xX (by simp;omega) (by simp;omega),ZB,bn,qqd (by omega) N ua (by omega) lu,ZB]
 have lU:(ua++List.replicate (a.length+1-ua.length) 0).length=m+k+3:=by simp;omega
 have dU:Dg E9 (ua++List.replicate (a.length+1-ua.length) 0):=cu.1.append (Um E0 _)
 have vU:dv E9 (ua++List.replicate (a.length+1-ua.length) 0)=dv E9 a*f:=by rw[xY,qay,aO,aT,euu]
 generalize ua++List.replicate (a.length+1-ua.length) 0=U at*;have cv:=jD E1 (aq V0);have evv:=vY E1 (aq V0)
 have lv:(dg E9 (dv E9 b*f)).length=k+2:=by
  have h1:=(qdM E1 (aq V0) (n:=k+2)).2 Vhigh
  have h2:=(not_congr (qdM E1 (aq V0) (n:=k+1))).2 (by
   have:E9^(k+1)*1<=E9^(k+1)*250000000:=Yc (by omega) (aq hPk)
   omega)
  omega
 generalize hvv:dg E9 (dv E9 b*f)=v at*
 have hkv:k+1<v.length:=by omega
 have hn:1000000<=v[k+1]:=by
  have e:=qy E9 v (k+1) hkv;rw[aj (by omega),evv]at e;have h1:=xU E0 (cv.1.take (k+1));rw[Ym,aP (by omega)]at h1
  have h2:E9^(k+1)*250000000<E9^(k+1)*(v[k+1]+1):=by rw[Int.mul_add,bN];omega
  have:=cM h2 (aq hPk);omega
 have htop:dv E9 (U.drop (m+1))<dv E9 v:=by
  rw[evv];have e:=qab E9 U (m+1) (by omega);have h1:=qF E0 (dU.take (m+1))
  have h2:dv E9 U<E9^(m+1)*(E9^(k+1)*f):=by
   rw[vU,<-Int.mul_assoc,<-Int.pow_add,show m+1+(k+1)=a.length by omega];exact YH hA hf0
  have hPm:=pow_pos E0 (m+1)
  have h3:E9^(m+1)*dv E9 (U.drop (m+1))<E9^(m+1)*(E9^(k+1)*f):=by omega
  have h4:=cM h3 (aq hPm)
  have h5:E9^(k+1)*f<=E9^(k+1)*(b[k+1]*f):=by
   refine Yc ?_ (aq hPk);have:=aB (show 1<=b[k+1]by omega) (show 0<=f by omega);omega
  have h6:E9^(k+1)*(b[k+1]*f)<=dv E9 b*f:=by
   rw[<-Int.mul_assoc];exact aB (by omega) (aq hf0)
  omega
 rw[show w64 ((U.length:Int)-(v.length:Int))=((m+1:Nat):Int)by rw[qo (by omega) (by omega)];omega,qbP (by omega),ZB,show w64 (((m+1:Nat):Int)-1)=((m+1:Nat):Int)-1 from qo (by omega) (by omega)];obtain⟨l,qs,g1,g2,g3,g4,g5,g6,g7⟩:=qlj (N:=N) (by omega) cv.1 lv (by omega) hn (A:=dv E9 U) (m:=m) (by omega) N (m+1) U (List.replicate (m+1) 0) (ag _) (by omega) lU (by simp) dU (Um E0 _) (λj x _ hx=>qiD j x hx) htop (by rw[qay,aO,aT]);rw[g1,ZB];simp only;rw[vU]at g7;rw[evv]at g6 g7;have hl0:=qF E0 g4
 have eq:dv E9 qs=dv E9 a/dv E9 b:=by
  rw[<-Int.mul_ediv_mul_of_pos_left (dv E9 a) (dv E9 b) hf0,<-g7,cE _ _ (by omega),cZ hl0 g6,dq]
 have er:dv E9 l=dv E9 a%dv E9 b*f:=by
  have:(dv E9 a*f)%(dv E9 b*f)=dv E9 l:=by rw[<-g7,bi,bA hl0 g6]
  rw[<-this,aD (dv E9 a),aD (dv E9 b),cr _ _ hf0,aD]
 have hzl:dv E9 (l.drop (k+2))=0:=qeB g4 (by omega)
 have etk:dv E9 (l.take (k+2))=dv E9 l:=by
  have:=qab E9 l (k+2) (by omega);rw[hzl,aO,aT]at this;exact this.symm
 have m0:0<=dv E9 a%dv E9 b:=aC _ (by omega);have r0:0<=dv E9 a%dv E9 b*f:=Yv m0 (aq hf0);rw[lv,y9 (by omega),ZB,qda (g4.take _) (by rw[Ym];omega) (by rw[Ym];omega),ZB,etk,er,qau];simp only[Yj,ZB]
 have lr:(dg E9 (dv E9 a%dv E9 b*f)).length<=20000:=by
  have h1:(dg E9 (dv E9 a%dv E9 b*f)).length<=k+2:=(qdM E1 r0).2 (by omega);omega
 rw[qhl (jD E1 r0).1 lr (by omega) hf0 (by omega),ZB,vY E1 r0,Int.mul_ediv_cancel _ (by omega),qda g5 (by omega) (by omega),ZB,eq]
abbrev zB (z:Int) (n:Nat):Prop:=(z.natAbs:Int)<E9^n
theorem zB.len {z:Int} {n:Nat} (h:zB z n):(dg E9 z.natAbs).length<=n:=(qdM E1 (by omega)).2 h
theorem zB.mono {z:Int} {m n:Nat} (h:zB z m) (hn:m<=n):zB z n:=dA h (xe (by decide) hn)
theorem qhe (z:Int):Can E9 (rI z).w/\dv E9 (rI z).w=(z.natAbs:Int):=⟨jD E1 (by omega),vY E1 (by omega)⟩
theorem qlf {N:Nat} (hN:60000<N) {z:Int} (h:zB z 50000):qaj N (rI z)=some (rI (-z)):=by
 have l:=h.len;obtain⟨c,e⟩:=qhe z;unfold qaj;rw[qa7 _ c.1 (by show(dg E9 z.natAbs).length<=_;omega) (by show(dg E9 z.natAbs).length<_;omega),ZB,e]
 have:(if(!(rI z).neg)=true then-(z.natAbs:Int)else(z.natAbs:Int))= -z:=by
  show(if(!decide (z<0))=true then-(z.natAbs:Int)else(z.natAbs:Int))= -z;by_cases hz:z<0
  ·rw[ai hz,aa (by simp)];omega
  rw[ah hz,ae (by simp)];omega
 rw[this]
theorem qe1 {N:Nat} (hN:60000<N) {a b:Int} (ha:zB a 8000) (hb:zB b 8000):xB N (rI a) (rI b)=some (rI (a*b)):=by
 have la:=ha.len;have lb:=hb.len;obtain⟨ca,ea⟩:=qhe a;obtain⟨cb,eb⟩:=qhe b;have l1:(rI a).w.length<=8000:=la;have l2:(rI b).w.length<=8000:=lb;have hp:0<=(a.natAbs:Int)*(b.natAbs:Int):=Yv (by omega) (by omega)
 have lp:(dg E9 ((a.natAbs:Int)*(b.natAbs:Int))).length<=16000:=by
  refine(qdM E1 hp).2 ?_;rw[show 16000=8000+8000 from rfl,Int.pow_add];have h1:(a.natAbs:Int)*(b.natAbs:Int)<=(a.natAbs:Int)*E9^8000:=Yc (aq hb) (by omega);have h2:(a.natAbs:Int)*E9^8000<E9^8000*E9^8000:=YH ha (pow_pos E0 _);omega
 unfold xB;rw[qev ca.1 cb.1 (by omega) (by omega) (by omega),ZB,ea,eb,qa7 _ (jD E1 hp).1 (by omega) (by omega),ZB,vY E1 hp];congr 2
 have hab:(a.natAbs:Int)*(b.natAbs:Int)=((a*b).natAbs:Int):=by rw[bm,aZ]
 rw[hab];show(if(!(decide (a<0)==decide (b<0)))=true then _ else _)=_;by_cases h1:a<0
 ·by_cases h2:b<0
  ·have:=Int.mul_pos_of_neg_of_neg h1 h2;rw[ai h1,ai h2,aa (by simp)];omega
  have:=dZ (show a<=0 by omega) (show 0<=b by omega);rw[ai h1,ah h2,ae (by simp)];omega
 by_cases h2:b<0
 ·have:=ee (show 0<=a by omega) (show b<=0 by omega);rw[ah h1,ai h2,ae (by simp)];omega
 have:=Yv (show 0<=a by omega) (show 0<=b by omega);rw[ah h1,ah h2,aa (by simp)];omega
theorem qru {N:Nat} (hN:60000<N) {a b:Int} (ha:zB a 9000) (hb:zB b 9000):qdc N (rI a) (rI b)=some (rI (a+b)):=by
 have la:=ha.len;have lb:=hb.len;obtain⟨ca,ea⟩:=qhe a;obtain⟨cb,eb⟩:=qhe b;have l1:(rI a).w.length<=9000:=la;have l2:(rI b).w.length<=9000:=lb
 have lsub: ∀x y:Int,0<=x-y->0<=y->x<E9^9000->(dg E9 (x-y)).length<=9000:=λx y h h0 h1=>(qdM E1 h).2 (by omega)
 unfold qdc;have hneg:((rI a).neg==(rI b).neg)=(decide (a<0)==decide (b<0)):=rfl;have na:(rI a).neg=decide (a<0):=rfl;have nb:(rI b).neg=decide (b<0):=rfl;rw[hneg];by_cases hs:(a<0↔b<0)
 ·obtain⟨l,e,d1,d2,d3⟩:=qj3 (N:=N) ca.1 cb.1 (by omega) (by omega) (by omega);rw[ae (by rw[bG];exact decide_eq_decide.2 hs),e,ZB,qa7 _ d1 (by omega) (by omega),ZB,d3,ea,eb,na];congr 2;simp only[aH];split<;>omega
 rw[aa (by rw[bG];exact λc=>hs (decide_eq_decide.1 c)),qd0 ca cb (by omega) (by omega),ZB,ea,eb];by_cases hc:(a.natAbs:Int)<(b.natAbs:Int)
 ·rw[ae hc,aa (by omega),qgx cb ca (by omega) (by omega) (by omega),ZB,ea,eb]
  have h0:0<=(b.natAbs:Int)-(a.natAbs:Int):=by omega
  have ll:=lsub _ _ h0 (by omega) hb;rw[qa7 _ (jD E1 h0).1 (by omega) (by omega),ZB,vY E1 h0,nb];congr 2;simp only[aH];split<;>omega
 rw[aa hc,ae (by split<;>omega),qgx ca cb (by omega) (by omega) (by omega),ZB,ea,eb]
 have h0:0<=(a.natAbs:Int)-(b.natAbs:Int):=by omega
 have ll:=lsub _ _ h0 (by omega) ha;rw[qa7 _ (jD E1 h0).1 (by omega) (by omega),ZB,vY E1 h0,na];congr 2;simp only[aH];split<;>omega
theorem qeY {x y:Int} (hx:0<=x) (h:x<=y): ∀n:Nat,0<=x^n/\x^n<=y^n
 |0=>by simp
 |n+1=>by
  have ih:=qeY hx h n;rw[aE,aE];exact⟨Yv ih.1 hx,bB ih.2 h hx (cy ih.1 ih.2)⟩
theorem qiF {N:Nat} (hN:60000<N) (B:Nat) (hB:B<=8000): ∀(k K:Nat) (a b:Int),0<=a->0<=b->b<2^k->2*k+2<=K->zB a B->zB b B->zA N K (dg E9 a) (dg E9 b)=some (dg E9 (Int.gcd a b:Int))
 |k,0,a,b,_,_,_,hK,_,_=>by omega
 |k,K+1,a,b,ha,hb,hk,hK,fa,fb=>by
  have na:(a.natAbs:Int)=a:=by omega
  have nb:(b.natAbs:Int)=b:=by omega
  have done:b=0->zA N (K+1) (dg E9 a) (dg E9 b)=some (dg E9 (Int.gcd a b:Int)):=by
   intro h0;subst h0;rw[zA,qet,aa (by simp),dx,na]
  rcases(show b=0\/0<b by omega)with h0|h0
  ·exact done h0
  match k,hk,hK with
  |0,hk,hK=>simp at hk;omega
  |k+1,hk,hK=>
   have m0:=aC a (show b≠0 by omega);have m1:=ar a h0;have la:=fa.len;have lb:=fb.len;rw[na]at la;rw[nb]at lb
   have lpos:0<(dg E9 b).length:=by
    rw[cj];intro c;have:=(qh9 E1 hb).1 c;omega
   have fr:zB (a%b) B:=by unfold zB at fb⊢;omega
   rw[zA,ae (by omega),qen hN (jD E1 ha) (jD E1 hb) (by omega) (by rw[vY E1 hb];exact h0),ZB,vY E1 ha,vY E1 hb];simp only;rw[qdO ha hb]
   match K,hK with
   |0,hK=>omega
   |K+1,hK=>
    rcases(show a%b=0\/0<a%b by omega)with g0|g0
    ·rw[g0,zA,qet,aa (by simp),dx,nb]
    have lr:=fr.len;rw[show((a%b).natAbs:Int)=a%b by omega]at lr
    have lpos2:0<(dg E9 (a%b)).length:=by
     rw[cj];intro c;have:=(qh9 E1 m0).1 c;omega
    have n0:=aC b (show a%b≠0 by omega);have n1:=ar b g0;rw[zA,ae (by omega),qen hN (jD E1 hb) (jD E1 m0) (by omega) (by rw[vY E1 m0];exact g0),ZB,vY E1 hb,vY E1 m0]
    have hhalf:b%(a%b)<2^k:=by
     have d1:=aw b (a%b)
     have d2:1<=b/(a%b):=by
      rw[bM g0];omega
     have d3:a%b*1<=a%b*(b/(a%b)):=Yc d2 (by omega);rw[aE]at hk;omega
    simp only;rw[qdO hb m0];exact qiF hN B hB k K (a%b) (b%(a%b)) m0 n0 hhalf (by omega) fr (by unfold zB at fr⊢;omega)
theorem qjr {N:Nat} (hN:600000<N) {a b:Int} (ha:0<=a) (hb:0<=b) (fa:zB a 8000) (fb:zB b 8000):qbc N (dg E9 a) (dg E9 b)=some (dg E9 (Int.gcd a b:Int)):=by
 have h2:b<2^(30*8000):=by
  have e:(2:Int)^(30*8000)=1073741824^8000:=by rw[Int.pow_mul,show(2:Int)^30=1073741824 from rfl]
  rw[e];have:E9^8000<=(1073741824:Int)^8000:=(qeY (by decide) (by decide) _).2;unfold zB at fb;omega
 unfold qbc;rw[qiF (by omega) 8000 (ag _) (30*8000) N a b ha hb h2 (by omega) fa fb,ZB]
def yX (c:UInt8):Bool:=decide (48<=c.toNat)&&decide (c.toNat<=57)
def kw (n:Nat) (s:List UInt8):Nat:=s.foldl (λa c=>a*10+(c.toNat-48)) n
theorem qcU (n:Nat):kw n []=n:=eT
theorem qcf (n:Nat) (c:UInt8) (s:List UInt8):kw n (c::s)=kw (n*10+(c.toNat-48)) s:=by
 unfold kw;rw[bp]
theorem qfy (s:List UInt8): ∀n:Nat,s.all yX=true->kw n s<(n+1)*10^s.length:=by
 induction s with
 |nil=>
  intro n _;rw[be,Nat.pow_zero,cF,qcU];exact aQ n
 |cons c s ih=>
  intro n h;rw[bP,aI]at h;have h1:=ih (n*10+(c.toNat-48)) h.2
  have hd:c.toNat-48<=9:=by
   have:=h.1;simp[yX]at this;omega
  have h2:n*10+(c.toNat-48)+1<=(n+1)*10:=by omega
  rw[qcf,Yr,bL,cd (10^s.length) 10,<-Nat.mul_assoc];exact bW h1 (aN _ h2)
theorem ne48 {c:UInt8} (h: ¬c=48): ¬((c.toNat:Int)=48):=λe=>h (UInt8.toNat_inj.1 (show c.toNat=48 from by omega))
theorem qp2 (c:UInt8):([48,49,50,51,52,53,54,55,56,57]:Str).contains c=yX c:=by
 rw[bQ];simp only[List.contains_cons,List.contains_nil,dl,bG,yX,aI,aH,<-UInt8.toNat_inj,Bool.or_false];simp only[show(48:UInt8).toNat=48 from rfl,show(49:UInt8).toNat=49 from rfl,show(50:UInt8).toNat=50 from rfl,show(51:UInt8).toNat=51 from rfl,show(52:UInt8).toNat=52 from rfl,show(53:UInt8).toNat=53 from rfl,show(54:UInt8).toNat=54 from rfl,show(55:UInt8).toNat=55 from rfl,show(56:UInt8).toNat=56 from rfl,show(57:UInt8).toNat=57 from rfl];omega
theorem qdJ {α:Type} {p:α->Bool}: ∀{l:List α},l.dropWhile p=[]↔l.all p=true
 |[]=>by simp
 |x::l=>by
  rw[List.dropWhile_cons,bP];by_cases h:p x=true
  ·rw[ae h,h,cN];exact qdJ
  rw[aa h];simp[h]
theorem qoa {s:Str}:(Lib.trimS s [48,49,50,51,52,53,54,55,56,57]==[])=s.all yX:=by
 have e:(λc=>([48,49,50,51,52,53,54,55,56,57]:Str).contains c)=yX:=funext qp2;unfold Lib.trimS Lib.trimLeftS Lib.trimRightS;rw[e];rw[bQ,bG,qdJ,List.all_reverse];constructor
 ·intro h
  have h2: ∀x∈s.reverse.takeWhile yX++s.reverse.dropWhile yX,yX x=true:=by
   intro x hx;rcases cz.1 hx with hx|hx
   ·exact Yp.1 List.all_takeWhile x hx
   exact Yp.1 h x hx
  rw[List.takeWhile_append_dropWhile]at h2
  exact Yp.2 λx hx=>h2 x (by simpa using hx)
 intro h;have:s.reverse.dropWhile yX=[]:=qdJ.2 (by rw[List.all_reverse];exact h);rw[this];rfl
theorem qiY: ∀(s:Str) (n:Nat),s.all yX=true->Lib.decFrom n s=some (kw n s)
 |[],n,_=>rfl
 |c::s,n,h=>by
  rw[bP,aI]at h;unfold Lib.decFrom;rw[qcf]
  have h1:48<=c.toNat/\c.toNat<=57:=by simpa[yX]using h.1
  have e:Lib.digitVal c=some (c.toNat-48):=by unfold Lib.digitVal;rw[ae h1]
  rw[e];exact qiY s _ h.2
theorem qlh {s:Str} (h0:1<=s.length) (h:s.all yX=true):Lib.atoi s=some ((kw 0 s:Nat):Int):=by
 cases s with
 |nil=>simp at h0
 |cons c s=>
  have hc:yX c=true:=by rw[bP,aI]at h;exact h.1
  have h1:48<=c.toNat/\c.toNat<=57:=by simpa[yX]using hc
  unfold Lib.atoi Lib.decNat
  have n1: ¬(c==45)=true:=λe=>by rw[bG.1 e]at h1;simp at h1
  have n2: ¬(c==43)=true:=λe=>by rw[bG.1 e]at h1;simp at h1
  simp only;rw[aa n1,aa n2,aa (by simp),qiY _ _ h];rfl
theorem qoc (s:List UInt8): ∀n:Nat,kw n s=n*10^s.length+kw 0 s:=by
 induction s with
 |nil=>intro n;rw[qcU,qcU];simp
 |cons c s ih=>
  intro n;rw[qcf,qcf,ih,ih (0*10+_),Yr,bL,bf,az,Nat.add_mul];rw[Nat.mul_assoc,cd 10,<-Nat.add_assoc]
theorem qfg (s t:List UInt8):kw 0 (s++t)=kw 0 s*10^t.length+kw 0 t:=by
 have:kw 0 (s++t)=kw (kw 0 s) t:=by unfold kw;rw[List.foldl_append]
 rw[this,qoc]
theorem qg9 (s:List UInt8) (c:UInt8):kw 0 (s++[c])=kw 0 s*10+(c.toNat-48):=by
 rw[qfg];simp[qcf,qcU]
def dch (n:Nat):UInt8:=UInt8.ofNat (48+n)
theorem qhE {n:Nat} (h:n<10):(dch n).toNat=48+n:=by
 unfold dch;rw[dV];omega
theorem qmK {n:Nat} (h:n<10):yX (dch n)=true:=by
 unfold yX;rw[qhE h,aI,aH,aH];omega
theorem qnc {c:UInt8} (h:yX c=true):c=dch (c.toNat-48)/\c.toNat-48<10:=by
 unfold yX at h;rw[aI,aH,aH]at h;refine⟨?_,by omega⟩;rw[<-UInt8.toNat_inj,qhE (by omega)];omega
def qeK:Nat->Nat->Str
 |0,_=>[]
 |k+1,n=>qeK k (n/10)++[dch (n%10)]
theorem qje: ∀k n,(qeK k n).length=k
 |0,n=>rfl
 |k+1,n=>by rw[qeK,Yq,qje];rfl
theorem jI {n:Nat} (h:n<10):Lib.decDigits n=[dch n]:=by rw[Lib.decDigits,dif_pos h];rfl
theorem qfY {n:Nat} (h: ¬n<10):Lib.decDigits n=Lib.decDigits (n/10)++[dch (n%10)]:=by rw[Lib.decDigits,dif_neg h];rfl
theorem qio: ∀(k n:Nat),0<n/10^k->Lib.decDigits n=Lib.decDigits (n/10^k)++qeK k (n%10^k)
 |0,n,_=>by simp[qeK]
 |k+1,n,h=>by
  have e1:n/10^(k+1)=n/10/10^k:=by rw[bL,cd,Nat.div_div_eq_div_mul]
  have hp:0<10^k:=Nat.pow_pos (by decide)
  have h10: ¬n<10:=λc=>by
   rw[e1,eE c,Nat.zero_div]at h;omega
  have e2:n%10^(k+1)/10=n/10%10^k:=by rw[bL,cd,Nat.mod_mul_right_div_self]
  have e3:n%10^(k+1)%10=n%10:=Nat.mod_mod_of_dvd _ ⟨10^k,by rw[bL,cd]⟩;rw[qfY h10,qio k (n/10) (by rw[<-e1];exact h),qeK,e2,e3,e1,Yz]
theorem qbO (n:Nat):(Lib.decDigits n).all yX=true:=by
 induction n using Nat.strongRecOn with
 |_ n ih=>
  by_cases h:n<10
  ·rw[jI h,bP,qmK h];rfl
  rw[qfY h,List.all_append,ih _ (by omega),bP,qmK (by omega)];rfl
theorem qdd (n:Nat):kw 0 (Lib.decDigits n)=n:=by
 induction n using Nat.strongRecOn with
 |_ n ih=>
  by_cases h:n<10
  ·rw[jI h,qcf,qcU,qhE h];omega
  rw[qfY h,qg9,ih _ (by omega),qhE (by omega)];omega
theorem qiI (n:Nat):0<(Lib.decDigits n).length:=by rw[Lib.decDigits_length];exact Lib.nDigits_pos n
theorem qmh {m n:Nat} (h:Lib.decDigits m=Lib.decDigits n):m=n:=by rw[<-qdd m,h,qdd]
theorem qaH {n k:Nat} (hk:0<k):(Lib.decDigits n).length<=k↔n<10^k:=by
 constructor
 ·intro h;have:=qfy (Lib.decDigits n) 0 (qbO n);rw[qdd]at this;have h2:(10:Nat)^(Lib.decDigits n).length<=10^k:=bC (by omega) h;omega
 intro h;rcases ak k (Lib.decDigits n).length with c|c
 ·exfalso;rw[Lib.decDigits_length]at c;obtain⟨m,hm⟩: ∃m,Lib.nDigits n=m+2:=⟨Lib.nDigits n-2,by omega⟩
  have hlow: ∀(n m:Nat),Lib.nDigits n=m+2->10^(m+1)<=n:=by
   intro n
   induction n using Nat.strongRecOn with
   |_ n ih=>
    intro m hm;by_cases h:n<10
    ·rw[Lib.nDigits_small h]at hm;omega
    rw[Lib.nDigits_big h]at hm
    cases m with
    |zero=>simp;omega
    |succ m=>
     have:=ih (n/10) (by omega) m (by omega);rw[bL];omega
  have:=hlow n m hm;have h2:(10:Nat)^k<=10^(m+1):=bC (by omega) (by omega);omega
 exact c
def Dec (s:Str):Prop:=0<s.length/\s.all yX=true/\(s[0]? =some 48->s=[48])
instance (s:Str):Decidable (Dec s):=by unfold Dec;infer_instance
theorem qm0 {c:UInt8} (h:yX c=true):Dec [c]:=⟨by simp,by simp[h],λe=>by simp at e;rw[e]⟩
theorem qqr: ∀(k:Nat) (s:Str),s.length<=k->Dec s->s=Lib.decDigits (kw 0 s)
 |0,s,h,hd=>by have:=hd.1;omega
 |k+1,s,h,hd=>by
  rcases List.eq_nil_or_concat s with e|⟨t,c,e⟩
  ·rw[e]at hd;exact absurd hd.1 (by simp)
  rw[List.concat_eq_append]at e;subst e;have ha:=hd.2.1;rw[List.all_append,aI,bP,eh,Bool.and_true]at ha;obtain⟨ec,hc⟩:=qnc ha.2;by_cases ht:t=[]
  ·subst ht;rw[bn,qcf,qcU,bf,az,jI hc,<-ec]
  have htl:0<t.length:=cj.2 ht
  have h0:t[0]? ≠some 48:=λe=>by
   have:=hd.2.2 (by rw[Yf htl];exact e);have:=ap List.length this;rw[Yq,bw,bw]at this;omega
  have hD:Dec t:=⟨htl,ha.1,λe=>absurd e h0⟩;have ih:=qqr k t (by simp at h;omega) hD
  have hv:kw 0 t≠0:=λe=>by
   rw[e]at ih;exact h0 (by rw[ih,jI (by decide)];rfl)
  rw[qg9,qfY (by omega),show(kw 0 t*10+(c.toNat-48))/10=kw 0 t by omega,show(kw 0 t*10+(c.toNat-48))%10=c.toNat-48 by omega,<-ih,<-ec]
theorem Dec.eq {s:Str} (h:Dec s):s=Lib.decDigits (kw 0 s):=qqr s.length s (ag _) h
theorem qoV (n:Nat):Dec (Lib.decDigits n):=by
 refine⟨qiI n,qbO n,?_⟩
 induction n using Nat.strongRecOn with
 |_ n ih=>
  intro e;by_cases h:n<10
  ·rw[jI h]at e⊢;simp only[Yj]at e;rw[Ye e]
  exfalso;rw[qfY h,Yf (qiI _)]at e;have:=ih (n/10) (by omega) e;have h2:=qdd (n/10);rw[this]at h2;have:kw 0 [48]=0:=rfl;omega
end Go.Av
end
