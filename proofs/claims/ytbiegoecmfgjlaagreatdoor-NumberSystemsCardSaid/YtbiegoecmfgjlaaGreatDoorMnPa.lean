/-
  Digits to any base.
-/
import Derived.Test.YtbiegoecmfgjlaaGreatDoorAvD
import Derived.Test.YtbiegoecmfgjlaaGreatDoorQGenSyB
set_option linter.all false
open Go.IntKind(wrap)
noncomputable section
set_option maxRecDepth 100000
noncomputable section
namespace Go.Av
def dv (B:Int):List Int->Int
 |[]=>0
 |x::l=>x+B*dv B l
def Dg (B:Int) (l:List Int):Prop:= ∀x∈l,0<=x/\x<B
def Dg.nil {B:Int}:Dg B []:=λx h=>by cases h
def Dg.cons {B x:Int}{l:List Int}(h:0<=x/\x<B) (k:Dg B l):Dg B (x::l):=λy hy=>by
 rcases bT.1 hy with rfl|hy
 ·exact h
 exact k y hy
def Dg.head {B x:Int}{l:List Int}(h:Dg B (x::l)):0<=x/\x<B:=h x (d5 ..)
def Dg.tail {B x:Int}{l:List Int}(h:Dg B (x::l)):Dg B l:=λy hy=>h y (eT _ hy)
def Dg.take {B:Int}{l:List Int}(h:Dg B l) (n:Nat):Dg B (l.take n):=λy hy=>h y (dM hy)
def Dg.drop {B:Int}{l:List Int}(h:Dg B l) (n:Nat):Dg B (l.drop n):=λy hy=>h y (List.mem_of_mem_drop hy)
def Dg.append {B:Int}{l r:List Int}(h:Dg B l) (k:Dg B r):Dg B (l++r):=λy hy=>by
 rcases cG.1 hy with hy|hy
 ·exact h y hy
 exact k y hy
def Dg.set {B:Int}{l:List Int}(h:Dg B l) {i:Nat}{v:Int}(hv:0<=v/\v<B):Dg B (l.set i v):=λy hy=>by
 rcases List.mem_or_eq_of_mem_set hy with hy|rfl
 ·exact h y hy
 exact hv
def Dg.at {B:Int}{l:List Int}(h:Dg B l) {i:Nat}(hi:i<l.length):0<=l[i]/\l[i]<B:=h _ (bo hi)
def Uk {B:Int}(hB:0<B) (n:Nat):Dg B (List.replicate n 0):=λy hy=>by
 rw[(List.mem_replicate.1 hy).2];omega
def zn (B:Int):dv B []=0:=rfl
def zF (B x:Int) (l:List Int):dv B (x::l)=x+B*dv B l:=rfl
def qai (B:Int):∀(l r:List Int),dv B (l++r)=dv B l+B^l.length*dv B r
 |[],r=>by simp[dv]
 |x::l,r=>by
  rw[dc,zF,zF,qai B l r,Yr,aL];grind
def qaM (B:Int):∀n,dv B (List.replicate n 0)=0
 |0=>rfl
 |n+1=>by rw[eW,zF,qaM B n];simp
def qz {B:Int}(hB:0<B):∀{l:List Int},Dg B l->0<=dv B l
 |[],_=>cz _
 |x::l,h=>by
  have h1:=h.head;have h2:=Yv (aC hB) (qz hB h.tail);rw[zF];omega
def pow_pos {B:Int}(hB:0<B):∀n:Nat,0<B^n
 |0=>by simp
 |n+1=>by rw[aL];exact dL (pow_pos hB n) hB
def qab {B:Int}(hB:0<B):∀{l:List Int},Dg B l->dv B l<B^l.length
 |[],_=>by simp[dv]
 |x::l,h=>by
  have h1:=h.head;have h2:=qab hB h.tail;have h3:B*(dv B l+1)<=B*B^l.length:=Yc (by omega) (aC hB);rw[zF,Yr,aL,aK (B^l.length)];rw[Int.mul_add,bY]at h3;omega
def qbR (B:Int):∀(l:List Int) (i:Nat) (v:Int) (h:i<l.length),dv B (l.set i v)=dv B l+B^i*(v-l[i])
 |[],i,v,h=>by simp at h
 |x::l,0,v,h=>by
  rw[List.set_cons_zero,zF,zF];simp only[cI,List.getElem_cons_zero];omega
 |x::l,i+1,v,h=>by
  have:=qbR B l i v (by simpa using h);rw[List.set_cons_succ,zF,zF,this,aL];simp only[List.getElem_cons_succ];grind
def ql (B:Int) (l:List Int) (i:Nat) (h:i<l.length):dv B (l.take (i+1))=dv B (l.take i)+B^i*l[i]:=by
 rw[cJ h,qai,Ym,aX (Nat.le_of_lt h),zF,zn];simp
def qaf (B:Int) (l:List Int) (k:Nat) (h:k<=l.length):dv B l=dv B (l.take k)+B^k*dv B (l.drop k):=by
 have:=qai B (l.take k) (l.drop k);rw[YS,Ym,aX h]at this;exact this
def Can (B:Int) (l:List Int):Prop:=Dg B l/\∀x,l.getLast? =some x->x≠0
def Can.nil {B:Int}:Can B []:=⟨Dg.nil,λx h=>by simp at h⟩
def Can.tail {B x:Int}{l:List Int}(h:Can B (x::l)):Can B l:=⟨h.1.tail,λy hy=>h.2 y (by
 cases l with
 |nil=>simp at hy
 |cons a l=>rw[List.getLast?_cons_cons];exact hy)⟩
def Can.pos {B:Int}(hB:1<B):∀{l:List Int},Can B l->l≠[]->0<dv B l
 |[],_,h=>absurd rfl h
 |x::l,h,_=>by
  have h1:=h.1.head;rw[zF]
  cases l with
  |nil=>
   have:=h.2 x (by simp);rw[zn];omega
  |cons y l=>
   have h2:=h.tail.pos hB (by simp);have h3:0<B*dv B (y::l):=dL (by omega) h2;omega
def Can.uniq {B:Int}(hB:1<B):∀{l r:List Int},Can B l->Can B r->dv B l=dv B r->l=r
 |[],[],_,_,_=>rfl
 |[],y::r,_,k,e=>by have:=k.pos hB (by simp);rw[<-e,zn]at this;omega
 |x::l,[],h,_,e=>by have:=h.pos hB (by simp);rw[e,zn]at this;omega
 |x::l,y::r,h,k,e=>by
  rw[zF,zF]at e;have h1:=h.1.head;have k1:=k.1.head
  have e1:x=y:=by
   have a:(x+B*dv B l)%B=x:=by rw[bF];exact bM h1.1 h1.2
   have b:(y+B*dv B r)%B=y:=by rw[bF];exact bM k1.1 k1.2
   rw[<-a,<-b,e]
  have e2:dv B l=dv B r:=Int.eq_of_mul_eq_mul_left (by omega) (show B*dv B l=B*dv B r by omega);rw[e1,h.tail.uniq hB k.tail e2]
def Can.low {B:Int}(hB:1<B):∀{l:List Int}{n:Nat},Can B l->l.length=n+1->B^n<=dv B l
 |[],n,_,h=>by simp at h
 |x::l,0,h,hn=>by
  have:=h.pos hB (by simp);simp only[cI];omega
 |x::l,n+1,h,hn=>by
  have h1:=h.1.head;have h2:=h.tail.low hB (n:=n) (by simpa using hn);have h3:B*B^n<=B*dv B l:=Yc h2 (by omega);rw[zF,aL,aK (B^n)];omega
def dgF (B:Int):Nat->Int->List Int
 |0,_=>[]
 |t+1,z=>if z<=0 then[]else z%B::dgF B t (z/B)
def dg (B z:Int):List Int:=dgF B z.toNat z
def qhX {B:Int}(hB:1<B):∀(t:Nat) (z:Int),0<=z->z<=t->Can B (dgF B t z)/\dv B (dgF B t z)=z
 |0,z,h1,h2=>⟨Can.nil,by rw[dgF,zn];omega⟩
 |t+1,z,h1,h2=>by
  rw[dgF];split
  ·exact⟨Can.nil,by rw[zn];omega⟩
  rename_i hz;have hd:=aH z B;have hm:=aJ z (show B≠0 by omega);have hm2:=aE z (show 0<B by omega);have hq:0<=z/B:=aV h1 (by omega);have hq2:z/B<z:=Int.ediv_lt_self_of_pos_of_ne_one (by omega) (by omega);obtain⟨c,e⟩:=qhX hB t (z/B) hq (by omega);refine⟨⟨Dg.cons ⟨hm,hm2⟩ c.1,λx hx=>?_⟩,by rw[zF,e];omega⟩
  cases hl:dgF B t (z/B)with
  |nil=>
   rw[hl]at hx e;rw[zn]at e;rw[<-e,aZ]at hd;simp only[List.getLast?_singleton,ZI]at hx;omega
  |cons a l=>
   rw[hl,List.getLast?_cons_cons]at hx;exact c.2 x (by rw[hl];exact hx)
def jA {B:Int}(hB:1<B) {z:Int}(h:0<=z):Can B (dg B z):=(qhX hB _ z h (by omega)).1
def yc {B:Int}(hB:1<B) {z:Int}(h:0<=z):dv B (dg B z)=z:=(qhX hB _ z h (by omega)).2
def qqZ {B:Int}(hB:1<B) {l:List Int}(h:Can B l):dg B (dv B l)=l:=
 (jA hB (qz (by omega) h.1)).uniq hB h (yc hB (qz (by omega) h.1))
def qeX (B:Int):dg B 0=[]:=rfl
def qjg {B:Int}(hB:1<B) {z:Int}(h:0<=z):dg B z=[]↔z=0:=by
 constructor
 ·intro e;have:=yc hB h;rw[e,zn]at this;exact this.symm
 rintro rfl;rfl
def xg {B:Int}(hB:1<=B) {m n:Nat}(h:m<=n):B^m<=B^n:=by
 obtain⟨k,rfl⟩:=Nat.exists_eq_add_of_le h;rw[Int.pow_add]
 have h1:1<=B^k:=by have:=pow_pos (show 0<B by omega) k;omega
 have h2:=Yc h1 (aC (pow_pos (show 0<B by omega) m));omega
def qef {B:Int}(hB:1<B) {z:Int}(h:0<=z) {n:Nat}:(dg B z).length<=n↔z<B^n:=by
 constructor
 ·intro hl;have h1:=qab (show 0<B by omega) (jA hB h).1;have h2:=xg (show 1<=B by omega) hl;rw[yc hB h]at h1;omega
 intro hz
 cases e:(dg B z).length with
 |zero=>omega
 |succ m=>
  have h1:=(jA hB h).low hB e;rw[yc hB h]at h1;rcases aw m n with h2|h2
  ·exact h2
  have:=xg (show 1<=B by omega) h2;omega
def qkQ {B z:Int}(h0:0<z) (h:z<B):dg B z=[z]:=by
 have hB:1<B:=by omega
 refine(jA hB (by omega)).uniq hB ⟨Dg.cons ⟨by omega,h⟩ Dg.nil,λx hx=>?_⟩ ?_
 ·simp only[List.getLast?_singleton,ZI]at hx;omega
 rw[yc hB (by omega),zF,zn];omega
def qnR {B:Int}(hB:1<B) {w:List Int}(h:Dg B w) {m:Nat}(hm:m<=w.length) (h0:∀x,0<m->w[m-1]? =some x->x≠0) (hz:∀(i:Nat) x,m<=i->w[i]? =some x->x=0):w.take m=dg B (dv B w):=by
 have hc:Can B (w.take m):=⟨h.take m,λx hx=>by
  rw[List.getLast?_eq_getElem?,Ym,aX hm]at hx
  cases m with
  |zero=>simp at hx
  |succ m=>
   refine h0 x (by omega) ?_;rw[Yt]at hx;split at hx
   ·exact hx
   cases hx⟩
 have e:dv B w=dv B (w.take m):=by
  rw[qaf B w m hm]
  have:w.drop m=List.replicate (w.length-m) 0:=by
   refine List.ext_getElem? λi=>?_
   rw[YI,List.getElem?_replicate];by_cases hi:i<w.length-m
   ·rw[ae hi]
    cases hx:w[m+i]? with
    |none=>rw[List.getElem?_eq_none_iff]at hx;omega
    |some x=>rw[hz (m+i) x (by omega) hx]
   rw[aa hi];exact Yg (by omega)
  rw[this,qaM,aZ,bc]
 rw[e,qqZ hB hc]
abbrev W:Int:=18446744073709551616
def wu (n:Int):wrap .u64 n=n%18446744073709551616:=rfl
def yM {n:Int}(h0:0<=n) (h:n<18446744073709551616):wrap .u64 n=n:=by rw[wu];exact bM h0 h
def qdv {n:Int}(h0:0<=n) (h:n<18446744073709551616):(BitVec.ofInt 64 n).toNat=n.toNat:=by
 rw[BitVec.toNat_ofInt];have:n%((2:Nat)^64:Nat)=n:=bM h0 (by simpa using h);rw[this]
def qew {x:Int}(h0:0<=x) (h:x<18446744073709551616):qw .u64 x 4294967295=x%4294967296:=by
 show wrap .u64 _=_
 have e:(BitVec.ofInt IntKind.u64.bits x&&&BitVec.ofInt IntKind.u64.bits 4294967295).toNat=x.toNat%4294967296:=by
  rw[BitVec.toNat_and];show(BitVec.ofInt 64 x).toNat&&&(BitVec.ofInt 64 4294967295).toNat=_;rw[qdv h0 h,qdv (by omega) (by omega)];exact Nat.and_two_pow_sub_one_eq_mod x.toNat 32
 rw[e,wu];omega
def qlh (x:Int) (k:Nat):qo .u64 x (k:Int)=x/2^(min k 64):=by
 show x.fdiv (2^(min (k:Int).toNat 64))=_;rw[aU,d9 _ (aC (pow_pos (by omega) _))]
def qfI (x:Int):qo .u64 x 32=x/4294967296:=qlh x 32
def shr16 (x:Int):qo .u64 x 16=x/65536:=qlh x 16
def shr8 (x:Int):qo .u64 x 8=x/256:=qlh x 8
def qeq {a b:Int}(ha:0<=a/\a<4294967296) (hb:0<=b/\b<4294967296):0<=a*b/\a*b<=18446744065119617025:=by
 refine⟨Yv ha.1 hb.1,?_⟩;have:a*b<=4294967295*4294967295:=bU (by omega) (by omega) hb.1 (by omega);omega
def qg5 {x y:Int}(hx:0<=x/\x<18446744073709551616) (hy:0<=y/\y<18446744073709551616):bits_Mul64 x y=some (x*y/18446744073709551616,x*y%18446744073709551616):=by
 unfold bits_Mul64;rw[qew hx.1 hx.2,qew hy.1 hy.2,qfI x,qfI y]
 have x1:0<=x/4294967296/\x/4294967296<4294967296:=by omega
 have x0:0<=x%4294967296/\x%4294967296<4294967296:=by omega
 have y1:0<=y/4294967296/\y/4294967296<4294967296:=by omega
 have y0:0<=y%4294967296/\y%4294967296<4294967296:=by omega
 have ex:x=x/4294967296*4294967296+x%4294967296:=by omega
 have ey:y=y/4294967296*4294967296+y%4294967296:=by omega
 have e:x*y=x/4294967296*(y/4294967296)*18446744073709551616+(x/4294967296*(y%4294967296)+x%4294967296*(y/4294967296))*4294967296+x%4294967296*(y%4294967296):=by
  generalize x/4294967296=a at*;generalize x%4294967296=b at*;generalize y/4294967296=c at*;generalize y%4294967296=d at*;subst ex ey;grind
 have b11:=qeq x1 y1;have b10:=qeq x1 y0;have b01:=qeq x0 y1;have b00:=qeq x0 y0;rw[e];generalize x/4294967296*(y/4294967296)=p11 at*;generalize x/4294967296*(y%4294967296)=p10 at*;generalize x%4294967296*(y/4294967296)=p01 at*;generalize x%4294967296*(y%4294967296)=p00 at*;rw[yM b11.1 (by omega),yM b10.1 (by omega),yM b01.1 (by omega),yM b00.1 (by omega),qfI p00,yM (n:=p10+p00/4294967296) (by omega) (by omega),qfI (p10+_),qew (by omega) (by omega),yM (n:=_+p01) (by omega) (by omega),qfI,yM (n:=p11+(p10+p00/4294967296)/4294967296) (by omega) (by omega),yM (by omega) (by omega),wu];congr 2;omega
def isLen (x l:Int):Prop:=(x=0/\l=0)\/(1<=l/\l<=64/\2^(l.toNat-1)<=x/\x<2^l.toNat)
def okT (T:List UInt8):Bool:=(List.range 256).all λn=>match T[n]? with
 |some c=>decide (c.toNat<=8)&&((n==0&&c.toNat==0)||(decide (1<=c.toNat)&&(decide (2^(c.toNat-1)<=n)&&decide (n<2^c.toNat))))
 |none=>false
def qub {T:List UInt8}(h:okT T=true) {n:Int}(h0:0<=n) (h1:n<256):∃c:UInt8,idx T n=some c/\c.toNat<=8/\isLen n (c.toNat:Int):=by
 obtain⟨n,rfl⟩:=bA h0;have k1:=Yp.1 h n (cP.2 (by omega));split at k1
 ·rename_i c hc;simp only[aR,dP,aO,bR]at k1;refine⟨c,by rw[qf];exact hc,k1.1,?_⟩;rcases k1.2 with⟨k,k2⟩|⟨k,k2,k3⟩
  ·exact .inl ⟨by omega,by omega⟩
  refine .inr ⟨by omega,by omega,?_,?_⟩
  ·rw[aU];exact_mod_cast k2
  rw[aU];exact_mod_cast k3
 cases k1
def qlU {x c:Int}(h0:0<=x) {k:Nat}(hk:k+c<=64) (h:isLen (x/2^k) c) (h1:1<=x/2^k\/k=0):isLen x (k+c):=by
 rcases h with⟨e,hc⟩|⟨c1,c2,l1,l2⟩
 ·rcases h1 with h1|rfl
  ·omega
  left;simp only[cI,Int.ediv_one]at e;omega
 right;have hp:=pow_pos (show(0:Int)<2 by omega) k;obtain⟨c,rfl⟩:=bA (show 0<=c by omega);rw[aU]at l1 l2
 have e1:((k:Int)+(c:Int)).toNat=k+c:=by omega
 rw[e1];refine⟨by omega,hk,?_,?_⟩
 ·have:=(bX hp).1 l1;rw[<-Int.pow_add]at this;rw[show k+c-1=c-1+k by omega];exact this
 have:=(Yu hp).1 l2;rw[<-Int.pow_add]at this;rw[show k+c=c+k by omega];exact this
def qpK {T:List UInt8}(hT:okT T=true) {x:Int}(h0:0<=x) (h:x<18446744073709551616):∃l,(((if x>=4294967296 then
 some (qo .u64 x 32,32)
 else
 some (x,0):Option (Int×Int))).bind λ(n1,n2)=>
 ((if n1>=65536 then
 some (qo .u64 n1 16,w64 (n2+16))
 else
 some (n1,n2):Option (Int×Int))).bind λ(n5,n6)=>
 ((if n5>=256 then
 some (qo .u64 n5 8,w64 (n6+8))
 else
 some (n5,n6):Option (Int×Int))).bind λ(n9,n10)=>
 (idx T (wrap .u8 n9)).bind λc13=>
 some (w64 (n10+(w64 (c13.toNat:Int)))))=some l/\isLen x l:=by
 have A:∃(n k:Nat),(if x>=4294967296 then some (qo .u64 x 32,32)else some (x,0):Option (Int×Int))=some ((n:Int),(k:Int))/\(n:Int)=x/2^k/\k<=32/\(1<=n\/k=0)/\n<4294967296:=by
  by_cases c:x>=4294967296
  ·refine⟨(x/4294967296).toNat,32,?_,?_,by omega,by omega,by omega⟩
   ·rw[ae c,qfI];congr 2;omega
   show _=x/4294967296;omega
  refine⟨x.toNat,0,?_,?_,by omega,by omega,by omega⟩
  ·rw[aa c];congr 2;omega
  show _=x/1;omega
 obtain⟨n,k,e,hn,hk,hp,hl⟩:=A;rw[e,ZB]
 have B:∃(m j:Nat),(if(n:Int)>=65536 then some (qo .u64 n 16,w64 (k+16))else some ((n:Int),(k:Int)):Option (Int×Int))=some ((m:Int),(j:Int))/\(m:Int)=x/2^j/\j<=48/\(1<=m\/j=0)/\m<65536:=by
  by_cases c:(n:Int)>=65536
  ·refine⟨n/65536,k+16,?_,?_,by omega,by omega,by omega⟩
   ·rw[ae c,shr16,qg (by omega) (by omega)];congr 2
   rw[de,hn,Int.pow_add,<-Int.ediv_ediv_of_nonneg (aC (pow_pos (by omega) _))];rfl
  refine⟨n,k,by rw[aa c],hn,by omega,hp,by omega⟩
 obtain⟨m,j,e,hm,hj,hp,hl⟩:=B;simp only;rw[e,ZB]
 have C:∃(p i:Nat),(if(m:Int)>=256 then some (qo .u64 m 8,w64 (j+8))else some ((m:Int),(j:Int)):Option (Int×Int))=some ((p:Int),(i:Int))/\(p:Int)=x/2^i/\i<=56/\(1<=p\/i=0)/\p<256:=by
  by_cases c:(m:Int)>=256
  ·refine⟨m/256,j+8,?_,?_,by omega,by omega,by omega⟩
   ·rw[ae c,shr8,qg (by omega) (by omega)];congr 2
   rw[de,hm,Int.pow_add,<-Int.ediv_ediv_of_nonneg (aC (pow_pos (by omega) _))];rfl
  refine⟨m,j,by rw[aa c],hm,by omega,hp,by omega⟩
 obtain⟨p,i,e,hpx,hi,hp,hl⟩:=C;simp only;rw[e,ZB];simp only;have w8:wrap .u8 (p:Int)=(p:Int):=bM (by omega) (show(p:Int)<256 by omega);obtain⟨c,hc,c8,hlen⟩:=qub hT (n:=(p:Int)) (by omega) (by omega);rw[w8,hc,ZB,qg (n:=(c.toNat:Int)) (by omega) (by omega),qg (by omega) (by omega)];refine⟨_,rfl,qlU h0 (by omega) (hpx▸hlen) ?_⟩;rcases hp with hp|hp
 ·left;rw[<-hpx];omega
 exact .inr hp
def ql1 {x:Int}(h0:0<=x) (h:x<18446744073709551616):∃l,bits_Len64 x=some l/\isLen x l:=by
 unfold bits_Len64;exact qpK (by kernel_rfl) h0 h
def qtD {y:Int}(h0:0<y) (h:y<18446744073709551616):∃s:Nat,s<=63/\bits_LeadingZeros64 y=some (s:Int)/\9223372036854775808<=y*2^s/\y*2^s<18446744073709551616:=by
 obtain⟨l,e,hl⟩:=ql1 (by omega) h;rcases hl with⟨hy,_⟩|⟨l1,l2,g1,g2⟩
 ·omega
 obtain⟨l,rfl⟩:=bA (show 0<=l by omega);rw[aU]at g1 g2;have hp:=pow_pos (show(0:Int)<2 by omega) (64-l);refine⟨64-l,by omega,?_,?_,?_⟩
 ·unfold bits_LeadingZeros64;rw[e,ZB,qg (by omega) (by omega)];congr 1;omega
 ·have:=aI g1 (aC hp);rw[<-Int.pow_add,show l-1+(64-l)=63 by omega]at this;exact this
 have:=YH g2 hp;rw[<-Int.pow_add,show l+(64-l)=64 by omega]at this;exact this
def qmL {u u1 v1 v0 q r:Int}(hr:r=u-q*v1) (hv:0<v1*4294967296+v0):q*v0>4294967296*r+u1↔(u*4294967296+u1)/(v1*4294967296+v0)<q:=by
 rw[Yu hv,Int.mul_add,<-Int.mul_assoc];subst hr;rw[Int.mul_sub];have:4294967296*(q*v1)=q*v1*4294967296:=aK _ _;omega
structure qhS (u u1 v1 v0 q r:Int):Prop where
 e:r=u-q*v1
 p0:0<=r
 p1:r<4294967296
 q1:q<=4294967297
 le:(u*4294967296+u1)/(v1*4294967296+v0)<=q
def qki {u u1 v1 v0 q r:Int}(hv1:2147483648<=v1/\v1<4294967296) (hv0:0<=v0/\v0<4294967296) (hu1:0<=u1/\u1<4294967296) (h:qhS u u1 v1 v0 q r) (c:(u*4294967296+u1)/(v1*4294967296+v0)<q) (hu:0<=u):
 (r+v1>=4294967296->q-1=(u*4294967296+u1)/(v1*4294967296+v0))/\(r+v1<4294967296->qhS u u1 v1 v0 (q-1) (r+v1)):=by
 have hr:r+v1=u-(q-1)*v1:=by rw[h.e,Int.sub_mul];omega
 have hQ:0<=(u*4294967296+u1)/(v1*4294967296+v0):=aV (by omega) (by omega);constructor
 ·intro hb
  have:(q-1)*v0<=4294967296*(r+v1)+u1:=by
   have hq:q-1<=4294967296:=by have:=h.q1;omega
   have e:(q-1)*v0<=4294967296*v0:=aI hq hv0.1;omega
  have:¬(u*4294967296+u1)/(v1*4294967296+v0)<q-1:=λc2=>absurd ((qmL (u1:=u1) (v0:=v0) hr (by omega)).2 c2) (by omega)
  omega
 intro hb;refine⟨hr,by have:=h.p0;omega,hb,by have:=h.q1;omega,by omega⟩
def qkr {u u1 v1 v0 q r:Int}(hv1:2147483648<=v1/\v1<4294967296) (hv0:0<=v0/\v0<4294967296) (hu1:0<=u1/\u1<4294967296) (hu:0<=u) (hlt:u<v1*4294967296+v0) (h:qhS u u1 v1 v0 q r):
 (if q>=4294967296 then some true else some (decide (wrap .u64 (q*v0)>wrap .u64 (wrap .u64 (4294967296*r)+u1))):Option Bool)=some (decide ((u*4294967296+u1)/(v1*4294967296+v0)<q)):=by
 have hQ:0<=(u*4294967296+u1)/(v1*4294967296+v0):=aV (by omega) (by omega)
 have hQ2:(u*4294967296+u1)/(v1*4294967296+v0)<4294967296:=by
  rw[Yu (by omega)];omega
 have hq0:0<=q:=by have:=h.le;omega
 have hr0:=h.p0;have hr1:=h.p1;by_cases c:q>=4294967296
 ·rw[ae c,ap (by omega)]
 rw[aa c];have b:=qeq (a:=q) (b:=v0) ⟨hq0,by omega⟩ hv0;rw[yM b.1 (by omega),yM (n:=4294967296*r) (by omega) (by omega),yM (n:=4294967296*r+u1) (by omega) (by omega)];congr 1;exact decide_eq_decide.2 (qmL h.e (by omega))
def qoJ {v x u u1 v1 v0:Int}(e1:qo .u64 v 32=v1) (e0:qw .u64 v 4294967295=v0) (ex:qo .u64 x 32=u1) (hv1:2147483648<=v1/\v1<4294967296) (hv0:0<=v0/\v0<4294967296) (hu1:0<=u1/\u1<4294967296) (hu:0<=u) (hlt:u<v1*4294967296+v0):∀(K:Nat) (q r:Int),qhS u u1 v1 v0 q r->4294967296<=r+K*v1->
 qaP v x K q r=some ((u*4294967296+u1)/(v1*4294967296+v0))
 |0,q,r,h,hK=>by have:=h.p1;simp at hK;omega
 |K+1,q,r,h,hK=>by
  have hQ:0<=(u*4294967296+u1)/(v1*4294967296+v0):=aV (by omega) (by omega);have hq1:=h.q1;have hr0:=h.p0;have hr1:=h.p1;have hle:=h.le;rw[qaP,e1,e0,ex,qkr hv1 hv0 hu1 hu hlt h,ZB];by_cases c:(u*4294967296+u1)/(v1*4294967296+v0)<q
  ·obtain⟨n1,n2⟩:=qki hv1 hv0 hu1 h c hu;rw[ap c,ae rfl,yM (n:=r+v1) (by omega) (by omega),yM (n:=q-1) (by omega) (by omega)];by_cases d:r+v1>=4294967296
   ·rw[ae d,n1 d]
   rw[aa d];refine qoJ e1 e0 ex hv1 hv0 hu1 hu hlt K _ _ (n2 (by omega)) ?_
   have:((K+1:Nat):Int)*v1=K*v1+v1:=by rw[cX,bf];simp
   omega
  rw[ak c,aa (by simp)];congr 1;omega
def qoA {v x u u1 v1 v0:Int}(e1:qo .u64 v 32=v1) (e0:qw .u64 v 4294967295=v0) (ex:qw .u64 x 4294967295=u1) (hv1:2147483648<=v1/\v1<4294967296) (hv0:0<=v0/\v0<4294967296) (hu1:0<=u1/\u1<4294967296) (hu:0<=u) (hlt:u<v1*4294967296+v0):∀(K:Nat) (q r:Int),qhS u u1 v1 v0 q r->4294967296<=r+K*v1->
 qaS v x K r q=some ((u*4294967296+u1)/(v1*4294967296+v0))
 |0,q,r,h,hK=>by have:=h.p1;simp at hK;omega
 |K+1,q,r,h,hK=>by
  have hQ:0<=(u*4294967296+u1)/(v1*4294967296+v0):=aV (by omega) (by omega);have hq1:=h.q1;have hr0:=h.p0;have hr1:=h.p1;have hle:=h.le;rw[qaS,e1,e0,ex,qkr hv1 hv0 hu1 hu hlt h,ZB];by_cases c:(u*4294967296+u1)/(v1*4294967296+v0)<q
  ·obtain⟨n1,n2⟩:=qki hv1 hv0 hu1 h c hu;rw[ap c,ae rfl,yM (n:=r+v1) (by omega) (by omega),yM (n:=q-1) (by omega) (by omega)];by_cases d:r+v1>=4294967296
   ·rw[ae d,n1 d]
   rw[aa d];refine qoA e1 e0 ex hv1 hv0 hu1 hu hlt K _ _ (n2 (by omega)) ?_
   have:((K+1:Nat):Int)*v1=K*v1+v1:=by rw[cX,bf];simp
   omega
  rw[ak c,aa (by simp)];congr 1;omega
def qiS {u u1 v1 v0:Int}(hv1:2147483648<=v1/\v1<4294967296) (hv0:0<=v0/\v0<4294967296) (hu1:0<=u1/\u1<4294967296) (hu:0<=u) (hlt:u<v1*4294967296+v0):qhS u u1 v1 v0 (u/v1) (u-u/v1*v1):=by
 have hm:=aJ u (show v1≠0 by omega);have hm2:=aE u (show 0<v1 by omega)
 have e:u-u/v1*v1=u%v1:=by have:=aH u v1;rw[aK]at this;omega
 refine⟨rfl,by omega,by omega,?_,?_⟩
 ·have:u/v1<4294967298:=by
   rw[Yu (by omega)];omega
  omega
 have h1:(u*4294967296+u1)/(v1*4294967296+v0)<=(u*4294967296+u1)/(v1*4294967296):=by
  refine Int.le_ediv_of_mul_le (by omega) ?_;have hQ:0<=(u*4294967296+u1)/(v1*4294967296+v0):=aV (by omega) (by omega);have h2:=eI (u*4294967296+u1) (show v1*4294967296+v0≠0 by omega);rw[Int.mul_add]at h2;have:=Yv hQ hv0.1;omega
 have h3:(u*4294967296+u1)/(v1*4294967296)=u/v1:=by
  rw[aK v1,<-Int.ediv_ediv_of_nonneg (by omega)];congr 1;omega
 omega
def qkI {u u1 v:Int}(hv:0<v) (hW:v<18446744073709551616) (h0:0<=u*4294967296+u1):wrap .u64 (wrap .u64 (wrap .u64 (u*4294967296)+u1)-wrap .u64 ((u*4294967296+u1)/v*v))=(u*4294967296+u1)%v:=by
 simp only[wu];rw[Int.emod_add_emod,<-Int.sub_emod,fI (u*4294967296+u1) v,aK v];have h1:=aJ (u*4294967296+u1) (show v≠0 by omega);have h2:=aE (u*4294967296+u1) hv;rw[fI,aK v]at h1 h2;exact bM h1 (by omega)
def qoT {x:Int}{k:Nat}(hk:k<=64) (h0:0<=x*2^k) (h:x*2^k<18446744073709551616):qhF .u64 x (k:Int)=some (x*2^k):=by
 unfold qhF;rw[aa (by omega),aU,show min k IntKind.u64.bits=k from aX hk,yM h0 h]
def qjS {x:Int}{k:Nat}(hk:k<=64):qhF .u64 x (k:Int)=some (x*2^k%18446744073709551616):=by
 unfold qhF;rw[aa (by omega),aU,show min k IntKind.u64.bits=k from aX hk,wu]
def qir {x:Int}{k:Nat}(hk:k<=64):qj7 .u64 x (k:Int)=some (x/2^k):=by
 unfold qj7;rw[aa (by omega),aU,show min k IntKind.u64.bits=k from aX hk,d9 _ (aC (pow_pos (by omega) _))]
def qox {a b:Int}{k:Nat}(ha:0<=a) (hb:0<=b) (hk:b<2^k) (h:a*2^k+b<18446744073709551616):orI .u64 (a*2^k) b=a*2^k+b:=by
 show wrap .u64 _=_;obtain⟨a,rfl⟩:=bA ha;obtain⟨b,rfl⟩:=bA hb;have hp:=pow_pos (show(0:Int)<2 by omega) k;have hm:0<=(a:Int)*2^k:=Yv ha (aC hp)
 have e:(BitVec.ofInt IntKind.u64.bits ((a:Int)*2^k)|||BitVec.ofInt IntKind.u64.bits (b:Int)).toNat=a*2^k+b:=by
  rw[BitVec.toNat_or];show(BitVec.ofInt 64 ((a:Int)*2^k)).toNat|||(BitVec.ofInt 64 (b:Int)).toNat=_;rw[qdv hm (by omega),qdv hb (by omega)]
  have e1:((a:Int)*2^k).toNat=2^k*a:=by
   rw[show(a:Int)*2^k=((2^k*a:Nat):Int)by rw[bu,cW,aK];rfl];exact aU _
  rw[e1,aU,<-Nat.two_pow_add_eq_or_of_lt (by exact_mod_cast hk),bP]
 rw[e,yM (by omega) (by rw[cX,bu,cW];exact h)];rw[cX,bu,cW];rfl
def qpS {a b:Int}(ha:0<=a) (hb:0<b) (h:a<18446744073709551616):qdh .u64 a b=some (a/b):=by
 unfold qdh;rw[aa (by omega),YF ha,yM (aV ha (aC hb))];have:=fP b ha;omega
def rem_u {a b:Int}(ha:0<=a) (hb:0<b):qfo .u64 a b=some (a%b):=by
 unfold qfo;rw[aa (by omega),bw ha]
def halves {A x0 v:Int}(hv:0<v):(A*4294967296+x0)/v=A/v*4294967296+(A%v*4294967296+x0)/v/\(A*4294967296+x0)%v=(A%v*4294967296+x0)%v:=by
 have e:A*4294967296+x0=A%v*4294967296+x0+v*(A/v*4294967296):=by
  have h:=aH A v;rw[<-Int.mul_assoc];generalize v*(A/v)=m at*;generalize A%v=n at*;omega
 constructor
 ·rw[e,cZ _ _ (by omega)];omega
 rw[e,bF]
def qlY {N:Nat}(hN:5<=N) {hi lo y:Int}(h0:0<=hi) (h1:hi<y) (hy:y<18446744073709551616) (hlo:0<=lo/\lo<18446744073709551616):qbY N hi lo y=some ((hi*18446744073709551616+lo)/y,(hi*18446744073709551616+lo)%y):=by
 unfold qbY;rw[aa (by omega),ZB,aa (by omega),ZB];by_cases hz:hi=0
 ·subst hz;rw[ae rfl,qpS hlo.1 h1 hlo.2,rem_u hlo.1 h1,Int.zero_mul,dS];rfl
 rw[aa hz];obtain⟨s,hs,es,g1,g2⟩:=qtD (y:=y) (by omega) hy;have hp:=pow_pos (show(0:Int)<2 by omega) s;have hp2:=pow_pos (show(0:Int)<2 by omega) (64-s)
 have hpp:(2:Int)^s*2^(64-s)=18446744073709551616:=by
  rw[<-Int.pow_add,show s+(64-s)=64 by omega];rfl
 have ehi:hi*2^s<y*2^s:=YH h1 hp;have ehi0:0<=hi*2^s:=Yv h0 (aC hp)
 have e64:wrap .u64 (64-wrap .u64 (s:Int))=((64-s:Nat):Int):=by
  rw[yM (n:=(s:Int)) (by omega) (by omega),yM (by omega) (by omega)];omega
 rw[es,ZB,yM (n:=(s:Int)) (by omega) (by omega),qoT (by omega) (by omega) g2,ZB,qoT (by omega) ehi0 (by omega),ZB];rw[show wrap .u64 (64-(s:Int))=((64-s:Nat):Int)by rw[yM (by omega) (by omega)];omega,qir (by omega),ZB,qjS (by omega),ZB];have hl0:0<=lo/2^(64-s):=aV hlo.1 (aC hp2)
 have hl1:lo/2^(64-s)<2^s:=by
  rw[Yu hp2,hpp];exact hlo.2
 have eor:orI .u64 (hi*2^s) (lo/2^(64-s))=hi*2^s+lo/2^(64-s):=by
  refine qox h0 hl0 hl1 ?_;have:(hi+1)*2^s<=y*2^s:=aI (by omega) (aC hp);rw[bf,bJ]at this;omega
 have hUv:hi*2^s+lo/2^(64-s)<y*2^s:=by
  have:(hi+1)*2^s<=y*2^s:=aI (by omega) (aC hp);rw[bf,bJ]at this;omega
 have enum:(hi*18446744073709551616+lo)*2^s=(hi*2^s+lo/2^(64-s))*18446744073709551616+lo*2^s%18446744073709551616:=by
  have e1:lo*2^s/18446744073709551616=lo/2^(64-s):=by
   rw[<-hpp,aK lo,Int.mul_ediv_mul_of_pos _ _ hp]
  have e2:=aH (lo*2^s) 18446744073709551616;rw[e1]at e2;rw[bf,bf];have e3:hi*18446744073709551616*2^s=hi*2^s*18446744073709551616:=Int.mul_right_comm _ _ _;omega
 rw[eor];have hx0:0<=lo*2^s%18446744073709551616:=aJ _ (by omega);have hx1:lo*2^s%18446744073709551616<18446744073709551616:=aE _ (by omega);generalize hU:hi*2^s+lo/2^(64-s)=U at*;generalize hx:lo*2^s%18446744073709551616=x at*;generalize hv:y*2^s=v at*
 have hU0:0<=U:=by omega
 have ev:v=v/4294967296*4294967296+v%4294967296:=by omega
 have v1:2147483648<=v/4294967296/\v/4294967296<4294967296:=by omega
 have v0:0<=v%4294967296/\v%4294967296<4294967296:=by omega
 have x1:0<=x/4294967296/\x/4294967296<4294967296:=by omega
 have x0:0<=x%4294967296/\x%4294967296<4294967296:=by omega
 have hNv:(4294967296:Int)<=N*(v/4294967296):=by
  have:(5:Int)*(v/4294967296)<=N*(v/4294967296):=aI (by omega) (by omega);omega
 have am:qw .u64 v 4294967295=v%4294967296:=qew (by omega) (by omega);have ax:qw .u64 x 4294967295=x%4294967296:=qew hx0 hx1
 have wr:∀u:Int,0<=u->u<18446744073709551616->wrap .u64 (u-wrap .u64 (u/(v/4294967296)*(v/4294967296)))=u-u/(v/4294967296)*(v/4294967296):=by
  intro u hu hu2;have a:=Yv (aV hu (show 0<=v/4294967296 by omega)) (show 0<=v/4294967296 by omega);have b:=eI u (show v/4294967296≠0 by omega);rw[yM a (by omega),yM (by omega) (by omega)]
 have hUvv:U<v/4294967296*4294967296+v%4294967296:=by omega
 rw[qfI v,qpS hU0 (by omega) (by omega),ZB,wr U hU0 (by omega)];have f1:=qiS v1 v0 x1 hU0 hUvv;rw[qoJ (qfI v) am (qfI x) v1 v0 x1 hU0 hUvv N _ _ f1 (by have:=f1.p0;omega),ZB,qfI x,<-ev,qkI (by omega) g2 (by omega)];have hR0:0<=(U*4294967296+x/4294967296)%v:=aJ _ (by omega);have hR1:(U*4294967296+x/4294967296)%v<v:=aE _ (by omega);have hQ0:0<=(U*4294967296+x/4294967296)/v:=aV (by omega) (by omega)
 have hQ1:(U*4294967296+x/4294967296)/v<4294967296:=by
  rw[Yu (by omega)];omega
 have hh:=halves (A:=U*4294967296+x/4294967296) (x0:=x%4294967296) (v:=v) (by omega)
 have eN:(U*4294967296+x/4294967296)*4294967296+x%4294967296=(hi*18446744073709551616+lo)*2^s:=by rw[enum];omega
 generalize (U*4294967296+x/4294967296)%v=R at*;generalize (U*4294967296+x/4294967296)/v=Q at*
 have hRvv:R<v/4294967296*4294967296+v%4294967296:=by omega
 rw[qpS hR0 (by omega) (by omega),ZB,wr R hR0 (by omega)];have f2:=qiS v1 v0 x0 hR0 hRvv;rw[qoA (qfI v) am ax v1 v0 x0 hR0 hRvv N _ _ f2 (by have:=f2.p0;omega),ZB,ax,<-ev,qkI (by omega) g2 (by omega),qir (by omega),ZB];have hP0:0<=(R*4294967296+x%4294967296)/v:=aV (by omega) (by omega)
 have hP1:(R*4294967296+x%4294967296)/v<4294967296:=by
  rw[Yu (by omega)];omega
 rw[yM (n:=Q*4294967296) (by omega) (by omega),yM (by omega) (by omega),<-hh.1,<-hh.2,eN,<-hv,Int.mul_ediv_mul_of_pos_left _ _ hp,aK _ (2^s),aK y (2^s),cQ _ _ hp,Int.mul_ediv_cancel_left _ (by omega)]
def W1:(1:Int)<W:=by decide
def W0:(0:Int)<W:=by decide
def qca {n:Nat}(h:n<=100000):mk 8 (n:Int) (0:Int)=some (List.replicate n 0):=by
 unfold mk;rw[ae (by omega),aU]
def qog {w:List Int}(hl:w.length<=100000):∀(K m:Nat),m<=w.length->m<K->(∀(i:Nat) x,m<=i->w[i]? =some x->x=0)->
 ∃m':Nat,qb9 w K (m:Int)=some (m':Int)/\m'<=w.length/\(∀x,0<m'->w[m'-1]? =some x->x≠0)/\∀(i:Nat) x,m'<=i->w[i]? =some x->x=0
 |0,m,h,hK,_=>by omega
 |K+1,m,h,hK,hz=>by
  rw[qb9];by_cases h0:0<m
  ·have hm:m-1<w.length:=by omega
   rw[ae (by omega),qlx (by omega) h0,qf,Ya hm,ZB,ZB];by_cases c:w[m-1]=0
   ·rw[ap c,ae rfl]
    refine qog hl K (m-1) (by omega) (by omega) λi x hi hx=>?_
    rcases aw i m with h1|h1
    ·have e:i=m-1:=by omega
     subst e;rw[Ya hm]at hx;injection hx with hx;omega
    exact hz i x h1 hx
   rw[ak c,aa (by simp)];refine⟨m,rfl,h,λx _ hx=>?_,hz⟩;rw[Ya hm]at hx;injection hx with hx;omega
  rw[aa (by omega),ZB,aa (by simp)];exact⟨m,rfl,h,λx h1=>by omega,hz⟩
def qd7 {N:Nat}{w:List Int}(hw:Dg W w) (hl:w.length<=100000) (hN:w.length<N):qak N w=some (dg W (dv W w)):=by
 unfold qak;obtain⟨m,e,h1,h2,h3⟩:=qog hl N w.length (ai _) hN (λi x hi hx=>by rw[Yg hi]at hx;cases hx);rw[e,ZB,jN h1,ZB,qnR W1 hw h1 h2 h3]
def take_at {l:List Int}{k:Nat}:dv W (l.take (k+1))=dv W (l.take k)+W^k*((l[k]?).getD 0):=by
 by_cases h:k<l.length
 ·rw[ql W l k h,Ya h];rfl
 rw[ar (by omega),ar (by omega),Yg (by omega)];simp
def qqE {l:List Int}(h:Dg W l) (k:Nat):0<=(l[k]?).getD 0/\(l[k]?).getD 0<W:=by
 by_cases hk:k<l.length
 ·rw[Ya hk];exact h.at hk
 rw[Yg (by omega)];exact⟨cz _,by decide⟩
def qoK {l:List Int}(k:Nat):((if(k:Int)<(l.length:Int)then(idx l (k:Int)).bind λx=>some x else some 0:Option Int))=some ((l[k]?).getD 0):=by
 by_cases h:k<l.length
 ·rw[ae (by omega),qf,Ya h];rfl
 rw[aa (by omega),Yg (by omega)];rfl
def qhh {l:List Int}{k:Nat}{v:Int}(h:∀(i:Nat) x,k<=i->l[i]? =some x->x=0):∀(i:Nat) x,k+1<=i->(l.set k v)[i]? =some x->x=0:=by
 intro i x hi hx;rw[Yw (by omega)]at hx;exact h i x (by omega) hx
def qk3 {l:List Int}{k:Nat}{v:Int}(hk:k<l.length) (h:∀(i:Nat) x,k<=i->l[i]? =some x->x=0):dv W (l.set k v)=dv W l+W^k*v:=by
 rw[qbR W l k v hk,h k l[k] (ai _) (Ya hk),dT]
def qqY {x y:List Int}(hx:Dg W x) (hy:Dg W y) (hxl:x.length<=100000) (hyx:y.length<=x.length):∀(K k:Nat) (l:List Int) (c:Int),k<=x.length->x.length<K+k->l.length=x.length+1->Dg W l->(∀(i:Nat) z,k<=i->l[i]? =some z->z=0)->0<=c->c<=1->dv W l+W^k*c=dv W (x.take k)+dv W (y.take k)->
 ∃l' c',ve x y K l (k:Int) c=some (l',c')/\l'.length=x.length+1/\Dg W l'/\(∀(i:Nat) z,x.length<=i->l'[i]? =some z->z=0)/\0<=c'/\c'<=1/\dv W l'+W^x.length*c'=dv W x+dv W y
 |0,k,l,c,h,hK,_,_,_,_,_,_=>by omega
 |K+1,k,l,c,h,hK,hl,hd,hz,c0,c1,e=>by
  rw[ve];by_cases hk:k<x.length
  ·have ax:=hx.at hk;have ay:=qqE hy k
   have hkl:k<l.length:=by omega
   rw[ae (by omega),qoK k,ZB,qf,Ya hk,ZB]
   have ea:qaV x[k] ((y[k]?).getD 0) c=some ((x[k]+(y[k]?).getD 0+c)%18446744073709551616,(x[k]+(y[k]?).getD 0+c)/18446744073709551616):=by
    unfold qaV;rw[ae ⟨ax.1,ay.1,c0,c1⟩]
   rw[ea,ZB,qf,Ya hkl,ZB,jr hkl,ZB,qm (by omega)];have b0:=ax.2;have b1:=ay.2;unfold W at b0 b1;have hs:=aH (x[k]+(y[k]?).getD 0+c) 18446744073709551616;have m0:=aJ (x[k]+(y[k]?).getD 0+c) (show(18446744073709551616:Int)≠0 by decide);have m1:=aE (x[k]+(y[k]?).getD 0+c) (show(0:Int)<18446744073709551616 by decide)
   have q0:0<=(x[k]+(y[k]?).getD 0+c)/18446744073709551616:=by omega
   have q1:(x[k]+(y[k]?).getD 0+c)/18446744073709551616<=1:=by omega
   refine qqY hx hy hxl hyx K (k+1) _ _ (by omega) (by omega) (by rw[Yk];exact hl) (hd.set ⟨m0,m1⟩) (qhh hz) q0 q1 ?_;rw[qk3 hkl hz,take_at,take_at,Ya hk,YN,aL];simp only
   have e2:W^k*(x[k]+(y[k]?).getD 0+c)=W^k*(18446744073709551616*((x[k]+(y[k]?).getD 0+c)/18446744073709551616))+W^k*((x[k]+(y[k]?).getD 0+c)%18446744073709551616):=by rw[<-Int.mul_add,hs]
   rw[Int.mul_assoc];show _+W^k*((x[k]+(y[k]?).getD 0+c)%18446744073709551616)+W^k*(18446744073709551616*((x[k]+(y[k]?).getD 0+c)/18446744073709551616))=_;rw[Int.mul_add,Int.mul_add]at e2;omega
  rw[aa (by omega)]
  have ek:k=x.length:=by omega
  subst ek;rw[ar (ai _),ar hyx]at e;exact⟨l,c,rfl,hl,hd,hz,c0,c1,e⟩
def qnY {N:Nat}{x y:List Int}(hx:Dg W x) (hy:Dg W y) (hxl:x.length<=10000) (hyx:y.length<=x.length) (hN:x.length+2<N):
 ((mk 8 (w64 ((x.length:Int)+1)) 0).bind λl5=>
 (ve x y N l5 0 0).bind λ(l9,n10)=>
 (idx l9 (x.length:Int)).bind λx21=>
 (put l9 (x.length:Int) n10).bind λl22=>
 (qak N l22).bind λr23=>
 some r23)=some (dg W (dv W x+dv W y)):=by
 rw[qm (by omega),qca (by omega),ZB]
 obtain⟨l,c,e,h1,h2,h3,h4,h5,h6⟩:=qqY hx hy (by omega) hyx N 0 (List.replicate (x.length+1) 0) 0 (by omega) (by omega) (by simp) (Uk W0 _) (λi z _ hz=>by
  rw[List.getElem?_replicate]at hz;split at hz
  ·injection hz with hz;exact hz.symm
  cases hz) (by omega) (by omega) (by rw[qaM];simp[dv])
 have e:ve x y N (List.replicate (x.length+1) 0) 0 0=some (l,c):=e
 have hx1:x.length<l.length:=by omega
 rw[e,ZB];simp only;rw[qf,Ya hx1,ZB,jr hx1,ZB,qd7 (h2.set ⟨h4,by unfold W;omega⟩) (by rw[Yk];omega) (by rw[Yk];omega),ZB,qk3 hx1 h3,h6]
def ql6 {N:Nat}{x y:List Int}(hx:Dg W x) (hy:Dg W y) (hxl:x.length<=10000) (hyl:y.length<=10000) (hN1:x.length+2<N) (hN2:y.length+2<N):qbz N x y=some (dg W (dv W x+dv W y)):=by
 unfold qbz;by_cases h:(x.length:Int)<(y.length:Int)
 ·rw[ae h,ZB,Int.add_comm];exact qnY hy hx hyl (by omega) hN2
 rw[aa h,ZB];exact qnY hx hy hxl (by omega) hN1
def qq1 {a b:List Int}(ha:Dg W a) (hl:a.length=b.length) (hb:Dg W b) {k:Nat}(hk:k<a.length) (he:a.drop (k+1)=b.drop (k+1)) (h:a[k]<b[k]'(by omega)):dv W a<dv W b:=by
 have e1:=qaf W a (k+1) (by omega);have e2:=qaf W b (k+1) (by omega);rw[ql W a k hk]at e1;rw[ql W b k (by omega)]at e2;have l1:=qab W0 (ha.take k);have l2:=qz W0 (hb.take k);rw[Ym,aX (by omega)]at l1;have l3:W^k*(a[k]+1)<=W^k*b[k]:=Yc (by omega) (aC (pow_pos W0 k));rw[Int.mul_add,bY]at l3;rw[he]at e1;omega
def qra {a b:List Int}(ha:Dg W a) (hb:Dg W b) (hl:a.length=b.length) (hal:a.length<=100000):∀(K k:Nat),k<=a.length->k<K->a.drop k=b.drop k->
 zZ a b K ((k:Int)-1)=some (if dv W a<dv W b then .inr (-1)else if dv W a=dv W b then .inl ()else .inr 1)
 |0,k,h,hK,_=>by omega
 |K+1,0,h,hK,he=>by
  rw[YR,YR]at he;rw[zZ,aa (by omega),he,aa (by omega),ae rfl]
 |K+1,k+1,h,hK,he=>by
  have hka:k<a.length:=by omega
  have hkb:k<b.length:=by omega
  have ek:((k+1:Nat):Int)-1=(k:Int):=by omega
  rw[ek,zZ,ae (by omega),qf,Ya hka,ZB,qf,Ya hkb,ZB];by_cases c:a[k]=b[k]
  ·rw[aa (by simp[c]),qg (by omega) (by omega)];refine qra ha hb hl hal K k (by omega) (by omega) ?_;rw[YG hka,YG hkb,c,he]
  rw[ae (by simp[c])];by_cases d:a[k]<b[k]
  ·rw[ae d,ae (qq1 ha hl hb hka he d)]
  have:=qq1 hb hl.symm ha hkb he.symm (by omega);rw[aa d,aa (by omega),aa (by omega)]
def qeS {a b:List Int}(ha:Can W a) (hb:Can W b) (h:a.length<b.length):dv W a<dv W b:=by
 obtain⟨n,hn⟩:∃n,b.length=n+1:=⟨b.length-1,by omega⟩;have h1:=qab W0 ha.1;have h2:=hb.low W1 hn;have h3:=xg (show(1:Int)<=W by decide) (show a.length<=n by omega);omega
def qfd {N:Nat}{a b:List Int}(ha:Can W a) (hb:Can W b) (hal:a.length<=10000) (hN:a.length+1<N):vC N a b=some (if dv W a<dv W b then-1 else if dv W a=dv W b then 0 else 1):=by
 unfold vC;by_cases h:a.length=b.length
 ·have e:=qra ha.1 hb.1 h (by omega) N a.length (ai _) (by omega) (by rw[aB (ai _),aB (by omega)]);rw[aa (by simp[h]),qg (by omega) (by omega),e,ZB];by_cases c:dv W a<dv W b
  ·rw[ae c,ae c]
  rw[aa c,aa c];by_cases d:dv W a=dv W b
  ·rw[ae d,ae d]
  rw[aa d,aa d]
 rw[ae (by simp;omega)];by_cases c:a.length<b.length
 ·rw[ae (by omega),ae (qeS ha hb c)]
 have:=qeS hb ha (by omega);rw[aa (by omega),aa (by omega),aa (by omega)]
def qrv {x y:List Int}(hx:Dg W x) (hy:Dg W y) (hxl:x.length<=100000) (hyx:y.length<=x.length):∀(K k:Nat) (l:List Int) (c:Int),k<=x.length->x.length<K+k->l.length=x.length->Dg W l->(∀(i:Nat) z,k<=i->l[i]? =some z->z=0)->0<=c->c<=1->dv W l+dv W (y.take k)=dv W (x.take k)+W^k*c->
 ∃l' c',yF x y K l (k:Int) c=some l'/\l'.length=x.length/\Dg W l'/\0<=c'/\c'<=1/\dv W l'+dv W y=dv W x+W^x.length*c'
 |0,k,l,c,h,hK,_,_,_,_,_,_=>by omega
 |K+1,k,l,c,h,hK,hl,hd,hz,c0,c1,e=>by
  rw[yF];by_cases hk:k<x.length
  ·have ax:=hx.at hk;have ay:=qqE hy k
   have hkl:k<l.length:=by omega
   rw[ae (by omega),qoK k,ZB,qf,Ya hk,ZB];have b0:=ax.2;have b1:=ay.2;unfold W at b0 b1
   have ea:qfC x[k] ((y[k]?).getD 0) c=some ((x[k]-(y[k]?).getD 0-c)%18446744073709551616,if x[k]<(y[k]?).getD 0+c then 1 else 0):=by
    unfold qfC;rw[ae ⟨ax.1,ay.1,b1,c0,c1⟩]
   rw[ea,ZB,qf,Ya hkl,ZB,jr hkl,ZB,qm (by omega)];have m0:=aJ (x[k]-(y[k]?).getD 0-c) (show(18446744073709551616:Int)≠0 by decide);have m1:=aE (x[k]-(y[k]?).getD 0-c) (show(0:Int)<18446744073709551616 by decide)
   have hs:(x[k]-(y[k]?).getD 0-c)%18446744073709551616=x[k]-(y[k]?).getD 0-c+18446744073709551616*(if x[k]<(y[k]?).getD 0+c then 1 else 0):=by
    split<;>omega
   have q:(0:Int)<=(if x[k]<(y[k]?).getD 0+c then 1 else 0)/\(if x[k]<(y[k]?).getD 0+c then(1:Int)else 0)<=1:=by split<;>omega
   refine qrv hx hy hxl hyx K (k+1) _ _ (by omega) (by omega) (by rw[Yk];exact hl) (hd.set ⟨m0,m1⟩) (qhh hz) q.1 q.2 ?_;rw[qk3 hkl hz,take_at,take_at,Ya hk,YN,aL];simp only;generalize (if x[k]<(y[k]?).getD 0+c then(1:Int)else 0)=d at*
   have e2:W^k*((x[k]-(y[k]?).getD 0-c)%18446744073709551616)=W^k*x[k]-W^k*(y[k]?).getD 0-W^k*c+W^k*(18446744073709551616*d):=by rw[hs,Int.mul_add,Int.mul_sub,Int.mul_sub]
   rw[Int.mul_assoc];show _=_+W^k*(18446744073709551616*d);omega
  rw[aa (by omega)]
  have ek:k=x.length:=by omega
  subst ek;rw[ar (ai _),ar hyx]at e;exact⟨l,c,rfl,hl,hd,c0,c1,e⟩
def qh5 {N:Nat}{x y:List Int}(hx:Can W x) (hy:Can W y) (hxl:x.length<=10000) (hN:x.length+2<N) (h:dv W y<=dv W x):xN N x y=some (dg W (dv W x-dv W y)):=by
 have hyx:y.length<=x.length:=by
  rcases aw x.length y.length with c|c
  ·have:=qeS hx hy c;omega
  exact c
 unfold xN;rw[qca (by omega),ZB]
 obtain⟨l,c,e,h1,h2,h4,h5,h6⟩:=qrv hx.1 hy.1 (by omega) hyx N 0 (List.replicate x.length 0) 0 (by omega) (by omega) (by simp) (Uk W0 _) (λi z _ hz=>by
  rw[List.getElem?_replicate]at hz;split at hz
  ·injection hz with hz;exact hz.symm
  cases hz) (by omega) (by omega) (by rw[qaM];simp[dv])
 have e:yF x y N (List.replicate x.length 0) 0 0=some l:=e;have l1:=qab W0 h2;rw[h1]at l1;have hp:=pow_pos W0 x.length
 have hc:c=0:=by
  rcases(show c=0\/c=1 by omega)with c|c
  ·exact c
  subst c;omega
 rw[e,ZB,qd7 h2 (by omega) (by omega),ZB];subst hc;rw[show dv W l=dv W x-dv W y by omega]
def qp6 {b:List Int}(hb:Dg W b) (hbl:b.length<=10000) {x:Int}(hx:0<=x/\x<W) {i:Nat}(hi:i<=10000):∀(K j:Nat) (l:List Int) (c:Int),j<=b.length->b.length<K+j->i+b.length<=l.length->Dg W l->0<=c->c<W->
 ∃l' c',yA b x (i:Int) K l (j:Int) c=some (l',c')/\l'.length=l.length/\Dg W l'/\(∀m,i+b.length<=m->l'[m]? =l[m]?)/\0<=c'/\c'<W/\dv W l'+W^(i+b.length)*c'+W^i*(x*dv W (b.take j))=dv W l+W^(i+j)*c+W^i*(x*dv W b)
 |0,j,l,c,h,hK,_,_,_,_=>by omega
 |K+1,j,l,c,h,hK,hl,hd,c0,c1=>by
  rw[yA];by_cases hj:j<b.length
  ·have ab:=hb.at hj
   have hil:i+j<l.length:=by omega
   have al:=hd.at hil;have b0:=ab.2;have b1:=al.2;have b2:=hx.2;unfold W at b0 b1 b2 c1;rw[ae (by omega),qf,Ya hj,ZB,qg5 ⟨hx.1,b2⟩ ⟨ab.1,b0⟩,ZB];rw[show(i:Int)+(j:Int)=((i+j:Nat):Int)by omega,qg (by omega) (by omega),qf,Ya hil,ZB];have hp0:0<=x*b[j]:=Yv hx.1 ab.1;have hp1:x*b[j]<=18446744073709551615*18446744073709551615:=bU (by omega) (by omega) ab.1 (by omega);generalize hp:x*b[j]=p at*
   have ea:qaV (p%18446744073709551616) l[i+j] 0=some ((p%18446744073709551616+l[i+j])%18446744073709551616,(p%18446744073709551616+l[i+j])/18446744073709551616):=by
    unfold qaV;rw[ae (by omega),bc]
   rw[ea,ZB]
   have eb:qaV ((p%18446744073709551616+l[i+j])%18446744073709551616) c 0=some (((p%18446744073709551616+l[i+j])%18446744073709551616+c)%18446744073709551616,((p%18446744073709551616+l[i+j])%18446744073709551616+c)/18446744073709551616):=by
    unfold qaV;rw[ae (by omega),bc]
   simp only;rw[eb,ZB,jr hil,ZB,qm (by omega)]
   have hc:wrap .u64 (wrap .u64 (p/18446744073709551616+(p%18446744073709551616+l[i+j])/18446744073709551616)+((p%18446744073709551616+l[i+j])%18446744073709551616+c)/18446744073709551616)=(p+l[i+j]+c)/18446744073709551616:=by
    rw[yM (n:=p/18446744073709551616+_) (by omega) (by omega),yM (by omega) (by omega)];omega
   have hv:((p%18446744073709551616+l[i+j])%18446744073709551616+c)%18446744073709551616=(p+l[i+j]+c)%18446744073709551616:=by omega
   simp only;rw[hc,hv];have m0:=aJ (p+l[i+j]+c) (show(18446744073709551616:Int)≠0 by decide);have m1:=aE (p+l[i+j]+c) (show(0:Int)<18446744073709551616 by decide);have hs:=aH (p+l[i+j]+c) 18446744073709551616;obtain⟨l',c',e1,e2,e3,e4,e5,e6,e7⟩:=qp6 hb hbl hx hi K (j+1) (l.set (i+j) ((p+l[i+j]+c)%18446744073709551616)) ((p+l[i+j]+c)/18446744073709551616) (by omega) (by omega) (by rw[Yk];exact hl) (hd.set ⟨m0,m1⟩) (by omega) (by unfold W;omega);refine⟨l',c',e1,by rw[e2,Yk],e3,λm hm=>by rw[e4 m hm,Yw (by omega)],e5,e6,?_⟩;rw[qbR W l (i+j) _ hil,ql W b j hj,<-Nat.add_assoc,aL]at e7;rw[Int.mul_add x,<-Int.mul_assoc x,aK x (W^j),Int.mul_assoc (W^j),hp,Int.mul_add (W^i),<-Int.mul_assoc (W^i) (W^j),<-Int.pow_add]at e7
   have e8:W^(i+j)*(p+l[i+j]+c)=W^(i+j)*(18446744073709551616*((p+l[i+j]+c)/18446744073709551616))+W^(i+j)*((p+l[i+j]+c)%18446744073709551616):=by rw[<-Int.mul_add,hs]
   rw[Int.mul_assoc (W^(i+j))]at e7;have e7:dv W l'+W^(i+b.length)*c'+(W^i*(x*dv W (List.take j b))+W^(i+j)*p)=dv W l+W^(i+j)*((p+l[i+j]+c)%18446744073709551616-l[i+j])+W^(i+j)*(18446744073709551616*((p+l[i+j]+c)/18446744073709551616))+W^i*(x*dv W b):=e7;rw[Int.mul_add,Int.mul_add]at e8;rw[Int.mul_sub]at e7;omega
  rw[aa (by omega)]
  have ej:j=b.length:=by omega
  subst ej;rw[ar (ai _)];exact⟨l,c,rfl,rfl,hd,λ_ _=>rfl,c0,c1,rfl⟩
def qql {N:Nat}{a b:List Int}(ha:Dg W a) (hb:Dg W b) (hal:a.length<=10000) (hbl:b.length<=10000) (hN:b.length<N):∀(K i:Nat) (l:List Int),i<=a.length->a.length<K+i->l.length=a.length+b.length->Dg W l->(∀(m:Nat) z,i+b.length<=m->l[m]? =some z->z=0)->dv W l=dv W (a.take i)*dv W b->
 ∃l',yD N a b K l (i:Int)=some l'/\l'.length=a.length+b.length/\Dg W l'/\dv W l'=dv W a*dv W b
 |0,i,l,h,hK,_,_,_,_=>by omega
 |K+1,i,l,h,hK,hl,hd,hz,e=>by
  rw[yD];by_cases hi:i<a.length
  ·obtain⟨l1,c,e1,e2,e3,e4,e5,e6,e7⟩:=qp6 hb hbl (ha.at hi) (i:=i) (by omega) N 0 l 0 (by omega) (by omega) (by omega) hd (by omega) (by decide);have e1:yA b a[i] (i:Int) N l 0 0=some (l1,c):=e1
   have hib:i+b.length<l1.length:=by omega
   have hz1:∀(m:Nat) z,i+b.length<=m->l1[m]? =some z->z=0:=λm z hm hx=>hz m z hm (by rw[<-e4 m hm];exact hx)
   rw[ae (by omega),qf,Ya hi,ZB,e1,ZB];simp only;rw[show(i:Int)+(b.length:Int)=((i+b.length:Nat):Int)by omega,qg (by omega) (by omega),qf,Ya hib,ZB,jr hib,ZB,qm (by omega)];refine qql ha hb hal hbl hN K (i+1) _ (by omega) (by omega) (by rw[Yk,e2,hl]) (e3.set ⟨e5,e6⟩) (λm z hm hx=>qhh hz1 m z (by omega) hx) ?_;rw[qk3 hib hz1,ql W a i hi,bf,<-e,Int.mul_assoc];rw[bj,zn,aZ,aZ]at e7;omega
  rw[aa (by omega)]
  have ei:i=a.length:=by omega
  subst ei;rw[ar (ai _)]at e;exact⟨l,rfl,hl,hd,e⟩
def qlR {N:Nat}{a b:List Int}(ha:Dg W a) (hb:Dg W b) (hal:a.length<=10000) (hbl:b.length<=10000) (hN:a.length+b.length<N):qbC N a b=some (dg W (dv W a*dv W b)):=by
 unfold qbC;rw[show(a.length:Int)+(b.length:Int)=((a.length+b.length:Nat):Int)by omega,qg (by omega) (by omega),qca (by omega),ZB]
 obtain⟨l,e,h1,h2,h3⟩:=qql ha hb hal hbl (N:=N) (by omega) N 0 (List.replicate (a.length+b.length) 0) (by omega) (by omega) (by simp) (Uk W0 _) (λi z _ hz=>by
  rw[List.getElem?_replicate]at hz;split at hz
  ·injection hz with hz;exact hz.symm
  cases hz) (by rw[qaM];simp[dv])
 have e:yD N a b N (List.replicate (a.length+b.length) 0) 0=some l:=e;rw[e,ZB,qd7 h2 (by omega) (by omega),ZB,h3]
def qp0 {b a:Int}{k:Nat}(ha:0<=a) (hb:0<=b) (hk:b<2^k) (h:a*2^k+b<18446744073709551616):orI .u64 b (a*2^k)=a*2^k+b:=by
 rw[<-qox ha hb hk h];show wrap .u64 _=wrap .u64 _;rw[BitVec.or_comm]
def qjA {a:List Int}(ha:Dg W a) (hal:a.length<=10000) {s:Nat}(hs:s<=63):∀(K i:Nat) (l:List Int),i<=a.length->a.length<K+i->l.length=a.length+1->Dg W l->(∀(m:Nat) z,i+1<=m->l[m]? =some z->z=0)->(∀z,l[i]? =some z->z<2^s)->dv W l=dv W (a.take i)*2^s->
 ∃l',jP a (s:Int) K l (i:Int)=some l'/\l'.length=a.length+1/\Dg W l'/\dv W l'=dv W a*2^s
 |0,i,l,h,hK,_,_,_,_,_=>by omega
 |K+1,i,l,h,hK,hl,hd,hz,hlow,e=>by
  rw[jP];by_cases hi:i<a.length
  ·have hil:i<l.length:=by omega
   have hil2:i+1<l.length:=by omega
   have ax:=ha.at hi;have al:=hd.at hil;have b0:=ax.2;unfold W at b0;have hlo:=hlow l[i] (Ya hil);have hp:=pow_pos (show(0:Int)<2 by omega) s;have hp2:=pow_pos (show(0:Int)<2 by omega) (64-s)
   have hpp:(2:Int)^(64-s)*2^s=18446744073709551616:=by
    rw[<-Int.pow_add,show 64-s+s=64 by omega];rfl
   have em:a[i]*2^s%18446744073709551616=a[i]%2^(64-s)*2^s:=by
    rw[<-hpp,aK a[i],aK (2^(64-s)),cQ _ _ hp,aK]
   have r0:0<=a[i]%2^(64-s):=aJ _ (by omega);have r1:a[i]%2^(64-s)<2^(64-s):=aE _ hp2;have q0:0<=a[i]/2^(64-s):=aV ax.1 (aC hp2)
   have q1:a[i]/2^(64-s)<2^s:=by
    rw[Yu hp2,aK,hpp];exact b0
   have hdm:=aH a[i] (2^(64-s))
   have htop:a[i]%2^(64-s)*2^s+l[i]<18446744073709551616:=by
    have:(a[i]%2^(64-s)+1)*2^s<=2^(64-s)*2^s:=aI (by omega) (aC hp);rw[hpp,bf,bJ]at this;omega
   have hq2:(2:Int)^s<W:=by
    have:(2:Int)^s<=2^63:=xg (by omega) hs;have e63:(2:Int)^63=9223372036854775808:=rfl;unfold W;omega
   rw[ae (by omega),qf,Ya hi,ZB,qf,Ya hil,ZB,qjS (by omega),ZB,em,qp0 r0 al.1 hlo htop,jr hil,ZB];have hlow0:0<=a[i]%2^(64-s)*2^s:=Yv r0 (aC hp)
   have eset:dv W (l.set i (a[i]%2^(64-s)*2^s+l[i]))=dv W l+W^i*(a[i]%2^(64-s)*2^s):=by
    rw[qbR W l i _ hil];congr 2;omega
   have efin:W^i*(a[i]%2^(64-s)*2^s)+W^(i+1)*(a[i]/2^(64-s))=W^i*a[i]*2^s:=by
    rw[aL,Int.mul_assoc,Int.mul_assoc,<-Int.mul_add];congr 1;show _+18446744073709551616*_=_;rw[<-hpp]
    have e6:a[i]*2^s=(2^(64-s)*(a[i]/2^(64-s))+a[i]%2^(64-s))*2^s:=by rw[hdm]
    rw[bf,Int.mul_right_comm]at e6;omega
   by_cases h0:s=0
   ·subst h0;rw[aa (by omega),ZB,qm (by omega)]
    have hq:a[i]/2^(64-0)=0:=by
     have:a[i]/2^(64-0)<1:=q1;omega
    refine qjA ha hal hs K (i+1) _ (by omega) (by omega) (by rw[Yk];exact hl) (hd.set ⟨by omega,htop⟩) (λm z hm hx=>?_) (λz hx=>?_) ?_
    ·rw[Yw (by omega)]at hx;exact hz m z (by omega) hx
    ·rw[Yw (by omega)]at hx;have:=hz (i+1) z (by omega) hx;rw[this,cI];omega
    rw[eset,e,ql W a i hi,bf,<-efin,hq,aZ,bc]
   have hil3:i+1<(l.set i (a[i]%2^(64-s)*2^s+l[i])).length:=by rw[Yk];exact hil2
   rw[ae (by omega),show(64:Int)-(s:Int)=((64-s:Nat):Int)by omega,qg (by omega) (by omega),qir (by omega),ZB,qm (by omega),qf,Ya hil3,ZB,jr hil3,ZB,ZB]
   have hget:(l.set i (a[i]%2^(64-s)*2^s+l[i]))[i+1]=0:=by
    rw[List.getElem_set_ne (by omega)];exact hz (i+1) _ (by omega) (Ya hil2)
   refine qjA ha hal hs K (i+1) _ (by omega) (by omega) (by rw[Yk,Yk];exact hl) ((hd.set ⟨by omega,htop⟩).set ⟨q0,by omega⟩) (λm z hm hx=>?_) (λz hx=>?_) ?_
   ·rw[Yw (by omega),Yw (by omega)]at hx;exact hz m z (by omega) hx
   ·rw[List.getElem?_set_self hil3]at hx;rw[<-Ye hx];exact q1
   rw[qbR W _ (i+1) _ hil3,hget,dT,eset,e,ql W a i hi,bf,<-efin];omega
  rw[aa (by omega)]
  have ei:i=a.length:=by omega
  subst ei;rw[ar (ai _)]at e;exact⟨l,rfl,hl,hd,e⟩
def qjl {N:Nat}{a:List Int}(ha:Dg W a) (hal:a.length<=10000) {s:Nat}(hs:s<=63) (hN:a.length<N):∃l,qag N a (s:Int)=some l/\l.length=a.length+1/\Dg W l/\dv W l=dv W a*2^s:=by
 unfold qag;rw[qm (by omega),qca (by omega),ZB]
 have hz:∀(m:Nat) z,(List.replicate (a.length+1) (0:Int))[m]? =some z->z=0:=λm z hz=>by
  rw[List.getElem?_replicate]at hz;split at hz
  ·injection hz with hz;exact hz.symm
  cases hz
 obtain⟨l,e,h1,h2,h3⟩:=qjA ha hal hs N 0 (List.replicate (a.length+1) 0) (by omega) (by omega) (by simp) (Uk W0 _) (λm z _ h=>hz m z h) (λz h=>by rw[hz 0 z h];exact pow_pos (by omega) s) (by rw[qaM];simp[dv]);have e:jP a (s:Int) N (List.replicate (a.length+1) 0) 0=some l:=e;rw[e];exact⟨l,rfl,h1,h2,h3⟩
abbrev E9:Int:=1000000000
def E1:(1:Int)<E9:=by decide
def E0:(0:Int)<E9:=by decide
def qlH {w:List Int}(hl:w.length<=100000):∀(K m:Nat),m<=w.length->m<K->(∀(i:Nat) x,m<=i->w[i]? =some x->x=0)->
 ∃m':Nat,qaU K (w.take m)=some (w.take m')/\m'<=w.length/\(∀x,0<m'->w[m'-1]? =some x->x≠0)/\∀(i:Nat) x,m'<=i->w[i]? =some x->x=0
 |0,m,h,hK,_=>by omega
 |K+1,m,h,hK,hz=>by
  have el:(w.take m).length=m:=by rw[Ym];omega
  rw[qaU,el];by_cases h0:0<m
  ·have hm:m-1<w.length:=by omega
   have e1:(w.take m)[m-1]? =some w[m-1]:=by rw[Yt,ae (by omega),Ya hm]
   rw[ae (by omega),qlx (by omega) h0,qf,e1,ZB,ZB];by_cases c:w[m-1]=0
   ·rw[ap c,ae rfl,jN (by omega),ZB,List.take_take,aX (by omega)]
    refine qlH hl K (m-1) (by omega) (by omega) λi x hi hx=>?_
    rcases aw i m with h1|h1
    ·have e:i=m-1:=by omega
     subst e;rw[Ya hm]at hx;rw[<-Ye hx];exact c
    exact hz i x h1 hx
   rw[ak c,aa (by simp)];refine⟨m,rfl,h,λx _ hx=>?_,hz⟩;rw[Ya hm]at hx;rw[<-Ye hx];exact c
  rw[aa (by omega),ZB,aa (by simp)];exact⟨m,rfl,h,λx h1=>by omega,hz⟩
def qdQ {N:Nat}{w:List Int}(hw:Dg E9 w) (hl:w.length<=100000) (hN:w.length<N):xu N w=some (dg E9 (dv E9 w)):=by
 unfold xu;obtain⟨m,e,h1,h2,h3⟩:=qlH hl N w.length (ai _) hN (λi x hi hx=>by rw[Yg hi]at hx;cases hx);rw[ar (ai _)]at e;rw[e,ZB,qnR E1 hw h1 h2 h3]
def rI (z:Int):qE:=⟨decide (z<0),dg E9 z.natAbs⟩
def qbA {N:Nat}(neg:Bool) {w:List Int}(hw:Dg E9 w) (hl:w.length<=100000) (hN:w.length<N):zP N neg w=some (rI (if neg=true then-dv E9 w else dv E9 w)):=by
 have h0:=qz E0 hw;have hn:=qjg E1 h0;unfold zP;rw[qdQ hw hl hN,ZB]
 have hlen:0<(dg E9 (dv E9 w)).length↔0<dv E9 w:=by
  rw[cN];constructor
  ·intro c
   have:dv E9 w≠0:=λe=>c (hn.2 e)
   omega
  intro c e;have:=hn.1 e;omega
 cases neg with
 |true=>
  rw[ae rfl,ae rfl,ZB];unfold rI;rw[cC,show(dv E9 w).natAbs=dv E9 w by omega];congr 2;exact decide_eq_decide.2 (by omega)
 |false=>
  rw[aa (by simp),aa (by simp),ZB];unfold rI;rw[show((dv E9 w).natAbs:Int)=dv E9 w by omega,ak (by omega)]
def qd8 {a b:List Int}(ha:Can E9 a) (hb:Can E9 b) (h:a.length<b.length):dv E9 a<dv E9 b:=by
 obtain⟨n,hn⟩:∃n,b.length=n+1:=⟨b.length-1,by omega⟩;have h1:=qab E0 ha.1;have h2:=hb.low E1 hn;have h3:=xg (show(1:Int)<=E9 by decide) (show a.length<=n by omega);omega
def qoF {a b:List Int}(ha:Dg E9 a) (hl:a.length=b.length) (hb:Dg E9 b) {k:Nat}(hk:k<a.length) (he:a.drop (k+1)=b.drop (k+1)) (h:a[k]<b[k]'(by omega)):dv E9 a<dv E9 b:=by
 have e1:=qaf E9 a (k+1) (by omega);have e2:=qaf E9 b (k+1) (by omega);rw[ql E9 a k hk]at e1;rw[ql E9 b k (by omega)]at e2;have l1:=qab E0 (ha.take k);have l2:=qz E0 (hb.take k);rw[Ym,aX (by omega)]at l1;have l3:E9^k*(a[k]+1)<=E9^k*b[k]:=Yc (by omega) (aC (pow_pos E0 k));rw[Int.mul_add,bY]at l3;rw[he]at e1;omega
def qoc {a b:List Int}(ha:Dg E9 a) (hb:Dg E9 b) (hl:a.length=b.length) (hal:a.length<=100000):∀(K k:Nat),k<=a.length->k<K->a.drop k=b.drop k->
 zi a b K ((k:Int)-1)=some (if dv E9 a<dv E9 b then .inr (-1)else if dv E9 a=dv E9 b then .inl ()else .inr 1)
 |0,k,h,hK,_=>by omega
 |K+1,0,h,hK,he=>by
  rw[YR,YR]at he;rw[zi,aa (by omega),he,aa (by omega),ae rfl]
 |K+1,k+1,h,hK,he=>by
  have hka:k<a.length:=by omega
  have hkb:k<b.length:=by omega
  have ek:((k+1:Nat):Int)-1=(k:Int):=by omega
  rw[ek,zi,ae (by omega),qf,Ya hka,ZB,qf,Ya hkb,ZB];by_cases d:a[k]<b[k]
  ·rw[ae d,ae (qoF ha hl hb hka he d)]
  rw[aa d];by_cases c:a[k]>b[k]
  ·have:=qoF hb hl.symm ha hkb he.symm c;rw[ae c,aa (by omega),aa (by omega)]
  rw[aa c,qg (by omega) (by omega)];refine qoc ha hb hl hal K k (by omega) (by omega) ?_;rw[YG hka,YG hkb,show a[k]=b[k]by omega,he]
def qeK {N:Nat}{a b:List Int}(ha:Can E9 a) (hb:Can E9 b) (hal:a.length<=10000) (hN:a.length+1<N):jW N a b=some (if dv E9 a<dv E9 b then-1 else if dv E9 a=dv E9 b then 0 else 1):=by
 unfold jW;by_cases h:a.length=b.length
 ·have e:=qoc ha.1 hb.1 h (by omega) N a.length (ai _) (by omega) (by rw[aB (ai _),aB (by omega)]);rw[aa (by simp[h]),qg (by omega) (by omega),e,ZB];by_cases c:dv E9 a<dv E9 b
  ·rw[ae c,ae c]
  rw[aa c,aa c];by_cases d:dv E9 a=dv E9 b
  ·rw[ae d,ae d]
  rw[aa d,aa d]
 rw[ae (by simp;omega)];by_cases c:a.length<b.length
 ·rw[ae (by omega),ae (qd8 ha hb c)]
 have:=qd8 hb ha (by omega);rw[aa (by omega),aa (by omega),aa (by omega)]
def qje {l:List Int}{k:Nat}:dv E9 (l.take (k+1))=dv E9 (l.take k)+E9^k*((l[k]?).getD 0):=by
 by_cases h:k<l.length
 ·rw[ql E9 l k h,Ya h];rfl
 rw[ar (by omega),ar (by omega),Yg (by omega)];simp
def qkV {l:List Int}(h:Dg E9 l) (k:Nat):0<=(l[k]?).getD 0/\(l[k]?).getD 0<1000000000:=by
 by_cases hk:k<l.length
 ·rw[Ya hk];exact h.at hk
 rw[Yg (by omega)];exact⟨cz _,by decide⟩
def digit_eq (l:List Int) (k:Nat):qbl l (k:Int)=some ((l[k]?).getD 0):=by
 unfold qbl;by_cases h:k<l.length
 ·rw[ae (by omega),qf,Ya h];rfl
 rw[aa (by omega),Yg (by omega)];rfl
def qf7 (l:List Int) (x:Int):dv E9 (l++[x])=dv E9 l+E9^l.length*x:=by rw[qai,zF,zn,aZ,bc]
def qoQ {a b:List Int}(ha:Dg E9 a) (hb:Dg E9 b) (hal:a.length<=10000) (hbl:b.length<=10000):∀(K k:Nat) (l:List Int) (c:Int),10002<K+k->k<=10001->l.length=k->Dg E9 l->0<=c->c<=1->(c=1->k<=a.length\/k<=b.length)->dv E9 l+E9^k*c=dv E9 (a.take k)+dv E9 (b.take k)->
 ∃l',jC a b K l c (k:Int)=some l'/\Dg E9 l'/\l'.length<=10002/\dv E9 l'=dv E9 a+dv E9 b
 |0,k,l,c,hK,hk,_,_,_,_,_,_=>by omega
 |K+1,k,l,c,hK,hk,hl,hd,c0,c1,hc,e=>by
  rw[jC]
  have cond:(if(k:Int)<(a.length:Int)then some true else if(k:Int)<(b.length:Int)then some true else some (decide (c>0)):Option Bool)=some (decide (k<a.length\/k<b.length\/0<c)):=by
   by_cases h1:k<a.length
   ·rw[ae (by omega),ap (.inl h1)]
   rw[aa (by omega)];by_cases h2:k<b.length
   ·rw[ae (by omega),ap (.inr (.inl h2))]
   rw[aa (by omega)];congr 1;exact decide_eq_decide.2 (by omega)
  rw[cond,ZB];by_cases h:k<a.length\/k<b.length\/0<c
  ·have xa:=qkV ha k;have xb:=qkV hb k;rw[ap h,ae rfl,digit_eq,ZB,digit_eq,ZB];generalize hx:(a[k]?).getD 0=x at*;generalize hy:(b[k]?).getD 0=y at*;rw[qg (n:=x+y) (by omega) (by omega),qg (n:=x+y+c) (by omega) (by omega),bw (by omega),YF (by omega),jU (by simp;omega) (by simp;omega),ZB,qg (by omega) (by omega),qm (by omega)];have hs:=aH (x+y+c) 1000000000;have m0:=aJ (x+y+c) (show(1000000000:Int)≠0 by decide);have m1:=aE (x+y+c) (show(0:Int)<1000000000 by decide)
   have hk2:k<=10000:=by
    rcases h with h|h|h
    ·omega
    ·omega
    rcases hc (by omega)with h|h<;>omega
   refine qoQ ha hb hal hbl K (k+1) _ _ (by omega) (by omega) (by simp[hl]) (hd.append (Dg.cons ⟨m0,m1⟩ Dg.nil)) (by omega) (by omega) (λhq=>?_) ?_
   ·rcases aw k a.length with g|g
    ·exact .inl g
    rcases aw k b.length with g2|g2
    ·exact .inr g2
    rw[Yg g]at hx;rw[Yg g2]at hy;simp only[bV]at hx hy;omega
   rw[qf7,hl,qje,qje,hx,hy,aL,Int.mul_assoc]
   have e2:E9^k*(x+y+c)=E9^k*(E9*((x+y+c)/1000000000))+E9^k*((x+y+c)%1000000000):=by rw[<-Int.mul_add];exact az (E9^k* ·) hs.symm
   rw[Int.mul_add,Int.mul_add]at e2;omega
  have hc0:c=0:=by omega
  rw[ak h,aa (by simp)];rw[ar (by omega),ar (by omega),hc0,aZ,bc]at e;exact⟨l,rfl,hd,by omega,e⟩
def qlE {N:Nat}{a b:List Int}(ha:Dg E9 a) (hb:Dg E9 b) (hal:a.length<=10000) (hbl:b.length<=10000) (hN:11000<N):∃l,qaO N a b=some l/\Dg E9 l/\l.length<=10002/\dv E9 l=dv E9 a+dv E9 b:=by
 unfold qaO;obtain⟨l,e,h1,h2,h3⟩:=qoQ ha hb hal hbl N 0 [] 0 (by omega) (by omega) rfl Dg.nil (by omega) (by omega) (by omega) (by simp[dv]);have e:jC a b N [] 0 0=some l:=e;rw[e,ZB];exact⟨l,rfl,h1,h2,h3⟩
def qoX {a b:List Int}(ha:Dg E9 a) (hb:Dg E9 b) (hal:a.length<=10000) (hba:b.length<=a.length):∀(K k:Nat) (l:List Int) (c:Int),k<=a.length->a.length<K+k->l.length=k->Dg E9 l->0<=c->c<=1->dv E9 l+dv E9 (b.take k)=dv E9 (a.take k)+E9^k*c->
 ∃l' c',zJ a b K l c (k:Int)=some l'/\Dg E9 l'/\l'.length=a.length/\0<=c'/\c'<=1/\dv E9 l'+dv E9 b=dv E9 a+E9^a.length*c'
 |0,k,l,c,h,hK,_,_,_,_,_=>by omega
 |K+1,k,l,c,h,hK,hl,hd,c0,c1,e=>by
  rw[zJ];by_cases hk:k<a.length
  ·have xa:=ha.at hk;have xb:=qkV hb k;have xa2:a[k]<1000000000:=xa.2;rw[ae (by omega),qf,Ya hk,ZB,digit_eq,ZB];generalize hy:(b[k]?).getD 0=y at*;rw[qg (n:=a[k]-y) (by omega) (by omega),qg (n:=a[k]-y-c) (by omega) (by omega)]
   have step:∀(s d:Int),(0<=s/\s<1000000000)->(0<=d/\d<=1)->s=a[k]-y-c+1000000000*d->∃l' c',zJ a b K (l++[s]) d ((k+1:Nat):Int)=some l'/\Dg E9 l'/\l'.length=a.length/\0<=c'/\c'<=1/\dv E9 l'+dv E9 b=dv E9 a+E9^a.length*c':=by
    intro s d hs hd2 es;refine qoX ha hb hal hba K (k+1) _ _ (by omega) (by omega) (by simp[hl]) (hd.append (Dg.cons hs Dg.nil)) hd2.1 hd2.2 ?_;rw[qf7,hl,qje,ql E9 a k hk,hy,aL,Int.mul_assoc,es]
    have e2:E9^k*(a[k]-y-c+1000000000*d)=E9^k*a[k]-E9^k*y-E9^k*c+E9^k*(E9*d):=by rw[Int.mul_add,Int.mul_sub,Int.mul_sub]
    omega
   by_cases c2:a[k]-y-c<0
   ·rw[ae c2,qg (by omega) (by omega),ZB];simp only;rw[jU (by simp;omega) (by simp;omega),ZB,qm (by omega)];exact step _ 1 (by omega) (by omega) (by omega)
   rw[aa c2,ZB];simp only;rw[jU (by simp;omega) (by simp;omega),ZB,qm (by omega)];exact step _ 0 (by omega) (by omega) (by omega)
  rw[aa (by omega)]
  have ek:k=a.length:=by omega
  subst ek;rw[ar (ai _),ar hba]at e;exact⟨l,c,rfl,hd,hl,c0,c1,e⟩
def qhg {N:Nat}{a b:List Int}(ha:Can E9 a) (hb:Can E9 b) (hal:a.length<=10000) (hN:a.length+2<N) (h:dv E9 b<=dv E9 a):xB N a b=some (dg E9 (dv E9 a-dv E9 b)):=by
 have hba:b.length<=a.length:=by
  rcases aw a.length b.length with c|c
  ·have:=qd8 ha hb c;omega
  exact c
 unfold xB;obtain⟨l,c,e,h1,h2,h4,h5,h6⟩:=qoX ha.1 hb.1 hal hba N 0 [] 0 (by omega) (by omega) rfl Dg.nil (by omega) (by omega) (by simp[dv]);have e:zJ a b N [] 0 0=some l:=e;have l1:=qab E0 h1;rw[h2]at l1;have hp:=pow_pos E0 a.length
 have hc:c=0:=by
  rcases(show c=0\/c=1 by omega)with c|c
  ·exact c
  subst c;omega
 rw[e,ZB,qdQ h1 (by omega) (by omega),ZB];subst hc;rw[show dv E9 l=dv E9 a-dv E9 b by omega]
def qsK {l:List Int}{k:Nat}{v:Int}(hk:k<l.length) (h:∀(i:Nat) x,k<=i->l[i]? =some x->x=0):dv E9 (l.set k v)=dv E9 l+E9^k*v:=by
 rw[qbR E9 l k v hk,h k l[k] (ai _) (Ya hk),dT]
def qiO {n:Nat}:∀(m:Nat) z,(List.replicate n (0:Int))[m]? =some z->z=0:=λm z hz=>by
 rw[List.getElem?_replicate]at hz;split at hz
 ·exact(Ye hz).symm
 cases hz
def qnN {a b:List Int}(ha:Dg E9 a) (hb:Dg E9 b) (hbl:b.length<=10000) {i:Nat}(hi:i<a.length) (hal:a.length<=10000):∀(K j:Nat) (l:List Int) (c:Int),j<=b.length->b.length<K+j->i+b.length<=l.length->Dg E9 l->0<=c->c<1000000000->
 ∃l' c',jD a b (i:Int) K l c (j:Int)=some (l',c')/\l'.length=l.length/\Dg E9 l'/\(∀m,i+b.length<=m->l'[m]? =l[m]?)/\0<=c'/\c'<1000000000/\dv E9 l'+E9^(i+b.length)*c'+E9^i*(a[i]*dv E9 (b.take j))=dv E9 l+E9^(i+j)*c+E9^i*(a[i]*dv E9 b)
 |0,j,l,c,h,hK,_,_,_,_=>by omega
 |K+1,j,l,c,h,hK,hl,hd,c0,c1=>by
  rw[jD];by_cases hj:j<b.length
  ·have xa:=ha.at hi;have xb:=hb.at hj
   have hil:i+j<l.length:=by omega
   have xl:=hd.at hil;have a2:a[i]<1000000000:=xa.2;have b2:b[j]<1000000000:=xb.2;have l2:l[i+j]<1000000000:=xl.2;rw[ae (by omega),show(i:Int)+(j:Int)=((i+j:Nat):Int)by omega,qg (n:=((i+j:Nat):Int)) (by omega) (by omega),qf,Ya hil,ZB,qf,Ya hi,ZB,qf,Ya hj,ZB];have hp0:0<=a[i]*b[j]:=Yv xa.1 xb.1;have hp1:a[i]*b[j]<=999999999*999999999:=bU (by omega) (by omega) xb.1 (by omega);generalize hp:a[i]*b[j]=p at*;rw[qg (n:=p) (by omega) (by omega),qg (n:=l[i+j]+p) (by omega) (by omega),qg (n:=l[i+j]+p+c) (by omega) (by omega),bw (by omega),YF (by omega),jr hil,ZB,qm (by omega),qg (by omega) (by omega)];have hs:=aH (l[i+j]+p+c) 1000000000;have m0:=aJ (l[i+j]+p+c) (show(1000000000:Int)≠0 by decide);have m1:=aE (l[i+j]+p+c) (show(0:Int)<1000000000 by decide);obtain⟨l',c',e1,e2,e3,e4,e5,e6,e7⟩:=qnN ha hb hbl hi hal K (j+1) (l.set (i+j) ((l[i+j]+p+c)%1000000000)) ((l[i+j]+p+c)/1000000000) (by omega) (by omega) (by rw[Yk];exact hl) (hd.set ⟨m0,m1⟩) (by omega) (by omega);refine⟨l',c',e1,by rw[e2,Yk],e3,λm hm=>by rw[e4 m hm,Yw (by omega)],e5,e6,?_⟩;rw[qbR E9 l (i+j) _ hil,ql E9 b j hj,<-Nat.add_assoc,aL]at e7;rw[Int.mul_add a[i],<-Int.mul_assoc a[i],aK a[i] (E9^j),Int.mul_assoc (E9^j),hp,Int.mul_add (E9^i),<-Int.mul_assoc (E9^i) (E9^j),<-Int.pow_add]at e7
   have e8:E9^(i+j)*(l[i+j]+p+c)=E9^(i+j)*(E9*((l[i+j]+p+c)/1000000000))+E9^(i+j)*((l[i+j]+p+c)%1000000000):=by rw[<-Int.mul_add];exact az (E9^(i+j)* ·) hs.symm
   rw[Int.mul_assoc (E9^(i+j))]at e7;rw[Int.mul_add,Int.mul_add]at e8;rw[Int.mul_sub]at e7;omega
  rw[aa (by omega)]
  have ej:j=b.length:=by omega
  subst ej;rw[ar (ai _)];exact⟨l,c,rfl,rfl,hd,λ_ _=>rfl,c0,c1,rfl⟩
def qo1 {N:Nat}{a b:List Int}(ha:Dg E9 a) (hb:Dg E9 b) (hal:a.length<=10000) (hbl:b.length<=10000) (hN:b.length<N):∀(K i:Nat) (l:List Int),i<=a.length->a.length<K+i->l.length=a.length+b.length->Dg E9 l->(∀(m:Nat) z,i+b.length<=m->l[m]? =some z->z=0)->dv E9 l=dv E9 (a.take i)*dv E9 b->
 ∃l',jy N a b K l (i:Int)=some l'/\l'.length=a.length+b.length/\Dg E9 l'/\dv E9 l'=dv E9 a*dv E9 b
 |0,i,l,h,hK,_,_,_,_=>by omega
 |K+1,i,l,h,hK,hl,hd,hz,e=>by
  rw[jy];by_cases hi:i<a.length
  ·obtain⟨l1,c,e1,e2,e3,e4,e5,e6,e7⟩:=qnN ha hb hbl hi hal N 0 l 0 (by omega) (by omega) (by omega) hd (by omega) (by decide);have e1:jD a b (i:Int) N l 0 0=some (l1,c):=e1
   have hib:i+b.length<l1.length:=by omega
   have hz1:∀(m:Nat) z,i+b.length<=m->l1[m]? =some z->z=0:=λm z hm hx=>hz m z hm (by rw[<-e4 m hm];exact hx)
   have h0:l1[i+b.length]=0:=hz1 _ _ (ai _) (Ya hib);rw[ae (by omega),e1,ZB];simp only;rw[show(i:Int)+(b.length:Int)=((i+b.length:Nat):Int)by omega,qg (by omega) (by omega),qf,Ya hib,ZB,jr hib,ZB,h0,dS,qg (n:=c) (by omega) (by omega),qm (by omega)];refine qo1 ha hb hal hbl hN K (i+1) _ (by omega) (by omega) (by rw[Yk,e2,hl]) (e3.set ⟨e5,e6⟩) (λm z hm hx=>qhh hz1 m z (by omega) hx) ?_;rw[qsK hib hz1,ql E9 a i hi,bf,<-e,Int.mul_assoc];rw[bj,zn,aZ,aZ]at e7;omega
  rw[aa (by omega)]
  have ei:i=a.length:=by omega
  subst ei;rw[ar (ai _)]at e;exact⟨l,rfl,hl,hd,e⟩
def qe2 {N:Nat}{a b:List Int}(ha:Dg E9 a) (hb:Dg E9 b) (hal:a.length<=10000) (hbl:b.length<=10000) (hN:a.length+b.length<N):yC N a b=some (dg E9 (dv E9 a*dv E9 b)):=by
 unfold yC;rw[show(a.length:Int)+(b.length:Int)=((a.length+b.length:Nat):Int)by omega,qg (by omega) (by omega),qca (by omega),ZB];obtain⟨l,e,h1,h2,h3⟩:=qo1 ha hb hal hbl (N:=N) (by omega) N 0 (List.replicate (a.length+b.length) 0) (by omega) (by omega) (by simp) (Uk E0 _) (λm z _ h=>qiO m z h) (by rw[qaM];simp[dv]);have e:jy N a b N (List.replicate (a.length+b.length) 0) 0=some l:=e;rw[e,ZB,qdQ h2 (by omega) (by omega),ZB,h3]
def qjP (l:List Int) {i:Nat}(h:i<l.length):dv E9 (l.drop i)=l[i]+E9*dv E9 (l.drop (i+1)):=by
 rw[YG h,zF]
def qmc {l:List Int}{k:Nat}{v:Int}(hk:k<l.length) (h:∀(i:Nat) x,i<=k->l[i]? =some x->x=0):dv E9 (l.set k v)=dv E9 l+E9^k*v:=by
 rw[qbR E9 l k v hk,h k l[k] (ai _) (Ya hk),dT]
def qoU {a:List Int}(ha:Dg E9 a) (hal:a.length<=20000) {d:Int}(d0:0<d) (d1:d<1000000000):∀(K i:Nat) (l:List Int) (r:Int),i<=a.length->i<K->l.length=a.length->Dg E9 l->(∀(m:Nat) x,m<i->l[m]? =some x->x=0)->dv E9 l=E9^i*(dv E9 (a.drop i)/d)->r=dv E9 (a.drop i)%d->
 ∃l',jR a d K l r ((i:Int)-1)=some (l',dv E9 a%d)/\l'.length=a.length/\Dg E9 l'/\dv E9 l'=dv E9 a/d
 |0,i,l,r,h,hK,_,_,_,_,_=>by omega
 |K+1,0,l,r,h,hK,hl,hd,hz,e,er=>by
  rw[YR]at e er;rw[jR,aa (by omega),er];exact⟨l,rfl,hl,hd,by rw[e];simp⟩
 |K+1,i+1,l,r,h,hK,hl,hd,hz,e,er=>by
  have hi:i<a.length:=by omega
  have hil:i<l.length:=by omega
  have ax:=ha.at hi;have ax2:a[i]<1000000000:=ax.2
  have r0:0<=r:=by rw[er];exact aJ _ (by omega)
  have r1:r<d:=by rw[er];exact aE _ d0
  have ei:((i+1:Nat):Int)-1=(i:Int):=by omega
  have hr1:r*1000000000<=999999998*1000000000:=aI (by omega) (by omega);have q0:0<=(r*1000000000+a[i])/d:=aV (by omega) (by omega)
  have q1:(r*1000000000+a[i])/d<1000000000:=by
   rw[Yu d0];have:(r+1)*1000000000<=d*1000000000:=aI (by omega) (by omega);rw[aK 1000000000];omega
  have hq:qdh .i64 (r*1000000000+a[i]) d=some ((r*1000000000+a[i])/d):=by
   unfold qdh;rw[aa (by omega),YF (by omega)];show some (w64 _)=_;rw[qg (by omega) (by omega)]
  have hm:qfo .i64 (r*1000000000+a[i]) d=some ((r*1000000000+a[i])%d):=by
   unfold qfo;rw[aa (by omega),bw (by omega)]
  rw[jR,ei,ae (by omega),qf,Ya hi,ZB,qg (n:=r*1000000000) (by omega) (by omega),qg (n:=r*1000000000+a[i]) (by omega) (by omega),hq,ZB,qf,Ya hil,ZB,jr hil,ZB,hm,ZB,qg (by omega) (by omega)]
  have ed:dv E9 (a.drop i)=r*1000000000+a[i]+d*(dv E9 (a.drop (i+1))/d*1000000000):=by
   have h1:=aH (dv E9 (a.drop (i+1))) d;rw[<-er]at h1;rw[qjP a hi,<-Int.mul_assoc];have e9:E9*dv E9 (a.drop (i+1))=1000000000*dv E9 (a.drop (i+1)):=rfl;rw[e9];generalize d*(dv E9 (a.drop (i+1))/d)=m at*;omega
  refine qoU ha hal d0 d1 K i _ _ (by omega) (by omega) (by rw[Yk];exact hl) (hd.set ⟨q0,q1⟩) (λm x hm hx=>?_) ?_ ?_
  ·rw[Yw (by omega)]at hx;exact hz m x (by omega) hx
  ·rw[qmc hil (λm x hm hx=>hz m x (by omega) hx),e,ed,cZ _ _ (by omega),aL,Int.mul_assoc,<-Int.mul_add];congr 1;have e9:E9*(dv E9 (a.drop (i+1))/d)=1000000000*(dv E9 (a.drop (i+1))/d):=rfl;rw[e9];omega
  rw[ed,bF]
def qh6 {N:Nat}{a:List Int}(ha:Dg E9 a) (hal:a.length<=20000) (hN:a.length<N) {d:Int}(d0:0<d) (d1:d<1000000000):qae N a d=some (dg E9 (dv E9 a/d),dv E9 a%d):=by
 unfold qae;rw[qca (by omega),ZB,qg (by omega) (by omega)];obtain⟨l,e,h1,h2,h3⟩:=qoU ha hal d0 d1 N a.length (List.replicate a.length 0) 0 (ai _) (by omega) (by simp) (Uk E0 _) (λm x _ hx=>qiO m x hx) (by rw[qaM,aB (ai _),zn];simp) (by rw[aB (ai _),zn];simp);rw[e,ZB];simp only;rw[qdQ h2 (by omega) (by omega),ZB,h3]
def qeO {p u t:List Int}{m i:Nat}(hi:i<u.length) (hm:u.length<=m):qgP (p++(u++t)) p.length m (i:Int)=some u[i]:=by
 unfold qgP;rw[ae (by omega),aU,qf,Yo (by omega),eA,Yf hi,Ya hi]
def qiq {p u t:List Int}{i:Nat}(hi:i<u.length) (x:Int):put (p++(u++t)) ((p.length+((i:Nat):Int).toNat:Nat):Int) x=some (p++(u.set i x++t)):=by
 rw[aU,jr (by simp;omega)];congr 1;rw[cY _ _ (by omega),eA,bO _ _ hi]
def qrU {p r x:Int}(hp:0<=p) (hx:0<=x/\x<18446744073709551616):(if p/18446744073709551616<r then some true else if p/18446744073709551616=r then some (decide (p%18446744073709551616<=x))else some false:Option Bool)=some (decide (p<=r*18446744073709551616+x)):=by
 have h1:=aH p 18446744073709551616;have h2:=aJ p (show(18446744073709551616:Int)≠0 by decide);have h3:=aE p (show(0:Int)<18446744073709551616 by decide);by_cases a:p/18446744073709551616<r
 ·rw[ae a,ap (by omega)]
 rw[aa a];by_cases b:p/18446744073709551616=r
 ·rw[ae b];congr 1;exact decide_eq_decide.2 (by omega)
 rw[aa b,ak (by omega)]
def qmu {p u t v:List Int}{k:Nat}(hv:Dg W v) (hvl:v.length=k+2) (hk:k<=10000) (hu:Dg W u) (hul:u.length=k+3) {T v1 v2 u2 Q:Int}(e1:v[k+1]'(by omega)=v1) (e2:v[k]'(by omega)=v2) (e3:u[k]'(by omega)=u2) (hQ:Q*(v1*18446744073709551616+v2)<=T*18446744073709551616+u2) (hQ0:0<=Q) (hn:9223372036854775808<=v1):∀(K:Nat) (q r o:Int),Q<=q->q<18446744073709551616->0<=r->r<18446744073709551616->(o=0\/o=1)->r+o*18446744073709551616=T-q*v1->18446744073709551616<=r+o*18446744073709551616+K*v1->
 ∃q',qan (p++(u++t)) p.length (k+3) v (K+1) q r o=some q'/\Q<=q'/\q'<18446744073709551616/\q'*(v1*18446744073709551616+v2)<=T*18446744073709551616+u2
 |K,q,r,o,h1,h2,h3,h4,h5,h6,h7=>by
  have a1:=hv.at (show k+1<v.length by omega);have a2:=hv.at (show k<v.length by omega);have a3:=hu.at (show k<u.length by omega);rw[e1]at a1;rw[e2]at a2;rw[e3]at a3;unfold W at a1 a2 a3
  have hq0:0<=q:=by omega
  have hp0:0<=q*v2:=Yv hq0 a2.1;have hp1:q*v2<=18446744073709551615*18446744073709551615:=bU (by omega) (by omega) a2.1 (by omega)
  have ed:q*(v1*18446744073709551616+v2)=q*v1*18446744073709551616+q*v2:=by rw[Int.mul_add,Int.mul_assoc]
  rw[qan];rcases h5 with rfl|rfl
  ·have ek:w64 ((v.length:Int)-2)=(k:Int):=by rw[qg (by omega) (by omega)];omega
   have ek1:w64 ((v.length:Int)-1)=((k+1:Nat):Int):=by rw[qg (by omega) (by omega)];omega
   rw[ae rfl,ek,qf,Ya (show k<v.length by omega),e2,ZB,qg5 ⟨hq0,h2⟩ a2,ZB,qeO (show k<u.length by omega) (by omega),e3];simp only[ZB];rw[qrU hp0 a3,ZB];by_cases c:q*v2<=r*18446744073709551616+u2
   ·rw[ap c,ae rfl];exact⟨q,rfl,h1,h2,by rw[ed];omega⟩
   rw[ak c,aa (by simp),ek1,qf,Ya (show k+1<v.length by omega),e1,ZB]
   have ea:qaV r v1 0=some ((r+v1)%18446744073709551616,(r+v1)/18446744073709551616):=by
    unfold qaV;rw[ae (by omega),bc]
   have hlt:Q<=q-1:=by
    rcases cw Q q with h|h
    ·omega
    have e:q=Q:=by omega
    subst e;rw[ed]at hQ;omega
   have hm1:(q-1)*v1=q*v1-v1:=by rw[Int.sub_mul,bJ]
   rw[ea,ZB,yM (by omega) (by omega)]
   match K,h7 with
   |0,h7=>omega
   |K+1,h7=>
    have eK:((K+1:Nat):Int)*v1=K*v1+v1:=by rw[cX,bf];simp
    exact qmu hv hvl hk hu hul e1 e2 e3 hQ hQ0 hn K (q-1) _ _ hlt (by omega) (by omega) (by omega) (by omega) (by rw[hm1];omega) (by omega)
  rw[aa (by omega)];refine⟨q,rfl,h1,h2,?_⟩;rw[ed];omega
def qn2 {v:List Int}(hv:Dg W v) (hvl:v.length<=10000) {q:Int}(hq:0<=q/\q<18446744073709551616) {p t:List Int}(hpl:p.length<=100000) {m:Nat}:∀(K i:Nat) (u:List Int) (b c:Int),i<=v.length->v.length<K+i->u.length=v.length+1->u.length<=m->Dg W u->0<=b->b<=1->0<=c->c<18446744073709551616->
 ∃u' b' c',y9 p.length m v q K (p++(u++t)) (i:Int) b c=some (p++(u'++t),b',c')/\u'.length=v.length+1/\Dg W u'/\u'[v.length]? =u[v.length]? /\0<=b'/\b'<=1/\0<=c'/\c'<18446744073709551616/\dv W u'+q*dv W v=dv W u+q*dv W (v.take i)-W^i*(b+c)+W^v.length*(b'+c')
 |0,i,u,b,c,h,hK,_,_,_,_,_,_,_=>by omega
 |K+1,i,u,b,c,h,hK,hul,hum,hu,b0,b1,c0,c1=>by
  rw[y9];by_cases hi:i<v.length
  ·have av:=hv.at hi
   have hiu:i<u.length:=by omega
   have au:=hu.at hiu;unfold W at av au;have hp0:0<=q*v[i]:=Yv hq.1 av.1;have hp1:q*v[i]<=18446744073709551615*18446744073709551615:=bU (by omega) (by omega) av.1 (by omega);rw[ae (by omega),qf,Ya hi,ZB,qg5 hq av,ZB];generalize hp:q*v[i]=x at*
   have ea:qaV (x%18446744073709551616) c 0=some ((x%18446744073709551616+c)%18446744073709551616,(x%18446744073709551616+c)/18446744073709551616):=by
    unfold qaV;rw[ae (by omega),bc]
   rw[ea,ZB,qeO hiu hum,ZB]
   have es:qfC u[i] ((x%18446744073709551616+c)%18446744073709551616) b=some ((u[i]-(x%18446744073709551616+c)%18446744073709551616-b)%18446744073709551616,if u[i]<(x%18446744073709551616+c)%18446744073709551616+b then 1 else 0):=by
    unfold qfC;rw[ae (by omega)]
   simp only;rw[es,ZB,qiq hiu,ZB,qm (by omega)]
   have hc:wrap .u64 (x/18446744073709551616+(x%18446744073709551616+c)/18446744073709551616)=(x+c)/18446744073709551616:=by
    rw[yM (by omega) (by omega)];omega
   have hlo:(x%18446744073709551616+c)%18446744073709551616=(x+c)%18446744073709551616:=by omega
   simp only;rw[hc,hlo];have hxc:=aH (x+c) 18446744073709551616;have m0:=aJ (x+c) (show(18446744073709551616:Int)≠0 by decide);have m1:=aE (x+c) (show(0:Int)<18446744073709551616 by decide)
   have k0:0<=(x+c)/18446744073709551616:=by omega
   have k1:(x+c)/18446744073709551616<18446744073709551616:=by omega
   generalize (x+c)/18446744073709551616=c2 at*;generalize (x+c)%18446744073709551616=lo at*
   have hs:(u[i]-lo-b)%18446744073709551616=u[i]-lo-b+18446744073709551616*(if u[i]<lo+b then 1 else 0):=by split<;>omega
   have n0:=aJ (u[i]-lo-b) (show(18446744073709551616:Int)≠0 by decide);have n1:=aE (u[i]-lo-b) (show(0:Int)<18446744073709551616 by decide)
   have q2:(0:Int)<=(if u[i]<lo+b then 1 else 0)/\(if u[i]<lo+b then(1:Int)else 0)<=1:=by split<;>omega
   generalize (if u[i]<lo+b then(1:Int)else 0)=b2 at*;generalize (u[i]-lo-b)%18446744073709551616=un at*;obtain⟨u',b',c',f1,f2,f3,f4,f5,f6,f7,f8,f9⟩:=qn2 hv hvl hq hpl K (i+1) (u.set i un) b2 c2 (by omega) (by omega) (by rw[Yk];exact hul) (by rw[Yk];exact hum) (hu.set ⟨n0,n1⟩) q2.1 q2.2 k0 k1;refine⟨u',b',c',f1,f2,f3,by rw[f4,Yw (by omega)],f5,f6,f7,f8,?_⟩;rw[f9,qbR W u i un hiu,ql W v i hi,Int.mul_add q,<-Int.mul_assoc q,aK q (W^i),Int.mul_assoc (W^i) q,hp,aL,Int.mul_assoc (W^i) W]
   have e5:W^i*(un-u[i])+W^i*x-W^i*(W*(b2+c2))= -(W^i*(b+c)):=by
    rw[<-Int.mul_add,<-Int.mul_sub,<-Int.mul_neg];congr 1;unfold W;omega
   omega
  rw[aa (by omega)]
  have ei:i=v.length:=by omega
  subst ei;rw[ar (ai _)];exact⟨u,b,c,rfl,hul,hu,rfl,b0,b1,c0,c1,by omega⟩
def qoj {v:List Int}(hv:Dg W v) (hvl:v.length<=10000) {p t:List Int}(hpl:p.length<=100000) {m:Nat}:∀(K i:Nat) (u:List Int) (c:Int),i<=v.length->v.length<K+i->u.length=v.length+1->u.length<=m->Dg W u->0<=c->c<=1->
 ∃u' c',xm p.length m v K (p++(u++t)) (i:Int) c=some (p++(u'++t),c')/\u'.length=v.length+1/\Dg W u'/\u'[v.length]? =u[v.length]? /\0<=c'/\c'<=1/\dv W u'+W^v.length*c'=dv W u+dv W v-dv W (v.take i)+W^i*c
 |0,i,u,c,h,hK,_,_,_,_,_=>by omega
 |K+1,i,u,c,h,hK,hul,hum,hu,c0,c1=>by
  rw[xm];by_cases hi:i<v.length
  ·have av:=hv.at hi
   have hiu:i<u.length:=by omega
   have au:=hu.at hiu;unfold W at av au;rw[ae (by omega),qeO hiu hum,ZB,qf,Ya hi,ZB]
   have ea:qaV u[i] v[i] c=some ((u[i]+v[i]+c)%18446744073709551616,(u[i]+v[i]+c)/18446744073709551616):=by
    unfold qaV;rw[ae (by omega)]
   rw[ea,ZB,qiq hiu,ZB,qm (by omega)];have hs:=aH (u[i]+v[i]+c) 18446744073709551616;have m0:=aJ (u[i]+v[i]+c) (show(18446744073709551616:Int)≠0 by decide);have m1:=aE (u[i]+v[i]+c) (show(0:Int)<18446744073709551616 by decide)
   have k0:0<=(u[i]+v[i]+c)/18446744073709551616/\(u[i]+v[i]+c)/18446744073709551616<=1:=by omega
   simp only;generalize (u[i]+v[i]+c)/18446744073709551616=c2 at*;generalize (u[i]+v[i]+c)%18446744073709551616=un at*;obtain⟨u',c',f1,f2,f3,f4,f5,f6,f7⟩:=qoj hv hvl hpl K (i+1) (u.set i un) c2 (by omega) (by omega) (by rw[Yk];exact hul) (by rw[Yk];exact hum) (hu.set ⟨m0,m1⟩) k0.1 k0.2;refine⟨u',c',f1,f2,f3,by rw[f4,Yw (by omega)],f5,f6,?_⟩;rw[f7,qbR W u i un hiu,ql W v i hi,aL,Int.mul_assoc (W^i) W]
   have e5:W^i*(un-u[i])-W^i*v[i]+W^i*(W*c2)=W^i*c:=by
    rw[<-Int.mul_sub,<-Int.mul_add];congr 1;unfold W;omega
   omega
  rw[aa (by omega)]
  have ei:i=v.length:=by omega
  subst ei;rw[ar (ai _)];exact⟨u,c,rfl,hul,hu,rfl,c0,c1,by omega⟩
def qmg {P ulo vlo T3 V2 U V Q q v1 v2:Int}(hP:0<P) (eU:U=ulo+P*T3) (eV:V=vlo+P*V2) (hu:0<=ulo/\ulo<P) (hv:0<=vlo/\vlo<P) (e2:V2=v1*18446744073709551616+v2) (h1:1<=v1) (h2:0<=v2) (hU:0<=U) (eQ:Q=U/V):0<V/\Q*V2<=T3/\(0<=q->q<18446744073709551616->q*V2<=T3->q<=Q+1):=by
 have hPW:P*18446744073709551616<=P*V2:=Yc (by omega) (by omega)
 have hV:0<V:=by omega
 have q0:0<=Q:=by rw[eQ];exact aV hU (by omega)
 have q1:Q*V<=U:=by rw[eQ];exact eI U (by omega)
 have q2:U<(Q+1)*V:=by
  rw[eQ];exact gg U hV
 refine⟨hV,?_,λa b c=>?_⟩
 ·rcases cw T3 (Q*V2)with h|h
  ·exfalso;have a1:P*(T3+1)<=P*(Q*V2):=Yc (by omega) (by omega)
   have a2:P*(Q*V2)<=Q*V:=by
    rw[eV,Int.mul_add]
    have:P*(Q*V2)=Q*(P*V2):=by rw[<-Int.mul_assoc,aK P Q,Int.mul_assoc]
    have:=Yv q0 hv.1;omega
   rw[Int.mul_add,bY]at a1;omega
  exact h
 have a1:q*V=q*vlo+P*(q*V2):=by
  rw[eV,Int.mul_add];congr 1;rw[<-Int.mul_assoc,aK q P,Int.mul_assoc]
 have a2:P*(q*V2)<=P*T3:=Yc c (by omega);have a3:q*vlo<=18446744073709551615*P:=bU (by omega) (by omega) hv.1 (by omega)
 have a4:q*V<(Q+2)*V:=by
  rw[bf];rw[bf]at q2;omega
 have:=d8 a4 (by omega);omega
def qsJ {N:Nat}(hN:11000<N) {p u t v:List Int}{k c:Nat}(hv:Dg W v) (hvl:v.length=k+2) (hk:k<=9000) (hu:Dg W u) (hul:u.length=k+3) (hpl:p.length<=100000) (hn:9223372036854775808<=v[k+1]'(by omega)) (hlt:dv W u<18446744073709551616*dv W v):
 ∃u',qcZ N (p++(u++t)) p.length (k+3) c v=some (p++(u'++t),dv W u/dv W v)/\u'.length=k+3/\Dg W u'/\dv W u'=dv W u%dv W v:=by
 have a1:=hv.at (show k+1<v.length by omega);have a2:=hv.at (show k<v.length by omega);have b0:=hu.at (show k+2<u.length by omega);have b1:=hu.at (show k+1<u.length by omega);have b2:=hu.at (show k<u.length by omega)
 have eV:dv W v=dv W (v.take k)+W^k*(v[k+1]*18446744073709551616+v[k]):=by
  have e1:=ql W v (k+1) (by omega);have e2:=ql W v k (by omega);rw[ar (by omega),e2,aL,Int.mul_assoc]at e1;rw[e1,Int.mul_add,aK v[k+1]];show _=_+(W^k*(W*v[k+1])+_);omega
 have eU:dv W u=dv W (u.take k)+W^k*((u[k+2]*18446744073709551616+u[k+1])*18446744073709551616+u[k]):=by
  have e0:=ql W u (k+2) (by omega);have e1:=ql W u (k+1) (by omega);have e2:=ql W u k (by omega);have p1:W^(k+1)=W^k*W:=aL _ _
  have p2:W^(k+2)=W^k*W*W:=by rw[<-p1];exact aL _ _
  rw[ar (by omega),e1,e2,p2,p1]at e0
  have e3:(u[k+2]*18446744073709551616+u[k+1])*18446744073709551616+u[k]=u[k]+W*u[k+1]+W*(W*u[k+2]):=by unfold W;omega
  rw[e0,e3,Int.mul_add,Int.mul_add];simp only[Int.mul_assoc];omega
 have vlo0:=qz W0 (hv.take k);have vlo1:=qab W0 (hv.take k);have ulo0:=qz W0 (hu.take k);have ulo1:=qab W0 (hu.take k);rw[Ym,aX (by omega)]at vlo1 ulo1;have U0:=qz W0 hu;have hP:=pow_pos W0 k
 have DF:=λq=>qmg (q:=q) hP eU eV ⟨ulo0,ulo1⟩ ⟨vlo0,vlo1⟩ rfl (by omega) a2.1 U0 rfl
 have V0:=(DF 0).1;have hQ0:0<=dv W u/dv W v:=aV U0 (by omega)
 have hQ1:dv W u/dv W v<18446744073709551616:=by rw[Yu V0];exact hlt
 have hQ2:=(DF 0).2.1;generalize hQ:dv W u/dv W v=Q at*;unfold W at a1 a2 b0 b1 b2
 have ek:w64 ((v.length:Int)-1)=((k+1:Nat):Int):=by rw[qg (by omega) (by omega)];omega
 have el:(v.length:Int)=((k+2:Nat):Int):=by rw[hvl]
 unfold qcZ;rw[ek,el,qeO (show k+2<u.length by omega) (by omega),ZB,qf,Ya (show k+1<v.length by omega),ZB,qeO (show k+1<u.length by omega) (by omega)];simp only[ZB]
 have G:∃q r o:Int,(if u[k+2]>=v[k+1]then(qaV u[k+1] v[k+1] 0).bind λr11=>some (18446744073709551615,r11.1,r11.2)else(qbY N u[k+2] u[k+1] v[k+1]).bind λr14=>some (r14.1,r14.2,0):Option (Int×Int×Int))=some (q,r,o)/\Q<=q/\q<18446744073709551616/\0<=r/\r<18446744073709551616/\(o=0\/o=1)/\r+o*18446744073709551616=(u[k+2]*18446744073709551616+u[k+1])-q*v[k+1]:=by
  by_cases h:u[k+2]>=v[k+1]
  ·have he:u[k+2]=v[k+1]:=by
    rcases cw v[k+1] u[k+2]with g|g
    ·exfalso;have g1:W^k*((v[k+1]*18446744073709551616+v[k]+1)*18446744073709551616)<=W^k*((u[k+2]*18446744073709551616+u[k+1])*18446744073709551616+u[k]):=Yc (by omega) (by omega);rw[<-Int.mul_assoc,Int.mul_add (W^k) _ 1]at g1;omega
    omega
   have ea:qaV u[k+1] v[k+1] 0=some ((u[k+1]+v[k+1])%18446744073709551616,(u[k+1]+v[k+1])/18446744073709551616):=by
    unfold qaV;rw[ae (by omega),bc]
   rw[ae h,ea,ZB];exact⟨_,_,_,rfl,by omega,by omega,by omega,by omega,by omega,by omega⟩
  rw[aa h,qlY (by omega) b0.1 (by omega) a1.2 b1,ZB];have d1:=aH (u[k+2]*18446744073709551616+u[k+1]) v[k+1];have d2:=aJ (u[k+2]*18446744073709551616+u[k+1]) (show v[k+1]≠0 by omega);have d3:=aE (u[k+2]*18446744073709551616+u[k+1]) (show 0<v[k+1]by omega)
  have d4:(u[k+2]*18446744073709551616+u[k+1])/v[k+1]<18446744073709551616:=by
   rw[Yu (by omega)];omega
  refine⟨_,_,_,rfl,?_,d4,d2,by omega,.inl rfl,by rw[aK (_/_)];omega⟩;rw[bX (by omega)]
  have e:Q*(v[k+1]*18446744073709551616+v[k])=Q*v[k+1]*18446744073709551616+Q*v[k]:=by rw[Int.mul_add,Int.mul_assoc]
  have:=Yv hQ0 a2.1;omega
 obtain⟨q,r,o,e,g1,g2,g3,g4,g5,g6⟩:=G;rw[e,ZB];simp only;obtain⟨K,rfl⟩:∃K,N=K+1:=⟨N-1,by omega⟩
 have hKv:(18446744073709551616:Int)<=r+o*18446744073709551616+K*v[k+1]:=by
  have:(2:Int)*v[k+1]<=K*v[k+1]:=aI (by omega) (by omega);omega
 obtain⟨q',f1,f2,f3,f4⟩:=qmu (p:=p) (t:=t) hv hvl (by omega) hu hul rfl rfl rfl hQ2 hQ0 hn K q r o g1 g2 g3 g4 g5 g6 hKv;rw[f1,ZB];have hle:=(DF q').2.2 (by omega) f3 f4;obtain⟨u',b',c',m1,m2,m3,m4,m5,m6,m7,m8,m9⟩:=qn2 hv (by omega) (q:=q') ⟨by omega,f3⟩ (p:=p) (t:=t) hpl (m:=k+3) (K+1) 0 u 0 0 (by omega) (by omega) (by omega) (by omega) hu (by omega) (by omega) (by omega) (by omega);have m1:y9 p.length (k+3) v q' (K+1) (p++(u++t)) 0 0 0=some (p++(u'++t),b',c'):=m1;rw[m1,ZB];simp only
 have hku':k+2<u'.length:=by omega
 have eu:u'[k+2]=u[k+2]:=by
  rw[hvl,Ya hku',Ya (show k+2<u.length by omega)]at m4;injection m4
 have es:qfC u'[k+2] c' b'=some ((u'[k+2]-c'-b')%18446744073709551616,if u'[k+2]<c'+b' then 1 else 0):=by
  unfold qfC;rw[ae (by omega)]
 rw[qeO hku' (by omega),ZB,es,ZB,qiq hku',ZB];simp only;have n0:=aJ (u'[k+2]-c'-b') (show(18446744073709551616:Int)≠0 by decide);have n1:=aE (u'[k+2]-c'-b') (show(0:Int)<18446744073709551616 by decide)
 have hs:(u'[k+2]-c'-b')%18446744073709551616=u'[k+2]-c'-b'+18446744073709551616*(if u'[k+2]<c'+b' then 1 else 0):=by split<;>omega
 have hset:=qbR W u' (k+2) ((u'[k+2]-c'-b')%18446744073709551616) hku';have dset:Dg W (u'.set (k+2) ((u'[k+2]-c'-b')%18446744073709551616)):=m3.set ⟨n0,n1⟩
 have lset:(u'.set (k+2) ((u'[k+2]-c'-b')%18446744073709551616)).length=k+3:=by rw[Yk];omega
 have bset:=qab W0 dset;have bset0:=qz W0 dset;rw[lset]at bset;rw[bj,zn,aZ,hvl]at m9;simp only[cI]at m9;have hWk:W^(k+3)=W^(k+2)*18446744073709551616:=aL _ _
 have tot:dv W (u'.set (k+2) ((u'[k+2]-c'-b')%18446744073709551616))=dv W u-q'*dv W v+W^(k+3)*(if u'[k+2]<c'+b' then 1 else 0):=by
  rw[hset,hs,hWk,Int.mul_assoc]
  have e5:W^(k+2)*(u'[k+2]-c'-b'+18446744073709551616*(if u'[k+2]<c'+b' then 1 else 0)-u'[k+2])=W^(k+2)*(18446744073709551616*(if u'[k+2]<c'+b' then 1 else 0))-W^(k+2)*(b'+c'):=by
   rw[<-Int.mul_sub];congr 1;omega
  rw[e5];omega
 generalize u'.set (k+2) ((u'[k+2]-c'-b')%18446744073709551616)=u2 at*
 have hmod:dv W u%dv W v=dv W u-Q*dv W v:=by rw[<-hQ,fI,aK]
 have hm0:=aJ (dv W u) (show dv W v≠0 by omega);have hm1:=aE (dv W u) V0
 have hVk:dv W v<W^(k+2):=by have:=qab W0 hv;rw[hvl]at this;exact this
 have hPk:=pow_pos W0 (k+2);by_cases hq:q'=Q
 ·subst hq
  have hb:¬u'[k+2]<c'+b':=by
   intro h;rw[ae h,bY]at tot;omega
  rw[aa hb]at tot;rw[aa hb,ae rfl];exact⟨u2,rfl,lset,dset,by omega⟩
 have hq1:q'=Q+1:=by omega
 have hqm:q'*dv W v=Q*dv W v+dv W v:=by rw[hq1,bf,bJ]
 have hb:u'[k+2]<c'+b':=by
  rcases cw u'[k+2] (c'+b')with h|h
  ·exact h
  rw[aa (by omega)]at tot;omega
 rw[ae hb]at tot;rw[ae hb,aa (by omega)];obtain⟨u3,c3,a1',a2',a3',a4',a5',a6',a7'⟩:=qoj hv (by omega) (p:=p) (t:=t) hpl (m:=k+3) (K+1) 0 u2 0 (by omega) (by omega) (by omega) (by omega) dset (by omega) (by omega);have a1':xm p.length (k+3) v (K+1) (p++(u2++t)) 0 0=some (p++(u3++t),c3):=a1'
 have hk3:k+2<u3.length:=by omega
 rw[a1',ZB];simp only;rw[qeO hk3 (by omega),ZB,qiq hk3,ZB,wu,yM (n:=q'-1) (by omega) (by omega)];have au:=a3'.at hk3;unfold W at au;have r0:=aJ (u3[k+2]+c3) (show(18446744073709551616:Int)≠0 by decide);have r1:=aE (u3[k+2]+c3) (show(0:Int)<18446744073709551616 by decide);refine⟨_,by rw[hq1,Int.add_sub_cancel],by rw[Yk];omega,a3'.set ⟨r0,r1⟩,?_⟩;have dfin:=qbR W u3 (k+2) ((u3[k+2]+c3)%18446744073709551616) hk3;have dd:Dg W (u3.set (k+2) ((u3[k+2]+c3)%18446744073709551616)):=a3'.set ⟨r0,r1⟩;have l1:=qab W0 dd;have l0:=qz W0 dd;rw[Yk,a2',hvl]at l1;have l1:_<W^(k+3):=l1;rw[bj,zn,hvl]at a7';simp only[cI]at a7'
 have hd:(u3[k+2]+c3)%18446744073709551616=u3[k+2]+c3-18446744073709551616*((u3[k+2]+c3)/18446744073709551616):=by omega
 have hd1:0<=(u3[k+2]+c3)/18446744073709551616/\(u3[k+2]+c3)/18446744073709551616<=1:=by omega
 have e6:W^(k+2)*((u3[k+2]+c3)%18446744073709551616-u3[k+2])=W^(k+2)*c3-W^(k+3)*((u3[k+2]+c3)/18446744073709551616):=by
  rw[hWk,Int.mul_assoc,<-Int.mul_sub];congr 1;omega
 rw[dfin]at l0 l1⊢;rw[e6]at l0 l1⊢;generalize (u3[k+2]+c3)/18446744073709551616=z at*;rcases(show z=0\/z=1 by omega)with rfl|rfl<;>omega
def e9m (x:Int):E9*x=1000000000*x:=rfl
def qc0 {p u t:List Int}{i:Nat}(hi:i<u.length):idx (p++(u++t)) ((i+p.length:Nat):Int)=some u[i]:=by
 rw[qf,Yo (by omega),Nat.add_sub_cancel,Yf hi,Ya hi]
def qfs {p u t:List Int}{i:Nat}(hi:i<u.length) (x:Int):put (p++(u++t)) ((i+p.length:Nat):Int) x=some (p++(u.set i x++t)):=by
 rw[jr (by simp;omega)];congr 1;rw[cY _ _ (by omega),Nat.add_sub_cancel,bO _ _ hi]
def qjL {i j:Nat}(hi:i<=100000) (hj:j<=100000):w64 ((i:Int)+(j:Int))=((i+j:Nat):Int):=by rw[qg (by omega) (by omega)];omega
def qkp {p u t v:List Int}{k:Nat}(hv:Dg E9 v) (hvl:v.length=k+2) (hk:k<=10000) (hu:Dg E9 u) (hul:u.length=k+3) (hpl:p.length<=50000) {T v1 v2 u2 Q:Int}(e1:v[k+1]'(by omega)=v1) (e2:v[k]'(by omega)=v2) (e3:u[k]'(by omega)=u2) (hT:T<=v1*1000000000+999999999) (hQ:Q*(v1*1000000000+v2)<=T*1000000000+u2) (hQ0:0<=Q) (hQ1:Q<1000000000) (hn:1<=v1):∀(K:Nat) (q r:Int),Q<=q->q<=4000000000->0<=r->r<1000000000->r=T-q*v1->1000000000<=r+K*v1->
 ∃q',(xq (p++(u++t)) v (p.length:Int) K r q=some (.inl q')\/xq (p++(u++t)) v (p.length:Int) K r q=some (.inr q'))/\Q<=q'/\q'<1000000000/\q'*(v1*1000000000+v2)<=T*1000000000+u2
 |0,q,r,h1,h2,h3,h4,h6,h7=>by simp at h7;omega
 |K+1,q,r,h1,h2,h3,h4,h6,h7=>by
  have a1:=hv.at (show k+1<v.length by omega);have a2:=hv.at (show k<v.length by omega);have a3:=hu.at (show k<u.length by omega);rw[e1]at a1;rw[e2]at a2;rw[e3]at a3;have b1:v1<1000000000:=a1.2;have b2:v2<1000000000:=a2.2;have b3:u2<1000000000:=a3.2
  have hq0:0<=q:=by omega
  have hp0:0<=q*v2:=Yv hq0 a2.1
  have ed:∀q:Int,q*(v1*1000000000+v2)=q*v1*1000000000+q*v2:=λq=>by rw[Int.mul_add,Int.mul_assoc]
  have ek:w64 ((v.length:Int)-2)=(k:Int):=by rw[qg (by omega) (by omega)];omega
  have ek1:w64 ((v.length:Int)-1)=((k+1:Nat):Int):=by rw[qg (by omega) (by omega)];omega
  have eku:w64 (w64 ((p.length:Int)+(v.length:Int))-2)=((k+p.length:Nat):Int):=by
   rw[qjL (by omega) (by omega),qg (by omega) (by omega)];omega
  have cond:(if q>=1000000000 then some true else(idx v (w64 ((v.length:Int)-2))).bind λx12=>(idx (p++(u++t)) (w64 ((w64 ((p.length:Int)+(v.length:Int)))-2))).bind λx13=>some (decide ((w64 (q*x12))>(w64 ((w64 (r*1000000000))+x13)))):Option Bool)=some (decide (q>=1000000000\/q*v2>r*1000000000+u2)):=by
   by_cases c:q>=1000000000
   ·rw[ae c,ap (.inl c)]
   have hp1:q*v2<=999999999*999999999:=bU (by omega) (by omega) a2.1 (by omega);rw[aa c,ek,qf,Ya (show k<v.length by omega),e2,ZB,eku,qc0 (show k<u.length by omega),e3,ZB,qg (n:=q*v2) (by omega) (by omega),qg (n:=r*1000000000) (by omega) (by omega),qg (by omega) (by omega)];congr 1;exact decide_eq_decide.2 (by omega)
  rw[xq,cond,ZB];by_cases c:q>=1000000000\/q*v2>r*1000000000+u2
  ·have hm1:(q-1)*v1=q*v1-v1:=by rw[Int.sub_mul,bJ]
   have hlt:Q<=q-1:=by
    rcases cw Q q with h|h
    ·omega
    exfalso
    have e:q=Q:=by omega
    subst e;rw[ed]at hQ;rcases c with c|c<;>omega
   rw[ap c,ae rfl,ek1,qf,Ya (show k+1<v.length by omega),e1,ZB,qg (n:=r+v1) (by omega) (by omega),qg (n:=q-1) (by omega) (by omega)];by_cases d:r+v1>=1000000000
   ·rw[ae d]
    have hq1:q-1<1000000000:=by
     rcases cw (q-1) 1000000000 with h|h
     ·exact h
     have:v1*1000000000<=(q-1)*v1:=by rw[aK];exact aI h (by omega)
     omega
    have hp1:(q-1)*v2<=999999999*999999999:=bU (by omega) (by omega) a2.1 (by omega);refine⟨q-1,.inr rfl,hlt,hq1,?_⟩;rw[ed];omega
   rw[aa d]
   have eK:((K+1:Nat):Int)*v1=K*v1+v1:=by rw[cX,bf];simp
   exact qkp hv hvl hk hu hul hpl e1 e2 e3 hT hQ hQ0 hQ1 hn K (q-1) _ hlt (by omega) (by omega) (by omega) (by rw[hm1];omega) (by omega)
  rw[ak c,aa (by simp)];refine⟨q,.inl rfl,h1,by omega,?_⟩;rw[ed];omega
def qmd {v:List Int}(hv:Dg E9 v) (hvl:v.length<=10002) {q:Int}(hq:0<=q/\q<1000000000) {p t:List Int}(hpl:p.length<=50000):∀(K i:Nat) (u:List Int) (b:Int),i<=v.length->v.length<K+i->u.length=v.length+1->Dg E9 u->0<=b->b<=1000000000->
 ∃u' b',ku v (p.length:Int) q K (p++(u++t)) b (i:Int)=some (p++(u'++t),b')/\u'.length=v.length+1/\Dg E9 u'/\u'[v.length]? =u[v.length]? /\0<=b'/\b'<=1000000000/\dv E9 u'+q*dv E9 v=dv E9 u+q*dv E9 (v.take i)-E9^i*b+E9^v.length*b'
 |0,i,u,b,h,hK,_,_,_,_=>by omega
 |K+1,i,u,b,h,hK,hul,hu,b0,b1=>by
  rw[ku];by_cases hi:i<v.length
  ·have av:=hv.at hi
   have hiu:i<u.length:=by omega
   have au:=hu.at hiu;have av2:v[i]<1000000000:=av.2;have au2:u[i]<1000000000:=au.2;have hp0:0<=q*v[i]:=Yv hq.1 av.1;have hp1:q*v[i]<=999999999*999999999:=bU (by omega) (by omega) av.1 (by omega);rw[ae (by omega),qf,Ya hi,ZB,qjL (by omega) (by omega),qc0 hiu,ZB];generalize hp:q*v[i]=x at*;rw[qg (n:=x) (by omega) (by omega),qg (n:=x+b) (by omega) (by omega),bw (by omega),YF (by omega),qg (n:=u[i]-(x+b)%1000000000) (by omega) (by omega)];have hxc:=aH (x+b) 1000000000;have step:∀(un b2 d:Int),(0<=un/\un<1000000000)->(0<=d/\d<=1)->b2=(x+b)/1000000000+d->un=u[i]-(x+b)%1000000000+1000000000*d->
    ∃u' b',ku v (p.length:Int) q K (p++(u.set i un++t)) b2 ((i+1:Nat):Int)=some (p++(u'++t),b')/\u'.length=v.length+1/\Dg E9 u'/\u'[v.length]? =u[v.length]? /\0<=b'/\b'<=1000000000/\dv E9 u'+q*dv E9 v=dv E9 u+q*dv E9 (v.take i)-E9^i*b+E9^v.length*b':=by
    intro un b2 d hun hd eb eun;obtain⟨u',b',f1,f2,f3,f4,f5,f6,f9⟩:=qmd hv hvl hq hpl K (i+1) (u.set i un) b2 (by omega) (by omega) (by rw[Yk];exact hul) (hu.set hun) (by omega) (by omega);refine⟨u',b',f1,f2,f3,by rw[f4,Yw (by omega)],f5,f6,?_⟩;rw[f9,qbR E9 u i un hiu,ql E9 v i hi,Int.mul_add q,<-Int.mul_assoc q,aK q (E9^i),Int.mul_assoc (E9^i) q,hp,aL,Int.mul_assoc (E9^i) E9]
    have e5:E9^i*(un-u[i])+E9^i*x-E9^i*(E9*b2)= -(E9^i*b):=by
     rw[<-Int.mul_add,<-Int.mul_sub,<-Int.mul_neg];congr 1;rw[e9m];omega
    omega
   by_cases c:u[i]-(x+b)%1000000000<0
   ·rw[ae c,qg (n:=(x+b)/1000000000) (by omega) (by omega),qg (n:=(x+b)/1000000000+1) (by omega) (by omega),qg (n:=u[i]-(x+b)%1000000000+1000000000) (by omega) (by omega),ZB];simp only;rw[qfs hiu,ZB,qm (by omega)];exact step _ _ 1 (by omega) (by omega) rfl (by omega)
   rw[aa c,qg (n:=(x+b)/1000000000) (by omega) (by omega),ZB];simp only;rw[qfs hiu,ZB,qm (by omega)];exact step _ _ 0 (by omega) (by omega) (by omega) (by omega)
  rw[aa (by omega)]
  have ei:i=v.length:=by omega
  subst ei;rw[ar (ai _)];exact⟨u,b,rfl,hul,hu,rfl,b0,b1,by omega⟩
def qmz {v:List Int}(hv:Dg E9 v) (hvl:v.length<=10002) {p t:List Int}(hpl:p.length<=50000):∀(K i:Nat) (u:List Int) (y c:Int),i<=v.length->v.length<K+i->u.length=v.length->Dg E9 u->0<=c->c<=1->
 ∃u' c',zI v (p.length:Int) K (p++(u++[y]++t)) c (i:Int)=some (p++(u'++[y]++t),c')/\u'.length=v.length/\Dg E9 u'/\0<=c'/\c'<=1/\dv E9 u'+E9^v.length*c'=dv E9 u+dv E9 v-dv E9 (v.take i)+E9^i*c
 |0,i,u,y,c,h,hK,_,_,_,_=>by omega
 |K+1,i,u,y,c,h,hK,hul,hu,c0,c1=>by
  rw[zI];by_cases hi:i<v.length
  ·have av:=hv.at hi
   have hiu:i<u.length:=by omega
   have hiu2:i<(u++[y]).length:=by simp;omega
   have au:=hu.at hiu;have av2:v[i]<1000000000:=av.2;have au2:u[i]<1000000000:=au.2;have eg:(u++[y])[i]=u[i]:=List.getElem_append_left hiu;rw[ae (by omega),qjL (by omega) (by omega),qc0 hiu2,eg,ZB,qf,Ya hi,ZB,qg (n:=u[i]+v[i]) (by omega) (by omega),qg (n:=u[i]+v[i]+c) (by omega) (by omega),bw (by omega),YF (by omega),qfs hiu2,ZB,bO _ _ hiu,qg (n:=(u[i]+v[i]+c)/1000000000) (by omega) (by omega),qm (by omega)];have hs:=aH (u[i]+v[i]+c) 1000000000;have m0:=aJ (u[i]+v[i]+c) (show(1000000000:Int)≠0 by decide);have m1:=aE (u[i]+v[i]+c) (show(0:Int)<1000000000 by decide)
   have k0:0<=(u[i]+v[i]+c)/1000000000/\(u[i]+v[i]+c)/1000000000<=1:=by omega
   generalize (u[i]+v[i]+c)/1000000000=c2 at*;generalize (u[i]+v[i]+c)%1000000000=un at*;obtain⟨u',c',f1,f2,f3,f5,f6,f7⟩:=qmz hv hvl hpl K (i+1) (u.set i un) y c2 (by omega) (by omega) (by rw[Yk];exact hul) (hu.set ⟨m0,m1⟩) k0.1 k0.2;refine⟨u',c',f1,f2,f3,f5,f6,?_⟩;rw[f7,qbR E9 u i un hiu,ql E9 v i hi,aL,Int.mul_assoc (E9^i) E9]
   have e5:E9^i*(un-u[i])-E9^i*v[i]+E9^i*(E9*c2)=E9^i*c:=by
    rw[<-Int.mul_sub,<-Int.mul_add];congr 1;rw[e9m];omega
   omega
  rw[aa (by omega)]
  have ei:i=v.length:=by omega
  subst ei;rw[ar (ai _)];exact⟨u,c,rfl,hul,hu,c0,c1,by omega⟩
def qlv {P ulo vlo T3 V2 U V Q q v1 v2:Int}(hP:0<P) (eU:U=ulo+P*T3) (eV:V=vlo+P*V2) (hu:0<=ulo/\ulo<P) (hv:0<=vlo/\vlo<P) (e2:V2=v1*1000000000+v2) (h1:1<=v1) (h2:0<=v2) (hU:0<=U) (eQ:Q=U/V):0<V/\Q*V2<=T3/\(0<=q->q<1000000000->q*V2<=T3->q<=Q+1):=by
 have hPW:P*1000000000<=P*V2:=Yc (by omega) (by omega)
 have hV:0<V:=by omega
 have q0:0<=Q:=by rw[eQ];exact aV hU (by omega)
 have q1:Q*V<=U:=by rw[eQ];exact eI U (by omega)
 have q2:U<(Q+1)*V:=by
  rw[eQ];exact gg U hV
 refine⟨hV,?_,λa b c=>?_⟩
 ·rcases cw T3 (Q*V2)with h|h
  ·exfalso;have a1:P*(T3+1)<=P*(Q*V2):=Yc (by omega) (by omega)
   have a2:P*(Q*V2)<=Q*V:=by
    rw[eV,Int.mul_add]
    have:P*(Q*V2)=Q*(P*V2):=by rw[<-Int.mul_assoc,aK P Q,Int.mul_assoc]
    have:=Yv q0 hv.1;omega
   rw[Int.mul_add,bY]at a1;omega
  exact h
 have a1:q*V=q*vlo+P*(q*V2):=by
  rw[eV,Int.mul_add];congr 1;rw[<-Int.mul_assoc,aK q P,Int.mul_assoc]
 have a2:P*(q*V2)<=P*T3:=Yc c (by omega);have a3:q*vlo<=999999999*P:=bU (by omega) (by omega) hv.1 (by omega)
 have a4:q*V<(Q+2)*V:=by
  rw[bf];rw[bf]at q2;omega
 have:=d8 a4 (by omega);omega
set_option maxHeartbeats 1000000 in
def qqm {N:Nat}(hN:11000<N) {p u t v:List Int}{k:Nat}(hv:Dg E9 v) (hvl:v.length=k+2) (hk:k<=9000) (hu:Dg E9 u) (hul:u.length=k+3) (hpl:p.length<=50000) (hn:1000000<=v[k+1]'(by omega)) (hlt:dv E9 u<1000000000*dv E9 v):
 ∃u',u'.length=k+3/\Dg E9 u'/\dv E9 u'=dv E9 u%dv E9 v/\((qa8 N (p++(u++t)) v (p.length:Int)).bind λr25=>
 (ku v (p.length:Int) r25 N (p++(u++t)) 0 0).bind λ(l29,n30)=>
 (idx l29 (w64 ((p.length:Int)+(v.length:Int)))).bind λx40=>
 (put l29 (w64 ((p.length:Int)+(v.length:Int))) (w64 (x40-n30))).bind λl41=>
 (idx l41 (w64 ((p.length:Int)+(v.length:Int)))).bind λx42=>
 ((if x42<0 then
 (zI v (p.length:Int) N l41 0 0).bind λ(l50,n51)=>
 (idx l50 (w64 ((p.length:Int)+(v.length:Int)))).bind λx57=>
 (put l50 (w64 ((p.length:Int)+(v.length:Int))) (w64 (x57+n51))).bind λl58=>
 some (l58,w64 (r25-1))
 else
 some (l41,r25):Option ((List Int)×Int))))=some (p++(u'++t),dv E9 u/dv E9 v):=by
 have a1:=hv.at (show k+1<v.length by omega);have a2:=hv.at (show k<v.length by omega);have b0:=hu.at (show k+2<u.length by omega);have b1:=hu.at (show k+1<u.length by omega);have b2:=hu.at (show k<u.length by omega)
 have eV:dv E9 v=dv E9 (v.take k)+E9^k*(v[k+1]*1000000000+v[k]):=by
  have e1:=ql E9 v (k+1) (by omega);have e2:=ql E9 v k (by omega);have p1:E9^(k+1)=E9^k*E9:=aL _ _;rw[ar (by omega),e2,p1]at e1;rw[e1,show v[k+1]*1000000000+v[k]=v[k]+E9*v[k+1]by rw[e9m];omega,Int.mul_add];simp only[Int.mul_assoc];omega
 have eU:dv E9 u=dv E9 (u.take k)+E9^k*((u[k+2]*1000000000+u[k+1])*1000000000+u[k]):=by
  have e0:=ql E9 u (k+2) (by omega);have e1:=ql E9 u (k+1) (by omega);have e2:=ql E9 u k (by omega);have p1:E9^(k+1)=E9^k*E9:=aL _ _
  have p2:E9^(k+2)=E9^k*E9*E9:=by rw[<-p1];exact aL _ _
  rw[ar (by omega),e1,e2,p2,p1]at e0
  have e3:(u[k+2]*1000000000+u[k+1])*1000000000+u[k]=u[k]+E9*u[k+1]+E9*(E9*u[k+2]):=by
   have h1:E9*u[k+1]=1000000000*u[k+1]:=rfl;have h2:E9*(E9*u[k+2])=1000000000*(1000000000*u[k+2]):=rfl;omega
  rw[e0,e3,Int.mul_add,Int.mul_add];simp only[Int.mul_assoc];omega
 have vlo0:=qz E0 (hv.take k);have vlo1:=qab E0 (hv.take k);have ulo0:=qz E0 (hu.take k);have ulo1:=qab E0 (hu.take k);rw[Ym,aX (by omega)]at vlo1 ulo1;have U0:=qz E0 hu;have hP:=pow_pos E0 k
 have DF:=λq=>qlv (q:=q) hP eU eV ⟨ulo0,ulo1⟩ ⟨vlo0,vlo1⟩ rfl (by omega) a2.1 U0 rfl
 have V0:=(DF 0).1;have hQ0:0<=dv E9 u/dv E9 v:=aV U0 (by omega)
 have hQ1:dv E9 u/dv E9 v<1000000000:=by rw[Yu V0];exact hlt
 have hQ2:=(DF 0).2.1
 have hmod:dv E9 u%dv E9 v=dv E9 u-dv E9 u/dv E9 v*dv E9 v:=by rw[fI,aK]
 have hm0:=aJ (dv E9 u) (show dv E9 v≠0 by omega);have hm1:=aE (dv E9 u) V0;generalize hQ:dv E9 u/dv E9 v=Q at*;have c1:v[k+1]<1000000000:=a1.2;have c2:v[k]<1000000000:=a2.2;have d0:u[k+2]<1000000000:=b0.2;have d1:u[k+1]<1000000000:=b1.2;have d2:u[k]<1000000000:=b2.2
 have hle:u[k+2]<=v[k+1]:=by
  rcases cw v[k+1] u[k+2]with g|g
  ·exfalso;have g1:E9^k*((v[k+1]*1000000000+v[k]+1)*1000000000)<=E9^k*((u[k+2]*1000000000+u[k+1])*1000000000+u[k]):=Yc (by omega) (by omega);rw[<-Int.mul_assoc,Int.mul_add (E9^k) _ 1]at g1;omega
  exact g
 have G:∃q',qa8 N (p++(u++t)) v (p.length:Int)=some q'/\Q<=q'/\q'<1000000000/\q'*(v[k+1]*1000000000+v[k])<=(u[k+2]*1000000000+u[k+1])*1000000000+u[k]:=by
  have ek:w64 ((v.length:Int)-1)=((k+1:Nat):Int):=by rw[qg (by omega) (by omega)];omega
  have ek2:w64 ((p.length:Int)+(v.length:Int))=((k+2+p.length:Nat):Int):=by rw[qjL (by omega) (by omega)];congr 1;omega
  have ek1:w64 (((k+2+p.length:Nat):Int)-1)=((k+1+p.length:Nat):Int):=by rw[qg (by omega) (by omega)];omega
  have e1:=aH (u[k+2]*1000000000+u[k+1]) v[k+1];have e2:=aJ (u[k+2]*1000000000+u[k+1]) (show v[k+1]≠0 by omega);have e3:=aE (u[k+2]*1000000000+u[k+1]) (show 0<v[k+1]by omega)
  have e4:(u[k+2]*1000000000+u[k+1])/v[k+1]<=1000001000:=by
   have:(u[k+2]*1000000000+u[k+1])/v[k+1]<1000001001:=by
    rw[Yu (by omega)];omega
   omega
  have e5:Q<=(u[k+2]*1000000000+u[k+1])/v[k+1]:=by
   rw[bX (by omega)]
   have e:Q*(v[k+1]*1000000000+v[k])=Q*v[k+1]*1000000000+Q*v[k]:=by rw[Int.mul_add,Int.mul_assoc]
   have:=Yv hQ0 a2.1;omega
  have hq:qdh .i64 (u[k+2]*1000000000+u[k+1]) v[k+1]=some ((u[k+2]*1000000000+u[k+1])/v[k+1]):=by
   unfold qdh;rw[aa (by omega),YF (by omega)];show some (w64 _)=_;rw[qg (by omega) (by omega)]
  have hm:qfo .i64 (u[k+2]*1000000000+u[k+1]) v[k+1]=some ((u[k+2]*1000000000+u[k+1])%v[k+1]):=by
   unfold qfo;rw[aa (by omega),bw (by omega)]
  have hKv:(1000000000:Int)<=(u[k+2]*1000000000+u[k+1])%v[k+1]+N*v[k+1]:=by
   have:(1000:Int)*v[k+1]<=N*v[k+1]:=aI (by omega) (by omega);omega
  obtain⟨q',g1,g2,g3,g4⟩:=qkp (p:=p) (t:=t) hv hvl (by omega) hu hul hpl rfl rfl rfl (T:=u[k+2]*1000000000+u[k+1]) (by omega) hQ2 hQ0 hQ1 (by omega) N _ _ e5 (by omega) e2 (by omega) (by rw[aK (_/_)];omega) hKv;refine⟨q',?_,g2,g3,g4⟩;unfold qa8;rw[ek2,ek1,ek,qc0 (show k+2<u.length by omega),ZB,qc0 (show k+1<u.length by omega),ZB,qf,Ya (show k+1<v.length by omega),ZB,qg (n:=u[k+2]*1000000000) (by omega) (by omega),qg (n:=u[k+2]*1000000000+u[k+1]) (by omega) (by omega),hq,ZB,hm,ZB];rcases g1 with g1|g1<;>rw[g1]<;>rfl
 obtain⟨q',g1,f2,f3,f4⟩:=G;have hle2:=(DF q').2.2 (by omega) f3 f4;obtain⟨w,b',m1,m2,m3,m4,m5,m6,m9⟩:=qmd hv (by omega) (q:=q') ⟨by omega,f3⟩ (p:=p) (t:=t) hpl N 0 u 0 (by omega) (by omega) (by omega) hu (by omega) (by omega);have m1:ku v (p.length:Int) q' N (p++(u++t)) 0 0=some (p++(w++t),b'):=m1
 have hkw:k+2<w.length:=by omega
 have ew:w[k+2]=u[k+2]:=by
  rw[hvl,Ya hkw,Ya (show k+2<u.length by omega)]at m4;exact Ye m4
 have wsp:w=w.take (k+2)++[w[k+2]]:=by
  have:=cJ hkw;rw[ar (by omega)]at this;exact this
 have wl:(w.take (k+2)).length=k+2:=by rw[Ym];omega
 have wd:=m3.take (k+2)
 have wv:dv E9 w=dv E9 (w.take (k+2))+E9^(k+2)*w[k+2]:=by
  have:=ql E9 w (k+2) hkw;rw[ar (by omega)]at this;exact this
 have lo0:=qz E0 wd;have lo1:=qab E0 wd;rw[wl]at lo1;rw[bj,zn,aZ,hvl]at m9;simp only[cI]at m9
 have hVk:dv E9 v<E9^(k+2):=by have:=qab E0 hv;rw[hvl]at this;exact this
 have hPk:=pow_pos E0 (k+2)
 have ek2:w64 ((p.length:Int)+(v.length:Int))=((k+2+p.length:Nat):Int):=by rw[qjL (by omega) (by omega)];congr 1;omega
 have eset:w.set (k+2) (u[k+2]-b')=w.take (k+2)++[u[k+2]-b']:=by
  rw[List.set_eq_take_append_cons_drop,ae hkw,aB (by omega)]
 have hks:k+2<(w.set (k+2) (u[k+2]-b')).length:=by rw[Yk];exact hkw
 have tot:dv E9 (w.take (k+2))+E9^(k+2)*(u[k+2]-b')=dv E9 u-q'*dv E9 v:=by
  rw[Int.mul_sub,<-ew];omega
 rw[g1,ZB,m1,ZB];simp only;rw[ek2,qc0 hkw,ZB,ew,qg (n:=u[k+2]-b') (by omega) (by omega),qfs hkw,ZB,qc0 hks,eJ,ZB];by_cases hq:q'=Q
 ·have hy:u[k+2]-b'=0:=by
   subst hq
   have h1:¬(1<=u[k+2]-b'):=λh=>by
    have:=Yc h (aC hPk);omega
   have h2:¬(u[k+2]-b'<= -1):=λh=>by
    have:=Yc h (aC hPk);omega
   omega
  rw[aa (by omega),eset,hy,hq];rw[hy,aZ,bc,hq]at tot;refine⟨w.take (k+2)++[0],by simp;omega,wd.append (Dg.cons ⟨by omega,by decide⟩ Dg.nil),?_,rfl⟩;rw[qf7,aZ,bc];omega
 have hq1:q'=Q+1:=by omega
 have hqm:q'*dv E9 v=Q*dv E9 v+dv E9 v:=by rw[hq1,bf,bJ]
 have hy:u[k+2]-b'<0:=by
  rcases cw (u[k+2]-b') 0 with h|h
  ·exact h
  have:=Yv (aC hPk) h;omega
 obtain⟨u3,c3,a1',a2',a3',a5',a6',a7'⟩:=qmz hv (by omega) (p:=p) (t:=t) hpl N 0 (w.take (k+2)) (u[k+2]-b') 0 (by omega) (by omega) (by omega) wd (by omega) (by omega);have a1':zI v (p.length:Int) N (p++(w.take (k+2)++[u[k+2]-b']++t)) 0 0=some (p++(u3++[u[k+2]-b']++t),c3):=a1';rw[bj,zn,hvl]at a7';simp only[cI]at a7';have l0:=qz E0 a3';have l1:=qab E0 a3';rw[a2',hvl]at l1
 have hyc:u[k+2]-b'+c3=0:=by
  have e1:dv E9 u3+E9^(k+2)*(u[k+2]-b'+c3)=dv E9 u-Q*dv E9 v:=by
   rw[Int.mul_add];omega
  have h1:¬(1<=u[k+2]-b'+c3):=λh=>by
   have:=Yc h (aC hPk);omega
  have h2:¬(u[k+2]-b'+c3<= -1):=λh=>by
   have:=Yc h (aC hPk);omega
  omega
 have hk3:k+2<(u3++[u[k+2]-b']).length:=by simp;omega
 have eg:(u3++[u[k+2]-b'])[k+2]=u[k+2]-b':=by
  rw[List.getElem_append_right (by omega)];simp
 have es:(u3++[u[k+2]-b']).set (k+2) 0=u3++[0]:=by
  rw[cY _ _ (by omega),show k+2-u3.length=0 by omega];rfl
 rw[ae hy,eset,a1',ZB];simp only;rw[qc0 hk3,eg,ZB,hyc,show w64 (0:Int)=0 from rfl,qfs hk3,ZB,es,qg (n:=q'-1) (by omega) (by omega),hq1,Int.add_sub_cancel];refine⟨u3++[0],by simp;omega,a3'.append (Dg.cons ⟨by omega,by decide⟩ Dg.nil),?_,rfl⟩;rw[qf7,aZ,bc]
 have e1:dv E9 u3+E9^(k+2)*(u[k+2]-b'+c3)=dv E9 u-Q*dv E9 v:=by
  rw[Int.mul_add];omega
 rw[hyc,aZ,bc]at e1;omega
def rep0 {n m:Nat}{z:Int}(h:(List.replicate n (0:Int))[m]? =some z):z=0:=List.eq_of_mem_replicate (Yn h)
def qiE (l:List Int) {i:Nat}(h:i<l.length):dv W (l.drop i)=l[i]+W*dv W (l.drop (i+1)):=by
 rw[YG h,zF]
def qn0 {l:List Int}{k:Nat}{v:Int}(hk:k<l.length) (h:∀(i:Nat) x,i<=k->l[i]? =some x->x=0):dv W (l.set k v)=dv W l+W^k*v:=by
 rw[qbR W l k v hk,h k l[k] (ai _) (Ya hk),dT]
def qqv {N:Nat}(hN:5<=N) {a b:List Int}(ha:Dg W a) (hal:a.length<=10000) {d:Int}(hb:b[0]? =some d) (d0:0<d) (d1:d<18446744073709551616):∀(K i:Nat) (l:List Int) (r:Int),i<=a.length->i<K->l.length=a.length->Dg W l->(∀(m:Nat) x,m<i->l[m]? =some x->x=0)->dv W l=W^i*(dv W (a.drop i)/d)->r=dv W (a.drop i)%d->
 ∃l',xZ N a b K l r ((i:Int)-1)=some (l',dv W a%d)/\l'.length=a.length/\Dg W l'/\dv W l'=dv W a/d
 |0,i,l,r,h,hK,_,_,_,_,_=>by omega
 |K+1,0,l,r,h,hK,hl,hd,hz,e,er=>by
  rw[YR]at e er;rw[xZ,aa (by omega),er];exact⟨l,rfl,hl,hd,by rw[e];simp⟩
 |K+1,i+1,l,r,h,hK,hl,hd,hz,e,er=>by
  have hi:i<a.length:=by omega
  have hil:i<l.length:=by omega
  have ax:=ha.at hi;unfold W at ax
  have r0:0<=r:=by rw[er];exact aJ _ (by omega)
  have r1:r<d:=by rw[er];exact aE _ d0
  have ei:((i+1:Nat):Int)-1=(i:Int):=by omega
  rw[xZ,ei,ae (by omega),qf,Ya hi,ZB,yJ,hb,ZB,qlY hN r0 r1 d1 ax,ZB,qf,Ya hil,ZB,jr hil,ZB];simp only;rw[qg (by omega) (by omega)]
  have ed:dv W (a.drop i)=r*18446744073709551616+a[i]+d*(dv W (a.drop (i+1))/d*18446744073709551616):=by
   have h1:=aH (dv W (a.drop (i+1))) d;rw[<-er]at h1;rw[qiE a hi,<-Int.mul_assoc,show W*dv W (a.drop (i+1))=18446744073709551616*dv W (a.drop (i+1))from rfl];generalize d*(dv W (a.drop (i+1))/d)=m at*;omega
  have q0:0<=(r*18446744073709551616+a[i])/d:=aV (by omega) (by omega)
  have q1:(r*18446744073709551616+a[i])/d<18446744073709551616:=by
   rw[Yu d0];have:(r+1)*18446744073709551616<=d*18446744073709551616:=aI (by omega) (by omega);rw[aK 18446744073709551616];omega
  refine qqv hN ha hal hb d0 d1 K i _ _ (by omega) (by omega) (by rw[Yk];exact hl) (hd.set ⟨q0,q1⟩) (λm x hm hx=>?_) ?_ ?_
  ·rw[Yw (by omega)]at hx;exact hz m x (by omega) hx
  ·rw[qn0 hil (λm x hm hx=>hz m x (by omega) hx),e,ed,cZ _ _ (by omega),aL,Int.mul_assoc,<-Int.mul_add];congr 1;show 18446744073709551616*_+_=_;omega
  rw[ed,bF]
def qfw {l:List Int}(h:Dg W l) {n:Nat}(hl:dv W l<W^n):dv W (l.drop n)=0:=by
 by_cases hn:n<=l.length
 ·have e:=qaf W l n hn;have h1:=qz W0 (h.take n);have h2:=qz W0 (h.drop n);rcases cw 0 (dv W (l.drop n))with c|c
  ·have:=Yc (show 1<=dv W (l.drop n)by omega) (aC (pow_pos W0 n));omega
  omega
 rw[aB (by omega),zn]
def qob {N:Nat}(hN:11000<N) {v:List Int}{k:Nat}(hv:Dg W v) (hvl:v.length=k+2) (hk:k<=9000) (hn:9223372036854775808<=v[k+1]'(by omega)) {A:Int}{m:Nat}(hm:m<=9000):∀(K i:Nat) (l qs:List Int),i<=m+1->i<K->l.length=m+k+3->qs.length=m+1->Dg W l->Dg W qs->(∀(j:Nat) x,j<i->qs[j]? =some x->x=0)->dv W (l.drop i)<dv W v->dv W l+dv W v*dv W qs=A->
 ∃l' qs',xU N v K l qs ((i:Int)-1)=some (l',qs')/\l'.length=m+k+3/\qs'.length=m+1/\Dg W l'/\Dg W qs'/\dv W l'<dv W v/\dv W l'+dv W v*dv W qs'=A
 |0,i,l,qs,h,hK,_,_,_,_,_,_,_=>by omega
 |K+1,0,l,qs,h,hK,hl,hql,hd,hqd,hz,hlt,e=>by
  rw[xU,aa (by omega)];exact⟨l,qs,rfl,hl,hql,hd,hqd,hlt,e⟩
 |K+1,i+1,l,qs,h,hK,hl,hql,hd,hqd,hz,hlt,e=>by
  have hil:i<l.length:=by omega
  have hiq:i<qs.length:=by omega
  have ei:((i+1:Nat):Int)-1=(i:Int):=by omega
  have V1:=qab W0 hv;rw[hvl]at V1
  have V0:0<dv W v:=by
   have:=qz W0 (hd.drop (i+1));omega
  have lp:(l.take i).length=i:=by rw[Ym];omega
  have lu:((l.drop i).take (k+3)).length=k+3:=by rw[Ym,YJ];omega
  have el:l=l.take i++((l.drop i).take (k+3)++(l.drop i).drop (k+3)):=by rw[YS,YS]
  have hu:=(hd.drop i).take (k+3)
  have ht:dv W ((l.drop i).drop (k+3))=0:=by
   have:=qfw (hd.drop (i+1)) (n:=k+2) (by omega);rw[gp]at this⊢;rw[show i+(k+3)=i+1+(k+2)by omega];exact this
  have eu:dv W ((l.drop i).take (k+3))=dv W (l.drop i):=by
   have:=qai W ((l.drop i).take (k+3)) ((l.drop i).drop (k+3));rw[YS,ht,aZ,bc]at this;exact this.symm
  have hUlt:dv W ((l.drop i).take (k+3))<18446744073709551616*dv W v:=by
   rw[eu,qiE l hil];have:=(hd.at hil).2;have:W*(dv W (l.drop (i+1))+1)<=W*dv W v:=Yc (by omega) (by decide);rw[Int.mul_add,bY]at this;show _<W*dv W v;omega
  have ew:win l (i:Int) (w64 (w64 ((i:Int)+(v.length:Int))+1))=some (i,k+3):=by
   rw[qg (n:=(i:Int)+(v.length:Int)) (by omega) (by omega),qg (by omega) (by omega)];unfold win;rw[ae (by omega)];congr 2;omega
  obtain⟨u',s1,s2,s3,s4⟩:=qsJ hN (p:=l.take i) (t:=(l.drop i).drop (k+3)) (c:=l.length-i) hv hvl hk hu lu (by omega) hn hUlt;rw[lp,<-el]at s1;rw[xU,ei,ae (by omega),ew,ZB];simp only;rw[s1,ZB];simp only
  have hlen:l.length=(l.take i++(u'++(l.drop i).drop (k+3))).length:=by
   simp only[Yq,Ym,YJ];omega
  rw[ae hlen,ZB,qf,Ya hiq,ZB,jr hiq,ZB,qg (by omega) (by omega)];have hU0:=qz W0 hu;have Q0:0<=dv W ((l.drop i).take (k+3))/dv W v:=aV hU0 (by omega)
  have Q1:dv W ((l.drop i).take (k+3))/dv W v<W:=by rw[Yu V0];exact hUlt
  have hR:=aE (dv W ((l.drop i).take (k+3))) V0;have hdm:=aH (dv W ((l.drop i).take (k+3))) (dv W v)
  have hdrop:(l.take i++(u'++(l.drop i).drop (k+3))).drop i=u'++(l.drop i).drop (k+3):=by
   rw[cT (by omega),aB (by omega),bp]
  have hdn:dv W (u'++(l.drop i).drop (k+3))=dv W u':=by rw[qai,ht,aZ,bc]
  refine qob hN hv hvl hk hn hm K i _ _ (by omega) (by omega) ?_ (by rw[Yk];exact hql) ((hd.take i).append (s3.append ((hd.drop i).drop _))) (hqd.set ⟨Q0,Q1⟩) (λj x hj hx=>?_) ?_ ?_
  ·rw[Yq,Yq,lp,s2,YJ,YJ];omega
  ·rw[Yw (by omega)]at hx;exact hz j x (by omega) hx
  ·rw[hdrop,hdn,s4];exact hR
  rw[qn0 hiq (λj x hj hx=>hz j x (by omega) hx),qai,lp,hdn,s4,Int.mul_add];have e1:=qaf W l i (by omega);rw[<-eu]at e1
  have e2:W^i*dv W ((l.drop i).take (k+3))=W^i*(dv W v*(dv W ((l.drop i).take (k+3))/dv W v))+W^i*(dv W ((l.drop i).take (k+3))%dv W v):=by rw[<-Int.mul_add,hdm]
  have e3:dv W v*(W^i*(dv W ((l.drop i).take (k+3))/dv W v))=W^i*(dv W v*(dv W ((l.drop i).take (k+3))/dv W v)):=Int.mul_left_comm _ _ _;rw[e3];omega
def qoD {o v:List Int}(ho:Dg W o) {s:Nat}(hs:s<=63) (hvo:v.length<o.length) (hol:o.length<=100000) {z:Int}(hz:z=(o[0]'(by omega))%2^s):∀(K i:Nat) (l:List Int),i<=v.length->v.length<K+i->l.length=o.length->Dg W l->(∀(m:Nat),i<=m->l[m]? =o[m]?)->dv W (l.take i)*2^s=dv W (o.take i)-z+W^i*((o[i]?.getD 0)%2^s)->
 ∃l',yN (s:Int) v K l (i:Int)=some l'/\l'.length=o.length/\Dg W l'/\dv W (l'.take v.length)*2^s=dv W (o.take v.length)-z+W^v.length*((o[v.length]?.getD 0)%2^s)
 |0,i,l,h,hK,_,_,_,_=>by omega
 |K+1,i,l,h,hK,hl,hd,hsame,e=>by
  rw[yN];by_cases hi:i<v.length
  ·have hil:i<l.length:=by omega
   have hil1:i+1<l.length:=by omega
   have hio:i<o.length:=by omega
   have hio1:i+1<o.length:=by omega
   have ax:=ho.at hio;have ay:=ho.at hio1;unfold W at ax ay
   have el0:l[i]=o[i]:=by
    have:=hsame i (ai _);rw[Ya hil,Ya hio]at this;injection this
   have el1:l[i+1]=o[i+1]:=by
    have:=hsame (i+1) (by omega);rw[Ya hil1,Ya hio1]at this;injection this
   have hp:=pow_pos (show(0:Int)<2 by omega) s;have hp2:=pow_pos (show(0:Int)<2 by omega) (64-s)
   have hpp:(2:Int)^s*2^(64-s)=18446744073709551616:=by
    rw[<-Int.pow_add,show s+(64-s)=64 by omega];rfl
   have q0:0<=o[i]/2^s:=aV ax.1 (aC hp)
   have q1:o[i]/2^s<2^(64-s):=by
    rw[Yu hp,aK,hpp];exact ax.2
   have r0:0<=o[i+1]%2^s:=aJ _ (by omega);have r1:o[i+1]%2^s<2^s:=aE _ hp;have hdm:=aH o[i] (2^s)
   have htop:o[i+1]%2^s*2^(64-s)+o[i]/2^s<18446744073709551616:=by
    have:(o[i+1]%2^s+1)*2^(64-s)<=2^s*2^(64-s):=aI (by omega) (aC hp2);rw[hpp,bf,bJ]at this;omega
   have hlow0:0<=o[i+1]%2^s*2^(64-s):=Yv r0 (aC hp2)
   have efin:(o[i+1]%2^s*2^(64-s)+o[i]/2^s)*2^s=18446744073709551616*(o[i+1]%2^s)+o[i]-o[i]%2^s:=by
    rw[bf,Int.mul_assoc,aK (2^(64-s)),hpp,aK (o[i]/2^s)];omega
   have fin:∀l2:List Int,l2=l.set i (o[i+1]%2^s*2^(64-s)+o[i]/2^s)->∃l',yN (s:Int) v K l2 ((i+1:Nat):Int)=some l'/\l'.length=o.length/\Dg W l'/\dv W (l'.take v.length)*2^s=dv W (o.take v.length)-z+W^v.length*((o[v.length]?.getD 0)%2^s):=by
    rintro l2 rfl;refine qoD ho hs hvo hol hz K (i+1) _ (by omega) (by omega) (by rw[Yk];exact hl) (hd.set ⟨by omega,htop⟩) (λm hm=>?_) ?_
    ·rw[Yw (by omega)];exact hsame m (by omega)
    have hls:i<(l.set i (o[i+1]%2^s*2^(64-s)+o[i]/2^s)).length:=by rw[Yk];exact hil
    rw[ql W _ i hls,eJ,List.take_set_of_le (ai _),bf,Int.mul_assoc,efin,e,ql W o i hio,Ya hio,Ya hio1,YN,YN,aL,Int.mul_assoc (W^i) W]
    have e5:W^i*(18446744073709551616*(o[i+1]%2^s)+o[i]-o[i]%2^s)=W^i*(W*(o[i+1]%2^s))+W^i*o[i]-W^i*(o[i]%2^s):=by
     rw[<-Int.mul_add,<-Int.mul_sub]
    omega
   rw[ae (by omega),qf,Ya hil,el0,ZB,qir (by omega),ZB,jr hil,ZB,qm (by omega)];by_cases h0:s=0
   ·subst h0;rw[aa (by omega),ZB,aa (by simp),ZB];refine fin _ ?_;congr 1
    have:o[i+1]%2^0=0:=by simp[Int.emod_one]
    rw[this];omega
   have hls0:i<(l.set i (o[i]/2^s)).length:=by rw[Yk];exact hil
   have hls1:i+1<(l.set i (o[i]/2^s)).length:=by rw[Yk];exact hil1
   have em:o[i+1]*2^(64-s)%18446744073709551616=o[i+1]%2^s*2^(64-s):=by
    rw[<-hpp,aK o[i+1],aK (2^s),cQ _ _ hp2,aK]
   rw[ae (by omega),ZB,ae (ap (by omega)),qf,Ya hls0,eJ,ZB,qf,Ya hls1,List.getElem_set_ne (by omega),el1,ZB,show(64:Int)-(s:Int)=((64-s:Nat):Int)by omega,qg (by omega) (by omega),qjS (by omega),ZB,em,qp0 r0 q0 q1 htop,jr hls0,ZB,ZB];refine fin _ ?_;rw[bK]
  rw[aa (by omega)]
  have ei:i=v.length:=by omega
  subst ei;exact⟨l,rfl,hl,hd,e⟩
def qkf {N:Nat}(hN:11000<N) {a b:List Int}(ha:Can W a) (hb:Can W b) (hal:a.length<=4000) (hb0:0<dv W b):qbT N a b=some (dg W (dv W a/dv W b),dg W (dv W a%dv W b)):=by
 have A0:=qz W0 ha.1;unfold qbT;rw[qfd ha hb (by omega) (by omega),ZB];by_cases h:dv W a<dv W b
 ·rw[ae h,ae (by omega),dF A0 h,bM A0 h,qeX,qqZ W1 ha]
 have hlen:b.length<=a.length:=by
  rcases aw a.length b.length with c|c
  ·have:=qeS ha hb c;omega
  exact c
 have hb1:0<b.length:=by
  rcases bG b.length with c|c
  ·rw[YL.1 c,zn]at hb0;omega
  exact c
 have hge:¬((if dv W a<dv W b then-1 else if dv W a=dv W b then(0:Int)else 1)<0):=by
  rw[aa h];split<;>omega
 rw[aa hge];by_cases hone:b.length=1
 ·obtain⟨d,rfl⟩:=dC.1 hone
  have ed:dv W [d]=d:=by rw[zF,zn];omega
  rw[ed]at hb0⊢;have hd:=hb.1.head;unfold W at hd;rw[ae (by simp),qca (by omega),ZB,qg (by omega) (by omega)];obtain⟨l,e,h1,h2,h3⟩:=qqv (N:=N) (by omega) ha.1 (by omega) (b:=[d]) rfl hb0 hd.2 N a.length (List.replicate a.length 0) 0 (ai _) (by omega) (by simp) (Uk W0 _) (λm x _ hx=>rep0 hx) (by rw[qaM,aB (ai _),zn];simp) (by rw[aB (ai _),zn];simp);have m0:=aJ (dv W a) (show d≠0 by omega);have m1:=aE (dv W a) hb0;rw[e,ZB];simp only;rw[qd7 h2 (by omega) (by omega),ZB,qd7 (Dg.cons ⟨m0,show _<(18446744073709551616:Int)by omega⟩ Dg.nil) (by simp) (by simp;omega),ZB,h3,zF,zn,aZ,bc]
 obtain⟨k,hk⟩:∃k,b.length=k+2:=⟨b.length-2,by omega⟩;obtain⟨m,hm⟩:∃m,a.length=m+k+2:=⟨a.length-(k+2),by omega⟩
 have hkb:k+1<b.length:=by omega
 have at1:=hb.1.at hkb;have at0:b[k+1]≠0:=hb.2 _ (by rw[List.getLast?_eq_getElem?,hk];exact Ya hkb);unfold W at at1;obtain⟨s,hs,es,g1,g2⟩:=qtD (y:=b[k+1]) (by omega) at1.2;have hp:=pow_pos (show(0:Int)<2 by omega) s;have hPk:=pow_pos W0 (k+1);rw[aa (by omega),show w64 ((b.length:Int)-1)=((k+1:Nat):Int)by rw[qg (by omega) (by omega)];omega,qf,Ya hkb,ZB,es,ZB];obtain⟨vb,e1,l1,d1,x1⟩:=qjl (N:=N) hb.1 (by omega) hs (by omega);obtain⟨ua,e2,l2,d2,x2⟩:=qjl (N:=N) ha.1 (by omega) hs (by omega);rw[e1,ZB,qd7 d1 (by omega) (by omega),ZB,e2,ZB];have V0:0<dv W b*2^s:=dL hb0 hp
 have ebs:dv W b=dv W (b.take (k+1))+W^(k+1)*b[k+1]:=by
  have:=ql W b (k+1) hkb;rw[ar (by omega)]at this;exact this
 have blo0:=qz W0 (hb.1.take (k+1));have blo1:=qab W0 (hb.1.take (k+1));rw[Ym,aX (by omega)]at blo1
 have Vlow:W^(k+1)*9223372036854775808<=dv W b*2^s:=by
  have h1:=Yc g1 (aC hPk);rw[ebs,bf,Int.mul_assoc];have:=Yv blo0 (aC hp);omega
 have Vhigh:dv W b*2^s<W^(k+2):=by
  have h1:(dv W b)*2^s<W^(k+1)*((b[k+1]+1)*2^s):=by
   rw[<-Int.mul_assoc];refine YH ?_ hp;rw[ebs,Int.mul_add,bY];omega
  have h2:(b[k+1]+1)*2^s<=18446744073709551616:=by
   have hpp:(2:Int)^(64-s)*2^s=18446744073709551616:=by
    rw[<-Int.pow_add,show 64-s+s=64 by omega];rfl
   have:b[k+1]<2^(64-s):=by
    rw[<-hpp]at g2;exact d8 g2 (aC hp)
   rw[<-hpp];exact aI (by omega) (aC hp)
  have h3:=Yc h2 (aC hPk);rw[aL];show _<W^(k+1)*18446744073709551616;omega
 rw[x1];have cv:=jA W1 (aC V0);have evv:=yc W1 (aC V0)
 have lv:(dg W (dv W b*2^s)).length=k+2:=by
  have h1:=(qef W1 (aC V0) (n:=k+2)).2 Vhigh
  have h2:=(not_congr (qef W1 (aC V0) (n:=k+1))).2 (by
   have:W^(k+1)*1<=W^(k+1)*9223372036854775808:=Yc (by omega) (aC hPk)
   omega)
  omega
 generalize hvv:dg W (dv W b*2^s)=v at*
 have hkv:k+1<v.length:=by omega
 have hn:9223372036854775808<=v[k+1]:=by
  have e:=ql W v (k+1) hkv;rw[ar (by omega),evv]at e;have h1:=qab W0 (cv.1.take (k+1));rw[Ym,aX (by omega)]at h1
  have h2:W^(k+1)*9223372036854775808<W^(k+1)*(v[k+1]+1):=by rw[Int.mul_add,bY];omega
  have:=dh h2 (aC hPk);omega
 have htop:dv W (ua.drop (m+1))<dv W v:=by
  rw[evv];have e:=qaf W ua (m+1) (by omega);have h1:=qz W0 (d2.take (m+1));have hA:=qab W0 ha.1
  have h2:dv W ua<W^(m+1)*(W^(k+1)*2^s):=by
   rw[x2,<-Int.mul_assoc,<-Int.pow_add,show m+1+(k+1)=a.length by omega];exact YH hA hp
  have hPm:=pow_pos W0 (m+1)
  have h3:W^(m+1)*dv W (ua.drop (m+1))<W^(m+1)*(W^(k+1)*2^s):=by omega
  have h4:=dh h3 (aC hPm);have h5:W^(k+1)*2^s<=W^(k+1)*9223372036854775808:=Yc (xg (by omega) hs) (aC hPk);omega
 rw[show w64 (w64 ((a.length:Int)-(v.length:Int))+1)=((m+1:Nat):Int)by rw[qg (n:=(a.length:Int)-(v.length:Int)) (by omega) (by omega),qg (by omega) (by omega)];omega,qca (by omega),ZB,show w64 ((a.length:Int)-(v.length:Int))=((m+1:Nat):Int)-1 by rw[qg (by omega) (by omega)];omega];obtain⟨l,qs,f1,f2,f3,f4,f5,f6,f7⟩:=qob hN cv.1 lv (by omega) hn (A:=dv W ua) (m:=m) (by omega) N (m+1) ua (List.replicate (m+1) 0) (ai _) (by omega) (by omega) (by simp) d2 (Uk W0 _) (λj x _ hx=>rep0 hx) htop (by rw[qaM,aZ,bc]);rw[f1,ZB];simp only;rw[x2]at f7;rw[evv]at f6 f7;have hl0:=qz W0 f4
 have eq:dv W qs=dv W a/dv W b:=by
  rw[<-Int.mul_ediv_mul_of_pos_left (dv W a) (dv W b) hp,<-f7,cZ _ _ (by omega),dF hl0 f6,dS]
 have er:dv W l=dv W a%dv W b*2^s:=by
  have:(dv W a*2^s)%(dv W b*2^s)=dv W l:=by rw[<-f7,bF,bM hl0 f6]
  rw[<-this,aK (dv W a),aK (dv W b),cQ _ _ hp,aK]
 have hzl:dv W (l.drop (k+2))=0:=qfw f4 (by omega)
 have etk:dv W (l.take (k+2))=dv W l:=by
  have:=qaf W l (k+2) (by omega);rw[hzl,aZ,bc]at this;exact this.symm
 have hkl:k+2<l.length:=by omega
 have hl2:l[k+2]%2^s=0:=by
  have h1:=qiE l hkl;have h2:=qz W0 (f4.drop (k+2+1));have h3:=f4.at hkl;have h4:=Yv (aC W0) h2
  have:l[k+2]=0:=by omega
  rw[this];exact Int.zero_emod _
 have h0l:0<l.length:=by omega
 have hl0m:l[0]%2^s=0:=by
  have h1:=qiE l h0l;rw[YR,er]at h1
  have e63:W=2^(64-s)*2^s:=by
   rw[<-Int.pow_add,show 64-s+s=64 by omega];rfl
  have h2:l[0]=0+2^s*(dv W a%dv W b-2^(64-s)*dv W (l.drop (0+1))):=by
   rw[Int.mul_sub,<-Int.mul_assoc,aK (2^s) (2^(64-s)),<-e63,aK (2^s)];omega
  rw[h2,bF];exact Int.zero_emod _
 obtain⟨l4,j1,j2,j3,j4⟩:=qoD (o:=l) (v:=v) f4 hs (by omega) (by omega) (z:=0) hl0m.symm N 0 l (by omega) (by omega) rfl f4 (λ_ _=>rfl) (by
  rw[bj,zn,Ya h0l,YN,hl0m]
  simp)
 have j1:yN (s:Int) v N l 0=some l4:=j1;rw[lv,etk,Ya hkl,YN,hl2,aZ,bc,dT,er]at j4;have j5:=Int.eq_of_mul_eq_mul_right (by omega) j4;rw[j1,ZB,qd7 f5 (by omega) (by omega),ZB,jN (by omega),ZB,lv,qd7 (j3.take _) (by rw[Ym];omega) (by rw[Ym];omega),ZB,j5,eq]
def IsZ (x:qh) (z:Int):Prop:=(x.w=[]/\x.s=z/\ -9223372036854775808<=z/\z<=9223372036854775807)\/(x.w=dg W z.natAbs/\x.w≠[]/\9223372036854775808<=(z.natAbs:Int)/\x.s=if z<0 then-1 else 1)
abbrev Fit (z:Int) (n:Nat):Prop:=(z.natAbs:Int)<W^n
def Ue {z:Int}(h1: -9223372036854775808<=z) (h2:z<=9223372036854775807):IsZ ⟨z,[]⟩ z:= .inl ⟨rfl,rfl,h1,h2⟩
def Fit.len {z:Int}{n:Nat}(h:Fit z n):(dg W z.natAbs).length<=n:=(qef W1 (by omega)).2 h
def Fit.mono {z:Int}{m n:Nat}(h:Fit z m) (hn:m<=n):Fit z n:=d6 h (xg (by decide) hn)
def IsZ.sgn {x:qh}{z:Int}(h:IsZ x z):(x.s<0↔z<0)/\(0<x.s↔0<z)/\(x.s=0↔z=0):=by
 rcases h with⟨_,h,_,_⟩|⟨_,_,h1,h2⟩
 ·subst h;exact⟨Iff.rfl,Iff.rfl,Iff.rfl⟩
 split at h2<;>omega
def IsZ.emp {x:qh}{z:Int}(h:IsZ x z) (he:x.w.isEmpty=true):x.s=z/\ -9223372036854775808<=z/\z<=9223372036854775807:=by
 rcases h with⟨_,h⟩|⟨_,h,_⟩
 ·exact h
 exact absurd (eo.1 he) h
def qky (n:Int):qdc n=some ⟨n,[]⟩:=rfl
def size_eq {n:Int}(h1: -9223372036854775808<=n) (h2:n<=9223372036854775807):qdG n=some (n.natAbs:Int):=by
 unfold qdG;by_cases h:n<0
 ·rw[ae h];congr 1
  have e:w64 (0-n)=(if n= -9223372036854775808 then-9223372036854775808 else-n):=by
   split
   ·rename_i e;subst e;rfl
   rw[qg (by omega) (by omega)];omega
  rw[e,wu];split<;>omega
 rw[aa h,yM (by omega) (by omega)];congr 1;omega
def parts_eq {x:qh}{z:Int}(h:IsZ x z):qK x=some (decide (z<0),dg W z.natAbs):=by
 unfold qK;have hs:=h.sgn;rcases h with⟨hw,hz,h1,h2⟩|⟨hw,hne,h1,h2⟩
 ·rw[hw,aa (by simp)];by_cases h0:x.s=0
  ·rw[ae h0]
   have:z=0:=by omega
   subst this;rfl
  rw[aa h0,hz,size_eq h1 h2,ZB,qkQ (by omega) (by unfold W;omega)]
 rw[ae (by cases e:x.w with|nil=>exact absurd e hne|cons a l=>rfl),<-hw];congr 2;exact decide_eq_decide.2 hs.1
def qol {m:Int}(h0:0<=m) (h:m<=9223372036854775807):w64 (0-w64 m)= -m:=by
 rw[qg (n:=m) (by omega) (by omega),qg (by omega) (by omega)];omega
def qe4 (neg:Bool) {m:Int}(h:0<=m):∃r,vT neg (dg W m)=some r/\IsZ r (if neg=true then-m else m):=by
 have hc:=jA W1 h;have hv:=yc W1 h;unfold vT
 cases hl:dg W m with
 |nil=>
  rw[hl,zn]at hv;subst hv;refine⟨⟨0,[]⟩,rfl,?_⟩
  have:(if neg=true then-(0:Int)else 0)=0:=by cases neg<;>rfl
  rw[this];exact Ue (by omega) (by omega)
 |cons a l=>
  rw[hl]at hc hv;have ha:=hc.1.head;rw[aa (by simp;omega)]
  have hm0:0<m:=by have:=hc.pos W1 (by simp);omega
  have big:9223372036854775808<=m->∀s:Int,s=(if(if neg=true then-m else m)<0 then-1 else 1)->IsZ ⟨s,a::l⟩ (if neg=true then-m else m):=by
   intro hm s hs
   have e:((if neg=true then-m else m).natAbs:Int)=m:=by split<;>omega
   exact .inr ⟨by rw[e];exact hl.symm,by simp,by omega,hs⟩
  cases l with
  |nil=>
   rw[zF,zn]at hv
   have hma:a=m:=by omega
   subst hma;have e0:idx [a] 0=some a:=rfl;by_cases hs:a<=9223372036854775807
   ·cases neg with
    |true=>
     simp only[Yr,aN,e0,ZB,ae hs];refine⟨⟨w64 (0-w64 a),[]⟩,by simp,?_⟩;rw[qol (by omega) hs];have q:=Ue (z:= -a) (by omega) (by omega);simpa using q
    |false=>
     simp only[Yr,aN,e0,ZB,ae hs,ap hs];refine⟨⟨w64 a,[]⟩,by simp,?_⟩;rw[qg (by omega) (by omega)];have q:=Ue (z:=a) (by omega) (by omega);simpa using q
   simp only[Yr,aN,e0,ZB,aa hs,ak hs]
   cases neg with
   |true=>exact⟨⟨-1,[a]⟩,by simp,big (by omega) _ (by simp;omega)⟩
   |false=>exact⟨⟨1,[a]⟩,by simp,big (by omega) _ (by simp;omega)⟩
  |cons b l=>
   have hm:9223372036854775808<=m:=by
    have:=hc.low W1 (n:=l.length+1) (by simp);have h2:=xg (show(1:Int)<=W by decide) (show 1<=l.length+1 by omega);rw[eP]at h2;rw[hv]at this;unfold W at h2 this;omega
   have hl1:¬(((a::b::l).length:Int)=1):=by simp;omega
   simp only[aa hl1,ZB,ZF,bh]
   cases neg with
   |true=>exact⟨⟨-1,a::b::l⟩,by simp,big hm _ (by simp;omega)⟩
   |false=>exact⟨⟨1,a::b::l⟩,by simp,big hm _ (by simp;omega)⟩
def qhB {x:qh}{z:Int}(h:IsZ x z):∃r,zH x=some r/\IsZ r (-z):=by
 have hp:=parts_eq h;obtain⟨r,e,hr⟩:=qe4 (!decide (z<0)) (m:=(z.natAbs:Int)) (by omega)
 have ez:(if(!decide (z<0))=true then-(z.natAbs:Int)else(z.natAbs:Int))= -z:=by
  by_cases hz:z<0
  ·rw[ap hz,aa (by simp)];omega
  rw[ak hz,ae (by simp)];omega
 rw[ez]at hr;unfold zH
 cases he:x.w.isEmpty with
 |true=>
  obtain⟨h1,h2,h3⟩:=h.emp he;rw[ae rfl,ZB];by_cases hm:x.s= -9223372036854775808
  ·rw[aa (by simp[hm]),hp,ZB,e,ZB];exact⟨r,rfl,hr⟩
  rw[ae (by simp[hm]),qg (by omega) (by omega),show 0-x.s= -z by omega];exact⟨_,rfl,Ue (by omega) (by omega)⟩
 |false=>
  rw[aa (by simp),ZB,aa (by simp),hp,ZB,e,ZB];exact⟨r,rfl,hr⟩
def qrY {x:qh}{z:Int}(h:IsZ x z):∃r,qb0 x=some r/\IsZ r (z.natAbs:Int):=by
 unfold qb0;by_cases hz:z<0
 ·obtain⟨r,e,hr⟩:=qhB h;rw[ae (h.sgn.1.2 hz),e,ZB];refine⟨r,rfl,?_⟩;rw[show(z.natAbs:Int)= -z by omega];exact hr
 rw[aa (λc=>hz (h.sgn.1.1 c))];refine⟨x,rfl,?_⟩;rw[show(z.natAbs:Int)=z by omega];exact h
def qeU {x:qh}{z:Int}(h:IsZ x z):zg x=some (if z<0 then-1 else if z=0 then 0 else 1):=by
 have hs:=h.sgn;unfold zg;congr 1
 repeat' split
 all_goals omega
def qi4 {N:Nat}(hN:11000<N) {x y:qh}{a b:Int}(hx:IsZ x a) (hy:IsZ y b) (ha:Fit a 4000) (hb:Fit b 4000):∃r,vS N x y=some r/\IsZ r (a+b):=by
 have px:=parts_eq hx;have py:=parts_eq hy;have la:=ha.len;have lb:=hb.len;have ca:=jA W1 (show 0<=(a.natAbs:Int)by omega);have cb:=jA W1 (show 0<=(b.natAbs:Int)by omega);have va:=yc W1 (show 0<=(a.natAbs:Int)by omega);have vb:=yc W1 (show 0<=(b.natAbs:Int)by omega)
 have long:∃r,((qK x).bind λr8=>
  (qK y).bind λr9=>
  if(r8.1==r9.1)=true then
  (qbz N r8.2 r9.2).bind λr11=>
  (vT r8.1 r11).bind λr12=>
  some r12
  else
  (vC N r8.2 r9.2).bind λr13=>
  if r13>=0 then
  (xN N r8.2 r9.2).bind λr15=>
  (vT r8.1 r15).bind λr16=>
  some r16
  else
  (xN N r9.2 r8.2).bind λr17=>
  (vT r9.1 r17).bind λr18=>
  some r18)=some r/\IsZ r (a+b):=by
  rw[px,ZB,py,ZB];by_cases hs:(a<0↔b<0)
  ·rw[ae (by rw[bR];exact decide_eq_decide.2 hs),ql6 ca.1 cb.1 (by omega) (by omega) (by omega) (by omega),ZB,va,vb];obtain⟨r,e,hr⟩:=qe4 (decide (a<0)) (m:=(a.natAbs:Int)+(b.natAbs:Int)) (by omega);rw[e,ZB];refine⟨r,rfl,?_⟩
   have:(if decide (a<0)=true then-((a.natAbs:Int)+(b.natAbs:Int))else(a.natAbs:Int)+(b.natAbs:Int))=a+b:=by
    simp only[aO];split<;>omega
   rw[this]at hr;exact hr
  rw[aa (by rw[bR];exact λc=>hs (decide_eq_decide.1 c)),qfd ca cb (by omega) (by omega),ZB,va,vb];by_cases hc:(a.natAbs:Int)<(b.natAbs:Int)
  ·rw[ae hc,aa (by omega),qh5 cb ca (by omega) (by omega) (by omega),ZB,va,vb];obtain⟨r,e,hr⟩:=qe4 (decide (b<0)) (m:=(b.natAbs:Int)-(a.natAbs:Int)) (by omega);rw[e,ZB];refine⟨r,rfl,?_⟩
   have:(if decide (b<0)=true then-((b.natAbs:Int)-(a.natAbs:Int))else(b.natAbs:Int)-(a.natAbs:Int))=a+b:=by
    simp only[aO];split<;>omega
   rw[this]at hr;exact hr
  rw[aa hc,ae (by split<;>omega),qh5 ca cb (by omega) (by omega) (by omega),ZB,va,vb];obtain⟨r,e,hr⟩:=qe4 (decide (a<0)) (m:=(a.natAbs:Int)-(b.natAbs:Int)) (by omega);rw[e,ZB];refine⟨r,rfl,?_⟩
  have:(if decide (a<0)=true then-((a.natAbs:Int)-(b.natAbs:Int))else(a.natAbs:Int)-(b.natAbs:Int))=a+b:=by
   simp only[aO];split<;>omega
  rw[this]at hr;exact hr
 unfold vS
 cases ex:x.w.isEmpty with
 |false=>
  rw[aa (by simp),ZB,aa (by simp),ZB];exact long
 |true=>
  rw[ae rfl,ZB]
  cases ey:y.w.isEmpty with
  |false=>
   rw[aa (by simp),ZB];exact long
  |true=>
   obtain⟨h1,h2,h3⟩:=hx.emp ex;obtain⟨k1,k2,k3⟩:=hy.emp ey;rw[ae rfl,h1,k1];by_cases hi: -9223372036854775808<=a+b/\a+b<=9223372036854775807
   ·have e:w64 (a+b)=a+b:=qg hi.1 hi.2;rw[e,ae (by rw[bR];exact decide_eq_decide.2 (by omega)),ZB];exact⟨_,rfl,Ue hi.1 hi.2⟩
   have e:w64 (a+b)=a+b-18446744073709551616\/w64 (a+b)=a+b+18446744073709551616:=by
    unfold w64 at*;simp only[wrap,IntKind.bits,IntKind.signed];simp;split<;>omega
   have hne:¬((decide (w64 (a+b)>a)==decide (b>0))=true):=by
    rw[bR];intro c;have c:=decide_eq_decide.1 c
    have hw: -9223372036854775808<=w64 (a+b)/\w64 (a+b)<=9223372036854775807:=by
     simp only[wrap,IntKind.bits,IntKind.signed];simp;split<;>omega
    omega
   rw[aa hne,ZB];exact long
def qrA {N:Nat}(hN:11000<N) {x y:qh}{a b:Int}(hx:IsZ x a) (hy:IsZ y b) (ha:Fit a 4000) (hb:Fit b 4000):∃r,qax N x y=some r/\IsZ r (a-b):=by
 obtain⟨n,e,hn⟩:=qhB hy;obtain⟨r,e2,hr⟩:=qi4 hN hx hn ha (by unfold Fit;rw[cC];exact hb);unfold qax;rw[e,ZB,e2,ZB];exact⟨r,rfl,by rw[Int.sub_eq_add_neg];exact hr⟩
def qtS {N:Nat}(hN:11000<N) {x y:qh}{a b:Int}(hx:IsZ x a) (hy:IsZ y b) (ha:Fit a 4000) (hb:Fit b 4000):qcS N x y=some (if a<b then-1 else if a=b then 0 else 1):=by
 obtain⟨r,e,hr⟩:=qrA hN hx hy ha hb
 have long:((qax N x y).bind λr7=>(zg r7).bind λr8=>some r8)=some (if a<b then-1 else if a=b then 0 else 1):=by
  rw[e,ZB,qeU hr,ZB];congr 1
  repeat' split
  all_goals omega
 unfold qcS
 cases ex:x.w.isEmpty with
 |false=>
  rw[aa (by simp),ZB,aa (by simp)];exact long
 |true=>
  rw[ae rfl,ZB]
  cases ey:y.w.isEmpty with
  |false=>
   rw[aa (by simp)];exact long
  |true=>
   obtain⟨h1,_,_⟩:=hx.emp ex;obtain⟨k1,_,_⟩:=hy.emp ey;rw[ae rfl,h1,k1];by_cases c:a<b
   ·rw[ae c,ae c]
   rw[aa c,aa c];by_cases d:a=b
   ·rw[aa (by omega),ae d]
   rw[ae (by omega),aa d]
def qfK {N:Nat}(hN:11000<N) {x y:qh}{a b:Int}(hx:IsZ x a) (hy:IsZ y b) (ha:Fit a 4000) (hb:Fit b 4000):∃r,qO N x y=some r/\IsZ r (a*b):=by
 have px:=parts_eq hx;have py:=parts_eq hy;have la:=ha.len;have lb:=hb.len;have ca:=jA W1 (show 0<=(a.natAbs:Int)by omega);have cb:=jA W1 (show 0<=(b.natAbs:Int)by omega);have va:=yc W1 (show 0<=(a.natAbs:Int)by omega);have vb:=yc W1 (show 0<=(b.natAbs:Int)by omega)
 have hab:(a.natAbs:Int)*(b.natAbs:Int)=((a*b).natAbs:Int):=by rw[bH,bu]
 have sg:(if(!((decide (a<0))==(decide (b<0))))=true then-((a*b).natAbs:Int)else((a*b).natAbs:Int))=a*b:=by
  by_cases h1:a<0
  ·by_cases h2:b<0
   ·have:=Int.mul_pos_of_neg_of_neg h1 h2;rw[ap h1,ap h2,aa (by simp)];omega
   have:=fl (show a<=0 by omega) (show 0<=b by omega);rw[ap h1,ak h2,ae (by simp)];omega
  by_cases h2:b<0
  ·have:=fw (show 0<=a by omega) (show b<=0 by omega);rw[ak h1,ap h2,ae (by simp)];omega
  have:=Yv (show 0<=a by omega) (show 0<=b by omega);rw[ak h1,ak h2,aa (by simp)];omega
 have long:∃r,((qK x).bind λr15=>
  (qK y).bind λr16=>
  (qbC N r15.2 r16.2).bind λr17=>
  (vT (!(r15.1==r16.1)) r17).bind λr18=>
  some r18)=some r/\IsZ r (a*b):=by
  rw[px,ZB,py,ZB,qlR ca.1 cb.1 (by omega) (by omega) (by omega),ZB,va,vb,hab];obtain⟨r,e,hr⟩:=qe4 (!((decide (a<0))==(decide (b<0)))) (m:=((a*b).natAbs:Int)) (by omega);rw[sg]at hr;rw[e,ZB];exact⟨r,rfl,hr⟩
 unfold qO
 cases ex:x.w.isEmpty with
 |false=>
  rw[aa (by simp),ZB,aa (by simp),ZB];exact long
 |true=>
  rw[ae rfl,ZB]
  cases ey:y.w.isEmpty with
  |false=>
   rw[aa (by simp),ZB];exact long
  |true=>
   obtain⟨h1,h2,h3⟩:=hx.emp ex;obtain⟨k1,k2,k3⟩:=hy.emp ey;rw[ae rfl,h1,k1,size_eq h2 h3,ZB,size_eq k2 k3,ZB,qg5 (by omega) (by omega),ZB,hab];by_cases hi:((a*b).natAbs:Int)/18446744073709551616=0
   ·rw[ae hi,ZB];by_cases hj:((a*b).natAbs:Int)%18446744073709551616<=9223372036854775807
    ·have em:((a*b).natAbs:Int)%18446744073709551616=((a*b).natAbs:Int):=by omega
     rw[ap hj,ae rfl,em];by_cases hs:(!((decide (a<0))==(decide (b<0))))=true
     ·rw[ae hs]at sg;rw[ae hs,ZB,qol (by omega) (by omega),sg];exact⟨_,rfl,Ue (by omega) (by omega)⟩
     rw[aa hs]at sg;rw[aa hs,ZB,qg (by omega) (by omega),sg];exact⟨_,rfl,Ue (by omega) (by omega)⟩
    rw[ak hj,aa (by simp),ZB];exact long
   rw[aa hi,ZB,aa (by simp),ZB];exact long
def qhZ {N:Nat}(hN:11000<N) {x y:qh}{a b:Int}(hx:IsZ x a) (hy:IsZ y b) (ha:Fit a 3900) (hb:Fit b 3900) (hb0:0<b):∃q r,jS N x y=some (q,r)/\IsZ q (a/b)/\IsZ r (a%b):=by
 have px:=parts_eq hx;have py:=parts_eq hy;have la:=ha.len;have lb:=hb.len;have ca:=jA W1 (show 0<=(a.natAbs:Int)by omega);have cb:=jA W1 (show 0<=(b.natAbs:Int)by omega);have va:=yc W1 (show 0<=(a.natAbs:Int)by omega);have vb:=yc W1 (show 0<=(b.natAbs:Int)by omega)
 have eb:(b.natAbs:Int)=b:=by omega
 have m0:=aJ (a.natAbs:Int) (show b≠0 by omega);have m1:=aE (a.natAbs:Int) hb0;have q0:0<=(a.natAbs:Int)/b:=aV (by omega) (by omega);have q1:(a.natAbs:Int)/b<=(a.natAbs:Int):=fP _ (by omega);have dm:=aH (a.natAbs:Int) b
 have long:∃q r,((qK x).bind λr12=>
  (qK y).bind λr13=>
  (qbT N r12.2 r13.2).bind λr14=>
  (vT r12.1 r14.1).bind λr15=>
  (vT r12.1 r14.2).bind λr16=>
  (zg r16).bind λr17=>
  ((if r17<0 then
  (qdc 1).bind λr24=>
  (qax N r15 r24).bind λr25=>
  (vS N r16 y).bind λr26=>
  some (r25.s,r25.w,r26.s,r26.w)
  else
  some (r15.s,r15.w,r16.s,r16.w):Option (Int×(List Int)×Int×(List Int)))).bind λ(n18,l19,n20,l21)=>
  some ((⟨n18,l19⟩:qh),(⟨n20,l21⟩:qh)))=some (q,r)/\IsZ q (a/b)/\IsZ r (a%b):=by
  rw[px,ZB,py,ZB,qkf hN ca cb (by omega) (by rw[vb,eb];exact hb0),ZB,va,vb,eb];obtain⟨q,e1,hq⟩:=qe4 (decide (a<0)) q0;obtain⟨r,e2,hr⟩:=qe4 (decide (a<0)) m0;simp only;rw[e1,ZB,e2,ZB,qeU hr,ZB];by_cases hz:a<0
  ·rw[ap hz,ae rfl]at hq hr;by_cases hm:(a.natAbs:Int)%b=0
   ·rw[hm]at hr dm;have:=Int.ediv_emod_unique (a:=a) (b:=b) (r:=0) (q:= -((a.natAbs:Int)/b)) hb0;have u:=this.2 ⟨by rw[Int.mul_neg];omega,by omega,hb0⟩;rw[u.1,u.2,ap hz,ae rfl,hm];simp only[Int.neg_zero,Int.lt_irrefl,bh,aT,ZB];exact⟨q,r,rfl,hq,hr⟩
   have u:=(Int.ediv_emod_unique (a:=a) (b:=b) (r:=b-(a.natAbs:Int)%b) (q:= -((a.natAbs:Int)/b)-1) hb0).2 ⟨by rw[Int.mul_sub,Int.mul_neg,bY];omega,by omega,by omega⟩;rw[u.1,u.2,ap hz,ae rfl,ae (by omega),qky,ZB]
   have f1:Fit (-((a.natAbs:Int)/b)) 4000:=by
    refine Fit.mono (m:=3900) ?_ (by omega);unfold Fit at ha⊢;omega
   have f2:Fit (-((a.natAbs:Int)%b)) 4000:=by
    refine Fit.mono (m:=3900) ?_ (by omega);unfold Fit at hb⊢;omega
   have f0:Fit 1 4000:=by
    have:=xg (show(1:Int)<=W by decide) (show 1<=4000 by omega);rw[eP]at this
    have hw:(1:Int)<=W-1:=by decide
    have hw2: -W< -(1:Int):=by decide
    unfold Fit;omega
   obtain⟨q2,g1,hq2⟩:=qrA hN hq (Ue (z:=1) (by omega) (by omega)) f1 f0;obtain⟨r2,g2,hr2⟩:=qi4 hN hr hy f2 (hb.mono (by omega));rw[g1,ZB,g2,ZB,ZB];refine⟨q2,r2,rfl,hq2,?_⟩;rw[show b-(a.natAbs:Int)%b= -((a.natAbs:Int)%b)+b by omega];exact hr2
  rw[ak hz,aa (by simp)]at hq hr
  have ea:(a.natAbs:Int)=a:=by omega
  rw[ea]at hq hr m0
  have hm':¬((a.natAbs:Int)%b<0):=by rw[ea];omega
  rw[ak hz,aa (by rw[aa (show¬(false=true)by simp),aa hm'];split<;>omega),ZB];exact⟨q,r,rfl,hq,hr⟩
 unfold jS
 cases ex:x.w.isEmpty with
 |false=>
  rw[aa (by simp),ZB,aa (by simp)];exact long
 |true=>
  rw[ae rfl]
  cases ey:y.w.isEmpty with
  |false=>
   rw[aa (by simp),ZB,aa (by simp)];exact long
  |true=>
   obtain⟨h1,h2,h3⟩:=hx.emp ex;obtain⟨k1,k2,k3⟩:=hy.emp ey;rw[ae rfl,ZB];by_cases hm:x.s= -9223372036854775808
   ·rw[aa (by simp[hm])];exact long
   rw[ae (by simp[hm]),h1,k1]
   have b1: -9223372036854775807<=a:=by omega
   have d1:=aH a b;have d2:=aJ a (show b≠0 by omega);have d3:=aE a hb0;have t1:=Int.mul_tdiv_add_tmod a b
   have hq:qdh .i64 a b=some (a.tdiv b):=by
    unfold qdh;have h4:=Int.natAbs_tdiv_le_natAbs a b;rw[aa (by omega)];show some (w64 _)=_;rw[qg (by omega) (by omega)]
   have hr:qfo .i64 a b=some (a.tmod b):=by
    unfold qfo;rw[aa (by omega)]
   have h4:=Int.natAbs_tdiv_le_natAbs a b;rw[hq,ZB,hr,ZB]
   have t2:a.tmod b=if 0<=a\/b∣a then a%b else a%b-b:=by
    rw[Int.tmod_eq_emod];have:(b.natAbs:Int)=b:=eb;split<;>omega
   have t3:a.tdiv b=if 0<=a\/b∣a then a/b else a/b+1:=by
    rw[Int.tdiv_eq_ediv];have:b.sign=1:=dE hb0;split<;>omega
   by_cases hc:0<=a\/b∣a
   ·rw[ae hc]at t2 t3;rw[t2,t3,aa (by omega),ZB];rw[t3]at h4;exact⟨_,_,rfl,Ue (by omega) (by omega),Ue (by omega) (by omega)⟩
   rw[aa hc]at t2 t3;rw[t3]at h4
   have e1:w64 (a/b+1-1)=a/b:=by rw[qg (by omega) (by omega)];omega
   have e2:w64 (a%b-b+b)=a%b:=by rw[qg (by omega) (by omega)];omega
   rw[t2,t3,ae (by omega),ZB,e1,e2]
   have h5: -9223372036854775808<=a/b/\a/b<=9223372036854775807:=by
    constructor
    ·omega
    omega
   exact⟨_,_,rfl,Ue h5.1 h5.2,Ue (by omega) (by omega)⟩
def qev {a b:Int}(ha:0<=a) (hb:0<=b):Int.gcd a b=Int.gcd b (a%b):=by
 obtain⟨m,rfl⟩:=bA ha;obtain⟨n,rfl⟩:=bA hb;show Nat.gcd m n=Nat.gcd n (m%n);rw[Nat.gcd_comm m n,Nat.gcd_rec n m,Nat.gcd_comm]
def qc9 {a b:Int}{n:Nat}(h:(a.natAbs:Int)<=(b.natAbs:Int)) (k:Fit b n):Fit a n:=Int.lt_of_le_of_lt h k
def qrr {N:Nat}(hN:11000<N) (B:Nat) (hB:B<=3900):∀(k K:Nat) (x y:qh) (a b:Int),IsZ x a->IsZ y b->0<=a->0<=b->b<2^k->2*k+2<=K->Fit a B->Fit b B->
 ∃g:qh,qaa N K x.s x.w y.s y.w=some (g.s,g.w)/\IsZ g (Int.gcd a b:Int)
 |k,0,x,y,a,b,_,_,_,_,_,hK,_,_=>by omega
 |k,K+1,x,y,a,b,hx,hy,ha,hb,hk,hK,fa,fb=>by
  have sg:=qeU hy
  have done:b=0->∃g:qh,qaa N (K+1) x.s x.w y.s y.w=some (g.s,g.w)/\IsZ g (Int.gcd a b:Int):=by
   intro h0;rw[h0,aa (by omega),ae rfl]at sg;have sg:zg ⟨y.s,y.w⟩=some 0:=sg;rw[qaa,sg,ZB,aa (by simp)];refine⟨x,rfl,?_⟩;rw[h0,dW,show(a.natAbs:Int)=a by omega];exact hx
  rcases(show b=0\/0<b by omega)with h0|h0
  ·exact done h0
  match k,hk,hK with
  |0,hk,hK=>simp at hk;omega
  |k+1,hk,hK=>
   rw[aa (by omega),aa (by omega)]at sg;have sg:zg ⟨y.s,y.w⟩=some 1:=sg;have m0:=aJ a (show b≠0 by omega);have m1:=aE a h0;obtain⟨q,r,e,hq,hr⟩:=qhZ hN hx hy (fa.mono hB) (fb.mono hB) h0;have e:jS N ⟨x.s,x.w⟩ ⟨y.s,y.w⟩=some (q,r):=e;rw[qaa,sg,ZB,ae (by simp),e,ZB];have fr:Fit (a%b) B:=qc9 (by omega) fb;simp only;rw[qev ha hb]
   match K,hK with
   |0,hK=>omega
   |K+1,hK=>
    have sr:=qeU hr;rcases(show a%b=0\/0<a%b by omega)with g0|g0
    ·rw[g0,aa (by omega),ae rfl]at sr;have sr:zg ⟨r.s,r.w⟩=some 0:=sr;rw[qaa,sr,ZB,aa (by simp)];refine⟨y,rfl,?_⟩;rw[g0,dW,show(b.natAbs:Int)=b by omega];exact hy
    rw[aa (by omega),aa (by omega)]at sr;have sr:zg ⟨r.s,r.w⟩=some 1:=sr;obtain⟨q2,r2,e2,hq2,hr2⟩:=qhZ hN hy hr (fb.mono hB) (fr.mono hB) g0;have e2:jS N ⟨y.s,y.w⟩ ⟨r.s,r.w⟩=some (q2,r2):=e2;rw[qaa,sr,ZB,ae (by simp),e2,ZB];have n0:=aJ b (show a%b≠0 by omega);have n1:=aE b g0
    have hhalf:b%(a%b)<2^k:=by
     have d1:=aH b (a%b)
     have d2:1<=b/(a%b):=by
      rw[bX g0];omega
     have d3:a%b*1<=a%b*(b/(a%b)):=Yc d2 (by omega);rw[aL]at hk;omega
    simp only;rw[qev hb m0];exact qrr hN B hB k K r r2 (a%b) (b%(a%b)) hr hr2 m0 n0 hhalf (by omega) fr (qc9 (by omega) fr)
def qp7 {N:Nat}(hN:600000<N) {x y:qh}{a b:Int}(hx:IsZ x a) (hy:IsZ y b) (fa:Fit a 3900) (fb:Fit b 3900):∃g,qea N x y=some g/\IsZ g (Int.gcd a b:Int):=by
 obtain⟨x',e1,hx'⟩:=qrY hx;obtain⟨y',e2,hy'⟩:=qrY hy
 have hb:(b.natAbs:Int)<2^(64*3900):=by
  have e:W^3900=2^(64*3900):=by
   rw[Int.pow_mul];rfl
  unfold Fit at fb;rw[<-e];exact fb
 obtain⟨g,e3,hg⟩:=qrr (N:=N) (by omega) 3900 (ai _) (64*3900) N x' y' _ _ hx' hy' (by omega) (by omega) hb (by omega) (by unfold Fit;rw[aS];exact fa) (by unfold Fit;rw[aS];exact fb);unfold qea;rw[e1,ZB,e2,ZB,e3,ZB];refine⟨g,rfl,?_⟩;rw[show Int.gcd a b=Int.gcd (a.natAbs:Int) (b.natAbs:Int)from rfl];exact hg
def qqD {N:Nat}(hN:11000<N) {x y:qh}{a b:Int}(hx:IsZ x a) (hy:IsZ y b) (fa:Fit a 3900) (fb:Fit b 3900) (hb:0<b):∃q,yL N x y=some q/\IsZ q (a/b):=by
 obtain⟨q,r,e,hq,_⟩:=qhZ hN hx hy fa fb hb;have e:jS N ⟨x.s,x.w⟩ ⟨y.s,y.w⟩=some (q,r):=e;unfold yL;rw[qeU hy,ZB,aa (by split<;>omega),ZB];simp only;rw[e,ZB];exact⟨q,rfl,hq⟩
def IsF (f:qb) (q:Rat):Prop:=IsZ f.Num q.num/\IsZ f.Den (q.den:Int)
abbrev qaN (q:Rat) (n:Nat):Prop:=Fit q.num n/\Fit (q.den:Int) n
def qaN.mono {q:Rat}{m n:Nat}(h:qaN q m) (hn:m<=n):qaN q n:=⟨h.1.mono hn,h.2.mono hn⟩
def qaI (a:Int) {g:Int}(hg:0<g):((a/g).natAbs:Int)<=(a.natAbs:Int):=by
 have:=Int.natAbs_ediv_le_natAbs a g;omega
def qi3 {a b:Int}{n:Nat}(hb:b≠0) (fa:Fit a n) (fb:Fit b n):qaN (Rat.divInt a b) n:=by
 have hg:0<Int.gcd b a:=cx _ hb;constructor
 ·rw[dy];refine qc9 (cV (qaI _ (by omega)) ?_) fa;rw[bH,cE hb,cy];exact cz _
 rw[dz,aa hb];have:=Nat.div_le_self b.natAbs (Int.gcd b a);refine qc9 ?_ fb;rw[aS];omega
def qlk {N:Nat}(hN:600000<N) {x y:qh}{a b:Int}(hx:IsZ x a) (hy:IsZ y b) (fa:Fit a 3900) (fb:Fit b 3900) (hb:b≠0):∃f,qc7 N x y=some f/\IsF f (Rat.divInt a b):=by
 have hg:0<Int.gcd b a:=cx _ hb
 have S:∃n d:qh,(if(if b<0 then-1 else if b=0 then 0 else(1:Int))<0 then
  (zH x).bind λr8=>(zH y).bind λr9=>some (r8.s,r8.w,r9.s,r9.w)
  else some (x.s,x.w,y.s,y.w):Option (Int×(List Int)×Int×(List Int)))=some (n.s,n.w,d.s,d.w)/\IsZ n (b.sign*a)/\IsZ d (b.natAbs:Int):=by
  by_cases h:b<0
  ·obtain⟨n,e1,h1⟩:=qhB hx;obtain⟨d,e2,h2⟩:=qhB hy;rw[ae h,ae (by omega),e1,ZB,e2,ZB];refine⟨n,d,rfl,?_,?_⟩
   ·rw[d7 h,Int.neg_mul,bJ];exact h1
   rw[show(b.natAbs:Int)= -b by omega];exact h2
  rw[aa h,aa (by split<;>omega)];refine⟨x,y,rfl,?_,?_⟩
  ·rw[dE (by omega),bJ];exact hx
  rw[show(b.natAbs:Int)=b by omega];exact hy
 obtain⟨n,d,e,hn,hd⟩:=S;unfold qc7;rw[qeU hy,ZB,e,ZB];simp only
 have ha:((b.sign*a).natAbs:Int)=(a.natAbs:Int):=by rw[bH,cE hb,cy]
 have fn:Fit (b.sign*a) 3900:=qc9 (by omega) fa;have fd:Fit (b.natAbs:Int) 3900:=qc9 (by omega) fb
 have long:∃f,((qea N (⟨n.s,n.w⟩:qh) (⟨d.s,d.w⟩:qh)).bind λr14=>
  (yL N (⟨n.s,n.w⟩:qh) r14).bind λr15=>
  (yL N (⟨d.s,d.w⟩:qh) r14).bind λr16=>
  some (⟨r15,r16⟩:qb))=some f/\IsF f (Rat.divInt a b):=by
  obtain⟨g,e1,h1⟩:=qp7 hN hn hd fn fd
  have eg:Int.gcd (b.sign*a) (b.natAbs:Int)=Int.gcd b a:=by
   rw[Int.gcd_comm];show Nat.gcd (b.natAbs:Int).natAbs (b.sign*a).natAbs=Nat.gcd b.natAbs a.natAbs;rw[show(b.sign*a).natAbs=a.natAbs by omega];rfl
  rw[eg]at h1
  have fg:Fit (Int.gcd b a:Int) 3900:=by
   have:Int.gcd b a<=b.natAbs:=Nat.le_of_dvd (by omega) (Int.gcd_dvd_natAbs_left b a);exact qc9 (by rw[aS];omega) fb
  obtain⟨p,e2,h2⟩:=qqD (N:=N) (by omega) hn h1 fn fg (by omega);obtain⟨q,e3,h3⟩:=qqD (N:=N) (by omega) hd h1 fd fg (by omega);have e1:qea N (⟨n.s,n.w⟩:qh) (⟨d.s,d.w⟩:qh)=some g:=e1;have e2:yL N (⟨n.s,n.w⟩:qh) g=some p:=e2;have e3:yL N (⟨d.s,d.w⟩:qh) g=some q:=e3;rw[e1,ZB,e2,ZB,e3,ZB];refine⟨⟨p,q⟩,rfl,?_,?_⟩
  ·rw[dy];exact h2
  rw[dz,aa hb,de];exact h3
 have hs:=hd.sgn
 cases ed:d.w.isEmpty with
 |false=>
  rw[aa (by simp),ZB,aa (by simp)];exact long
 |true=>
  obtain⟨h1,h2,h3⟩:=hd.emp ed;rw[ae rfl,ZB];by_cases h:d.s=1
  ·rw[ae (by simp[h])]
   have hb1:b.natAbs=1:=by omega
   have eg:Int.gcd b a=1:=by
    show Nat.gcd b.natAbs a.natAbs=1;rw[hb1,Nat.gcd_one_left]
   refine⟨⟨⟨n.s,n.w⟩,⟨d.s,d.w⟩⟩,rfl,?_,?_⟩
   ·rw[dy,eg,Int.natCast_one,Int.ediv_one];exact hn
   rw[dz,aa hb,eg,Nat.div_one];exact hd
  rw[aa (by simp[h])];exact long
def F1 {n:Nat}(h:1<=n):Fit 1 n:=by
 have:=xg (show(1:Int)<=W by decide) h;rw[eP]at this
 have hw:(1:Int)<=W-1:=by decide
 have hw2: -W< -(1:Int):=by decide
 unfold Fit;omega
def qi8 {x:qh}{z:Int}(h:IsZ x z):∃f,qcN x=some f/\IsF f (z:Rat):=by
 unfold qcN;rw[qky,ZB];exact⟨_,rfl,h,Ue (by decide) (by decide)⟩
def qgS {f:qb}{q:Rat}(h:IsF f q):vE f=some (decide (q.den=1)):=by
 have hs:=h.2.sgn;have hd:=q.den_pos;unfold vE
 cases ed:f.Den.w.isEmpty with
 |true=>
  obtain⟨h1,_,_⟩:=h.2.emp ed;rw[ae rfl,ZB];congr 1;exact decide_eq_decide.2 (by omega)
 |false=>
  rw[aa (by simp),ZB];rcases h.2 with⟨hw,_⟩|⟨_,_,h1,_⟩
  ·rw[hw]at ed;simp at ed
  rw[ak (by omega)]
def qbQ {a b:Int}{m n:Nat}(ha:Fit a m) (hb:Fit b n):Fit (a*b) (m+n):=by
 unfold Fit at*;rw[bH,bu,Int.pow_add];have h1:(a.natAbs:Int)*(b.natAbs:Int)<=(a.natAbs:Int)*W^n:=Yc (aC hb) (by omega);have h2:(a.natAbs:Int)*W^n<W^m*W^n:=YH ha (pow_pos W0 n);omega
def qn1 {a b:Int}{n:Nat}(ha:Fit a n) (hb:Fit b n):Fit (a+b) (n+1):=by
 unfold Fit at*;rw[aL];have hp:=pow_pos W0 n
 have:((a+b).natAbs:Int)<=(a.natAbs:Int)+(b.natAbs:Int):=by omega
 unfold W at*;omega
def qta {a:Int}{n:Nat}(h:Fit a n):Fit (-a) n:=by unfold Fit;rw[cC];exact h
def qsV {f:qb}{q:Rat}(h:IsF f q):∃r,qct f=some r/\IsF r (-q):=by
 obtain⟨n,e,hn⟩:=qhB h.1;unfold qct;rw[e,ZB];exact⟨_,rfl,by rw[fQ];exact hn,by rw[fR];exact h.2⟩
def qdH (p q:Rat):p+q=Rat.divInt (p.num*q.den+q.num*p.den) ((p.den:Int)*q.den):=by
 rw[Rat.add_def',<-Rat.divInt_ofNat,bu]
def qdE (p q:Rat):p*q=Rat.divInt (p.num*q.num) ((p.den:Int)*q.den):=by
 rw[Rat.mul_def',<-Rat.divInt_ofNat,bu]
def qdK (p q:Rat):(p.den:Int)*q.den≠0:=Int.mul_ne_zero (by have:=p.den_pos;omega) (by have:=q.den_pos;omega)
def qqA {p q:Rat}{n:Nat}(hp:qaN p n) (hq:qaN q n):qaN (p+q) (n+n+1):=by
 rw[qdH];exact qi3 (qdK p q) (qn1 (qbQ hp.1 hq.2) (qbQ hq.1 hp.2)) ((qbQ hp.2 hq.2).mono (by omega))
def qjy {p q:Rat}{n:Nat}(hp:qaN p n) (hq:qaN q n):qaN (p*q) (n+n):=by
 rw[qdE];exact qi3 (qdK p q) (qbQ hp.1 hq.1) (qbQ hp.2 hq.2)
def qpJ {p:Rat}{n:Nat}(hp:qaN p n):qaN (-p) n:=⟨by rw[fQ];exact qta hp.1,by rw[fR];exact hp.2⟩
def qqz {p:Rat}{n:Nat}(hp:qaN p n) (hn:1<=n):qaN p⁻¹ n:=by
 by_cases h:p.num=0
 ·constructor
  ·rw[Rat.num_inv,h];refine qc9 ?_ (F1 hn);simp
  rw[Rat.den_inv,ae h];exact F1 hn
 constructor
 ·rw[Rat.num_inv];refine qc9 ?_ hp.2;rw[bH,cE h,cy];exact cz _
 rw[Rat.den_inv,aa h];exact qc9 (by omega) hp.1
def qn3 {N:Nat}(hN:600000<N) {f g:qb}{p q:Rat}(hf:IsF f p) (hg:IsF g q) {n:Nat}(hn:n<=1900) (fp:qaN p n) (fq:qaN q n):∃r,qbu N f g=some r/\IsF r (p+q):=by
 have fp':=fp.mono hn;have fq':=fq.mono hn
 have long:∃r,((qO N f.Num g.Den).bind λr9=>
  (qO N g.Num f.Den).bind λr10=>
  (vS N r9 r10).bind λr11=>
  (qO N f.Den g.Den).bind λr12=>
  (qc7 N r11 r12).bind λr13=>
  some r13)=some r/\IsF r (p+q):=by
  obtain⟨a,e1,h1⟩:=qfK (N:=N) (by omega) hf.1 hg.2 (fp'.1.mono (by omega)) (fq'.2.mono (by omega));obtain⟨b,e2,h2⟩:=qfK (N:=N) (by omega) hg.1 hf.2 (fq'.1.mono (by omega)) (fp'.2.mono (by omega));have s1:=qbQ fp'.1 fq'.2;have s2:=qbQ fq'.1 fp'.2;obtain⟨c,e3,h3⟩:=qi4 (N:=N) (by omega) h1 h2 (s1.mono (by omega)) (s2.mono (by omega));obtain⟨d,e4,h4⟩:=qfK (N:=N) (by omega) hf.2 hg.2 (fp'.2.mono (by omega)) (fq'.2.mono (by omega));obtain⟨m,e5,h5⟩:=qlk hN h3 h4 ((qn1 s1 s2).mono (by omega)) ((qbQ fp'.2 fq'.2).mono (by omega)) (qdK p q);rw[e1,ZB,e2,ZB,e3,ZB,e4,ZB,e5,ZB];exact⟨m,rfl,by rw[qdH];exact h5⟩
 unfold qbu;rw[qgS hf,ZB];by_cases h1:p.den=1
 ·rw[ap h1,ae rfl,qgS hg,ZB,ZB];by_cases h2:q.den=1
  ·rw[ap h2,ae rfl];obtain⟨c,e3,h3⟩:=qi4 (N:=N) (by omega) hf.1 hg.1 (fp'.1.mono (by omega)) (fq'.1.mono (by omega));obtain⟨m,e4,h4⟩:=qi8 h3;rw[e3,ZB,e4,ZB];refine⟨m,rfl,?_⟩;have ep:p=(p.num:Rat):=Rat.ext (by simp) (by simp[h1]);have eq:q=(q.num:Rat):=Rat.ext (by simp) (by simp[h2]);rw[ep,eq,<-Rat.intCast_add];exact h4
  rw[ak h2,aa (by simp)];exact long
 rw[ak h1,aa (by simp),ZB,aa (by simp)];exact long
def qsz {N:Nat}(hN:600000<N) {f g:qb}{p q:Rat}(hf:IsF f p) (hg:IsF g q) {n:Nat}(hn:n<=1900) (fp:qaN p n) (fq:qaN q n):∃r,qco N f g=some r/\IsF r (p-q):=by
 obtain⟨m,e1,h1⟩:=qsV hg;obtain⟨r,e2,h2⟩:=qn3 hN hf h1 hn fp (qpJ fq);unfold qco;rw[e1,ZB,e2,ZB];exact⟨r,rfl,by rw[Rat.sub_eq_add_neg];exact h2⟩
def qlq {N:Nat}(hN:600000<N) {f g:qb}{p q:Rat}(hf:IsF f p) (hg:IsF g q) {n:Nat}(hn:n<=1900) (fp:qaN p n) (fq:qaN q n):∃r,qaz N f g=some r/\IsF r (p*q):=by
 have fp':=fp.mono hn;have fq':=fq.mono hn;obtain⟨a,e1,h1⟩:=qfK (N:=N) (by omega) hf.1 hg.1 (fp'.1.mono (by omega)) (fq'.1.mono (by omega));obtain⟨b,e2,h2⟩:=qfK (N:=N) (by omega) hf.2 hg.2 (fp'.2.mono (by omega)) (fq'.2.mono (by omega));obtain⟨m,e3,h3⟩:=qlk hN h1 h2 ((qbQ fp'.1 fq'.1).mono (by omega)) ((qbQ fp'.2 fq'.2).mono (by omega)) (qdK p q);unfold qaz;rw[e1,ZB,e2,ZB,e3,ZB];exact⟨m,rfl,by rw[qdE];exact h3⟩
def qsT {N:Nat}(hN:600000<N) {f:qb}{p:Rat}(hf:IsF f p) (fp:qaN p 3900) (h0:p≠0):∃r,qcr N f=some r/\IsF r p⁻¹:=by
 obtain⟨m,e,h⟩:=qlk hN hf.2 hf.1 fp.2 fp.1 (λc=>h0 (Rat.num_eq_zero.1 c));unfold qcr;rw[e,ZB];exact⟨m,rfl,by rw[Rat.inv_def];exact h⟩
def qfg {l:List Int}(h:Dg E9 l) {n:Nat}(hl:dv E9 l<E9^n):dv E9 (l.drop n)=0:=by
 by_cases hn:n<=l.length
 ·have e:=qaf E9 l n hn;have h1:=qz E0 (h.take n);have h2:=qz E0 (h.drop n);rcases cw 0 (dv E9 (l.drop n))with c|c
  ·have:=Yc (show 1<=dv E9 (l.drop n)by omega) (aC (pow_pos E0 n));omega
  omega
 rw[aB (by omega),zn]
def ql9 {N:Nat}(hN:11000<N) {v:List Int}{k:Nat}(hv:Dg E9 v) (hvl:v.length=k+2) (hk:k<=9000) (hn:1000000<=v[k+1]'(by omega)) {A:Int}{m:Nat}(hm:m<=9000):∀(K i:Nat) (l qs:List Int),i<=m+1->i<K->l.length=m+k+3->qs.length=m+1->Dg E9 l->Dg E9 qs->(∀(j:Nat) x,j<i->qs[j]? =some x->x=0)->dv E9 (l.drop i)<dv E9 v->dv E9 l+dv E9 v*dv E9 qs=A->
 ∃l' qs',jw N v K l qs ((i:Int)-1)=some (l',qs')/\l'.length=m+k+3/\qs'.length=m+1/\Dg E9 l'/\Dg E9 qs'/\dv E9 l'<dv E9 v/\dv E9 l'+dv E9 v*dv E9 qs'=A
 |0,i,l,qs,h,hK,_,_,_,_,_,_,_=>by omega
 |K+1,0,l,qs,h,hK,hl,hql,hd,hqd,hz,hlt,e=>by
  rw[jw,aa (by omega)];exact⟨l,qs,rfl,hl,hql,hd,hqd,hlt,e⟩
 |K+1,i+1,l,qs,h,hK,hl,hql,hd,hqd,hz,hlt,e=>by
  have hil:i<l.length:=by omega
  have hiq:i<qs.length:=by omega
  have ei:((i+1:Nat):Int)-1=(i:Int):=by omega
  have V1:=qab E0 hv;rw[hvl]at V1
  have V0:0<dv E9 v:=by
   have:=qz E0 (hd.drop (i+1));omega
  have lp:(l.take i).length=i:=by rw[Ym];omega
  have lu:((l.drop i).take (k+3)).length=k+3:=by rw[Ym,YJ];omega
  have el:l=l.take i++((l.drop i).take (k+3)++(l.drop i).drop (k+3)):=by rw[YS,YS]
  have hu:=(hd.drop i).take (k+3)
  have ht:dv E9 ((l.drop i).drop (k+3))=0:=by
   have:=qfg (hd.drop (i+1)) (n:=k+2) (by omega);rw[gp]at this⊢;rw[show i+(k+3)=i+1+(k+2)by omega];exact this
  have eu:dv E9 ((l.drop i).take (k+3))=dv E9 (l.drop i):=by
   have:=qai E9 ((l.drop i).take (k+3)) ((l.drop i).drop (k+3));rw[YS,ht,aZ,bc]at this;exact this.symm
  have hUlt:dv E9 ((l.drop i).take (k+3))<1000000000*dv E9 v:=by
   rw[eu,qjP l hil];have:=(hd.at hil).2;have h1:E9*(dv E9 (l.drop (i+1))+1)<=E9*dv E9 v:=Yc (by omega) (by decide);rw[Int.mul_add,bY]at h1;have h2:E9*dv E9 v=1000000000*dv E9 v:=rfl;omega
  obtain⟨u',s2,s3,s4,s1⟩:=qqm hN (p:=l.take i) (t:=(l.drop i).drop (k+3)) hv hvl hk hu lu (by omega) hn hUlt;rw[lp,<-el]at s1;rw[jw,ei,ae (by omega)];have hU0:=qz E0 hu;have Q0:0<=dv E9 ((l.drop i).take (k+3))/dv E9 v:=aV hU0 (by omega)
  have Q1:dv E9 ((l.drop i).take (k+3))/dv E9 v<E9:=by rw[Yu V0];exact hUlt
  have hR:=aE (dv E9 ((l.drop i).take (k+3))) V0;have hdm:=aH (dv E9 ((l.drop i).take (k+3))) (dv E9 v)
  have hdrop:(l.take i++(u'++(l.drop i).drop (k+3))).drop i=u'++(l.drop i).drop (k+3):=by
   rw[cT (by omega),aB (by omega),bp]
  have hdn:dv E9 (u'++(l.drop i).drop (k+3))=dv E9 u':=by rw[qai,ht,aZ,bc]
  have main:=ql9 hN hv hvl hk hn (A:=A) hm K i (l.take i++(u'++(l.drop i).drop (k+3))) (qs.set i (dv E9 ((l.drop i).take (k+3))/dv E9 v)) (by omega) (by omega) (by rw[Yq,Yq,lp,s2,YJ,YJ];omega) (by rw[Yk];exact hql) ((hd.take i).append (s3.append ((hd.drop i).drop _))) (hqd.set ⟨Q0,Q1⟩) (λj x hj hx=>by
   rw[Yw (by omega)]at hx
   exact hz j x (by omega) hx) (by rw[hdrop,hdn,s4];exact hR) (by
   rw[qmc hiq (λj x hj hx=>hz j x (by omega) hx),qai,lp,hdn,s4,Int.mul_add];have e1:=qaf E9 l i (by omega);rw[<-eu]at e1
   have e2:E9^i*dv E9 ((l.drop i).take (k+3))=E9^i*(dv E9 v*(dv E9 ((l.drop i).take (k+3))/dv E9 v))+E9^i*(dv E9 ((l.drop i).take (k+3))%dv E9 v):=by rw[<-Int.mul_add,hdm]
   have e3:dv E9 v*(E9^i*(dv E9 ((l.drop i).take (k+3))/dv E9 v))=E9^i*(dv E9 v*(dv E9 ((l.drop i).take (k+3))/dv E9 v)):=Int.mul_left_comm _ _ _;rw[e3]
   omega)
  obtain⟨l',qs',g1,g2⟩:=main;refine⟨l',qs',?_,g2⟩;rw[<-g1];generalize hw:qa8 N l v (i:Int)=og at s1⊢
  cases og with
  |none=>cases s1
  |some r25=>
   simp only[ZB]at s1⊢;generalize ku v (i:Int) r25 N l 0 0=o2 at s1⊢
   cases o2 with
   |none=>cases s1
   |some p2=>
    obtain⟨l29,n30⟩:=p2;simp only[ZB]at s1⊢;generalize idx l29 (w64 ((i:Int)+(v.length:Int)))=o3 at s1⊢
    cases o3 with
    |none=>cases s1
    |some x40=>
     simp only[ZB]at s1⊢;generalize put l29 (w64 ((i:Int)+(v.length:Int))) (w64 (x40-n30))=o4 at s1⊢
     cases o4 with
     |none=>cases s1
     |some l41=>
      simp only[ZB]at s1⊢;generalize idx l41 (w64 ((i:Int)+(v.length:Int)))=o5 at s1⊢
      cases o5 with
      |none=>cases s1
      |some x42=>
       simp only[ZB]at s1⊢;refine(az (λz=>Option.bind z _) s1).trans ?_;rw[ZB];simp only;rw[qf,Ya hiq,ZB,jr hiq,ZB,qg (by omega) (by omega)]
def qqx {a:List Int}(hal:a.length<=50000):∀(K:Nat) (l:List Int),a.length+1<K+l.length->l.length<=a.length+1->vH a K l=some (l++List.replicate (a.length+1-l.length) 0)
 |0,l,h,h2=>by omega
 |K+1,l,h,h2=>by
  rw[vH,qm (by omega)];by_cases c:l.length<a.length+1
  ·rw[ae (by omega),jU (by simp;omega) (by simp;omega),ZB,qqx hal K (l++[0]) (by simp;omega) (by simp;omega),Yz,Yq,bE];rw[show a.length+1-l.length=a.length+1-(l.length+1)+1 by omega,eW];rfl
  rw[aa (by omega),show a.length+1-l.length=0 by omega];simp
def qe3 {N:Nat}(hN:60000<N) {a b:List Int}(ha:Can E9 a) (hb:Can E9 b) (hal:a.length<=8000) (hb0:0<dv E9 b):vg N a b=some (dg E9 (dv E9 a/dv E9 b),dg E9 (dv E9 a%dv E9 b)):=by
 have A0:=qz E0 ha.1;unfold vg;rw[qeK ha hb (by omega) (by omega),ZB];by_cases h:dv E9 a<dv E9 b
 ·rw[ae h,ae (by omega),dF A0 h,bM A0 h,qeX,qqZ E1 ha]
 have hlen:b.length<=a.length:=by
  rcases aw a.length b.length with c|c
  ·have:=qd8 ha hb c;omega
  exact c
 have hb1:0<b.length:=by
  rcases bG b.length with c|c
  ·rw[YL.1 c,zn]at hb0;omega
  exact c
 have hge:¬((if dv E9 a<dv E9 b then-1 else if dv E9 a=dv E9 b then(0:Int)else 1)<0):=by
  rw[aa h];split<;>omega
 rw[aa hge];by_cases hone:b.length=1
 ·obtain⟨d,rfl⟩:=dC.1 hone
  have ed:dv E9 [d]=d:=by rw[zF,zn];omega
  rw[ed]at hb0⊢;have hd:d<1000000000:=hb.1.head.2;have m0:=aJ (dv E9 a) (show d≠0 by omega);have m1:=aE (dv E9 a) hb0;rw[ae (by simp),yJ];simp only[Yj,ZB];rw[qh6 ha.1 (by omega) (by omega) hb0 hd,ZB];simp only;rw[qdQ (Dg.cons ⟨m0,Int.lt_trans m1 hd⟩ Dg.nil) (by simp) (by simp;omega),ZB,zF,zn,aZ,bc]
 obtain⟨k,hk⟩:∃k,b.length=k+2:=⟨b.length-2,by omega⟩;obtain⟨m,hm⟩:∃m,a.length=m+k+2:=⟨a.length-(k+2),by omega⟩
 have hkb:k+1<b.length:=by omega
 have at1:=hb.1.at hkb;have at2:b[k+1]<1000000000:=at1.2;have at0:b[k+1]≠0:=hb.2 _ (by rw[List.getLast?_eq_getElem?,hk];exact Ya hkb);have hPk:=pow_pos E0 (k+1);rw[aa (by omega),show w64 ((b.length:Int)-1)=((k+1:Nat):Int)by rw[qg (by omega) (by omega)];omega,qf,Ya hkb,ZB,qg (n:=b[k+1]+1) (by omega) (by omega)]
 have hq:qdh .i64 1000000000 (b[k+1]+1)=some (1000000000/(b[k+1]+1)):=by
  unfold qdh;have:(1000000000:Int)/(b[k+1]+1)<=1000000000:=fP _ (by omega);have:0<=(1000000000:Int)/(b[k+1]+1):=aV (by omega) (by omega);rw[aa (by omega),YF (by omega)];show some (w64 _)=_;rw[qg (by omega) (by omega)]
 rw[hq,ZB];have f1:=aH 1000000000 (b[k+1]+1);have f2:=aE 1000000000 (show 0<b[k+1]+1 by omega);have f3:=aJ 1000000000 (show b[k+1]+1≠0 by omega)
 have f0:1<=(1000000000:Int)/(b[k+1]+1):=by
  rw[bX (by omega)];omega
 have f5:(1000000000:Int)/(b[k+1]+1)<=500000000:=by
  have:(1000000000:Int)/(b[k+1]+1)<500000001:=by
   rw[Yu (by omega)];omega
  omega
 generalize hf:(1000000000:Int)/(b[k+1]+1)=f at*
 have f4:250000000<=b[k+1]*f:=by
  rw[bf,bJ]at f1
  have:f<=b[k+1]*f:=by
   have:=aI (show 1<=b[k+1]by omega) (show 0<=f by omega);omega
  have:b[k+1]<=b[k+1]*f:=by
   have:=Yc (show 1<=f by omega) (show 0<=b[k+1]by omega);omega
  omega
 have fd:Dg E9 [f]:=Dg.cons ⟨by omega,show f<1000000000 by omega⟩ Dg.nil
 have fv:dv E9 [f]=f:=by rw[zF,zn];omega
 have hf0:0<f:=by omega
 rw[qe2 hb.1 fd (by omega) (by simp) (by simp;omega),ZB,qe2 ha.1 fd (by omega) (by simp) (by simp;omega),ZB,fv];have V0:0<dv E9 b*f:=dL hb0 hf0
 have ebs:dv E9 b=dv E9 (b.take (k+1))+E9^(k+1)*b[k+1]:=by
  have:=ql E9 b (k+1) hkb;rw[ar (by omega)]at this;exact this
 have blo0:=qz E0 (hb.1.take (k+1));have blo1:=qab E0 (hb.1.take (k+1));rw[Ym,aX (by omega)]at blo1
 have Vlow:E9^(k+1)*250000000<=dv E9 b*f:=by
  have h1:=Yc f4 (aC hPk);rw[ebs,bf,Int.mul_assoc];have:=Yv blo0 (aC hf0);omega
 have Vhigh:dv E9 b*f<E9^(k+2):=by
  have h1:(dv E9 b)*f<E9^(k+1)*((b[k+1]+1)*f):=by
   rw[<-Int.mul_assoc];refine YH ?_ hf0;rw[ebs,Int.mul_add,bY];omega
  have h3:E9^(k+1)*((b[k+1]+1)*f)<=E9^(k+1)*1000000000:=Yc (by omega) (aC hPk);rw[aL];exact d6 h1 h3
 have U0:0<=dv E9 a*f:=Yv A0 (aC hf0);have cu:=jA E1 U0;have euu:=yc E1 U0;have hA:=qab E0 ha.1
 have lu:(dg E9 (dv E9 a*f)).length<=a.length+1:=by
  refine(qef E1 U0).2 ?_;rw[aL];have h1:dv E9 a*f<E9^a.length*f:=YH hA hf0;have h2:E9^a.length*f<=E9^a.length*E9:=Yc (show f<=1000000000 by omega) (aC (pow_pos E0 _));omega
 generalize hua:dg E9 (dv E9 a*f)=ua at*;rw[jU (by simp;omega) (by simp;omega),ZB,bp,qqx (by omega) N ua (by omega) lu,ZB]
 have lU:(ua++List.replicate (a.length+1-ua.length) 0).length=m+k+3:=by simp;omega
 have dU:Dg E9 (ua++List.replicate (a.length+1-ua.length) 0):=cu.1.append (Uk E0 _)
 have vU:dv E9 (ua++List.replicate (a.length+1-ua.length) 0)=dv E9 a*f:=by rw[qai,qaM,aZ,bc,euu]
 generalize ua++List.replicate (a.length+1-ua.length) 0=U at*;have cv:=jA E1 (aC V0);have evv:=yc E1 (aC V0)
 have lv:(dg E9 (dv E9 b*f)).length=k+2:=by
  have h1:=(qef E1 (aC V0) (n:=k+2)).2 Vhigh
  have h2:=(not_congr (qef E1 (aC V0) (n:=k+1))).2 (by
   have:E9^(k+1)*1<=E9^(k+1)*250000000:=Yc (by omega) (aC hPk)
   omega)
  omega
 generalize hvv:dg E9 (dv E9 b*f)=v at*
 have hkv:k+1<v.length:=by omega
 have hn:1000000<=v[k+1]:=by
  have e:=ql E9 v (k+1) hkv;rw[ar (by omega),evv]at e;have h1:=qab E0 (cv.1.take (k+1));rw[Ym,aX (by omega)]at h1
  have h2:E9^(k+1)*250000000<E9^(k+1)*(v[k+1]+1):=by rw[Int.mul_add,bY];omega
  have:=dh h2 (aC hPk);omega
 have htop:dv E9 (U.drop (m+1))<dv E9 v:=by
  rw[evv];have e:=qaf E9 U (m+1) (by omega);have h1:=qz E0 (dU.take (m+1))
  have h2:dv E9 U<E9^(m+1)*(E9^(k+1)*f):=by
   rw[vU,<-Int.mul_assoc,<-Int.pow_add,show m+1+(k+1)=a.length by omega];exact YH hA hf0
  have hPm:=pow_pos E0 (m+1)
  have h3:E9^(m+1)*dv E9 (U.drop (m+1))<E9^(m+1)*(E9^(k+1)*f):=by omega
  have h4:=dh h3 (aC hPm)
  have h5:E9^(k+1)*f<=E9^(k+1)*(b[k+1]*f):=by
   refine Yc ?_ (aC hPk);have:=aI (show 1<=b[k+1]by omega) (show 0<=f by omega);omega
  have h6:E9^(k+1)*(b[k+1]*f)<=dv E9 b*f:=by
   rw[<-Int.mul_assoc];exact aI (by omega) (aC hf0)
  omega
 rw[show w64 ((U.length:Int)-(v.length:Int))=((m+1:Nat):Int)by rw[qg (by omega) (by omega)];omega,qca (by omega),ZB,show w64 (((m+1:Nat):Int)-1)=((m+1:Nat):Int)-1 from qg (by omega) (by omega)];obtain⟨l,qs,g1,g2,g3,g4,g5,g6,g7⟩:=ql9 (N:=N) (by omega) cv.1 lv (by omega) hn (A:=dv E9 U) (m:=m) (by omega) N (m+1) U (List.replicate (m+1) 0) (ai _) (by omega) lU (by simp) dU (Uk E0 _) (λj x _ hx=>qiO j x hx) htop (by rw[qaM,aZ,bc]);rw[g1,ZB];simp only;rw[vU]at g7;rw[evv]at g6 g7;have hl0:=qz E0 g4
 have eq:dv E9 qs=dv E9 a/dv E9 b:=by
  rw[<-Int.mul_ediv_mul_of_pos_left (dv E9 a) (dv E9 b) hf0,<-g7,cZ _ _ (by omega),dF hl0 g6,dS]
 have er:dv E9 l=dv E9 a%dv E9 b*f:=by
  have:(dv E9 a*f)%(dv E9 b*f)=dv E9 l:=by rw[<-g7,bF,bM hl0 g6]
  rw[<-this,aK (dv E9 a),aK (dv E9 b),cQ _ _ hf0,aK]
 have hzl:dv E9 (l.drop (k+2))=0:=qfg g4 (by omega)
 have etk:dv E9 (l.take (k+2))=dv E9 l:=by
  have:=qaf E9 l (k+2) (by omega);rw[hzl,aZ,bc]at this;exact this.symm
 have m0:0<=dv E9 a%dv E9 b:=aJ _ (by omega);have r0:0<=dv E9 a%dv E9 b*f:=Yv m0 (aC hf0);rw[lv,jN (by omega),ZB,qdQ (g4.take _) (by rw[Ym];omega) (by rw[Ym];omega),ZB,etk,er,yJ];simp only[Yj,ZB]
 have lr:(dg E9 (dv E9 a%dv E9 b*f)).length<=20000:=by
  have h1:(dg E9 (dv E9 a%dv E9 b*f)).length<=k+2:=(qef E1 r0).2 (by omega);omega
 rw[qh6 (jA E1 r0).1 lr (by omega) hf0 (by omega),ZB,yc E1 r0,Int.mul_ediv_cancel _ (by omega),qdQ g5 (by omega) (by omega),ZB,eq]
abbrev zm (z:Int) (n:Nat):Prop:=(z.natAbs:Int)<E9^n
def zm.len {z:Int}{n:Nat}(h:zm z n):(dg E9 z.natAbs).length<=n:=(qef E1 (by omega)).2 h
def zm.mono {z:Int}{m n:Nat}(h:zm z m) (hn:m<=n):zm z n:=d6 h (xg (by decide) hn)
def qhH (z:Int):Can E9 (rI z).w/\dv E9 (rI z).w=(z.natAbs:Int):=⟨jA E1 (by omega),yc E1 (by omega)⟩
def ql5 {N:Nat}(hN:60000<N) {z:Int}(h:zm z 50000):qau N (rI z)=some (rI (-z)):=by
 have l:=h.len;obtain⟨c,e⟩:=qhH z;unfold qau;rw[qbA _ c.1 (by show(dg E9 z.natAbs).length<=_;omega) (by show(dg E9 z.natAbs).length<_;omega),ZB,e]
 have:(if(!(rI z).neg)=true then-(z.natAbs:Int)else(z.natAbs:Int))= -z:=by
  show(if(!decide (z<0))=true then-(z.natAbs:Int)else(z.natAbs:Int))= -z;by_cases hz:z<0
  ·rw[ap hz,aa (by simp)];omega
  rw[ak hz,ae (by simp)];omega
 rw[this]
def qfy {N:Nat}(hN:60000<N) {a b:Int}(ha:zm a 8000) (hb:zm b 8000):xO N (rI a) (rI b)=some (rI (a*b)):=by
 have la:=ha.len;have lb:=hb.len;obtain⟨ca,ea⟩:=qhH a;obtain⟨cb,eb⟩:=qhH b;have l1:(rI a).w.length<=8000:=la;have l2:(rI b).w.length<=8000:=lb;have hp:0<=(a.natAbs:Int)*(b.natAbs:Int):=Yv (by omega) (by omega)
 have lp:(dg E9 ((a.natAbs:Int)*(b.natAbs:Int))).length<=16000:=by
  refine(qef E1 hp).2 ?_;rw[show 16000=8000+8000 from rfl,Int.pow_add];have h1:(a.natAbs:Int)*(b.natAbs:Int)<=(a.natAbs:Int)*E9^8000:=Yc (aC hb) (by omega);have h2:(a.natAbs:Int)*E9^8000<E9^8000*E9^8000:=YH ha (pow_pos E0 _);omega
 unfold xO;rw[qe2 ca.1 cb.1 (by omega) (by omega) (by omega),ZB,ea,eb,qbA _ (jA E1 hp).1 (by omega) (by omega),ZB,yc E1 hp];congr 2
 have hab:(a.natAbs:Int)*(b.natAbs:Int)=((a*b).natAbs:Int):=by rw[bH,bu]
 rw[hab];show(if(!(decide (a<0)==decide (b<0)))=true then _ else _)=_;by_cases h1:a<0
 ·by_cases h2:b<0
  ·have:=Int.mul_pos_of_neg_of_neg h1 h2;rw[ap h1,ap h2,aa (by simp)];omega
  have:=fl (show a<=0 by omega) (show 0<=b by omega);rw[ap h1,ak h2,ae (by simp)];omega
 by_cases h2:b<0
 ·have:=fw (show 0<=a by omega) (show b<=0 by omega);rw[ak h1,ap h2,ae (by simp)];omega
 have:=Yv (show 0<=a by omega) (show 0<=b by omega);rw[ak h1,ak h2,aa (by simp)];omega
def qs4 {N:Nat}(hN:60000<N) {a b:Int}(ha:zm a 9000) (hb:zm b 9000):qdw N (rI a) (rI b)=some (rI (a+b)):=by
 have la:=ha.len;have lb:=hb.len;obtain⟨ca,ea⟩:=qhH a;obtain⟨cb,eb⟩:=qhH b;have l1:(rI a).w.length<=9000:=la;have l2:(rI b).w.length<=9000:=lb
 have lsub:∀x y:Int,0<=x-y->0<=y->x<E9^9000->(dg E9 (x-y)).length<=9000:=λx y h h0 h1=>(qef E1 h).2 (by omega)
 unfold qdw;have hneg:((rI a).neg==(rI b).neg)=(decide (a<0)==decide (b<0)):=rfl;have na:(rI a).neg=decide (a<0):=rfl;have nb:(rI b).neg=decide (b<0):=rfl;rw[hneg];by_cases hs:(a<0↔b<0)
 ·obtain⟨l,e,d1,d2,d3⟩:=qlE (N:=N) ca.1 cb.1 (by omega) (by omega) (by omega);rw[ae (by rw[bR];exact decide_eq_decide.2 hs),e,ZB,qbA _ d1 (by omega) (by omega),ZB,d3,ea,eb,na];congr 2;simp only[aO];split<;>omega
 rw[aa (by rw[bR];exact λc=>hs (decide_eq_decide.1 c)),qeK ca cb (by omega) (by omega),ZB,ea,eb];by_cases hc:(a.natAbs:Int)<(b.natAbs:Int)
 ·rw[ae hc,aa (by omega),qhg cb ca (by omega) (by omega) (by omega),ZB,ea,eb]
  have h0:0<=(b.natAbs:Int)-(a.natAbs:Int):=by omega
  have ll:=lsub _ _ h0 (by omega) hb;rw[qbA _ (jA E1 h0).1 (by omega) (by omega),ZB,yc E1 h0,nb];congr 2;simp only[aO];split<;>omega
 rw[aa hc,ae (by split<;>omega),qhg ca cb (by omega) (by omega) (by omega),ZB,ea,eb]
 have h0:0<=(a.natAbs:Int)-(b.natAbs:Int):=by omega
 have ll:=lsub _ _ h0 (by omega) ha;rw[qbA _ (jA E1 h0).1 (by omega) (by omega),ZB,yc E1 h0,na];congr 2;simp only[aO];split<;>omega
def qfA {x y:Int}(hx:0<=x) (h:x<=y):∀n:Nat,0<=x^n/\x^n<=y^n
 |0=>by simp
 |n+1=>by
  have ih:=qfA hx h n;rw[aL,aL];exact⟨Yv ih.1 hx,bU ih.2 h hx (cV ih.1 ih.2)⟩
def qjE {N:Nat}(hN:60000<N) (B:Nat) (hB:B<=8000):∀(k K:Nat) (a b:Int),0<=a->0<=b->b<2^k->2*k+2<=K->zm a B->zm b B->zN N K (dg E9 a) (dg E9 b)=some (dg E9 (Int.gcd a b:Int))
 |k,0,a,b,_,_,_,hK,_,_=>by omega
 |k,K+1,a,b,ha,hb,hk,hK,fa,fb=>by
  have na:(a.natAbs:Int)=a:=by omega
  have nb:(b.natAbs:Int)=b:=by omega
  have done:b=0->zN N (K+1) (dg E9 a) (dg E9 b)=some (dg E9 (Int.gcd a b:Int)):=by
   intro h0;subst h0;rw[zN,qeX,aa (by simp),dW,na]
  rcases(show b=0\/0<b by omega)with h0|h0
  ·exact done h0
  match k,hk,hK with
  |0,hk,hK=>simp at hk;omega
  |k+1,hk,hK=>
   have m0:=aJ a (show b≠0 by omega);have m1:=aE a h0;have la:=fa.len;have lb:=fb.len;rw[na]at la;rw[nb]at lb
   have lpos:0<(dg E9 b).length:=by
    rw[cN];intro c;have:=(qjg E1 hb).1 c;omega
   have fr:zm (a%b) B:=by unfold zm at fb⊢;omega
   rw[zN,ae (by omega),qe3 hN (jA E1 ha) (jA E1 hb) (by omega) (by rw[yc E1 hb];exact h0),ZB,yc E1 ha,yc E1 hb];simp only;rw[qev ha hb]
   match K,hK with
   |0,hK=>omega
   |K+1,hK=>
    rcases(show a%b=0\/0<a%b by omega)with g0|g0
    ·rw[g0,zN,qeX,aa (by simp),dW,nb]
    have lr:=fr.len;rw[show((a%b).natAbs:Int)=a%b by omega]at lr
    have lpos2:0<(dg E9 (a%b)).length:=by
     rw[cN];intro c;have:=(qjg E1 m0).1 c;omega
    have n0:=aJ b (show a%b≠0 by omega);have n1:=aE b g0;rw[zN,ae (by omega),qe3 hN (jA E1 hb) (jA E1 m0) (by omega) (by rw[yc E1 m0];exact g0),ZB,yc E1 hb,yc E1 m0]
    have hhalf:b%(a%b)<2^k:=by
     have d1:=aH b (a%b)
     have d2:1<=b/(a%b):=by
      rw[bX g0];omega
     have d3:a%b*1<=a%b*(b/(a%b)):=Yc d2 (by omega);rw[aL]at hk;omega
    simp only;rw[qev hb m0];exact qjE hN B hB k K (a%b) (b%(a%b)) m0 n0 hhalf (by omega) fr (by unfold zm at fr⊢;omega)
def qkc {N:Nat}(hN:600000<N) {a b:Int}(ha:0<=a) (hb:0<=b) (fa:zm a 8000) (fb:zm b 8000):qbw N (dg E9 a) (dg E9 b)=some (dg E9 (Int.gcd a b:Int)):=by
 have h2:b<2^(30*8000):=by
  have e:(2:Int)^(30*8000)=1073741824^8000:=by rw[Int.pow_mul,show(2:Int)^30=1073741824 from rfl]
  rw[e];have:E9^8000<=(1073741824:Int)^8000:=(qfA (by decide) (by decide) _).2;unfold zm at fb;omega
 unfold qbw;rw[qjE (by omega) 8000 (ai _) (30*8000) N a b ha hb h2 (by omega) fa fb,ZB]
def yX (c:UInt8):Bool:=decide (48<=c.toNat)&&decide (c.toNat<=57)
def qX (n:Nat) (s:List UInt8):Nat:=s.foldl (λa c=>a*10+(c.toNat-48)) n
def qdA (n:Nat):qX n []=n:=gn
def qcF (n:Nat) (c:UInt8) (s:List UInt8):qX n (c::s)=qX (n*10+(c.toNat-48)) s:=by
 unfold qX;rw[bI]
def qf3 (s:List UInt8):∀n:Nat,s.all yX=true->qX n s<(n+1)*10^s.length:=by
 induction s with
 |nil=>
  intro n _;rw[aN,fD,cR,qdA];exact aY n
 |cons c s ih=>
  intro n h;rw[cg,aR]at h;have h1:=ih (n*10+(c.toNat-48)) h.2
  have hd:c.toNat-48<=9:=by
   have:=h.1;simp[yX]at this;omega
  have h2:n*10+(c.toNat-48)+1<=(n+1)*10:=by omega
  rw[qcF,Yr,Nat.pow_succ,bP (10^s.length) 10,<-Nat.mul_assoc];exact cD h1 (aW _ h2)
def ne48 {c:UInt8}(h:¬c=48):¬((c.toNat:Int)=48):=λe=>h (UInt8.toNat_inj.1 (show c.toNat=48 from by omega))
def qri (c:UInt8):([48,49,50,51,52,53,54,55,56,57]:Str).contains c=yX c:=by
 rw[cr];simp only[List.contains_cons,List.contains_nil,dP,bR,yX,aR,aO,<-UInt8.toNat_inj,Bool.or_false];simp only[show(48:UInt8).toNat=48 from rfl,show(49:UInt8).toNat=49 from rfl,show(50:UInt8).toNat=50 from rfl,show(51:UInt8).toNat=51 from rfl,show(52:UInt8).toNat=52 from rfl,show(53:UInt8).toNat=53 from rfl,show(54:UInt8).toNat=54 from rfl,show(55:UInt8).toNat=55 from rfl,show(56:UInt8).toNat=56 from rfl,show(57:UInt8).toNat=57 from rfl];omega
def qee {α:Type}{p:α->Bool}:∀{l:List α},l.dropWhile p=[]↔l.all p=true
 |[]=>by simp
 |x::l=>by
  rw[List.dropWhile_cons,cg];by_cases h:p x=true
  ·rw[ae h,h,dj];exact qee
  rw[aa h];simp[h]
def qpz {s:Str}:(Lib.trimS s [48,49,50,51,52,53,54,55,56,57]==[])=s.all yX:=by
 have e:(λc=>([48,49,50,51,52,53,54,55,56,57]:Str).contains c)=yX:=funext qri;unfold Lib.trimS Lib.trimLeftS Lib.trimRightS;rw[e];rw[cr,bR,qee,List.all_reverse];constructor
 ·intro h
  have h2:∀x∈s.reverse.takeWhile yX++s.reverse.dropWhile yX,yX x=true:=by
   intro x hx;rcases cG.1 hx with hx|hx
   ·exact Yp.1 List.all_takeWhile x hx
   exact Yp.1 h x hx
  rw[List.takeWhile_append_dropWhile]at h2
  exact Yp.2 λx hx=>h2 x (by simpa using hx)
 intro h;have:s.reverse.dropWhile yX=[]:=qee.2 (by rw[List.all_reverse];exact h);rw[this];rfl
def qiX:∀(s:Str) (n:Nat),s.all yX=true->Lib.decFrom n s=some (qX n s)
 |[],n,_=>rfl
 |c::s,n,h=>by
  rw[cg,aR]at h;unfold Lib.decFrom;rw[qcF]
  have h1:48<=c.toNat/\c.toNat<=57:=by simpa[yX]using h.1
  have e:Lib.digitVal c=some (c.toNat-48):=by unfold Lib.digitVal;rw[ae h1]
  rw[e];exact qiX s _ h.2
def qmm {s:Str}(h0:1<=s.length) (h:s.all yX=true):Lib.atoi s=some ((qX 0 s:Nat):Int):=by
 cases s with
 |nil=>simp at h0
 |cons c s=>
  have hc:yX c=true:=by rw[cg,aR]at h;exact h.1
  have h1:48<=c.toNat/\c.toNat<=57:=by simpa[yX]using hc
  unfold Lib.atoi Lib.decNat
  have n1:¬(c==45)=true:=λe=>by rw[bR.1 e]at h1;simp at h1
  have n2:¬(c==43)=true:=λe=>by rw[bR.1 e]at h1;simp at h1
  simp only;rw[aa n1,aa n2,aa (by simp),qiX _ _ h];rfl
def qpW (s:List UInt8):∀n:Nat,qX n s=n*10^s.length+qX 0 s:=by
 induction s with
 |nil=>intro n;rw[qdA,qdA];simp
 |cons c s ih=>
  intro n;rw[qcF,qcF,ih,ih (0*10+_),Yr,Nat.pow_succ,bC,aG,Nat.add_mul];rw[Nat.mul_assoc,bP 10,<-Nat.add_assoc]
def qf1 (s t:List UInt8):qX 0 (s++t)=qX 0 s*10^t.length+qX 0 t:=by
 have:qX 0 (s++t)=qX (qX 0 s) t:=by unfold qX;rw[List.foldl_append]
 rw[this,qpW]
def qhP (s:List UInt8) (c:UInt8):qX 0 (s++[c])=qX 0 s*10+(c.toNat-48):=by
 rw[qf1];simp[qcF,qdA]
def dch (n:Nat):UInt8:=UInt8.ofNat (48+n)
def qiv {n:Nat}(h:n<10):(dch n).toNat=48+n:=by
 unfold dch;rw[ff];omega
def qou {n:Nat}(h:n<10):yX (dch n)=true:=by
 unfold yX;rw[qiv h,aR,aO,aO];omega
def qoo {c:UInt8}(h:yX c=true):c=dch (c.toNat-48)/\c.toNat-48<10:=by
 unfold yX at h;rw[aR,aO,aO]at h;refine⟨?_,by omega⟩;rw[<-UInt8.toNat_inj,qiv (by omega)];omega
def qfp:Nat->Nat->Str
 |0,_=>[]
 |k+1,n=>qfp k (n/10)++[dch (n%10)]
def qjb:∀k n,(qfp k n).length=k
 |0,n=>rfl
 |k+1,n=>by rw[qfp,Yq,qjb];rfl
def jh {n:Nat}(h:n<10):Lib.decDigits n=[dch n]:=by rw[Lib.decDigits,dif_pos h];rfl
def qgL {n:Nat}(h:¬n<10):Lib.decDigits n=Lib.decDigits (n/10)++[dch (n%10)]:=by rw[Lib.decDigits,dif_neg h];rfl
def qjK:∀(k n:Nat),0<n/10^k->Lib.decDigits n=Lib.decDigits (n/10^k)++qfp k (n%10^k)
 |0,n,_=>by simp[qfp]
 |k+1,n,h=>by
  have e1:n/10^(k+1)=n/10/10^k:=by rw[Nat.pow_succ,bP,eE]
  have hp:0<10^k:=fT (by decide)
  have h10:¬n<10:=λc=>by
   rw[e1,dH c,Nat.zero_div]at h;omega
  have e2:n%10^(k+1)/10=n/10%10^k:=by rw[Nat.pow_succ,bP,Nat.mod_mul_right_div_self]
  have e3:n%10^(k+1)%10=n%10:=Nat.mod_mod_of_dvd _ ⟨10^k,by rw[Nat.pow_succ,bP]⟩;rw[qgL h10,qjK k (n/10) (by rw[<-e1];exact h),qfp,e2,e3,e1,Yz]
def qcg (n:Nat):(Lib.decDigits n).all yX=true:=by
 induction n using Nat.strongRecOn with
 |_ n ih=>
  by_cases h:n<10
  ·rw[jh h,cg,qou h];rfl
  rw[qgL h,List.all_append,ih _ (by omega),cg,qou (by omega)];rfl
def qdP (n:Nat):qX 0 (Lib.decDigits n)=n:=by
 induction n using Nat.strongRecOn with
 |_ n ih=>
  by_cases h:n<10
  ·rw[jh h,qcF,qdA,qiv h];omega
  rw[qgL h,qhP,ih _ (by omega),qiv (by omega)];omega
def qjG (n:Nat):0<(Lib.decDigits n).length:=by rw[Lib.decDigits_length];exact Lib.nDigits_pos n
def qnD {m n:Nat}(h:Lib.decDigits m=Lib.decDigits n):m=n:=by rw[<-qdP m,h,qdP]
def qaB {n k:Nat}(hk:0<k):(Lib.decDigits n).length<=k↔n<10^k:=by
 constructor
 ·intro h;have:=qf3 (Lib.decDigits n) 0 (qcg n);rw[qdP]at this;have h2:(10:Nat)^(Lib.decDigits n).length<=10^k:=bN (by omega) h;omega
 intro h;rcases aw k (Lib.decDigits n).length with c|c
 ·exfalso;rw[Lib.decDigits_length]at c;obtain⟨m,hm⟩:∃m,Lib.nDigits n=m+2:=⟨Lib.nDigits n-2,by omega⟩
  have hlow:∀(n m:Nat),Lib.nDigits n=m+2->10^(m+1)<=n:=by
   intro n
   induction n using Nat.strongRecOn with
   |_ n ih=>
    intro m hm;by_cases h:n<10
    ·rw[Lib.nDigits_small h]at hm;omega
    rw[Lib.nDigits_big h]at hm
    cases m with
    |zero=>simp;omega
    |succ m=>
     have:=ih (n/10) (by omega) m (by omega);rw[Nat.pow_succ];omega
  have:=hlow n m hm;have h2:(10:Nat)^k<=10^(m+1):=bN (by omega) (by omega);omega
 exact c
def Dec (s:Str):Prop:=0<s.length/\s.all yX=true/\(s[0]? =some 48->s=[48])
instance (s:Str):Decidable (Dec s):=by unfold Dec;infer_instance
def qnS {c:UInt8}(h:yX c=true):Dec [c]:=⟨by simp,by simp[h],λe=>by simp at e;rw[e]⟩
def qrB:∀(k:Nat) (s:Str),s.length<=k->Dec s->s=Lib.decDigits (qX 0 s)
 |0,s,h,hd=>by have:=hd.1;omega
 |k+1,s,h,hd=>by
  rcases List.eq_nil_or_concat s with e|⟨t,c,e⟩
  ·rw[e]at hd;exact absurd hd.1 (by simp)
  rw[List.concat_eq_append]at e;subst e;have ha:=hd.2.1;rw[List.all_append,aR,cg,fG,Bool.and_true]at ha;obtain⟨ec,hc⟩:=qoo ha.2;by_cases ht:t=[]
  ·subst ht;rw[bp,qcF,qdA,bC,aG,jh hc,<-ec]
  have htl:0<t.length:=cN.2 ht
  have h0:t[0]? ≠some 48:=λe=>by
   have:=hd.2.2 (by rw[Yf htl];exact e);have:=az List.length this;rw[Yq,bE,bE]at this;omega
  have hD:Dec t:=⟨htl,ha.1,λe=>absurd e h0⟩;have ih:=qrB k t (by simp at h;omega) hD
  have hv:qX 0 t≠0:=λe=>by
   rw[e]at ih;exact h0 (by rw[ih,jh (by decide)];rfl)
  rw[qhP,qgL (by omega),show(qX 0 t*10+(c.toNat-48))/10=qX 0 t by omega,show(qX 0 t*10+(c.toNat-48))%10=c.toNat-48 by omega,<-ih,<-ec]
def Dec.eq {s:Str}(h:Dec s):s=Lib.decDigits (qX 0 s):=qrB s.length s (ai _) h
def qq8 (n:Nat):Dec (Lib.decDigits n):=by
 refine⟨qjG n,qcg n,?_⟩
 induction n using Nat.strongRecOn with
 |_ n ih=>
  intro e;by_cases h:n<10
  ·rw[jh h]at e⊢;simp only[Yj]at e;rw[Ye e]
  exfalso;rw[qgL h,Yf (qjG _)]at e;have:=ih (n/10) (by omega) e;have h2:=qdP (n/10);rw[this]at h2;have:qX 0 [48]=0:=rfl;omega
def qcC {a b:Str}(h:a.length+b.length<=1000000000):cat a b=some (a++b):=by
 unfold cat;rw[ae (by omega)]
def dcut {d:Nat}(h:d<10):cut ([48,49,50,51,52,53,54,55,56,57]:Str) (d:Int) (w64 ((d:Int)+1))=some [dch d]:=by
 rw[qm (by omega)];rcases(show d=0\/d=1\/d=2\/d=3\/d=4\/d=5\/d=6\/d=7\/d=8\/d=9 by omega)with e|e|e|e|e|e|e|e|e|e<;>subst e<;>decide
def tm10 (n:Nat):(n:Int).tmod 10=((n%10:Nat):Int):=by rw[bw (by omega)];omega
def td10 (n:Nat):(n:Int).tdiv 10=((n/10:Nat):Int):=by rw[YF (by omega)];omega
def qhD {least:Int}{K n:Nat}{s:Str}(hn:n<9223372036854775808) (hs:s.length<=1000) (h:0<n\/(s.length:Int)<least):kg least (K+1) (n:Int) s=kg least K ((n/10:Nat):Int) (dch (n%10)::s):=by
 have cond:(if(n:Int)>0 then some true else some (decide ((s.length:Int)<least)):Option Bool)=some true:=by
  by_cases c:(n:Int)>0
  ·rw[ae c]
  rw[aa c,ap (by omega)]
 rw[kg,cond,ZB,ae rfl,tm10,td10,dcut (by omega),ZB,qcC (by simp;omega),ZB,qg (by omega) (by omega)];rfl
def qhM {least:Int}{K:Nat}{s:Str}(h:¬(s.length:Int)<least):kg least (K+1) 0 s=some s:=by
 rw[kg,aa (by omega),ak h,ZB,aa (by simp)]
def qmR:∀(k K n:Nat) (s:Str),n<10^k->s.length+k=9->k<K->kg 9 K (n:Int) s=some (qfp k n++s)
 |k,0,n,s,_,_,h=>by omega
 |0,K+1,n,s,hn,hs,h=>by
  simp at hn;subst hn;exact qhM (by omega)
 |k+1,K+1,n,s,hn,hs,h=>by
  have h9:(10:Nat)^(k+1)<=10^9:=bN (by omega) (by omega);rw[Nat.pow_succ]at hn;rw[qhD (by rw[Nat.pow_succ]at h9;omega) (by omega) (.inr (by omega)),qmR k K (n/10) _ (by omega) (by simp;omega) (by omega),qfp,Yz];rfl
def qmH:∀(k K n:Nat) (s:Str),0<n->n<10^k->n<9223372036854775808->s.length+k<=900->k<K->kg 1 K (n:Int) s=some (Lib.decDigits n++s)
 |k,0,n,s,_,_,_,_,h=>by omega
 |0,K+1,n,s,h0,hn,_,hs,h=>by simp at hn;omega
 |k+1,K+1,n,s,h0,hn,h63,hs,h=>by
  rw[Nat.pow_succ]at hn;rw[qhD h63 (by omega) (.inl h0)];by_cases c:n<10
  ·obtain⟨K2,rfl⟩:∃K2,K=K2+1:=⟨K-1,by omega⟩;rw[show n/10=0 by omega,jh c,show n%10=n by omega];exact qhM (by simp;omega)
  rw[qmH k K (n/10) _ (by omega) (by omega) (by omega) (by simp;omega) (by omega),qgL c,Yz];rfl
def qq2 {N n:Nat}(hN:100<N) (h:n<1000000000):zK N (n:Int) 9=some (qfp 9 n):=by
 unfold zK;rw[qmR 9 N n [] h rfl (by omega),ZB,YQ]
def qiN {N n:Nat}(hN:100<N) (h:n<9223372036854775808):zK N (n:Int) 1=some (Lib.decDigits n):=by
 unfold zK;rcases bG n with e|e
 ·subst e;obtain⟨K,rfl⟩:∃K,N=K+1+1:=⟨N-2,by omega⟩;have h1:=qhD (least:=1) (K:=K+1) (n:=0) (s:=[]) (by omega) (by simp) (.inr (by simp));rw[h1,Nat.zero_div];have h2:=qhM (least:=1) (K:=K) (s:=[dch (0%10)]) (by simp);have h2:kg 1 (K+1) ((0:Nat):Int) [dch (0%10)]=_:=h2;rw[h2,ZB,jh (by decide)]
 rw[qmH 19 N n [] e (by omega) h (by simp) (by omega),ZB,YQ]
def qiH:∀k:Nat,E9^k=((10^(9*k):Nat):Int)
 |0=>rfl
 |k+1=>by
  rw[aL,qiH k,Nat.mul_succ,Nat.pow_add,bu];rfl
def nv (w:List Int):Nat:=(dv E9 w).toNat
def qkN {w:List Int}(h:Dg E9 w):(nv w:Int)=dv E9 w:=by
 have:=qz E0 h;unfold nv;omega
def nv_lt {w:List Int}(h:Dg E9 w):nv w<10^(9*w.length):=by
 have h1:=qab E0 h;rw[qiH,<-qkN h]at h1;omega
def qkk {w:List Int}(h:Dg E9 w):(Lib.decDigits (nv w)).length<=9*w.length+1:=by
 refine(qaB (by omega)).2 ?_;have:=nv_lt h;rw[Nat.pow_succ];omega
def qoY {w:List Int}(h:Dg E9 w) {i:Nat}(hi:i<w.length):nv (w.drop i)=w[i].toNat+1000000000*nv (w.drop (i+1)):=by
 have h1:=qkN (h.drop i);have h2:=qkN (h.drop (i+1));have h3:=(h.at hi).1;rw[qjP w hi]at h1;have h4:E9*dv E9 (w.drop (i+1))=1000000000*dv E9 (w.drop (i+1)):=rfl;omega
def qlN {N:Nat}(hN:100<N) {a:qE}(ha:Dg E9 a.w) (hal:a.w.length<=100000):∀(K i:Nat),i<=a.w.length->i<K->0<nv (a.w.drop i)->xY N a K (Lib.decDigits (nv (a.w.drop i))) ((i:Int)-1)=some (Lib.decDigits (nv a.w))
 |0,i,_,h,_=>by omega
 |K+1,0,_,_,_=>by
  rw[xY,aa (by omega),YR]
 |K+1,i+1,hi,h,hp=>by
  have hil:i<a.w.length:=by omega
  have ax:=ha.at hil;have ax2:a.w[i]<1000000000:=ax.2
  have ei:((i+1:Nat):Int)-1=(i:Int):=by omega
  have ed:a.w[i]=(a.w[i].toNat:Int):=by omega
  have el:=qoY ha hil;have ll:=qkk (ha.drop (i+1));rw[YJ]at ll;rw[xY,ei,ae (by omega),qf,Ya hil,ZB]
  have e9:zK N a.w[i] 9=some (qfp 9 a.w[i].toNat):=by
   conv=>lhs;rw[ed]
   exact qq2 hN (by omega)
  rw[e9,ZB,qcC (by rw[qjb];omega),ZB,qg (by omega) (by omega)]
  have e10:Lib.decDigits (nv (a.w.drop (i+1)))++qfp 9 a.w[i].toNat=Lib.decDigits (nv (a.w.drop i)):=by
   have h9:(10:Nat)^9=1000000000:=rfl
   have q:nv (a.w.drop i)/10^9=nv (a.w.drop (i+1)):=by rw[h9];omega
   have r:nv (a.w.drop i)%10^9=a.w[i].toNat:=by rw[h9];omega
   rw[qjK 9 (nv (a.w.drop i)) (by rw[q];exact hp),q,r]
  rw[e10];exact qlN hN ha hal K i (by omega) (by omega) (by omega)
def yu {z:Int}(h:z<0):Lib.itoa z=45::Lib.decDigits z.natAbs:=by unfold Lib.itoa;rw[ae h]
def zR {z:Int}(h:¬z<0):Lib.itoa z=Lib.decDigits z.natAbs:=by
 unfold Lib.itoa;rw[aa h,show z.toNat=z.natAbs by omega]
def qoI {N:Nat}(hN:60000<N) {z:Int}(h:zm z 50000):qcD N (rI z)=some (Lib.itoa z):=by
 obtain⟨c,e⟩:=qhH z;have l:(rI z).w.length<=50000:=h.len
 have en:nv (rI z).w=z.natAbs:=by unfold nv;rw[e];omega
 have ng:(rI z).neg=decide (z<0):=rfl;unfold qcD;by_cases h0:(rI z).w.length=0
 ·have hz:z=0:=by
   rw[YL.1 h0,zn]at e;omega
  rw[ae (by omega),hz]
  have:Lib.itoa 0=[48]:=by rw[zR (by decide)];exact jh (by decide)
  rw[this]
 have hk:(rI z).w.length-1<(rI z).w.length:=by omega
 have ax:=c.1.at hk;have ax2:(rI z).w[(rI z).w.length-1]<1000000000:=ax.2;have an:(rI z).w[(rI z).w.length-1]≠0:=c.2 _ (by rw[List.getLast?_eq_getElem?];exact Ya hk)
 have ed:(rI z).w[(rI z).w.length-1]=((rI z).w[(rI z).w.length-1].toNat:Int):=by omega
 have e1:nv ((rI z).w.drop ((rI z).w.length-1))=(rI z).w[(rI z).w.length-1].toNat:=by
  rw[qoY c.1 hk,aB (by omega)];rfl
 have e2:zK N (rI z).w[(rI z).w.length-1] 1=some (Lib.decDigits (nv ((rI z).w.drop ((rI z).w.length-1)))):=by
  conv=>lhs;rw[ed]
  rw[e1];exact qiN (by omega) (by omega)
 have e3:=qlN (N:=N) (by omega) c.1 (by omega) N ((rI z).w.length-1) (by omega) (by omega) (by rw[e1];omega);have ll:=qkk c.1;rw[aa (by omega),qlx (by omega) (by omega),qf,Ya hk,ZB,e2,ZB,show w64 (((rI z).w.length:Int)-2)=(((rI z).w.length-1:Nat):Int)-1 by rw[qg (by omega) (by omega)];omega,e3,ZB,ng];by_cases hz:z<0
 ·rw[ap hz,ae rfl,qcC (by simp;omega),ZB,yu hz,en];rfl
 rw[ak hz,aa (by simp),zR hz,en]
def qlQ {s:Str}(hd:s.all yX=true) (hl:s.length<=18):∀(K i:Nat),i<=s.length->s.length<K+i->xh s K ((qX 0 (s.take i):Nat):Int) (i:Int)=some ((qX 0 s:Nat):Int)
 |0,i,h,hK=>by omega
 |K+1,i,h,hK=>by
  rw[xh];by_cases hi:i<s.length
  ·have ht:s.take (i+1)=s.take i++[s[i]]:=cJ hi;have hc:yX s[i]=true:=Yp.1 hd _ (bo hi);obtain⟨_,hc2⟩:=qoo hc
   have hc1:48<=s[i].toNat:=by
    unfold yX at hc;rw[aR,aO]at hc;exact hc.1
   have hv:=qf3 (s.take i) 0 (Yp.2 λx hx=>Yp.1 hd x (dM hx));have hp:(10:Nat)^(s.take i).length<=10^17:=bN (by omega) (by rw[Ym];omega);have hp2:(10:Nat)^17=100000000000000000:=rfl;rw[ae (by omega),qf,Ya hi,ZB,qg (n:=10*((qX 0 (s.take i):Nat):Int)) (by omega) (by omega),qg (n:=(s[i].toNat:Int)) (by omega) (by omega),qg (n:=10*((qX 0 (s.take i):Nat):Int)+(s[i].toNat:Int)) (by omega) (by omega),qg (by omega) (by omega),qm (by omega)]
   have e:10*((qX 0 (s.take i):Nat):Int)+(s[i].toNat:Int)-48=((qX 0 (s.take (i+1)):Nat):Int):=by rw[ht,qhP];omega
   rw[e];exact qlQ hd hl K (i+1) (by omega) (by omega)
  rw[aa (by omega),ar (by omega)]
def qhr {N:Nat}(hN:100<N) {s:Str}(hd:s.all yX=true) (hl:s.length<=18):qav N s=some ((qX 0 s:Nat):Int):=by
 have e:=qlQ hd hl N 0 (by omega) (by omega);have e:xh s N 0 0=_:=e;unfold qav;rw[e,ZB]
def qjD {s:Str}(h:s.all yX=true) (k:Nat):(s.take k).all yX=true:=Yp.2 λx hx=>Yp.1 h x (dM hx)
def qja {s:Str}(h:s.all yX=true) (k:Nat):(s.drop k).all yX=true:=Yp.2 λx hx=>Yp.1 h x (List.mem_of_mem_drop hx)
def qmS {N:Nat}(hN:100<N):∀(K:Nat) (l:List Int) (s:Str),s.all yX=true->l.length+s.length<=90000->s.length<K->Dg E9 l->
 ∃l' s',qap N K l s=some (l',s')/\s'.length<=9/\s'.all yX=true/\Dg E9 l'/\l'.length<=90000/\dv E9 l'+E9^l'.length*(qX 0 s':Nat)=dv E9 l+E9^l.length*(qX 0 s:Nat)
 |0,l,s,_,_,h,_=>by omega
 |K+1,l,s,hd,hl,h,hg=>by
  rw[qap];by_cases c:s.length>9
  ·have lu:(s.drop (s.length-9)).length=9:=by rw[YJ];omega
   have hv:=qhr (N:=N) hN (qja hd (s.length-9)) (by omega);have hv2:=qf3 _ 0 (qja hd (s.length-9));rw[lu]at hv2;rw[ae (by omega),show w64 ((s.length:Int)-9)=((s.length-9:Nat):Int)by rw[qg (by omega) (by omega)];omega,xx (by omega),ZB,hv,ZB,jU (by simp;omega) (by simp;omega),ZB,jN (by omega),ZB];obtain⟨l',s',f1,f2,f3,f4,f5,f6⟩:=qmS hN K (l++[((qX 0 (s.drop (s.length-9)):Nat):Int)]) (s.take (s.length-9)) (qjD hd _) (by simp;omega) (by rw[Ym];omega) (hg.append (Dg.cons ⟨by omega,show((qX 0 (s.drop (s.length-9)):Nat):Int)<1000000000 by omega⟩ Dg.nil));refine⟨l',s',f1,f2,f3,f4,f5,?_⟩;rw[f6,qf7,Yq,bE,aL,Int.mul_assoc]
   have e:qX 0 s=qX 0 (s.take (s.length-9))*1000000000+qX 0 (s.drop (s.length-9)):=by
    have:=qf1 (s.take (s.length-9)) (s.drop (s.length-9));rw[YS,lu]at this;exact this
   have e2:((qX 0 s:Nat):Int)=((qX 0 (s.drop (s.length-9)):Nat):Int)+E9*((qX 0 (s.take (s.length-9)):Nat):Int):=by
    have h4:E9*((qX 0 (s.take (s.length-9)):Nat):Int)=1000000000*((qX 0 (s.take (s.length-9)):Nat):Int):=rfl;omega
   rw[e2,Int.mul_add];omega
  rw[aa (by omega)];exact⟨l,s,rfl,by omega,hd,hg,by omega,rfl⟩
def sgn (s:Str):Bool:=decide (s[0]? =some 45)
def bdy (s:Str):Str:=if sgn s=true then s.drop 1 else s
def qhs (s:Str):(if(s.length:Int)>0 then(idx s 0).bind λc=>some (decide ((c.toNat:Int)=45))else some false:Option Bool)=some (sgn s):=by
 unfold sgn
 cases s with
 |nil=>rfl
 |cons c t=>
  rw[ae (by simp),yJ];have e:((c.toNat:Int)=45)↔(some c=some (45:UInt8)):=⟨λh=>az some (UInt8.toNat_inj.1 (show c.toNat=45 by omega)),λh=>by rw[Ye h];rfl⟩;simp only[Yj,ZB];congr 1;exact decide_eq_decide.2 e
def qnq (s:Str):(if sgn s=true then(cut s 1 (s.length:Int)).bind λx=>some x else some s:Option Str)=some (bdy s):=by
 unfold bdy
 cases h:sgn s with
 |false=>rw[aa (by simp),aa (by simp)]
 |true=>
  have hl:1<=s.length:=by
   cases s with
   |nil=>simp[sgn]at h
   |cons=>simp
  have:=xx hl;have e:cut s 1 (s.length:Int)=some (s.drop 1):=this;rw[ae rfl,ae rfl,e,ZB]
def qkS (s:Str):Int:=if sgn s=true then-((qX 0 (bdy s):Nat):Int)else((qX 0 (bdy s):Nat):Int)
def qjk {N:Nat}(hN:100000<N) {s:Str}(hd:(bdy s).all yX=true) (hl:(bdy s).length<=80000):qbm N s=some (rI (qkS s)):=by
 unfold qbm;rw[qhs,ZB,qnq,ZB];obtain⟨l,t,f1,f2,f3,f4,f5,f6⟩:=qmS (N:=N) (by omega) N [] (bdy s) hd (by simp;omega) (by omega) Dg.nil;have hv:=qhr (N:=N) (by omega) f3 (by omega);have hv2:=qf3 _ 0 f3;have hp:(10:Nat)^t.length<=10^9:=bN (by omega) f2;rw[f1,ZB];simp only;have hg:=f4.append (r:=[((qX 0 t:Nat):Int)]) (Dg.cons ⟨by omega,show((qX 0 t:Nat):Int)<1000000000 by omega⟩ Dg.nil);rw[hv,ZB,jU (by simp;omega) (by simp;omega),ZB,qbA _ hg (by simp;omega) (by simp;omega),ZB,qf7,f6];simp only[zn,aN,cI,bJ,dS];rfl
def qhv (z:Int):sgn (Lib.itoa z)=decide (z<0):=by
 unfold sgn;by_cases h:z<0
 ·rw[yu h,ap h];rfl
 rw[zR h,ak h]
 refine ak λe=>?_
 have hm:(45:UInt8)∈Lib.decDigits z.natAbs:=Yn e;have:=Yp.1 (qcg z.natAbs) _ hm;exact absurd this (by decide)
def qcW (z:Int):bdy (Lib.itoa z)=Lib.decDigits z.natAbs:=by
 unfold bdy;rw[qhv];by_cases h:z<0
 ·rw[ap h,ae rfl,yu h];rfl
 rw[ak h,aa (by simp),zR h]
def qdu (z:Int):qkS (Lib.itoa z)=z:=by
 unfold qkS;rw[qhv,qcW,qdP];by_cases h:z<0
 ·rw[ap h,ae rfl];omega
 rw[ak h,aa (by simp)];omega
def slA:Str->Nat
 |[]=>0
 |c::s=>if c=47 then 0 else slA s+1
def qhV:∀s:Str,slA s<=s.length
 |[]=>ai _
 |c::s=>by
  rw[slA,Yr];have:=qhV s;split<;>omega
def qmo {s:Str}(hl:s.length<=1000000):∀(K i:Nat),i<=s.length->s.length<K+i->y7 s K (i:Int)=some (if i+slA (s.drop i)<s.length then .inr ((i+slA (s.drop i):Nat):Int)else .inl ())
 |0,i,h,hK=>by omega
 |K+1,i,h,hK=>by
  rw[y7];by_cases hi:i<s.length
  ·have hd:s.drop i=s[i]::s.drop (i+1):=YG hi;rw[ae (by omega),qf,Ya hi,ZB,hd,slA];by_cases c:s[i]=47
   ·rw[ae c,ae (by rw[c];rfl),bz,ae hi]
   rw[aa c,aa (λe=>c (UInt8.toNat_inj.1 (show s[i].toNat=47 by omega))),qm (by omega),qmo hl K (i+1) (by omega) (by omega),show i+1+slA (s.drop (i+1))=i+(slA (s.drop (i+1))+1)by omega]
  rw[aa (by omega),aB (by omega),aa (by omega)]
def qdX {N:Nat}{s:Str}(hl:s.length<=1000000) (hN:s.length<N):xP N s=some (slA s:Int):=by
 have e:=qmo hl N 0 (by omega) (by omega);have e:y7 s N 0=_:=e;have h:=qhV s;unfold xP;rw[e,YR,aG];by_cases c:slA s<s.length
 ·rw[ae c];rfl
 rw[aa c]
 have:slA s=s.length:=by omega
 rw[this];rfl
def qkO:∀(s t:Str),(∀c∈s,c≠47)->slA (s++47::t)=s.length/\slA s=s.length
 |[],t,_=>⟨by simp[slA],rfl⟩
 |c::s,t,h=>by
  have h1:=qkO s t λx hx=>h x (eT _ hx)
  rw[dc,slA,slA,aa (h c (d5 ..)),aa (h c (d5 ..)),h1.1,h1.2];exact⟨rfl,rfl⟩
def and1 {n:Nat}(h:n<4611686018427387904):qw .i64 (n:Int) 1=((n%2:Nat):Int):=by
 show wrap .i64 _=_
 have e:(BitVec.ofInt IntKind.i64.bits (n:Int)&&&BitVec.ofInt IntKind.i64.bits 1).toNat=n%2:=by
  rw[BitVec.toNat_and];show(BitVec.ofInt 64 (n:Int)).toNat&&&(BitVec.ofInt 64 1).toNat=_;rw[qdv (by omega) (by omega),qdv (by omega) (by omega)];exact Nat.and_one_is_mod n
 rw[e];show w64 _=_;exact qg (by omega) (by omega)
def shr1 (n:Nat):qo .i64 (n:Int) 1=((n/2:Nat):Int):=by
 show(n:Int).fdiv 2=_;rw[d9 _ (by decide)];omega
def qrc {N:Nat}(hN:11000<N):∀(K n:Nat) (b acc:qh) (x y:Int) (mb ma:Nat),n<100000->n<K->IsZ b x->IsZ acc y->Fit x mb->Fit y ma->ma+mb*n<=3900->
 ∃r,yZ N K b.s b.w acc.s acc.w (n:Int)=some (r.s,r.w)/\IsZ r (y*x^n)
 |0,n,_,_,_,_,_,_,_,h,_,_,_,_,_=>by omega
 |K+1,n,b,acc,x,y,mb,ma,hn,hK,hb,hacc,fx,fy,hm=>by
  rw[yZ];by_cases h0:n=0
  ·subst h0;rw[aa (by omega)];exact⟨acc,rfl,by simpa using hacc⟩
  have hmb:mb<=mb*n:=Nat.le_mul_of_pos_right _ (by omega);obtain⟨m,r,hr,hmr⟩:∃m r,r<2/\n=2*m+r:=⟨n/2,n%2,by omega,by omega⟩
  have emb:mb*n=mb*m+mb*m+mb*r:=by rw[hmr,Nat.mul_add,<-Nat.mul_assoc,bP mb 2,Nat.two_mul,Nat.add_mul]
  have S1:∃(a2:qh) (m2:Nat),(if(qw .i64 (n:Int) 1)=1 then(qO N (⟨acc.s,acc.w⟩:qh) (⟨b.s,b.w⟩:qh)).bind λr20=>some (r20.s,r20.w)else some (acc.s,acc.w):Option (Int×(List Int)))=some (a2.s,a2.w)/\IsZ a2 (y*x^r)/\Fit (y*x^r) m2/\m2=ma+mb*r:=by
   rw[and1 (by omega),show n%2=r by omega];rcases(show r=0\/r=1 by omega)with e|e<;>subst e
   ·rw[aa (by simp)];exact⟨acc,ma,rfl,by simpa using hacc,by simpa using fy,by simp⟩
   obtain⟨p,e1,h1⟩:=qfK hN hacc hb (fy.mono (by omega)) (fx.mono (by omega));have e1:qO N (⟨acc.s,acc.w⟩:qh) (⟨b.s,b.w⟩:qh)=some p:=e1;rw[ae (by simp),e1,ZB];exact⟨p,ma+mb,rfl,by rw[eP];exact h1,by rw[eP];exact qbQ fy fx,by simp⟩
  obtain⟨a2,m2,e1,h1,f1,em2⟩:=S1
  have S2:∃(b2:qh) (x2:Int) (m3:Nat),(if(n:Int)>1 then(qO N (⟨b.s,b.w⟩:qh) (⟨b.s,b.w⟩:qh)).bind λr22=>some (r22.s,r22.w,a2.s,a2.w)else some (b.s,b.w,a2.s,a2.w):Option (Int×(List Int)×Int×(List Int)))=some (b2.s,b2.w,a2.s,a2.w)/\IsZ b2 x2/\Fit x2 m3/\m3*m=mb*m+mb*m/\x2^m=(x*x)^m:=by
   by_cases c:(n:Int)>1
   ·have hm1:1<=m:=by omega
    have h3:mb<=mb*m:=Nat.le_mul_of_pos_right _ hm1;obtain⟨p,e2,h2⟩:=qfK hN hb hb (fx.mono (by omega)) (fx.mono (by omega));have e2:qO N (⟨b.s,b.w⟩:qh) (⟨b.s,b.w⟩:qh)=some p:=e2;rw[ae c,e2,ZB];exact⟨p,x*x,mb+mb,rfl,h2,qbQ fx fx,Nat.add_mul _ _ _,rfl⟩
   have hm0:m=0:=by omega
   subst hm0;rw[aa c];exact⟨b,x,mb,rfl,hb,fx,by simp,by simp⟩
  obtain⟨b2,x2,m3,e2,h2,f2,em3,ex⟩:=S2
  have S:((if(qw .i64 (n:Int) 1)=1 then(qO N (⟨acc.s,acc.w⟩:qh) (⟨b.s,b.w⟩:qh)).bind λr20=>some (r20.s,r20.w)else some (acc.s,acc.w):Option (Int×(List Int)))).bind (λ(n16,l17)=>
   if(n:Int)>1 then(qO N (⟨b.s,b.w⟩:qh) (⟨b.s,b.w⟩:qh)).bind λr22=>some (r22.s,r22.w,n16,l17)else some (b.s,b.w,n16,l17))=some (b2.s,b2.w,a2.s,a2.w):=by
   rw[e1,ZB];exact e2
  obtain⟨r',e3,h3⟩:=qrc hN K m b2 a2 x2 (y*x^r) m3 m2 (by omega) (by omega) h2 h1 f2 f1 (by omega);rw[ae (by omega),S,ZB];simp only;rw[shr1,show n/2=m by omega];refine⟨r',e3,?_⟩
  have hx2:x*x=x^2:=by rw[aL,aL,cI,bJ]
  rw[ex,Int.mul_assoc,hx2,<-Int.pow_mul,<-Int.pow_add,show r+2*m=n by omega]at h3;exact h3
def quA {N:Nat}(hN:110000<N) {b:qh}{x:Int}{n mb:Nat}(hn:n<100000) (hb:IsZ b x) (fx:Fit x mb) (hm:1+mb*n<=3900):∃r,qcT N b (n:Int)=some r/\IsZ r (x^n):=by
 obtain⟨r,e,h⟩:=qrc (N:=N) (by omega) N n b ⟨1,[]⟩ x 1 mb 1 hn (by omega) hb (Ue (by decide) (by decide)) fx (F1 (by omega)) hm;have e:yZ N N b.s b.w 1 [] (n:Int)=some (r.s,r.w):=e;unfold qcT;rw[qky,ZB];simp only;rw[e,ZB];exact⟨r,rfl,by rw[bJ]at h;exact h⟩
def qgY {z:Int}{p n:Nat}(h:(z.natAbs:Int)<((10^p:Nat):Int)) (hp:p<=19*n):Fit z n:=by
 have h1:(10:Nat)^p<=10^(19*n):=bN (by omega) hp
 have h2:((10^(19*n):Nat):Int)<=W^n:=by
  rw[Nat.pow_mul];have:=(qfA (x:=10000000000000000000) (y:=W) (by decide) (by decide) n).2;rw[cW];exact this
 unfold Fit;omega
def qdB (s:Str):strings_HasPrefix s [45]=some (sgn s):=by
 unfold strings_HasPrefix stringslite_HasPrefix sgn
 cases s with
 |nil=>rfl
 |cons c t=>
  rw[ae (by simp;omega)];have e:cut (c::t) 0 (([45]:Str).length:Int)=some [c]:=jN (l:=c::t) (k:=1) (by simp);rw[e];simp only[ZB,Yj];congr 1;rw[cr,bR,aO];constructor
  ·intro h;injection h with h;rw[h]
  intro h;rw[Ye h]
def qkZ {s:Str}(h:sgn s=true):1<=s.length:=by
 cases s with
 |nil=>simp[sgn]at h
 |cons=>simp
def qgA (s:Str):strings_TrimPrefix s [45]=some (bdy s):=by
 unfold strings_TrimPrefix stringslite_TrimPrefix
 have e:stringslite_HasPrefix s [45]=some (sgn s):=by
  have:=qdB s;unfold strings_HasPrefix at this
  cases h:stringslite_HasPrefix s [45]with
  |none=>rw[h]at this;cases this
  |some b=>rw[h]at this;exact this
 rw[e,ZB];unfold bdy
 cases h:sgn s with
 |false=>rw[aa (by simp),aa (by simp),ZB]
 |true=>
  have e2:cut s (([45]:Str).length:Int) (s.length:Int)=some (s.drop 1):=xx (qkZ h);rw[ae rfl,ae rfl,e2,ZB,ZB]
def qkR (s:Str):strings_CutPrefix s [45]=some (bdy s,sgn s):=by
 unfold strings_CutPrefix stringslite_CutPrefix
 have e:stringslite_HasPrefix s [45]=some (sgn s):=by
  have:=qdB s;unfold strings_HasPrefix at this
  cases h:stringslite_HasPrefix s [45]with
  |none=>rw[h]at this;cases this
  |some b=>rw[h]at this;exact this
 rw[e,ZB];unfold bdy
 cases h:sgn s with
 |false=>rw[ae (by simp),aa (by simp),ZB]
 |true=>
  have e2:cut s (([45]:Str).length:Int) (s.length:Int)=some (s.drop 1):=xx (qkZ h);rw[aa (by simp),ae rfl,e2,ZB,ZB]
def qoP {N:Nat}(hN:600000<N):∀(K:Nat) (x:qh) (y:Int) (s:Str) (p:Nat),IsZ x y->0<=y->y<((10^p:Nat):Int)->p+s.length<=19000->s.all yX=true->s.length<K->
 ∃r,qbi N K x.s x.w s=some (r.s,r.w)/\IsZ r (y*((10^s.length:Nat):Int)+(qX 0 s:Nat))
 |0,_,_,_,_,_,_,_,_,_,h=>by omega
 |K+1,x,y,s,p,hx,y0,y1,hp,hd,hK=>by
  rw[qbi];by_cases h0:s.length=0
  ·rw[aa (by omega)];have:s=[]:=YL.1 h0;subst this;exact⟨x,rfl,by simpa[qdA]using hx⟩
  rw[ae (by omega)]
  obtain⟨g,hg,hg0,hgl,hg18⟩:∃g:Nat,(if(s.length:Int)<18 then(s.length:Int)else 18)=(g:Int)/\0<g/\g<=s.length/\g<=18:=by
   by_cases c:(s.length:Int)<18
   ·exact⟨s.length,by rw[ae c],by omega,by omega,by omega⟩
   exact⟨18,by rw[aa c];rfl,by omega,by omega,by omega⟩
  have lt:(s.take g).length=g:=by rw[Ym];omega
  have ea:=qmm (s:=s.take g) (by omega) (qjD hd g)
  have et:qlW (s.take g)=some (((qX 0 (s.take g):Nat):Int),()):=by
   unfold qlW;rw[ae (by omega),ea];rfl
  have hv:=qf3 (s.take g) 0 (qjD hd g);rw[lt]at hv;have hp18:(10:Nat)^g<=10^18:=bN (by omega) hg18;have h18:(10:Nat)^18=1000000000000000000:=rfl;rw[hg,jN hgl,ZB,et,ZB,qky,ZB];obtain⟨r1,e1,h1⟩:=quA (N:=N) (by omega) (b:=⟨10,[]⟩) (x:=10) (n:=g) (mb:=1) (by omega) (Ue (by decide) (by decide)) (qgY (p:=2) (by decide) (by omega)) (by omega)
  have ep:(10:Int)^g=((10^g:Nat):Int):=by rw[cW];rfl
  rw[ep]at h1
  have fg:Fit ((10^g:Nat):Int) 1000:=qgY (p:=19) (by
   rw[aS];have h19:(10:Nat)^19=10000000000000000000:=rfl
   omega) (by omega)
  have fy:Fit y 1000:=qgY (p:=p) (by omega) (by omega);have hpos:0<10^g:=fT (by decide);have yg0:0<=y*((10^g:Nat):Int):=Yv y0 (by omega)
  have yg1:(y+1)*((10^g:Nat):Int)<=((10^(p+g):Nat):Int):=by
   rw[Nat.pow_add,bu];exact aI (by omega) (by omega)
  rw[bf,bJ]at yg1;obtain⟨r2,e2,h2⟩:=qfK (N:=N) (by omega) hx h1 (fy.mono (by omega)) (fg.mono (by omega));have e2:qO N (⟨x.s,x.w⟩:qh) r1=some r2:=e2;have hd2:IsZ ⟨((qX 0 (s.take g):Nat):Int),[]⟩ ((qX 0 (s.take g):Nat):Int):=Ue (by omega) (by omega)
  obtain⟨r3,e3,h3⟩:=qi4 (N:=N) (by omega) h2 hd2 (qgY (p:=p+g) (by omega) (by omega)) (qgY (p:=19) (by
   rw[aS];have h19:(10:Nat)^19=10000000000000000000:=rfl
   omega) (by omega))
  rw[e1,ZB,e2,ZB,qky,ZB,e3,ZB,xx hgl,ZB]
  have ld:(s.drop g).length=s.length-g:=by rw[YJ]
  obtain⟨r,e4,h4⟩:=qoP hN K r3 _ (s.drop g) (p+g) h3 (by omega) (by omega) (by omega) (qja hd g) (by omega);refine⟨r,e4,?_⟩;have e5:=qf1 (s.take g) (s.drop g);rw[YS]at e5
  have e6:(10:Nat)^s.length=10^g*10^(s.drop g).length:=by rw[<-Nat.pow_add,ld];congr 1;omega
  rw[e5,e6];rw[bf]at h4;rw[bu,cX,bu,<-Int.mul_assoc,<-Int.add_assoc];exact h4
def qiw {N:Nat}(hN:600000<N) {s:Str}(hd:(bdy s).all yX=true) (hl:(bdy s).length<=19000):∃r,qcq N s=some r/\IsZ r (qkS s):=by
 obtain⟨r,e,h⟩:=qoP hN N ⟨0,[]⟩ 0 (bdy s) 0 (Ue (by decide) (by decide)) (by omega) (by decide) (by omega) hd (by omega);have e:qbi N N 0 [] (bdy s)=some (r.s,r.w):=e;rw[Int.zero_mul,dS]at h;unfold qcq;rw[qdB,ZB,qgA,ZB,e,ZB];unfold qkS
 cases hs:sgn s with
 |false=>
  rw[aa (by simp)];exact⟨r,rfl,by simpa using h⟩
 |true=>
  obtain⟨r2,e2,h2⟩:=qhB h;have e2:zH (⟨r.s,r.w⟩:qh)=some r2:=e2;simp only[aT];rw[e2];exact⟨r2,rfl,h2⟩
def qoW:∀n:Nat,Lib.repeatL [48] n=List.replicate n 48
 |0=>rfl
 |n+1=>by rw[Lib.repeatL,qoW,eW];rfl
def qkw:∀k:Nat,qfp k 0=List.replicate k 48
 |0=>rfl
 |k+1=>by
  rw[qfp,Nat.zero_div,qkw k,List.replicate_succ'];rfl
def qmY:∀(k n:Nat),n<10^(k+1)->qfp (k+1) n=List.replicate (k+1-(Lib.decDigits n).length) 48++Lib.decDigits n
 |0,n,h=>by
  have h:n<10:=by simpa using h
  rw[jh h,qfp,qfp,fK h];rfl
 |k+1,n,h=>by
  rw[qfp];by_cases c:n<10
  ·rw[jh c,dH c,qkw,fK c];rfl
  rw[Nat.pow_succ]at h;rw[qmY k (n/10) (by omega),qgL c,Yz,Yq,bE,show k+1+1-((Lib.decDigits (n/10)).length+1)=k+1-(Lib.decDigits (n/10)).length by omega]
def qhw (n:Nat):Lib.itoa (n:Int)=Lib.decDigits n:=by rw[zR (by omega),aS]
def qqe {r:Nat}(h:r<1000000000000000000) (c:¬r=0):dg W (r:Int)=[(r:Int)]:=by
 rw[qkQ (by omega) (by unfold W;omega)]
def qqC {r:Nat}(h:r<1000000000000000000):qi5 (r:Int) 10=some (Lib.decDigits r):=by
 unfold qi5;rw[ae ⟨by omega,by omega,rfl⟩,qhw]
def qrj:(if((dg W ((0:Nat):Int)).length:Int)>0 then(idx (dg W ((0:Nat):Int)) 0).bind λx13=>(qi5 x13 10).bind λr14=>some r14 else some [48]:Option Str)=some (Lib.decDigits 0):=by
 rw[show((0:Nat):Int)=0 from rfl,qeX,aa (by simp),jh (by decide)];rfl
def qtd {r:Nat}(h:r<1000000000000000000):(if((dg W (r:Int)).length:Int)>0 then(idx (dg W (r:Int)) 0).bind λx13=>(qi5 x13 10).bind λr14=>some r14 else some [48]:Option Str)=some (Lib.decDigits r):=by
 by_cases c:r=0
 ·rw[c];exact qrj
 rw[qqe h c,ae (show((([(r:Int)]:List Int).length:Nat):Int)>0 from by rw[bE];decide),yJ,Yj,ZB,qqC h];rfl
def p18:(10:Nat)^18=1000000000000000000:=rfl
def qsQ {q r:Nat}(h:r<1000000000000000000):∃t:Str,(if((dg W (q:Int)).length:Int)>0 then(qga [48] (w64 (18-((Lib.decDigits r).length:Int)))).bind λr18=>(cat r18 (Lib.decDigits r)).bind λs19=>some s19 else some (Lib.decDigits r):Option Str)=some t/\0<t.length/\Lib.decDigits (1000000000000000000*q+r)=(if q=0 then[]else Lib.decDigits q)++t:=by
 have hr:r<10^18:=by rw[p18];exact h
 have lD:(Lib.decDigits r).length<=18:=(qaB (by decide)).2 hr;have lD0:=qjG r;by_cases c:q=0
 ·subst c;rw[show((0:Nat):Int)=0 from rfl,qeX,aa (by simp),ae rfl,Nat.mul_zero,aG];exact⟨_,rfl,lD0,rfl⟩
 have hne:dg W (q:Int)≠[]:=λe=>by have:=(qjg W1 (by omega)).1 e;omega
 have hlen:0<(dg W (q:Int)).length:=cN.2 hne
 have et:qga [48] (w64 (18-((Lib.decDigits r).length:Int)))=some (List.replicate (18-(Lib.decDigits r).length) 48):=by
  rw[qg (by omega) (by omega)];unfold qga;rw[ae ⟨by omega,by omega,by simp;omega⟩,qoW];congr 2;omega
 have hp:=qmY 17 r hr;have hl:(qfp (17+1) r).length=18:=qjb _ _;have hs:=qjK 18 (1000000000000000000*q+r);rw[p18,Nat.mul_add_div (by omega),dH h,bz,Nat.mul_add_mod,fK h]at hs;rw[ae (by omega),et,ZB,qcC (by simp;omega),ZB,<-hp,aa c];exact⟨_,rfl,by omega,hs (by omega)⟩
def qtX {N:Nat}(hN:600000<N) (B:Nat) (hB:B<=3900) (K:Nat):∀(k m:Nat) (l:List Str),m<10^(18*k)->k<K->k+l.length<=100000->Fit (m:Int) B->(∀t∈l,0<t.length)->
 ∃l',yg N K l (dg W (m:Int))=some l'/\(∀t∈l',0<t.length)/\l'.length<=k+l.length/\l'.reverse.flatten=(if m=0 then[]else Lib.decDigits m)++l.reverse.flatten:=by
 induction K with
 |zero=>intro k m l _ h;omega
 |succ K ih=>
  intro k m l hm hK hl fm hp;rw[yg];by_cases h0:m=0
  ·subst h0;rw[show((0:Nat):Int)=0 from rfl,qeX,aa (by simp),ae rfl];exact⟨l,rfl,hp,by omega,rfl⟩
  obtain⟨j,hj⟩:∃j,k=j+1:=⟨k-1,by
   rcases bG k with e|e
   ·subst e;simp at hm;omega
   omega⟩
  rw[hj]at hm hK hl
  have hm0:(0:Int)<=(m:Int):=by omega
  have hne:dg W (m:Int)≠[]:=λe=>by have:=(qjg W1 hm0).1 e;omega
  have hlen:0<(dg W (m:Int)).length:=cN.2 hne;have ln:(dg W (m:Int)).length<=3900:=bx fm.len hB
  have cB:Can W [1000000000000000000]:=by
   have:=jA W1 (show(0:Int)<=1000000000000000000 by decide);rw[qkQ (by decide) (by decide)]at this;exact this
  have vB:dv W [1000000000000000000]=1000000000000000000:=by rw[zF,zn,aZ,bc]
  have ed:=qkf (N:=N) (by omega) (jA W1 hm0) cB (by omega) (by rw[vB];decide);rw[vB,yc W1 hm0]at ed;obtain⟨q,r,hq,hr⟩:∃q r,m=1000000000000000000*q+r/\r<1000000000000000000:=⟨m/1000000000000000000,m%1000000000000000000,by omega,by omega⟩
  have eq:(m:Int)/1000000000000000000=(q:Int):=by omega
  have er:(m:Int)%1000000000000000000=(r:Int):=by omega
  rw[eq,er]at ed;obtain⟨t,et,t0,eD⟩:=qsQ (q:=q) hr;rw[<-hq]at eD;rw[ae (by omega),ed,ZB];simp only;rw[qtd hr,ZB,et,ZB,jU (by simp;omega) (by simp;omega),ZB]
  have hk:q<10^(18*j):=by
   rw[Nat.mul_succ,Nat.pow_add,p18,bP]at hm;refine Nat.lt_of_mul_lt_mul_left (a:=1000000000000000000) ?_;omega
  obtain⟨l',f1,f2,f3,f4⟩:=ih j q (l++[t]) hk (by omega) (by simp;omega) (qc9 (by omega) fm) (λu hu=>by
   rcases cG.1 hu with hu|hu
   ·exact hp u hu
   rw[List.mem_singleton.1 hu];exact t0)
  refine⟨l',f1,f2,by simp at f3;omega,?_⟩;rw[f4,aa h0,eD,List.reverse_append,eX,Yz];simp
def byN (s:Str):List Int:=s.map λx=>(x.toNat:Int)
def qiu (s:Str):(byN s).length=s.length:=by unfold byN;rw[bq]
def qqL {l:List Str}(hp:∀t∈l,0<t.length) (hl:l.length<=100000):∀(K i:Nat) (o:Option (List Int)),i<=l.length->i<K->(hof o).length+(l.take i).flatten.length<=1000000000->
 ∃o',jc l K o.isSome o ((i:Int)-1)=some (o'.isSome,o')/\hof o'=hof o++byN (l.take i).reverse.flatten
 |0,i,o,_,h,_=>by omega
 |K+1,0,o,hi,h,hb=>by
  rw[jc,aa (by omega)];exact⟨o,rfl,by simp[byN]⟩
 |K+1,i+1,o,hi,h,hb=>by
  have hil:i<l.length:=by omega
  have ei:((i+1:Nat):Int)-1=(i:Int):=by omega
  have ht:l.take (i+1)=l.take i++[l[i]]:=cJ hil;have h1:=hp l[i] (bo hil);rw[ht,eX,Yq]at hb;simp only[List.flatten_cons,List.flatten_nil,YQ]at hb
  have ew:bWr o.isSome o l[i]=some (hof o++byN l[i]):=by
   unfold bWr;rw[ae ⟨rfl,by omega,h1⟩];rfl
  rw[jc,ei,ae (by omega),qf,Ya hil,ZB,ew,ZB,qg (by omega) (by omega)]
  obtain⟨o',f1,f2⟩:=qqL hp hl K i (some (hof o++byN l[i])) (by omega) (by omega) (by
   show(hof o++byN l[i]).length+_<=_
   rw[Yq,qiu];omega)
  refine⟨o',f1,?_⟩;rw[f2,ht,List.reverse_append,eX];show hof o++byN l[i]++_=_;rw[Yz];unfold byN;simp
def qp1 (s:Str):(byN s).map (λn=>UInt8.ofNat n.toNat)=s:=by
 unfold byN;rw[List.map_map]
 conv=>rhs;rw[<-List.map_id s]
 refine List.map_congr_left λx _=>?_
 show UInt8.ofNat ((x.toNat:Int)).toNat=x;rw[aU,UInt8.ofNat_toNat]
def qsA (s:Str):(byN s).all (λn=>decide (0<=n)&&decide (n<256))=true:=by
 unfold byN;rw[List.all_map,Yp];intro x _;have:x.toNat<256:=x.toNat_lt;simp;omega
def qla:∀l:List Str,l.reverse.flatten.length=l.flatten.length:=λl=>by
 rw[List.length_flatten,List.length_flatten,List.map_reverse,List.sum_reverse]
def qgi {N:Nat}(hN:600000<N) {x:qh}{z:Int}(h:IsZ x z) (fz:Fit z 3900):vN N x=some (Lib.itoa z):=by
 unfold vN
 cases e:x.w.isEmpty with
 |true=>
  obtain⟨h1,h2,h3⟩:=h.emp e;rw[ae rfl,h1];unfold qoH;rw[ae ⟨h2,h3⟩,ZB]
 |false=>
  have hz:z.natAbs≠0:=by
   rcases h with⟨hw,_⟩|⟨_,_,h1,_⟩
   ·rw[hw]at e;cases e
   omega
  obtain⟨B8,hB8⟩:∃B8:Nat,B8=8000:=⟨_,rfl⟩
  have pw:((10^(18*B8):Nat):Int)=(1000000000000000000:Int)^B8:=by
   rw[Nat.pow_mul,cW];rfl
  have hm:z.natAbs<10^(18*B8):=by
   have h1:W^3900<=(1000000000000000000:Int)^B8:=by
    have a1:(1000000000000000000:Int)^B8=((1000000000000000000:Int)^2)^4000:=by rw[<-Int.pow_mul,hB8]
    have a2:W^4000<=((1000000000000000000:Int)^2)^4000:=(qfA (by decide) (by decide) 4000).2;have a3:W^3900<=W^4000:=xg (by decide) (by decide);rw[a1];exact cV a3 a2
   rw[<-pw]at h1;unfold Fit at fz;omega
  obtain⟨l,f1,f2,f3,f4⟩:=qtX hN 3900 (ai _) N B8 z.natAbs [] hm (by omega) (by simp;omega) (by unfold Fit;rw[aS];exact fz) (λt ht=>by cases ht);rw[aa hz]at f4;simp only[List.reverse_nil,List.flatten_nil,YQ,aN,bz]at f3 f4;have lD:(Lib.decDigits z.natAbs).length<=18*B8:=(qaB (by omega)).2 hm
  have lf:l.flatten.length<=18*B8:=by rw[<-qla,f4];exact lD
  have lpos:=qjG z.natAbs;rw[aa (by simp),parts_eq h,ZB];simp only;rw[f1,ZB];have el:w64 ((l.length:Int)-1)=(l.length:Int)-1:=qg (by omega) (by omega)
  have fin:∀(o:Option (List Int)) (pre:Str),hof o=byN pre->pre.length<=10->((jc l N o.isSome o (w64 ((l.length:Int)-1))).bind λ(ok30,o31)=>(qpr ok30 o31).bind λt38=>some t38)=some (pre++Lib.decDigits z.natAbs):=by
   intro o pre ho hpre;obtain⟨o',g1,g2⟩:=qqL f2 (by omega) N l.length o (ai _) (by omega) (by rw[ho,qiu,ar (ai _)];omega);rw[ar (ai _),f4,ho]at g2
   have g3:hof o'=byN (pre++Lib.decDigits z.natAbs):=by
    rw[g2];unfold byN;rw[eH]
   have hs:o'.isSome=true:=by
    cases o' with
    |none=>
     have:=az List.length g3;rw[qiu,Yq]at this;simp at this;omega
    |some q=>rfl
   rw[el,g1,ZB];simp only;unfold qpr;rw[ae ⟨hs,by rw[g3,qiu,Yq];omega,by rw[g3];exact qsA _⟩,g3,qp1,ZB]
  by_cases c:z<0
  ·have eb:bWr false (none:Option (List Int)) [45]=some [45]:=rfl;rw[ap c,ae rfl,eb,ZB,ZB];simp only;have:=fin (some [45]) [45] rfl (by simp);rw[yu c];exact this
  rw[ak c,aa (by simp),ZB];simp only;have:=fin none [] rfl (by simp);rw[zR c];exact this
def qs0 {x:qh}{z:Int}(h:IsZ x z) (fz:Fit z 3900):∃b:Nat,qcc x=some (b:Int)/\(z.natAbs:Int)<2^b:=by
 unfold qcc;rw[parts_eq h,ZB];simp only
 have hz:(0:Int)<=(z.natAbs:Int):=by omega
 have cc:=jA W1 hz;have vv:=yc W1 hz;have ll:=fz.len;generalize dg W (z.natAbs:Int)=w at*;by_cases h0:w.length=0
 ·rw[ae (by omega)];rw[YL.1 h0,zn]at vv;exact⟨0,rfl,by rw[<-vv];decide⟩
 have hk:w.length-1<w.length:=by omega
 have ax:=cc.1.at hk;obtain⟨l,e,hl⟩:=ql1 ax.1 ax.2
 have hl0:0<=l/\l<=64:=by
  rcases hl with⟨_,h⟩|⟨h1,h2,_⟩<;>omega
 have hl2:w[w.length-1]<2^l.toNat:=by
  rcases hl with⟨h1,h2⟩|⟨_,_,_,h⟩
  ·rw[h1,h2];decide
  exact h
 rw[aa (by omega),qlx (by omega) (by omega),qf,Ya hk,ZB,e,ZB,qg (n:=64*((w.length-1:Nat):Int)) (by omega) (by omega),qg (by omega) (by omega)];refine⟨64*(w.length-1)+l.toNat,by congr 1;omega,?_⟩;have e1:=ql W w (w.length-1) hk;rw[ar (by omega),vv]at e1;have h1:=qab W0 (cc.1.take (w.length-1));rw[Ym,aX (by omega)]at h1
 have e2:(2:Int)^(64*(w.length-1)+l.toNat)=W^(w.length-1)*2^l.toNat:=by
  rw[Int.pow_add,Int.pow_mul];rfl
 have h2:W^(w.length-1)*(w[w.length-1]+1)<=W^(w.length-1)*2^l.toNat:=Yc (by omega) (aC (pow_pos W0 _));rw[Int.mul_add,bY]at h2;rw[e2];omega
def pow8:∀n:Nat,(8:Int)^(n+1)<((10^(n+1):Nat):Int)
 |0=>by decide
 |n+1=>by
  have ih:=pow8 n;have a1:=pow_pos (show(0:Int)<8 by decide) (n+1);rw[aL,Nat.pow_succ,bu];omega
def qtU (n:Nat):(2:Int)^(3*n)=(8:Int)^n:=by
 rw[Int.pow_mul];rfl
def qth {n m:Nat}(hm:m=3*(n+1)):(2:Int)^m<((10^(n+1):Nat):Int):=by
 rw[hm,qtU];exact pow8 n
def lng (z:Int):Bool:=decide (600<(Lib.decDigits z.natAbs).length)
def qot {N:Nat}(hN:600000<N) {x:qh}{z:Int}(h:IsZ x z) (fz:Fit z 3900):qeI N x=some (lng z):=by
 obtain⟨b,e,hb⟩:=qs0 h fz;unfold qeI;rw[e,ZB];by_cases c:(b:Int)>1800
 ·rw[ae c,qgi hN h fz,ZB,qgA,qcW,ZB,ZB];congr 1;exact decide_eq_decide.2 (by omega)
 rw[aa c,ZB];congr 1;obtain⟨m,hm⟩:∃m:Nat,m=3*(599+1):=⟨_,rfl⟩;have h1:(2:Int)^b<=2^m:=xg (by decide) (by omega);have h2:=qth hm
 have h3:z.natAbs<10^(599+1):=by omega
 have:=(qaB (n:=z.natAbs) (k:=599+1) (by decide)).2 h3;unfold lng;rw[ak (by omega)]
def qlz (q:Rat):Bool:=lng q.num||lng q.den
def qqM {N:Nat}(hN:600000<N) {f:qb}{q:Rat}(h:IsF f q) (fq:qaN q 3900):qa9 N f=some (qlz q):=by
 unfold qa9 qlz;rw[qot hN h.1 fq.1,ZB]
 cases lng q.num with
 |true=>rw[ae rfl,ZB,Bool.true_or]
 |false=>rw[aa (by simp),qot hN h.2 fq.2,ZB,ZB,eZ]
def T (q:Rat):Str:=Lib.itoa q.num++(if q.den=1 then[]else 47::Lib.decDigits q.den)
def Fit.itoaLen {z:Int}(h:Fit z 3900):(Lib.itoa z).length<=200001:=by
 have h1:(Lib.decDigits z.natAbs).length<=20*10000:=by
  refine(qaB (by decide)).2 ?_;obtain⟨B,hB⟩:∃B:Nat,B=10000:=⟨_,rfl⟩;rw[<-hB];have h2:W^3900<=W^B:=xg (by decide) (by omega);have h3:W^B<=(100000000000000000000:Int)^B:=(qfA (by decide) (by decide) B).2
  have h4:((10^(20*B):Nat):Int)=(100000000000000000000:Int)^B:=by
   rw[Nat.pow_mul,cW];rfl
  unfold Fit at h;generalize W^3900=p at*;omega
 by_cases c:z<0
 ·rw[yu c,Yr];omega
 rw[zR c];omega
def qs8 {N:Nat}(hN:600000<N) {f:qb}{q:Rat}(h:IsF f q) (fq:qaN q 3900):qbM N f=some (T q):=by
 unfold qbM T;rw[qgS h,ZB];by_cases c:q.den=1
 ·rw[ap c,ae rfl,qgi hN h.1 fq.1,ZB,ae c,YQ]
 have l1:=Fit.itoaLen fq.1;have l2:=Fit.itoaLen fq.2;rw[ak c,aa (by simp),qgi hN h.1 fq.1,ZB,qcC (by simp;omega),ZB,qgi hN h.2 fq.2,ZB,qcC (by simp;omega),ZB,aa c,qhw,Yz];rfl
def qs1 {α:Type}{b:Bool}{x y:α}:z8 b x y=if b=true then x else y:=by cases b<;>rfl
def qmx:∀(s:Str) (j:Nat),qj1 47 s j=if slA s<s.length then((j+slA s:Nat):Int)else-1
 |[],j=>rfl
 |c::s,j=>by
  show z8 (Nat.beq c.toNat 47) (Int.ofNat j) (qj1 47 s (j+1))=_;rw[qs1,qmx s (j+1),slA,Yr];by_cases h:c=47
  ·subst h;rw[ae (by decide),ae rfl,ae (by omega)];rfl
  have h2:c.toNat≠47:=λe=>h (UInt8.toNat_inj.1 (by rw[e];rfl))
  rw[aa (by rw[qeb h2];simp),aa h];by_cases c2:slA s<s.length
  ·rw[ae c2,ae (by omega)];congr 1;omega
  rw[aa c2,aa (by omega)]
def qqP {s:Str}:stringslite_Index s [47]=some (qj1 47 s 0):=by
 unfold stringslite_Index stringslite_IndexByte qld
 have h0:¬(([47]:Str).length:Int)=0:=by simp
 have h1:(([47]:Str).length:Int)=1:=by simp
 rw[aa h0];simp only[ZB];by_cases hs:(([47]:Str)==s)=true
 ·have:s=[47]:=(bR.1 hs).symm;subst this;rfl
 rw[aa hs,ae h1,yJ,show([47]:Str)[0]? =some 47 from rfl,ZB,ae (by decide)];rfl
def qqi {s:Str}(hl:s.length<=1000000):strings_Cut s [47]=some (if slA s<s.length then(s.take (slA s),s.drop (slA s+1),true)else(s,[],false)):=by
 have h:=qhV s;unfold strings_Cut stringslite_Cut;rw[qqP,qmx,ZB];by_cases c:slA s<s.length
 ·rw[ae c,ae (by omega),ae c,aG,jN h,ZB,show w64 ((slA s:Int)+(([47]:Str).length:Int))=((slA s+1:Nat):Int)from qm (by omega),xx (by omega),ZB,ZB]
 rw[aa c,aa (by omega),aa c,ZB]
def qhf {s:Str}(hl:s.length<=1000000):vF s=some (decide (Dec s)):=by
 have hT:qlX s [48,49,50,51,52,53,54,55,56,57]=some (Lib.trimS s [48,49,50,51,52,53,54,55,56,57]):=by
  unfold qlX;rw[ae ⟨hl,by decide,by decide⟩]
 unfold vF;rw[hT];simp only[ZB,qpz]
 cases s with
 |nil=>rfl
 |cons c t=>
  rw[ae (by rfl),yJ];simp only[Yj,ZB]
  cases hd:(c::t).all yX with
  |false=>
   rw[aa (by simp),ZB,ak λh=>by rw[h.2.1]at hd;cases hd]
  |true=>
   rw[ae rfl];by_cases h:c=48
   ·subst h;rw[aa (by decide),ZB];congr 1;rw[cr,bR,aO];exact⟨λe=>by rw[e];exact qnS (by decide),λh=>h.2.2 rfl⟩
   rw[ae (by simp[ne48 h]),ZB,ap (show Dec (c::t)from⟨by simp,hd,λe=>absurd (Ye e) h⟩)]
def qjV {s:Str}(hl:s.length<=1000000):∀(K i:Nat),i<=s.length->s.length<K+i->yE s K (i:Int)=some (if(s.drop i).all yX=true then .inl ()else .inr false)
 |0,i,h,hK=>by omega
 |K+1,i,h,hK=>by
  rw[yE];by_cases hi:i<s.length
  ·have hd:s.drop i=s[i]::s.drop (i+1):=YG hi;rw[ae (by omega),qf,Ya hi,ZB,hd,cg];generalize s[i]=c
   have e:(if(c.toNat:Int)<48 then some true else some (decide ((c.toNat:Int)>57)):Option Bool)=some (!yX c):=by
    by_cases h1:(c.toNat:Int)<48
    ·rw[ae h1];congr 1;unfold yX;rw[ak (by omega)];rfl
    rw[aa h1];congr 1;unfold yX;rw[ap (p:=48<=c.toNat) (by omega),dj,<-decide_not];exact decide_eq_decide.2 (by omega)
   rw[e,ZB]
   cases hc:yX c with
   |true=>rw[aa (by simp),qm (by omega),qjV hl K (i+1) (by omega) (by omega),dj]
   |false=>rw[ae (by simp),gu,aa (by simp)]
  rw[aa (by omega),aB (by omega)];rfl
def qiL {N:Nat}{s:Str}(hl:s.length<=1000000) (hN:s.length<N):jO N s=some (decide (Dec s)):=by
 have e:=qjV hl N 0 (by omega) (by omega);have e:yE s N 0=_:=e
 have ed:qcb N s=some (s.all yX):=by
  unfold qcb;rw[e,YR];cases s.all yX<;>rfl
 unfold jO
 cases s with
 |nil=>rfl
 |cons c t=>
  rw[aa (by simp;omega)];by_cases h1:((c::t).length:Int)>1
  ·rw[ae h1,yJ];simp only[Yj,ZB];by_cases h:c=48
   ·subst h;rw[ae (by decide),ak λhD=>?_];have:=az List.length (hD.2.2 rfl);rw[bE]at this;omega
   rw[aa (by simp[ne48 h]),ed,ZB];congr 1;rw[cr,aO];exact⟨λhd=>⟨by simp,hd,λe=>absurd (Ye e) h⟩,λhD=>hD.2.1⟩
  rw[aa h1,ZB,aa (by simp),ed,ZB];have ht:t=[]:=YL.1 (by simp at h1;omega);subst ht;congr 1;rw[cr,aO];exact⟨λhd=>qnS (by simpa using hd),λhD=>hD.2.1⟩
def qk9 {z:Int}{p n:Nat}(h:(z.natAbs:Int)<((10^p:Nat):Int)) (hp:p<=9*n):zm z n:=by
 have h1:(10:Nat)^p<=10^(9*n):=bN (by omega) hp;unfold zm;rw[qiH];omega
def qf8 {N:Nat}(hN:10<N) (a b:Int):zf N [a,b]=some (if a=0 then b else a):=by
 obtain⟨K,rfl⟩:∃K,N=K+1+1+1:=⟨N-3,by omega⟩;unfold zf;by_cases ha:a=0
 ·by_cases hb:b=0
  ·subst ha;subst hb;rfl
  have h1:qy [a,b] (K+1+1+1) 0=some (.inr b):=by
   rw[qy,ae (by simp),yJ];simp only[Yj,ZB];rw[aa (by simp[ha]),qy,show w64 ((0:Int)+1)=1 from rfl,ae (by simp),idx_1];simp only[YK,Yj,ZB];rw[ae (by simp[hb])]
  rw[h1,ae ha];rfl
 have h1:qy [a,b] (K+1+1+1) 0=some (.inr a):=by
  rw[qy,ae (by simp),yJ];simp only[Yj,ZB];rw[ae (by simp[ha])]
 rw[h1,aa ha];rfl
def okF (s:Str):Bool:=decide (Dec ((bdy s).take (slA (bdy s)))/\¬(sgn s=true/\(bdy s).take (slA (bdy s))=[48]))
def qiK (s:Str):Bool:=decide (slA (bdy s)<(bdy s).length/\¬(Dec ((bdy s).drop (slA (bdy s)+1))/\(bdy s).drop (slA (bdy s)+1)≠[48]/\(bdy s).drop (slA (bdy s)+1)≠[49]))
def chk (s:Str):Int:=
 if okF s=false\/qiK s=true then 1
 else if 600<((bdy s).take (slA (bdy s))).length\/600<((bdy s).drop (slA (bdy s)+1)).length then 4
 else if slA (bdy s)<(bdy s).length/\Nat.gcd (qX 0 ((bdy s).take (slA (bdy s)))) (qX 0 ((bdy s).drop (slA (bdy s)+1)))≠1 then 1
 else 0
def qcP {s:Str}(h:s.all yX=true):sgn s=false/\bdy s=s:=by
 have e:sgn s=false:=ak λe=>by
  have hm:(45:UInt8)∈s:=Yn e;exact absurd (Yp.1 h _ hm) (by decide)
 exact⟨e,by unfold bdy;rw[e];rfl⟩
def qer {s:Str}(h:s.all yX=true):qkS s=(qX 0 s:Nat):=by
 obtain⟨h1,h2⟩:=qcP h;unfold qkS;rw[h1,h2];rfl
def qhe (s:Str):(bdy s).length<=s.length:=by
 unfold bdy;split
 ·rw[YJ];omega
 exact ai _
def qgg {s:Str}{k:Nat}(h:Dec s) (hk:s.length<=k):((qX 0 s:Nat):Int).natAbs<10^k:=by
 have h1:=qf3 s 0 h.2.1;have h2:(10:Nat)^s.length<=10^k:=bN (by omega) hk;omega
def qg4 {s:Str}(h:Dec s) (h0:s≠[48]):0<qX 0 s:=by
 rcases bG (qX 0 s)with e|e
 ·have:=h.eq;rw[e,jh (by decide)]at this;exact absurd this h0
 exact e
def qkK {N:Nat}(hN:600000<N) {s:Str}(hl:s.length<=10000):qcn N s=some (chk s):=by
 have hb:=qhe s;have hk:=qhV (bdy s)
 have lt:((bdy s).take (slA (bdy s))).length=slA (bdy s):=by rw[Ym];omega
 have ld:((bdy s).drop (slA (bdy s)+1)).length=(bdy s).length-(slA (bdy s)+1):=by rw[YJ]
 unfold qcn;rw[qkR,ZB];simp only
 have C:strings_Cut (bdy s) [47]=some ((bdy s).take (slA (bdy s)),(bdy s).drop (slA (bdy s)+1),decide (slA (bdy s)<(bdy s).length)):=by
  rw[qqi (by omega)];by_cases c:slA (bdy s)<(bdy s).length
  ·rw[ae c,ap c]
  rw[aa c,ak c,ar (by omega),aB (by omega)]
 rw[C,ZB];unfold chk okF qiK;generalize hn:(bdy s).take (slA (bdy s))=n at*;generalize hd:(bdy s).drop (slA (bdy s)+1)=d at*;generalize slA (bdy s)=k at*;generalize (bdy s).length=m at*;simp only;rw[qhf (by omega),ZB]
 have B6:(if decide (Dec n)=true then if(!sgn s)=true then some true else some (!(n==[48]))else some false:Option Bool)=some (decide (Dec n/\¬(sgn s=true/\n=[48]))):=by
  by_cases h1:Dec n
  ·cases h2:sgn s with
   |false=>simp[h1]
   |true=>
    by_cases h3:n=[48]<;>simp[h1,h3]
  simp[h1]
 rw[B6,ZB];generalize hf:decide (Dec n/\¬(sgn s=true/\n=[48]))=ok at*
 have B8:(if decide (k<m)=true then(if ok=true then(vF d).bind λr12=>if r12=true then if(!(d==[48]))=true then some (!(d==[49]))else some false else some false else some false:Option Bool).bind λb15=>some b15 else some ok:Option Bool)=some (ok&&!decide (k<m/\¬(Dec d/\d≠[48]/\d≠[49]))):=by
  by_cases h1:k<m
  ·cases ok with
   |false=>simp[h1]
   |true=>
    rw[qhf (by omega)];by_cases h2:Dec d
    ·by_cases h3:d=[48]
     ·simp[h1,h2,h3]
     by_cases h4:d=[49]<;>simp[h1,h2,h3,h4]
    simp[h1,h2]
  simp[h1]
 rw[B8,ZB];generalize hg:decide (k<m/\¬(Dec d/\d≠[48]/\d≠[49]))=bd at*
 have B:((qC (!(ok&&!bd)) 1).bind λr17=>if(n.length:Int)>600 then(qC true 4).bind λr19=>(zf N ([r17,r19]:List Int)).bind λr20=>some (r17,r19,r20)else(qC (decide ((d.length:Int)>600)) 4).bind λr21=>(zf N ([r17,r21]:List Int)).bind λr22=>some (r17,r21,r22):Option (Int×Int×Int))=some (if ok=false\/bd=true then 1 else 0,if 600<n.length\/600<d.length then 4 else 0,if ok=false\/bd=true then 1 else if 600<n.length\/600<d.length then 4 else 0):=by
  have w1:qC (!(ok&&!bd)) 1=some (if ok=false\/bd=true then 1 else 0):=by
   unfold qC;cases ok<;>cases bd<;>rfl
  rw[w1,ZB];by_cases c:(n.length:Int)>600
  ·rw[ae c,show qC true 4=some 4 from rfl,ZB,qf8 (by omega),ZB,ae (show 600<n.length\/600<d.length from .inl (by omega))];by_cases c2:ok=false\/bd=true
   ·simp only[ae c2];rfl
   simp only[aa c2];rfl
  have w2:qC (decide ((d.length:Int)>600)) 4=some (if 600<n.length\/600<d.length then 4 else 0):=by
   unfold qC;by_cases c2:(d.length:Int)>600
   ·rw[ap c2,ae rfl,ae (.inr (by omega))]
   rw[ak c2,aa (by simp),aa (by omega)]
  rw[aa c,w2,ZB,qf8 (by omega),ZB];by_cases c2:ok=false\/bd=true
  ·simp only[ae c2];rfl
  simp only[aa c2];rfl
 rw[B,ZB];simp only;by_cases c1:ok=false\/bd=true
 ·simp only[ae c1];rfl
 simp only[aa c1];by_cases c2:600<n.length\/600<d.length
 ·simp only[ae c2];rfl
 simp only[aa c2];rw[aa (show¬((!decide True)=true)by decide)]
 have ho:ok=true:=by cases ok<;>simp at c1⊢
 have hbd:bd=false:=by cases bd<;>simp at c1⊢
 have hDn:=(aP (hf.trans ho)).1;by_cases c3:k<m
 ·have hDd:Dec d/\d≠[48]/\d≠[49]:=Classical.byContradiction λhc=>dp (hg.trans hbd) ⟨c3,hc⟩
  obtain⟨r1,e1,h1⟩:=qiw hN (s:=n) (by rw[(qcP hDn.2.1).2];exact hDn.2.1) (by rw[(qcP hDn.2.1).2];omega);obtain⟨r2,e2,h2⟩:=qiw hN (s:=d) (by rw[(qcP hDd.1.2.1).2];exact hDd.1.2.1) (by rw[(qcP hDd.1.2.1).2];omega);rw[qer hDn.2.1]at h1;rw[qer hDd.1.2.1]at h2;have f1:Fit ((qX 0 n:Nat):Int) 40:=qgY (p:=600) (by have:=qgg hDn (k:=600) (by omega);omega) (by omega);have f2:Fit ((qX 0 d:Nat):Int) 40:=qgY (p:=600) (by have:=qgg hDd.1 (k:=600) (by omega);omega) (by omega);obtain⟨g,e3,h3⟩:=qp7 hN h1 h2 (f1.mono (by omega)) (f2.mono (by omega));have eg:Int.gcd ((qX 0 n:Nat):Int) ((qX 0 d:Nat):Int)=Nat.gcd (qX 0 n) (qX 0 d):=rfl;rw[eg]at h3;have hgp:0<Nat.gcd (qX 0 n) (qX 0 d):=Nat.gcd_pos_of_pos_right _ (qg4 hDd.1 hDd.2.1)
  have fg:Fit ((Nat.gcd (qX 0 n) (qX 0 d):Nat):Int) 40:=qc9 (by
   have:=Nat.le_of_dvd (qg4 hDd.1 hDd.2.1) (Nat.gcd_dvd_right (qX 0 n) (qX 0 d))
   omega) f2
  have e4:=qtS (N:=N) (by omega) h3 (Ue (z:=1) (by decide) (by decide)) (fg.mono (by omega)) (F1 (by omega));rw[ap c3,ae rfl,e1,ZB,e2,ZB,e3,ZB,qky,ZB,e4,ZB,ZB];unfold qC;by_cases c4:Nat.gcd (qX 0 n) (qX 0 d)=1
  ·rw[aa (show¬((Nat.gcd (qX 0 n) (qX 0 d):Nat):Int)<1 by omega),ae (show((Nat.gcd (qX 0 n) (qX 0 d):Nat):Int)=1 by omega),aa (show¬(k<m/\Nat.gcd (qX 0 n) (qX 0 d)≠1)from λh=>h.2 c4)];rfl
  have:¬((Nat.gcd (qX 0 n) (qX 0 d):Nat):Int)<1:=by omega
  rw[aa this,aa (show¬(((Nat.gcd (qX 0 n) (qX 0 d):Nat):Int)=1)by omega),ae (show k<m/\Nat.gcd (qX 0 n) (qX 0 d)≠1 from⟨c3,c4⟩)];rfl
 rw[ak c3,aa (by simp),ZB,aa (by omega)];rfl
def qp9:dg E9 1=[1]:=qkQ (by decide) (by decide)
def qul {N:Nat}(hN:100<N):qbb N 1=some (rI 1):=by
 obtain⟨K,rfl⟩:∃K,N=K+1+1:=⟨N-2,by omega⟩
 have h:xy (K+1+1) [] 1=some [1]:=by
  rw[xy,ae (by decide),aa (by decide),ZB,jU (by simp) (by simp),ZB,show w64 ((1:Int).tdiv 1000000000)=0 from rfl,xy,aa (by decide)];rfl
 unfold qbb;rw[h,ZB,ak (by decide),qbA false (w:=[1]) (Dg.cons ⟨by decide,by decide⟩ Dg.nil) (by simp) (by simp),ZB];rfl
def qku {N:Nat}(hN:600000<N) {s:Str}(hl:s.length<=10000) (hk:slA s<s.length) (h1:(bdy (s.take (slA s))).all yX=true) (h2:(bdy (s.drop (slA s+1))).all yX=true):j6 N s=some (rI (qkS (s.take (slA s))),rI (qkS (s.drop (slA s+1)))):=by
 have b1:=qhe (s.take (slA s));have b2:=qhe (s.drop (slA s+1));rw[Ym]at b1;rw[YJ]at b2;unfold j6;rw[qdX (by omega) (by omega),ZB,aa (by omega),jN (by omega),ZB,qjk (by omega) h1 (by omega),ZB,qm (by omega),xx (by omega),ZB,qjk (by omega) h2 (by omega),ZB]
def qhQ {N:Nat}(hN:600000<N) {s:Str}(hl:s.length<=10000):qb4 N s=some (chk s):=by
 have hb:=qhe s;have hk:=qhV (bdy s)
 have lt:((bdy s).take (slA (bdy s))).length=slA (bdy s):=by rw[Ym];omega
 have ld:((bdy s).drop (slA (bdy s)+1)).length=(bdy s).length-(slA (bdy s)+1):=by rw[YJ]
 unfold qb4;rw[qhs,ZB,qnq,ZB,qdX (by omega) (by omega),ZB,jN hk,ZB,qiL (by omega) (by omega),ZB]
 have I:Dec ((bdy s).take (slA (bdy s)))->((idx s 0).bind λc13=>if(c13.toNat:Int)=45 then(some ((bdy s).take (slA (bdy s)))).bind λs15=>some (s15==[48])else some false:Option Bool)=some (sgn s&&((bdy s).take (slA (bdy s))==[48])):=by
  intro hD;have h1:=hD.1;have hs:=qhs s;rw[ae (by omega)]at hs;rw[yJ]at hs⊢
  cases e:s[0]? with
  |none=>rw[e]at hs;cases hs
  |some c=>
   rw[e,ZB]at hs;rw[ZB,<-Ye hs];by_cases c2:(c.toNat:Int)=45
   ·rw[ae c2,ap c2,ZB,dj]
   rw[aa c2,ak c2,gu]
 have S16:(if(!decide (Dec ((bdy s).take (slA (bdy s)))))=true then some true else(idx s 0).bind λc13=>if(c13.toNat:Int)=45 then(some ((bdy s).take (slA (bdy s)))).bind λs15=>some (s15==[48])else some false:Option Bool)=some (!okF s):=by
  unfold okF;by_cases hD:Dec ((bdy s).take (slA (bdy s)))
  ·rw[aa (by simp[hD]),I hD];congr 1;rw[cr];simp[hD]
  rw[ae (by simp[hD])];simp[hD]
 rw[S16,ZB]
 have S26:(if(slA (bdy s):Int)<((bdy s).length:Int)then(cut (bdy s) (w64 ((slA (bdy s):Int)+1)) ((bdy s).length:Int)).bind λs20=>(jO N s20).bind λr21=>if(!r21)=true then some true else(cut (bdy s) (w64 ((slA (bdy s):Int)+1)) ((bdy s).length:Int)).bind λs23=>if(s23==[48])=true then some true else(cut (bdy s) (w64 ((slA (bdy s):Int)+1)) ((bdy s).length:Int)).bind λs25=>some (s25==[49])else some false:Option Bool)=some (qiK s):=by
  unfold qiK;by_cases c:slA (bdy s)<(bdy s).length
  ·rw[ae (by omega),qm (by omega),xx (by omega),ZB,qiL (by omega) (by omega),ZB];by_cases hD:Dec ((bdy s).drop (slA (bdy s)+1))
   ·rw[aa (by simp[hD]),ZB];by_cases h3:(bdy s).drop (slA (bdy s)+1)=[48]
    ·rw[ae (by simp[h3])];simp[c,h3]
    rw[aa (by simp[h3]),ZB];congr 1;rw[cr];simp[c,h3,hD]
   rw[ae (by simp[hD])];simp[c,hD]
  rw[aa (by omega)];simp[c]
 have S30:(if(slA (bdy s):Int)>600 then some true else some (decide ((w64 ((w64 (((bdy s).length:Int)-(slA (bdy s):Int)))-1))>600)):Option Bool)=some (decide (600<((bdy s).take (slA (bdy s))).length\/600<((bdy s).drop (slA (bdy s)+1)).length)):=by
  rw[lt,ld];by_cases c:(slA (bdy s):Int)>600
  ·rw[ae c,ap (.inl (by omega))]
  rw[aa c,qg (n:=((bdy s).length:Int)-(slA (bdy s):Int)) (by omega) (by omega),qg (by omega) (by omega)];congr 1;exact decide_eq_decide.2 (by omega)
 unfold chk;by_cases h1:okF s=true
 ·rw[h1,aa (by simp),S26,ZB];by_cases h2:qiK s=true
  ·rw[h2,ae rfl,ae (.inr rfl)]
  have h2':qiK s=false:=by simpa using h2
  rw[h2',aa (by simp),S30,ZB,aa (show¬(true=false\/false=true)by simp)];by_cases h3:600<((bdy s).take (slA (bdy s))).length\/600<((bdy s).drop (slA (bdy s)+1)).length
  ·rw[ap h3,ae rfl,ae h3]
  rw[ak h3,aa (by simp),aa h3];by_cases c:slA (bdy s)<(bdy s).length
  ·have hDn:=(aP h1).1
   have hDd:Dec ((bdy s).drop (slA (bdy s)+1))/\(bdy s).drop (slA (bdy s)+1)≠[48]/\(bdy s).drop (slA (bdy s)+1)≠[49]:=Classical.byContradiction λhc=>dp h2' ⟨c,hc⟩
   have ep:=qku hN (s:=bdy s) (by omega) c (by rw[(qcP hDn.2.1).2];exact hDn.2.1) (by rw[(qcP hDd.1.2.1).2];exact hDd.1.2.1);rw[qer hDn.2.1,qer hDd.1.2.1]at ep;rw[ae (by omega),ep,ZB];simp only;have v1:=qgg hDn (k:=600) (by omega);have v2:=qgg hDd.1 (k:=600) (by omega);have v3:=qg4 hDd.1 hDd.2.1;generalize qX 0 ((bdy s).take (slA (bdy s)))=n at*;generalize qX 0 ((bdy s).drop (slA (bdy s)+1))=d at*;have f1:zm ((n:Nat):Int) 8000:=(qk9 (p:=600) (n:=70) (by omega) (by omega)).mono (by omega);have f2:zm ((d:Nat):Int) 8000:=(qk9 (p:=600) (n:=70) (by omega) (by omega)).mono (by omega)
   have e1:(rI ((n:Nat):Int)).w=dg E9 ((n:Nat):Int):=by
    show dg E9 (((n:Nat):Int).natAbs:Int)=_;rw[aS]
   have e2:(rI ((d:Nat):Int)).w=dg E9 ((d:Nat):Int):=by
    show dg E9 (((d:Nat):Int).natAbs:Int)=_;rw[aS]
   have ec:=qkc (N:=N) hN (a:=((n:Nat):Int)) (b:=((d:Nat):Int)) (by omega) (by omega) f1 f2;have eg:Int.gcd ((n:Nat):Int) ((d:Nat):Int)=Nat.gcd n d:=rfl;rw[eg]at ec;rw[e1,e2,ec,ZB];have hg:0<Nat.gcd n d:=Nat.gcd_pos_of_pos_right _ v3;have cc:=jA E1 (show(0:Int)<=((Nat.gcd n d:Nat):Int)by omega);have vv:=yc E1 (show(0:Int)<=((Nat.gcd n d:Nat):Int)by omega);by_cases h4:Nat.gcd n d=1
   ·have:dg E9 ((Nat.gcd n d:Nat):Int)=[1]:=by rw[show((Nat.gcd n d:Nat):Int)=1 by omega];exact qp9
    rw[this,aa (by simp),yJ,aa (λh=>h.2 h4)];rfl
   rw[ae (show slA (bdy s)<(bdy s).length/\Nat.gcd n d≠1 from⟨c,h4⟩)];by_cases h5:(dg E9 ((Nat.gcd n d:Nat):Int)).length=1
   ·obtain⟨x,hx⟩:=dC.1 h5;rw[hx,zF,zn,aZ,bc]at vv
    have hx1:x≠1:=by omega
    rw[hx,aa (by simp),yJ];simp only[Yj,ZB,ak hx1];rfl
   rw[ae (by simp;omega)];rfl
  rw[aa (by omega),aa (by omega)];rfl
 have h1':okF s=false:=by simpa using h1
 rw[h1',ae (by simp),ae (.inl rfl)]
end Go.Av
end
