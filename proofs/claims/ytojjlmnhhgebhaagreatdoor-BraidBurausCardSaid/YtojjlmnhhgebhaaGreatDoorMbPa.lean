/-
  Digits to any base.
-/
import Derived.Test.YtojjlmnhhgebhaaGreatDoorAvPt
import Derived.Test.YtojjlmnhhgebhaaGreatDoorQGenBu
open Go.IntKind(wrap)
noncomputable section
set_option linter.unusedVariables false
set_option linter.unusedSimpArgs false
set_option maxRecDepth 100000
section
namespace Go.Av
def dv (B:Int):List Int->Int
 |[]=>0
 |x::l=>x+B*dv B l
def Dg (B:Int) (l:List Int):Prop:= ∀x∈l,0<=x/\x<B
theorem Dg.nil {B:Int}:Dg B []:=fun x h=>by cases h
theorem Dg.cons {B x:Int} {l:List Int} (h:0<=x/\x<B) (k:Dg B l):Dg B (x::l):=fun y hy=>by
 rcases List.mem_cons.1 hy with rfl|hy
 ·exact h
 exact k y hy
theorem Dg.head {B x:Int} {l:List Int} (h:Dg B (x::l)):0<=x/\x<B:=h x (List.mem_cons_self ..)
theorem Dg.tail {B x:Int} {l:List Int} (h:Dg B (x::l)):Dg B l:=fun y hy=>h y (List.mem_cons_of_mem _ hy)
theorem Dg.take {B:Int} {l:List Int} (h:Dg B l) (n:Nat):Dg B (l.take n):=fun y hy=>h y (List.mem_of_mem_take hy)
theorem Dg.drop {B:Int} {l:List Int} (h:Dg B l) (n:Nat):Dg B (l.drop n):=fun y hy=>h y (List.mem_of_mem_drop hy)
theorem Dg.append {B:Int} {l r:List Int} (h:Dg B l) (k:Dg B r):Dg B (l++r):=fun y hy=>by
 rcases List.mem_append.1 hy with hy|hy
 ·exact h y hy
 exact k y hy
theorem Dg.set {B:Int} {l:List Int} (h:Dg B l) {i:Nat} {v:Int} (hv:0<=v/\v<B):Dg B (l.set i v):=fun y hy=>by
 rcases List.mem_or_eq_of_mem_set hy with hy|rfl
 ·exact h y hy
 exact hv
theorem Dg.at {B:Int} {l:List Int} (h:Dg B l) {i:Nat} (hi:i<l.length):0<=l[i]/\l[i]<B:=h _ (List.getElem_mem hi)
theorem Uo {B:Int} (hB:0<B) (n:Nat):Dg B (List.replicate n 0):=fun y hy=>by
 rw[(List.mem_replicate.1 hy).2];omega
theorem ze (B:Int):dv B []=0:=rfl
theorem zt (B x:Int) (l:List Int):dv B (x::l)=x+B*dv B l:=rfl
theorem xe (B:Int): ∀(l r:List Int),dv B (l++r)=dv B l+B^l.length*dv B r
 |[],r=>by simp[dv]
 |x::l,r=>by
  rw[List.cons_append,zt,zt,xe B l r,Yr,Int.pow_succ];grind
theorem xK (B:Int): ∀n,dv B (List.replicate n 0)=0
 |0=>rfl
 |n+1=>by rw[List.replicate_succ,zt,xK B n];simp
theorem qD {B:Int} (hB:0<B): ∀{l:List Int},Dg B l->0<=dv B l
 |[],_=>Int.le_refl _
 |x::l,h=>by
  have h1:=h.head;have h2:=Yv (Int.le_of_lt hB) (qD hB h.tail);rw[zt];omega
theorem pow_pos {B:Int} (hB:0<B): ∀n:Nat,0<B^n
 |0=>by simp
 |n+1=>by rw[Int.pow_succ];exact Int.mul_pos (pow_pos hB n) hB
theorem yY {B:Int} (hB:0<B): ∀{l:List Int},Dg B l->dv B l<B^l.length
 |[],_=>by simp[dv]
 |x::l,h=>by
  have h1:=h.head;have h2:=yY hB h.tail;have h3:B*(dv B l+1)<=B*B^l.length:=Yc (by omega) (Int.le_of_lt hB);rw[zt,Yr,Int.pow_succ,Int.mul_comm (B^l.length)];rw[Int.mul_add,Int.mul_one]at h3;omega
theorem qaV (B:Int): ∀(l:List Int) (i:Nat) (v:Int) (h:i<l.length),dv B (l.set i v)=dv B l+B^i*(v-l[i])
 |[],i,v,h=>by simp at h
 |x::l,0,v,h=>by
  rw[List.set_cons_zero,zt,zt];simp only[Int.pow_zero,List.getElem_cons_zero];omega
 |x::l,i+1,v,h=>by
  have:=qaV B l i v (by simpa using h);rw[List.set_cons_succ,zt,zt,this,Int.pow_succ];simp only[List.getElem_cons_succ];grind
theorem qy (B:Int) (l:List Int) (i:Nat) (h:i<l.length):dv B (l.take (i+1))=dv B (l.take i)+B^i*l[i]:=by
 rw[List.take_succ_eq_append_getElem h,xe,Ym,Nat.min_eq_left (Nat.le_of_lt h),zt,ze];simp
theorem xc (B:Int) (l:List Int) (k:Nat) (h:k<=l.length):dv B l=dv B (l.take k)+B^k*dv B (l.drop k):=by
 have:=xe B (l.take k) (l.drop k);rw[YS,Ym,Nat.min_eq_left h]at this;exact this
def Can (B:Int) (l:List Int):Prop:=Dg B l/\ ∀x,l.getLast? =some x->x≠0
theorem Can.nil {B:Int}:Can B []:=⟨Dg.nil,fun x h=>by simp at h⟩
theorem Can.tail {B x:Int} {l:List Int} (h:Can B (x::l)):Can B l:=⟨h.1.tail,fun y hy=>h.2 y (by
 cases l with
 |nil=>simp at hy
 |cons a l=>rw[List.getLast?_cons_cons];exact hy)⟩
theorem Can.pos {B:Int} (hB:1<B): ∀{l:List Int},Can B l->l≠[]->0<dv B l
 |[],_,h=>absurd rfl h
 |x::l,h,_=>by
  have h1:=h.1.head;rw[zt]
  cases l with
  |nil=>
   have:=h.2 x (by simp);rw[ze];omega
  |cons y l=>
   have h2:=h.tail.pos hB (by simp);have h3:0<B*dv B (y::l):=Int.mul_pos (by omega) h2;omega
theorem Can.uniq {B:Int} (hB:1<B): ∀{l r:List Int},Can B l->Can B r->dv B l=dv B r->l=r
 |[],[],_,_,_=>rfl
 |[],y::r,_,k,e=>by have:=k.pos hB (by simp);rw[<-e,ze]at this;omega
 |x::l,[],h,_,e=>by have:=h.pos hB (by simp);rw[e,ze]at this;omega
 |x::l,y::r,h,k,e=>by
  rw[zt,zt]at e;have h1:=h.1.head;have k1:=k.1.head
  have e1:x=y:=by
   have a:(x+B*dv B l)%B=x:=by rw[Int.add_mul_emod_self_left];exact Int.emod_eq_of_lt h1.1 h1.2
   have b:(y+B*dv B r)%B=y:=by rw[Int.add_mul_emod_self_left];exact Int.emod_eq_of_lt k1.1 k1.2
   rw[<-a,<-b,e]
  have e2:dv B l=dv B r:=Int.eq_of_mul_eq_mul_left (by omega) (show B*dv B l=B*dv B r by omega);rw[e1,h.tail.uniq hB k.tail e2]
theorem Can.low {B:Int} (hB:1<B): ∀{l:List Int} {n:Nat},Can B l->l.length=n+1->B^n<=dv B l
 |[],n,_,h=>by simp at h
 |x::l,0,h,hn=>by
  have:=h.pos hB (by simp);simp only[Int.pow_zero];omega
 |x::l,n+1,h,hn=>by
  have h1:=h.1.head;have h2:=h.tail.low hB (n:=n) (by simpa using hn);have h3:B*B^n<=B*dv B l:=Yc h2 (by omega);rw[zt,Int.pow_succ,Int.mul_comm (B^n)];omega
def dgF (B:Int):Nat->Int->List Int
 |0,_=>[]
 |t+1,z=>if z<=0 then[]else z%B::dgF B t (z/B)
def dg (B z:Int):List Int:=dgF B z.toNat z
theorem qgA {B:Int} (hB:1<B): ∀(t:Nat) (z:Int),0<=z->z<=t->Can B (dgF B t z)/\dv B (dgF B t z)=z
 |0,z,h1,h2=>⟨Can.nil,by rw[dgF,ze];omega⟩
 |t+1,z,h1,h2=>by
  rw[dgF];split
  ·exact⟨Can.nil,by rw[ze];omega⟩
  rename_i hz;have hd:=Int.mul_ediv_add_emod z B;have hm:=Int.emod_nonneg z (show B≠0 by omega);have hm2:=Int.emod_lt_of_pos z (show 0<B by omega);have hq:0<=z/B:=Int.ediv_nonneg h1 (by omega);have hq2:z/B<z:=Int.ediv_lt_self_of_pos_of_ne_one (by omega) (by omega);obtain⟨c,e⟩:=qgA hB t (z/B) hq (by omega);refine⟨⟨Dg.cons ⟨hm,hm2⟩ c.1,fun x hx=>?_⟩,by rw[zt,e];omega⟩
  cases hl:dgF B t (z/B)with
  |nil=>
   rw[hl]at hx e;rw[ze]at e;rw[<-e,Int.mul_zero]at hd;simp only[List.getLast?_singleton,ZI]at hx;omega
  |cons a l=>
   rw[hl,List.getLast?_cons_cons]at hx;exact c.2 x (by rw[hl];exact hx)
theorem zY {B:Int} (hB:1<B) {z:Int} (h:0<=z):Can B (dg B z):=(qgA hB _ z h (by omega)).1
theorem jU {B:Int} (hB:1<B) {z:Int} (h:0<=z):dv B (dg B z)=z:=(qgA hB _ z h (by omega)).2
theorem qpz {B:Int} (hB:1<B) {l:List Int} (h:Can B l):dg B (dv B l)=l:=
 (zY hB (qD (by omega) h.1)).uniq hB h (jU hB (qD (by omega) h.1))
theorem qdV (B:Int):dg B 0=[]:=rfl
theorem qhS {B:Int} (hB:1<B) {z:Int} (h:0<=z):dg B z=[]↔z=0:=by
 constructor
 ·intro e;have:=jU hB h;rw[e,ze]at this;exact this.symm
 rintro rfl;rfl
theorem yH {B:Int} (hB:1<=B) {m n:Nat} (h:m<=n):B^m<=B^n:=by
 obtain⟨k,rfl⟩:=Nat.exists_eq_add_of_le h;rw[Int.pow_add]
 have h1:1<=B^k:=by have:=pow_pos (show 0<B by omega) k;omega
 have h2:=Yc h1 (Int.le_of_lt (pow_pos (show 0<B by omega) m));omega
theorem qcX {B:Int} (hB:1<B) {z:Int} (h:0<=z) {n:Nat}:(dg B z).length<=n↔z<B^n:=by
 constructor
 ·intro hl;have h1:=yY (show 0<B by omega) (zY hB h).1;have h2:=yH (show 1<=B by omega) hl;rw[jU hB h]at h1;omega
 intro hz
 cases e:(dg B z).length with
 |zero=>omega
 |succ m=>
  have h1:=(zY hB h).low hB e;rw[jU hB h]at h1;rcases Nat.lt_or_ge m n with h2|h2
  ·exact h2
  have:=yH (show 1<=B by omega) h2;omega
theorem qi4 {B:Int} {z:Int} (h0:0<z) (h:z<B):dg B z=[z]:=by
 have hB:1<B:=by omega
 refine(zY hB (by omega)).uniq hB ⟨Dg.cons ⟨by omega,h⟩ Dg.nil,fun x hx=>?_⟩ ?_
 ·simp only[List.getLast?_singleton,ZI]at hx;omega
 rw[jU hB (by omega),zt,ze];omega
theorem qmc {B:Int} (hB:1<B) {w:List Int} (h:Dg B w) {m:Nat} (hm:m<=w.length) (h0: ∀x,0<m->w[m-1]? =some x->x≠0) (hz: ∀(i:Nat) x,m<=i->w[i]? =some x->x=0):w.take m=dg B (dv B w):=by
 have hc:Can B (w.take m):=⟨h.take m,fun x hx=>by
  rw[List.getLast?_eq_getElem?,Ym,Nat.min_eq_left hm]at hx
  cases m with
  |zero=>simp at hx
  |succ m=>
   refine h0 x (by omega) ?_;rw[Yt]at hx;split at hx
   ·exact hx
   cases hx⟩
 have e:dv B w=dv B (w.take m):=by
  rw[xc B w m hm]
  have:w.drop m=List.replicate (w.length-m) 0:=by
   refine List.ext_getElem? fun i=>?_
   rw[YI,List.getElem?_replicate];by_cases hi:i<w.length-m
   ·rw[if_pos hi]
    cases hx:w[m+i]? with
    |none=>rw[List.getElem?_eq_none_iff]at hx;omega
    |some x=>rw[hz (m+i) x (by omega) hx]
   rw[if_neg hi];exact Yg (by omega)
  rw[this,xK,Int.mul_zero,Int.add_zero]
 rw[e,qpz hB hc]
end Go.Av
end
section
namespace Go.Av
abbrev W:Int:=18446744073709551616
theorem wu (n:Int):wrap .u64 n=n%18446744073709551616:=rfl
theorem vX {n:Int} (h0:0<=n) (h:n<18446744073709551616):wrap .u64 n=n:=by rw[wu];exact Int.emod_eq_of_lt h0 h
theorem qce {n:Int} (h0:0<=n) (h:n<18446744073709551616):(BitVec.ofInt 64 n).toNat=n.toNat:=by
 rw[BitVec.toNat_ofInt];have:n%((2:Nat)^64:Nat)=n:=Int.emod_eq_of_lt h0 (by simpa using h);rw[this]
theorem qdc {x:Int} (h0:0<=x) (h:x<18446744073709551616):qB .u64 x 4294967295=x%4294967296:=by
 show wrap .u64 _=_
 have e:(BitVec.ofInt IntKind.u64.bits x&&&BitVec.ofInt IntKind.u64.bits 4294967295).toNat=x.toNat%4294967296:=by
  rw[BitVec.toNat_and];show(BitVec.ofInt 64 x).toNat&&&(BitVec.ofInt 64 4294967295).toNat=_;rw[qce h0 h,qce (by omega) (by omega)];exact Nat.and_two_pow_sub_one_eq_mod x.toNat 32
 rw[e,wu];omega
theorem qjf (x:Int) (k:Nat):qz .u64 x (k:Int)=x/2^(min k 64):=by
 show x.fdiv (2^(min (k:Int).toNat 64))=_;rw[Int.toNat_natCast,Int.fdiv_eq_ediv_of_nonneg _ (Int.le_of_lt (pow_pos (by omega) _))]
theorem qek (x:Int):qz .u64 x 32=x/4294967296:=qjf x 32
theorem shr16 (x:Int):qz .u64 x 16=x/65536:=qjf x 16
theorem shr8 (x:Int):qz .u64 x 8=x/256:=qjf x 8
theorem qdq {a b:Int} (ha:0<=a/\a<4294967296) (hb:0<=b/\b<4294967296):0<=a*b/\a*b<=18446744065119617025:=by
 refine⟨Yv ha.1 hb.1,?_⟩;have:a*b<=4294967295*4294967295:=Int.mul_le_mul (by omega) (by omega) hb.1 (by omega);omega
theorem qfO {x y:Int} (hx:0<=x/\x<18446744073709551616) (hy:0<=y/\y<18446744073709551616):bits_Mul64 x y=some (x*y/18446744073709551616,x*y%18446744073709551616):=by
 unfold bits_Mul64;rw[qdc hx.1 hx.2,qdc hy.1 hy.2,qek x,qek y]
 have x1:0<=x/4294967296/\x/4294967296<4294967296:=by omega
 have x0:0<=x%4294967296/\x%4294967296<4294967296:=by omega
 have y1:0<=y/4294967296/\y/4294967296<4294967296:=by omega
 have y0:0<=y%4294967296/\y%4294967296<4294967296:=by omega
 have ex:x=x/4294967296*4294967296+x%4294967296:=by omega
 have ey:y=y/4294967296*4294967296+y%4294967296:=by omega
 have e:x*y=x/4294967296*(y/4294967296)*18446744073709551616+(x/4294967296*(y%4294967296)+x%4294967296*(y/4294967296))*4294967296+x%4294967296*(y%4294967296):=by
  generalize x/4294967296=a at*;generalize x%4294967296=b at*;generalize y/4294967296=c at*;generalize y%4294967296=d at*;subst ex ey;grind
 have b11:=qdq x1 y1;have b10:=qdq x1 y0;have b01:=qdq x0 y1;have b00:=qdq x0 y0;rw[e];generalize x/4294967296*(y/4294967296)=p11 at*;generalize x/4294967296*(y%4294967296)=p10 at*;generalize x%4294967296*(y/4294967296)=p01 at*;generalize x%4294967296*(y%4294967296)=p00 at*;rw[vX b11.1 (by omega),vX b10.1 (by omega),vX b01.1 (by omega),vX b00.1 (by omega),qek p00,vX (n:=p10+p00/4294967296) (by omega) (by omega),qek (p10+_),qdc (by omega) (by omega),vX (n:=_+p01) (by omega) (by omega),qek,vX (n:=p11+(p10+p00/4294967296)/4294967296) (by omega) (by omega),vX (by omega) (by omega),wu];congr 2;omega
def isLen (x l:Int):Prop:=(x=0/\l=0)\/(1<=l/\l<=64/\2^(l.toNat-1)<=x/\x<2^l.toNat)
def okT (T:List UInt8):Bool:=(List.range 256).all fun n=>match T[n]? with
 |some c=>decide (c.toNat<=8)&&((n==0&&c.toNat==0)||(decide (1<=c.toNat)&&(decide (2^(c.toNat-1)<=n)&&decide (n<2^c.toNat))))
 |none=>false
theorem qry {T:List UInt8} (h:okT T=true) {n:Int} (h0:0<=n) (h1:n<256): ∃c:UInt8,idx T n=some c/\c.toNat<=8/\isLen n (c.toNat:Int):=by
 obtain⟨n,rfl⟩:=Int.eq_ofNat_of_zero_le h0;have k1:=Yp.1 h n (List.mem_range.2 (by omega));split at k1
 ·rename_i c hc;simp only[Bool.and_eq_true,Bool.or_eq_true,decide_eq_true_eq,beq_iff_eq]at k1;refine⟨c,by rw[ql];exact hc,k1.1,?_⟩;rcases k1.2 with⟨k,k2⟩|⟨k,k2,k3⟩
  ·exact .inl ⟨by omega,by omega⟩
  refine .inr ⟨by omega,by omega,?_,?_⟩
  ·rw[Int.toNat_natCast];exact_mod_cast k2
  rw[Int.toNat_natCast];exact_mod_cast k3
 cases k1
theorem qj9 {x c:Int} (h0:0<=x) {k:Nat} (hk:k+c<=64) (h:isLen (x/2^k) c) (h1:1<=x/2^k\/k=0):isLen x (k+c):=by
 rcases h with⟨e,hc⟩|⟨c1,c2,l1,l2⟩
 ·rcases h1 with h1|rfl
  ·omega
  left;simp only[Int.pow_zero,Int.ediv_one]at e;omega
 right;have hp:=pow_pos (show(0:Int)<2 by omega) k;obtain⟨c,rfl⟩:=Int.eq_ofNat_of_zero_le (show 0<=c by omega);rw[Int.toNat_natCast]at l1 l2
 have e1:((k:Int)+(c:Int)).toNat=k+c:=by omega
 rw[e1];refine⟨by omega,hk,?_,?_⟩
 ·have:=(Int.le_ediv_iff_mul_le hp).1 l1;rw[<-Int.pow_add]at this;rw[show k+c-1=c-1+k by omega];exact this
 have:=(Yu hp).1 l2;rw[<-Int.pow_add]at this;rw[show k+c=c+k by omega];exact this
theorem qn7 {T:List UInt8} (hT:okT T=true) {x:Int} (h0:0<=x) (h:x<18446744073709551616): ∃l,(((if x>=4294967296 then
 some (qz .u64 x 32,32)
 else
 some (x,0):Option (Int×Int))).bind fun(n1,n2)=>
 ((if n1>=65536 then
 some (qz .u64 n1 16,w64 (n2+16))
 else
 some (n1,n2):Option (Int×Int))).bind fun(n5,n6)=>
 ((if n5>=256 then
 some (qz .u64 n5 8,w64 (n6+8))
 else
 some (n5,n6):Option (Int×Int))).bind fun(n9,n10)=>
 (idx T (wrap .u8 n9)).bind fun c13=>
 some (w64 (n10+(w64 (c13.toNat:Int)))))=some l/\isLen x l:=by
 have A: ∃(n k:Nat),(if x>=4294967296 then some (qz .u64 x 32,32)else some (x,0):Option (Int×Int))=some ((n:Int),(k:Int))/\(n:Int)=x/2^k/\k<=32/\(1<=n\/k=0)/\n<4294967296:=by
  by_cases c:x>=4294967296
  ·refine⟨(x/4294967296).toNat,32,?_,?_,by omega,by omega,by omega⟩
   ·rw[if_pos c,qek];congr 2;omega
   show _=x/4294967296;omega
  refine⟨x.toNat,0,?_,?_,by omega,by omega,by omega⟩
  ·rw[if_neg c];congr 2;omega
  show _=x/1;omega
 obtain⟨n,k,e,hn,hk,hp,hl⟩:=A;rw[e,ZB]
 have B: ∃(m j:Nat),(if(n:Int)>=65536 then some (qz .u64 n 16,w64 (k+16))else some ((n:Int),(k:Int)):Option (Int×Int))=some ((m:Int),(j:Int))/\(m:Int)=x/2^j/\j<=48/\(1<=m\/j=0)/\m<65536:=by
  by_cases c:(n:Int)>=65536
  ·refine⟨n/65536,k+16,?_,?_,by omega,by omega,by omega⟩
   ·rw[if_pos c,shr16,qh (by omega) (by omega)];congr 2
   rw[Int.natCast_ediv,hn,Int.pow_add,<-Int.ediv_ediv_of_nonneg (Int.le_of_lt (pow_pos (by omega) _))];rfl
  refine⟨n,k,by rw[if_neg c],hn,by omega,hp,by omega⟩
 obtain⟨m,j,e,hm,hj,hp,hl⟩:=B;simp only;rw[e,ZB]
 have C: ∃(p i:Nat),(if(m:Int)>=256 then some (qz .u64 m 8,w64 (j+8))else some ((m:Int),(j:Int)):Option (Int×Int))=some ((p:Int),(i:Int))/\(p:Int)=x/2^i/\i<=56/\(1<=p\/i=0)/\p<256:=by
  by_cases c:(m:Int)>=256
  ·refine⟨m/256,j+8,?_,?_,by omega,by omega,by omega⟩
   ·rw[if_pos c,shr8,qh (by omega) (by omega)];congr 2
   rw[Int.natCast_ediv,hm,Int.pow_add,<-Int.ediv_ediv_of_nonneg (Int.le_of_lt (pow_pos (by omega) _))];rfl
  refine⟨m,j,by rw[if_neg c],hm,by omega,hp,by omega⟩
 obtain⟨p,i,e,hpx,hi,hp,hl⟩:=C;simp only;rw[e,ZB];simp only;have w8:wrap .u8 (p:Int)=(p:Int):=Int.emod_eq_of_lt (by omega) (show(p:Int)<256 by omega);obtain⟨c,hc,c8,hlen⟩:=qry hT (n:=(p:Int)) (by omega) (by omega);rw[w8,hc,ZB,qh (n:=(c.toNat:Int)) (by omega) (by omega),qh (by omega) (by omega)];refine⟨_,rfl,qj9 h0 (by omega) (hpx▸hlen) ?_⟩;rcases hp with hp|hp
 ·left;rw[<-hpx];omega
 exact .inr hp
theorem qj5 {x:Int} (h0:0<=x) (h:x<18446744073709551616): ∃l,bits_Len64 x=some l/\isLen x l:=by
 unfold bits_Len64;exact qn7 (by kernel_rfl) h0 h
theorem qq6 {y:Int} (h0:0<y) (h:y<18446744073709551616): ∃s:Nat,s<=63/\bits_LeadingZeros64 y=some (s:Int)/\9223372036854775808<=y*2^s/\y*2^s<18446744073709551616:=by
 obtain⟨l,e,hl⟩:=qj5 (by omega) h;rcases hl with⟨hy,_⟩|⟨l1,l2,g1,g2⟩
 ·omega
 obtain⟨l,rfl⟩:=Int.eq_ofNat_of_zero_le (show 0<=l by omega);rw[Int.toNat_natCast]at g1 g2;have hp:=pow_pos (show(0:Int)<2 by omega) (64-l);refine⟨64-l,by omega,?_,?_,?_⟩
 ·unfold bits_LeadingZeros64;rw[e,ZB,qh (by omega) (by omega)];congr 1;omega
 ·have:=Int.mul_le_mul_of_nonneg_right g1 (Int.le_of_lt hp);rw[<-Int.pow_add,show l-1+(64-l)=63 by omega]at this;exact this
 have:=YH g2 hp;rw[<-Int.pow_add,show l+(64-l)=64 by omega]at this;exact this
theorem qkv {u u1 v1 v0 q r:Int} (hr:r=u-q*v1) (hv:0<v1*4294967296+v0):q*v0>4294967296*r+u1↔(u*4294967296+u1)/(v1*4294967296+v0)<q:=by
 rw[Yu hv,Int.mul_add,<-Int.mul_assoc];subst hr;rw[Int.mul_sub];have:4294967296*(q*v1)=q*v1*4294967296:=Int.mul_comm _ _;omega
structure qgl (u u1 v1 v0 q r:Int):Prop where
 e:r=u-q*v1
 p0:0<=r
 p1:r<4294967296
 q1:q<=4294967297
 le:(u*4294967296+u1)/(v1*4294967296+v0)<=q
theorem qiK {u u1 v1 v0 q r:Int} (hv1:2147483648<=v1/\v1<4294967296) (hv0:0<=v0/\v0<4294967296) (hu1:0<=u1/\u1<4294967296) (h:qgl u u1 v1 v0 q r) (c:(u*4294967296+u1)/(v1*4294967296+v0)<q) (hu:0<=u):
 (r+v1>=4294967296->q-1=(u*4294967296+u1)/(v1*4294967296+v0))/\(r+v1<4294967296->qgl u u1 v1 v0 (q-1) (r+v1)):=by
 have hr:r+v1=u-(q-1)*v1:=by rw[h.e,Int.sub_mul];omega
 have hQ:0<=(u*4294967296+u1)/(v1*4294967296+v0):=Int.ediv_nonneg (by omega) (by omega);constructor
 ·intro hb
  have:(q-1)*v0<=4294967296*(r+v1)+u1:=by
   have hq:q-1<=4294967296:=by have:=h.q1;omega
   have e:(q-1)*v0<=4294967296*v0:=Int.mul_le_mul_of_nonneg_right hq hv0.1;omega
  have: ¬(u*4294967296+u1)/(v1*4294967296+v0)<q-1:=fun c2=>absurd ((qkv (u1:=u1) (v0:=v0) hr (by omega)).2 c2) (by omega)
  omega
 intro hb;refine⟨hr,by have:=h.p0;omega,hb,by have:=h.q1;omega,by omega⟩
theorem qiT {u u1 v1 v0 q r:Int} (hv1:2147483648<=v1/\v1<4294967296) (hv0:0<=v0/\v0<4294967296) (hu1:0<=u1/\u1<4294967296) (hu:0<=u) (hlt:u<v1*4294967296+v0) (h:qgl u u1 v1 v0 q r):
 (if q>=4294967296 then some true else some (decide (wrap .u64 (q*v0)>wrap .u64 (wrap .u64 (4294967296*r)+u1))):Option Bool)=some (decide ((u*4294967296+u1)/(v1*4294967296+v0)<q)):=by
 have hQ:0<=(u*4294967296+u1)/(v1*4294967296+v0):=Int.ediv_nonneg (by omega) (by omega)
 have hQ2:(u*4294967296+u1)/(v1*4294967296+v0)<4294967296:=by
  rw[Yu (by omega)];omega
 have hq0:0<=q:=by have:=h.le;omega
 have hr0:=h.p0;have hr1:=h.p1;by_cases c:q>=4294967296
 ·rw[if_pos c,decide_eq_true (by omega)]
 rw[if_neg c];have b:=qdq (a:=q) (b:=v0) ⟨hq0,by omega⟩ hv0;rw[vX b.1 (by omega),vX (n:=4294967296*r) (by omega) (by omega),vX (n:=4294967296*r+u1) (by omega) (by omega)];congr 1;exact decide_eq_decide.2 (qkv h.e (by omega))
theorem qmG {v x:Int} {u u1 v1 v0:Int} (e1:qz .u64 v 32=v1) (e0:qB .u64 v 4294967295=v0) (ex:qz .u64 x 32=u1) (hv1:2147483648<=v1/\v1<4294967296) (hv0:0<=v0/\v0<4294967296) (hu1:0<=u1/\u1<4294967296) (hu:0<=u) (hlt:u<v1*4294967296+v0): ∀(K:Nat) (q r:Int),qgl u u1 v1 v0 q r->4294967296<=r+K*v1->
 yS v x K q r=some ((u*4294967296+u1)/(v1*4294967296+v0))
 |0,q,r,h,hK=>by have:=h.p1;simp at hK;omega
 |K+1,q,r,h,hK=>by
  have hQ:0<=(u*4294967296+u1)/(v1*4294967296+v0):=Int.ediv_nonneg (by omega) (by omega);have hq1:=h.q1;have hr0:=h.p0;have hr1:=h.p1;have hle:=h.le;rw[yS,e1,e0,ex,qiT hv1 hv0 hu1 hu hlt h,ZB];by_cases c:(u*4294967296+u1)/(v1*4294967296+v0)<q
  ·obtain⟨n1,n2⟩:=qiK hv1 hv0 hu1 h c hu;rw[decide_eq_true c,if_pos rfl,vX (n:=r+v1) (by omega) (by omega),vX (n:=q-1) (by omega) (by omega)];by_cases d:r+v1>=4294967296
   ·rw[if_pos d,n1 d]
   rw[if_neg d];refine qmG e1 e0 ex hv1 hv0 hu1 hu hlt K _ _ (n2 (by omega)) ?_
   have:((K+1:Nat):Int)*v1=K*v1+v1:=by rw[Int.natCast_add,Int.add_mul];simp
   omega
  rw[decide_eq_false c,if_neg (by simp)];congr 1;omega
theorem qmf {v x:Int} {u u1 v1 v0:Int} (e1:qz .u64 v 32=v1) (e0:qB .u64 v 4294967295=v0) (ex:qB .u64 x 4294967295=u1) (hv1:2147483648<=v1/\v1<4294967296) (hv0:0<=v0/\v0<4294967296) (hu1:0<=u1/\u1<4294967296) (hu:0<=u) (hlt:u<v1*4294967296+v0): ∀(K:Nat) (q r:Int),qgl u u1 v1 v0 q r->4294967296<=r+K*v1->
 yX v x K r q=some ((u*4294967296+u1)/(v1*4294967296+v0))
 |0,q,r,h,hK=>by have:=h.p1;simp at hK;omega
 |K+1,q,r,h,hK=>by
  have hQ:0<=(u*4294967296+u1)/(v1*4294967296+v0):=Int.ediv_nonneg (by omega) (by omega);have hq1:=h.q1;have hr0:=h.p0;have hr1:=h.p1;have hle:=h.le;rw[yX,e1,e0,ex,qiT hv1 hv0 hu1 hu hlt h,ZB];by_cases c:(u*4294967296+u1)/(v1*4294967296+v0)<q
  ·obtain⟨n1,n2⟩:=qiK hv1 hv0 hu1 h c hu;rw[decide_eq_true c,if_pos rfl,vX (n:=r+v1) (by omega) (by omega),vX (n:=q-1) (by omega) (by omega)];by_cases d:r+v1>=4294967296
   ·rw[if_pos d,n1 d]
   rw[if_neg d];refine qmf e1 e0 ex hv1 hv0 hu1 hu hlt K _ _ (n2 (by omega)) ?_
   have:((K+1:Nat):Int)*v1=K*v1+v1:=by rw[Int.natCast_add,Int.add_mul];simp
   omega
  rw[decide_eq_false c,if_neg (by simp)];congr 1;omega
theorem qip {u u1 v1 v0:Int} (hv1:2147483648<=v1/\v1<4294967296) (hv0:0<=v0/\v0<4294967296) (hu1:0<=u1/\u1<4294967296) (hu:0<=u) (hlt:u<v1*4294967296+v0):qgl u u1 v1 v0 (u/v1) (u-u/v1*v1):=by
 have hm:=Int.emod_nonneg u (show v1≠0 by omega);have hm2:=Int.emod_lt_of_pos u (show 0<v1 by omega)
 have e:u-u/v1*v1=u%v1:=by have:=Int.mul_ediv_add_emod u v1;rw[Int.mul_comm]at this;omega
 refine⟨rfl,by omega,by omega,?_,?_⟩
 ·have:u/v1<4294967298:=by
   rw[Yu (by omega)];omega
  omega
 have h1:(u*4294967296+u1)/(v1*4294967296+v0)<=(u*4294967296+u1)/(v1*4294967296):=by
  refine Int.le_ediv_of_mul_le (by omega) ?_;have hQ:0<=(u*4294967296+u1)/(v1*4294967296+v0):=Int.ediv_nonneg (by omega) (by omega);have h2:=Int.ediv_mul_le (u*4294967296+u1) (show v1*4294967296+v0≠0 by omega);rw[Int.mul_add]at h2;have:=Yv hQ hv0.1;omega
 have h3:(u*4294967296+u1)/(v1*4294967296)=u/v1:=by
  rw[Int.mul_comm v1,<-Int.ediv_ediv_of_nonneg (by omega)];congr 1;omega
 omega
theorem qi3 {u u1 v:Int} (hv:0<v) (hW:v<18446744073709551616) (h0:0<=u*4294967296+u1):wrap .u64 (wrap .u64 (wrap .u64 (u*4294967296)+u1)-wrap .u64 ((u*4294967296+u1)/v*v))=(u*4294967296+u1)%v:=by
 simp only[wu];rw[Int.emod_add_emod,<-Int.sub_emod,Int.emod_def (u*4294967296+u1) v,Int.mul_comm v];have h1:=Int.emod_nonneg (u*4294967296+u1) (show v≠0 by omega);have h2:=Int.emod_lt_of_pos (u*4294967296+u1) hv;rw[Int.emod_def,Int.mul_comm v]at h1 h2;exact Int.emod_eq_of_lt h1 (by omega)
theorem qmb {x:Int} {k:Nat} (hk:k<=64) (h0:0<=x*2^k) (h:x*2^k<18446744073709551616):qib .u64 x (k:Int)=some (x*2^k):=by
 unfold qib;rw[if_neg (by omega),Int.toNat_natCast,show min k IntKind.u64.bits=k from Nat.min_eq_left hk,vX h0 h]
theorem qhu {x:Int} {k:Nat} (hk:k<=64):qib .u64 x (k:Int)=some (x*2^k%18446744073709551616):=by
 unfold qib;rw[if_neg (by omega),Int.toNat_natCast,show min k IntKind.u64.bits=k from Nat.min_eq_left hk,wu]
theorem qhf {x:Int} {k:Nat} (hk:k<=64):qkA .u64 x (k:Int)=some (x/2^k):=by
 unfold qkA;rw[if_neg (by omega),Int.toNat_natCast,show min k IntKind.u64.bits=k from Nat.min_eq_left hk,Int.fdiv_eq_ediv_of_nonneg _ (Int.le_of_lt (pow_pos (by omega) _))]
theorem qlF {a b:Int} {k:Nat} (ha:0<=a) (hb:0<=b) (hk:b<2^k) (h:a*2^k+b<18446744073709551616):orI .u64 (a*2^k) b=a*2^k+b:=by
 show wrap .u64 _=_;obtain⟨a,rfl⟩:=Int.eq_ofNat_of_zero_le ha;obtain⟨b,rfl⟩:=Int.eq_ofNat_of_zero_le hb;have hp:=pow_pos (show(0:Int)<2 by omega) k;have hm:0<=(a:Int)*2^k:=Yv ha (Int.le_of_lt hp)
 have e:(BitVec.ofInt IntKind.u64.bits ((a:Int)*2^k)|||BitVec.ofInt IntKind.u64.bits (b:Int)).toNat=a*2^k+b:=by
  rw[BitVec.toNat_or];show(BitVec.ofInt 64 ((a:Int)*2^k)).toNat|||(BitVec.ofInt 64 (b:Int)).toNat=_;rw[qce hm (by omega),qce hb (by omega)]
  have e1:((a:Int)*2^k).toNat=2^k*a:=by
   rw[show(a:Int)*2^k=((2^k*a:Nat):Int)by rw[Int.natCast_mul,Int.natCast_pow,Int.mul_comm];rfl];exact Int.toNat_natCast _
  rw[e1,Int.toNat_natCast,<-Nat.two_pow_add_eq_or_of_lt (by exact_mod_cast hk),Nat.mul_comm]
 rw[e,vX (by omega) (by rw[Int.natCast_add,Int.natCast_mul,Int.natCast_pow];exact h)];rw[Int.natCast_add,Int.natCast_mul,Int.natCast_pow];rfl
theorem qnI {a b:Int} (ha:0<=a) (hb:0<b) (h:a<18446744073709551616):qco .u64 a b=some (a/b):=by
 unfold qco;rw[if_neg (by omega),YF ha,vX (Int.ediv_nonneg ha (Int.le_of_lt hb))];have:=Int.ediv_le_self b ha;omega
theorem rem_u {a b:Int} (ha:0<=a) (hb:0<b):qeG .u64 a b=some (a%b):=by
 unfold qeG;rw[if_neg (by omega),Int.tmod_eq_emod_of_nonneg ha]
theorem halves {A x0 v:Int} (hv:0<v):(A*4294967296+x0)/v=A/v*4294967296+(A%v*4294967296+x0)/v/\(A*4294967296+x0)%v=(A%v*4294967296+x0)%v:=by
 have e:A*4294967296+x0=A%v*4294967296+x0+v*(A/v*4294967296):=by
  have h:=Int.mul_ediv_add_emod A v;rw[<-Int.mul_assoc];generalize v*(A/v)=m at*;generalize A%v=n at*;omega
 constructor
 ·rw[e,Int.add_mul_ediv_left _ _ (by omega)];omega
 rw[e,Int.add_mul_emod_self_left]
theorem qj1 {N:Nat} (hN:5<=N) {hi lo y:Int} (h0:0<=hi) (h1:hi<y) (hy:y<18446744073709551616) (hlo:0<=lo/\lo<18446744073709551616):qaW N hi lo y=some ((hi*18446744073709551616+lo)/y,(hi*18446744073709551616+lo)%y):=by
 unfold qaW;rw[if_neg (by omega),ZB,if_neg (by omega),ZB];by_cases hz:hi=0
 ·subst hz;rw[if_pos rfl,qnI hlo.1 h1 hlo.2,rem_u hlo.1 h1,Int.zero_mul,Int.zero_add];rfl
 rw[if_neg hz];obtain⟨s,hs,es,g1,g2⟩:=qq6 (y:=y) (by omega) hy;have hp:=pow_pos (show(0:Int)<2 by omega) s;have hp2:=pow_pos (show(0:Int)<2 by omega) (64-s)
 have hpp:(2:Int)^s*2^(64-s)=18446744073709551616:=by
  rw[<-Int.pow_add,show s+(64-s)=64 by omega];rfl
 have ehi:hi*2^s<y*2^s:=YH h1 hp;have ehi0:0<=hi*2^s:=Yv h0 (Int.le_of_lt hp)
 have e64:wrap .u64 (64-wrap .u64 (s:Int))=((64-s:Nat):Int):=by
  rw[vX (n:=(s:Int)) (by omega) (by omega),vX (by omega) (by omega)];omega
 rw[es,ZB,vX (n:=(s:Int)) (by omega) (by omega),qmb (by omega) (by omega) g2,ZB,qmb (by omega) ehi0 (by omega),ZB];rw[show wrap .u64 (64-(s:Int))=((64-s:Nat):Int)by rw[vX (by omega) (by omega)];omega,qhf (by omega),ZB,qhu (by omega),ZB];have hl0:0<=lo/2^(64-s):=Int.ediv_nonneg hlo.1 (Int.le_of_lt hp2)
 have hl1:lo/2^(64-s)<2^s:=by
  rw[Yu hp2,hpp];exact hlo.2
 have eor:orI .u64 (hi*2^s) (lo/2^(64-s))=hi*2^s+lo/2^(64-s):=by
  refine qlF h0 hl0 hl1 ?_;have:(hi+1)*2^s<=y*2^s:=Int.mul_le_mul_of_nonneg_right (by omega) (Int.le_of_lt hp);rw[Int.add_mul,Int.one_mul]at this;omega
 have hUv:hi*2^s+lo/2^(64-s)<y*2^s:=by
  have:(hi+1)*2^s<=y*2^s:=Int.mul_le_mul_of_nonneg_right (by omega) (Int.le_of_lt hp);rw[Int.add_mul,Int.one_mul]at this;omega
 have enum:(hi*18446744073709551616+lo)*2^s=(hi*2^s+lo/2^(64-s))*18446744073709551616+lo*2^s%18446744073709551616:=by
  have e1:lo*2^s/18446744073709551616=lo/2^(64-s):=by
   rw[<-hpp,Int.mul_comm lo,Int.mul_ediv_mul_of_pos _ _ hp]
  have e2:=Int.mul_ediv_add_emod (lo*2^s) 18446744073709551616;rw[e1]at e2;rw[Int.add_mul,Int.add_mul];have e3:hi*18446744073709551616*2^s=hi*2^s*18446744073709551616:=Int.mul_right_comm _ _ _;omega
 rw[eor];have hx0:0<=lo*2^s%18446744073709551616:=Int.emod_nonneg _ (by omega);have hx1:lo*2^s%18446744073709551616<18446744073709551616:=Int.emod_lt_of_pos _ (by omega);generalize hU:hi*2^s+lo/2^(64-s)=U at*;generalize hx:lo*2^s%18446744073709551616=x at*;generalize hv:y*2^s=v at*
 have hU0:0<=U:=by omega
 have ev:v=v/4294967296*4294967296+v%4294967296:=by omega
 have v1:2147483648<=v/4294967296/\v/4294967296<4294967296:=by omega
 have v0:0<=v%4294967296/\v%4294967296<4294967296:=by omega
 have x1:0<=x/4294967296/\x/4294967296<4294967296:=by omega
 have x0:0<=x%4294967296/\x%4294967296<4294967296:=by omega
 have hNv:(4294967296:Int)<=N*(v/4294967296):=by
  have:(5:Int)*(v/4294967296)<=N*(v/4294967296):=Int.mul_le_mul_of_nonneg_right (by omega) (by omega);omega
 have am:qB .u64 v 4294967295=v%4294967296:=qdc (by omega) (by omega);have ax:qB .u64 x 4294967295=x%4294967296:=qdc hx0 hx1
 have wr: ∀u:Int,0<=u->u<18446744073709551616->wrap .u64 (u-wrap .u64 (u/(v/4294967296)*(v/4294967296)))=u-u/(v/4294967296)*(v/4294967296):=by
  intro u hu hu2;have a:=Yv (Int.ediv_nonneg hu (show 0<=v/4294967296 by omega)) (show 0<=v/4294967296 by omega);have b:=Int.ediv_mul_le u (show v/4294967296≠0 by omega);rw[vX a (by omega),vX (by omega) (by omega)]
 have hUvv:U<v/4294967296*4294967296+v%4294967296:=by omega
 rw[qek v,qnI hU0 (by omega) (by omega),ZB,wr U hU0 (by omega)];have f1:=qip v1 v0 x1 hU0 hUvv;rw[qmG (qek v) am (qek x) v1 v0 x1 hU0 hUvv N _ _ f1 (by have:=f1.p0;omega),ZB,qek x,<-ev,qi3 (by omega) g2 (by omega)];have hR0:0<=(U*4294967296+x/4294967296)%v:=Int.emod_nonneg _ (by omega);have hR1:(U*4294967296+x/4294967296)%v<v:=Int.emod_lt_of_pos _ (by omega);have hQ0:0<=(U*4294967296+x/4294967296)/v:=Int.ediv_nonneg (by omega) (by omega)
 have hQ1:(U*4294967296+x/4294967296)/v<4294967296:=by
  rw[Yu (by omega)];omega
 have hh:=halves (A:=U*4294967296+x/4294967296) (x0:=x%4294967296) (v:=v) (by omega)
 have eN:(U*4294967296+x/4294967296)*4294967296+x%4294967296=(hi*18446744073709551616+lo)*2^s:=by rw[enum];omega
 generalize (U*4294967296+x/4294967296)%v=R at*;generalize (U*4294967296+x/4294967296)/v=Q at*
 have hRvv:R<v/4294967296*4294967296+v%4294967296:=by omega
 rw[qnI hR0 (by omega) (by omega),ZB,wr R hR0 (by omega)];have f2:=qip v1 v0 x0 hR0 hRvv;rw[qmf (qek v) am ax v1 v0 x0 hR0 hRvv N _ _ f2 (by have:=f2.p0;omega),ZB,ax,<-ev,qi3 (by omega) g2 (by omega),qhf (by omega),ZB];have hP0:0<=(R*4294967296+x%4294967296)/v:=Int.ediv_nonneg (by omega) (by omega)
 have hP1:(R*4294967296+x%4294967296)/v<4294967296:=by
  rw[Yu (by omega)];omega
 rw[vX (n:=Q*4294967296) (by omega) (by omega),vX (by omega) (by omega),<-hh.1,<-hh.2,eN,<-hv,Int.mul_ediv_mul_of_pos_left _ _ hp,Int.mul_comm _ (2^s),Int.mul_comm y (2^s),Int.mul_emod_mul_of_pos _ _ hp,Int.mul_ediv_cancel_left _ (by omega)]
end Go.Av
end
section
namespace Go.Av
theorem W1:(1:Int)<W:=by decide
theorem W0:(0:Int)<W:=by decide
theorem qbd {n:Nat} (h:n<=100000):mk 8 (n:Int) (0:Int)=some (List.replicate n 0):=by
 unfold mk;rw[if_pos (by omega),Int.toNat_natCast]
theorem qmA {w:List Int} (hl:w.length<=100000): ∀(K m:Nat),m<=w.length->m<K->(∀(i:Nat) x,m<=i->w[i]? =some x->x=0)->
 ∃m':Nat,qag w K (m:Int)=some (m':Int)/\m'<=w.length/\(∀x,0<m'->w[m'-1]? =some x->x≠0)/\ ∀(i:Nat) x,m'<=i->w[i]? =some x->x=0
 |0,m,h,hK,_=>by omega
 |K+1,m,h,hK,hz=>by
  rw[qag];by_cases h0:0<m
  ·have hm:m-1<w.length:=by omega
   rw[if_pos (by omega),qgy (by omega) h0,ql,Ya hm,ZB,ZB];by_cases c:w[m-1]=0
   ·rw[decide_eq_true c,if_pos rfl]
    refine qmA hl K (m-1) (by omega) (by omega) fun i x hi hx=>?_
    rcases Nat.lt_or_ge i m with h1|h1
    ·have e:i=m-1:=by omega
     subst e;rw[Ya hm]at hx;injection hx with hx;omega
    exact hz i x h1 hx
   rw[decide_eq_false c,if_neg (by simp)];refine⟨m,rfl,h,fun x _ hx=>?_,hz⟩;rw[Ya hm]at hx;injection hx with hx;omega
  rw[if_neg (by omega),ZB,if_neg (by simp)];exact⟨m,rfl,h,fun x h1=>by omega,hz⟩
theorem qcM {N:Nat} {w:List Int} (hw:Dg W w) (hl:w.length<=100000) (hN:w.length<N):y9 N w=some (dg W (dv W w)):=by
 unfold y9;obtain⟨m,e,h1,h2,h3⟩:=qmA hl N w.length (Nat.le_refl _) hN (fun i x hi hx=>by rw[Yg hi]at hx;cases hx);rw[e,ZB,ym h1,ZB,qmc W1 hw h1 h2 h3]
theorem take_at {l:List Int} {k:Nat}:dv W (l.take (k+1))=dv W (l.take k)+W^k*((l[k]?).getD 0):=by
 by_cases h:k<l.length
 ·rw[qy W l k h,Ya h];rfl
 rw[List.take_of_length_le (by omega),List.take_of_length_le (by omega),Yg (by omega)];simp
theorem qok {l:List Int} (h:Dg W l) (k:Nat):0<=(l[k]?).getD 0/\(l[k]?).getD 0<W:=by
 by_cases hk:k<l.length
 ·rw[Ya hk];exact h.at hk
 rw[Yg (by omega)];exact⟨Int.le_refl _,by decide⟩
theorem qlG {l:List Int} (k:Nat):((if(k:Int)<(l.length:Int)then(idx l (k:Int)).bind fun x=>some x else some 0:Option Int))=some ((l[k]?).getD 0):=by
 by_cases h:k<l.length
 ·rw[if_pos (by omega),ql,Ya h];rfl
 rw[if_neg (by omega),Yg (by omega)];rfl
theorem qfV {l:List Int} {k:Nat} {v:Int} (h: ∀(i:Nat) x,k<=i->l[i]? =some x->x=0): ∀(i:Nat) x,k+1<=i->(l.set k v)[i]? =some x->x=0:=by
 intro i x hi hx;rw[Yw (by omega)]at hx;exact h i x (by omega) hx
theorem qjM {l:List Int} {k:Nat} {v:Int} (hk:k<l.length) (h: ∀(i:Nat) x,k<=i->l[i]? =some x->x=0):dv W (l.set k v)=dv W l+W^k*v:=by
 rw[qaV W l k v hk,h k l[k] (Nat.le_refl _) (Ya hk),Int.sub_zero]
theorem qoH {x y:List Int} (hx:Dg W x) (hy:Dg W y) (hxl:x.length<=100000) (hyx:y.length<=x.length): ∀(K k:Nat) (l:List Int) (c:Int),k<=x.length->x.length<K+k->l.length=x.length+1->Dg W l->(∀(i:Nat) z,k<=i->l[i]? =some z->z=0)->0<=c->c<=1->dv W l+W^k*c=dv W (x.take k)+dv W (y.take k)->
 ∃l' c',zV x y K l (k:Int) c=some (l',c')/\l'.length=x.length+1/\Dg W l'/\(∀(i:Nat) z,x.length<=i->l'[i]? =some z->z=0)/\0<=c'/\c'<=1/\dv W l'+W^x.length*c'=dv W x+dv W y
 |0,k,l,c,h,hK,_,_,_,_,_,_=>by omega
 |K+1,k,l,c,h,hK,hl,hd,hz,c0,c1,e=>by
  rw[zV];by_cases hk:k<x.length
  ·have ax:=hx.at hk;have ay:=qok hy k
   have hkl:k<l.length:=by omega
   rw[if_pos (by omega),qlG k,ZB,ql,Ya hk,ZB]
   have ea:xZ x[k] ((y[k]?).getD 0) c=some ((x[k]+(y[k]?).getD 0+c)%18446744073709551616,(x[k]+(y[k]?).getD 0+c)/18446744073709551616):=by
    unfold xZ;rw[if_pos ⟨ax.1,ay.1,c0,c1⟩]
   rw[ea,ZB,ql,Ya hkl,ZB,zP hkl,ZB,qJ (by omega)];have b0:=ax.2;have b1:=ay.2;unfold W at b0 b1;have hs:=Int.mul_ediv_add_emod (x[k]+(y[k]?).getD 0+c) 18446744073709551616;have m0:=Int.emod_nonneg (x[k]+(y[k]?).getD 0+c) (show(18446744073709551616:Int)≠0 by decide);have m1:=Int.emod_lt_of_pos (x[k]+(y[k]?).getD 0+c) (show(0:Int)<18446744073709551616 by decide)
   have q0:0<=(x[k]+(y[k]?).getD 0+c)/18446744073709551616:=by omega
   have q1:(x[k]+(y[k]?).getD 0+c)/18446744073709551616<=1:=by omega
   refine qoH hx hy hxl hyx K (k+1) _ _ (by omega) (by omega) (by rw[Yk];exact hl) (hd.set ⟨m0,m1⟩) (qfV hz) q0 q1 ?_;rw[qjM hkl hz,take_at,take_at,Ya hk,YN,Int.pow_succ];simp only
   have e2:W^k*(x[k]+(y[k]?).getD 0+c)=W^k*(18446744073709551616*((x[k]+(y[k]?).getD 0+c)/18446744073709551616))+W^k*((x[k]+(y[k]?).getD 0+c)%18446744073709551616):=by rw[<-Int.mul_add,hs]
   rw[Int.mul_assoc];show _+W^k*((x[k]+(y[k]?).getD 0+c)%18446744073709551616)+W^k*(18446744073709551616*((x[k]+(y[k]?).getD 0+c)/18446744073709551616))=_;rw[Int.mul_add,Int.mul_add]at e2;omega
  rw[if_neg (by omega)]
  have ek:k=x.length:=by omega
  subst ek;rw[List.take_of_length_le (Nat.le_refl _),List.take_of_length_le hyx]at e;exact⟨l,c,rfl,hl,hd,hz,c0,c1,e⟩
theorem qmo {N:Nat} {x y:List Int} (hx:Dg W x) (hy:Dg W y) (hxl:x.length<=10000) (hyx:y.length<=x.length) (hN:x.length+2<N):
 ((mk 8 (w64 ((x.length:Int)+1)) 0).bind fun l5=>
 (zV x y N l5 0 0).bind fun(l9,n10)=>
 (idx l9 (x.length:Int)).bind fun x21=>
 (put l9 (x.length:Int) n10).bind fun l22=>
 (y9 N l22).bind fun r23=>
 some r23)=some (dg W (dv W x+dv W y)):=by
 rw[qJ (by omega),qbd (by omega),ZB]
 obtain⟨l,c,e,h1,h2,h3,h4,h5,h6⟩:=qoH hx hy (by omega) hyx N 0 (List.replicate (x.length+1) 0) 0 (by omega) (by omega) (by simp) (Uo W0 _) (fun i z _ hz=>by
  rw[List.getElem?_replicate]at hz;split at hz
  ·injection hz with hz;exact hz.symm
  cases hz) (by omega) (by omega) (by rw[xK];simp[dv])
 have e:zV x y N (List.replicate (x.length+1) 0) 0 0=some (l,c):=e
 have hx1:x.length<l.length:=by omega
 rw[e,ZB];simp only;rw[ql,Ya hx1,ZB,zP hx1,ZB,qcM (h2.set ⟨h4,by unfold W;omega⟩) (by rw[Yk];omega) (by rw[Yk];omega),ZB,qjM hx1 h3,h6]
theorem qkl {N:Nat} {x y:List Int} (hx:Dg W x) (hy:Dg W y) (hxl:x.length<=10000) (hyl:y.length<=10000) (hN1:x.length+2<N) (hN2:y.length+2<N):qaA N x y=some (dg W (dv W x+dv W y)):=by
 unfold qaA;by_cases h:(x.length:Int)<(y.length:Int)
 ·rw[if_pos h,ZB,Int.add_comm];exact qmo hy hx hyl (by omega) hN2
 rw[if_neg h,ZB];exact qmo hx hy hxl (by omega) hN1
theorem qpG {a b:List Int} (ha:Dg W a) (hl:a.length=b.length) (hb:Dg W b) {k:Nat} (hk:k<a.length) (he:a.drop (k+1)=b.drop (k+1)) (h:a[k]<b[k]'(by omega)):dv W a<dv W b:=by
 have e1:=xc W a (k+1) (by omega);have e2:=xc W b (k+1) (by omega);rw[qy W a k hk]at e1;rw[qy W b k (by omega)]at e2;have l1:=yY W0 (ha.take k);have l2:=qD W0 (hb.take k);rw[Ym,Nat.min_eq_left (by omega)]at l1;have l3:W^k*(a[k]+1)<=W^k*b[k]:=Yc (by omega) (Int.le_of_lt (pow_pos W0 k));rw[Int.mul_add,Int.mul_one]at l3;rw[he]at e1;omega
theorem qnx {a b:List Int} (ha:Dg W a) (hb:Dg W b) (hl:a.length=b.length) (hal:a.length<=100000): ∀(K k:Nat),k<=a.length->k<K->a.drop k=b.drop k->
 zl a b K ((k:Int)-1)=some (if dv W a<dv W b then .inr (-1)else if dv W a=dv W b then .inl ()else .inr 1)
 |0,k,h,hK,_=>by omega
 |K+1,0,h,hK,he=>by
  rw[YR,YR]at he;rw[zl,if_neg (by omega),he,if_neg (by omega),if_pos rfl]
 |K+1,k+1,h,hK,he=>by
  have hka:k<a.length:=by omega
  have hkb:k<b.length:=by omega
  have ek:((k+1:Nat):Int)-1=(k:Int):=by omega
  rw[ek,zl,if_pos (by omega),ql,Ya hka,ZB,ql,Ya hkb,ZB];by_cases c:a[k]=b[k]
  ·rw[if_neg (by simp[c]),qh (by omega) (by omega)];refine qnx ha hb hl hal K k (by omega) (by omega) ?_;rw[YG hka,YG hkb,c,he]
  rw[if_pos (by simp[c])];by_cases d:a[k]<b[k]
  ·rw[if_pos d,if_pos (qpG ha hl hb hka he d)]
  have:=qpG hb hl.symm ha hkb he.symm (by omega);rw[if_neg d,if_neg (by omega),if_neg (by omega)]
theorem qdL {a b:List Int} (ha:Can W a) (hb:Can W b) (h:a.length<b.length):dv W a<dv W b:=by
 obtain⟨n,hn⟩: ∃n,b.length=n+1:=⟨b.length-1,by omega⟩;have h1:=yY W0 ha.1;have h2:=hb.low W1 hn;have h3:=yH (show(1:Int)<=W by decide) (show a.length<=n by omega);omega
theorem qd9 {N:Nat} {a b:List Int} (ha:Can W a) (hb:Can W b) (hal:a.length<=10000) (hN:a.length+1<N):jK N a b=some (if dv W a<dv W b then-1 else if dv W a=dv W b then 0 else 1):=by
 unfold jK;by_cases h:a.length=b.length
 ·have e:=qnx ha.1 hb.1 h (by omega) N a.length (Nat.le_refl _) (by omega) (by rw[List.drop_of_length_le (Nat.le_refl _),List.drop_of_length_le (by omega)]);rw[if_neg (by simp[h]),qh (by omega) (by omega),e,ZB];by_cases c:dv W a<dv W b
  ·rw[if_pos c,if_pos c]
  rw[if_neg c,if_neg c];by_cases d:dv W a=dv W b
  ·rw[if_pos d,if_pos d]
  rw[if_neg d,if_neg d]
 rw[if_pos (by simp;omega)];by_cases c:a.length<b.length
 ·rw[if_pos (by omega),if_pos (qdL ha hb c)]
 have:=qdL hb ha (by omega);rw[if_neg (by omega),if_neg (by omega),if_neg (by omega)]
theorem qnU {x y:List Int} (hx:Dg W x) (hy:Dg W y) (hxl:x.length<=100000) (hyx:y.length<=x.length): ∀(K k:Nat) (l:List Int) (c:Int),k<=x.length->x.length<K+k->l.length=x.length->Dg W l->(∀(i:Nat) z,k<=i->l[i]? =some z->z=0)->0<=c->c<=1->dv W l+dv W (y.take k)=dv W (x.take k)+W^k*c->
 ∃l' c',jG x y K l (k:Int) c=some l'/\l'.length=x.length/\Dg W l'/\0<=c'/\c'<=1/\dv W l'+dv W y=dv W x+W^x.length*c'
 |0,k,l,c,h,hK,_,_,_,_,_,_=>by omega
 |K+1,k,l,c,h,hK,hl,hd,hz,c0,c1,e=>by
  rw[jG];by_cases hk:k<x.length
  ·have ax:=hx.at hk;have ay:=qok hy k
   have hkl:k<l.length:=by omega
   rw[if_pos (by omega),qlG k,ZB,ql,Ya hk,ZB];have b0:=ax.2;have b1:=ay.2;unfold W at b0 b1
   have ea:qeJ x[k] ((y[k]?).getD 0) c=some ((x[k]-(y[k]?).getD 0-c)%18446744073709551616,if x[k]<(y[k]?).getD 0+c then 1 else 0):=by
    unfold qeJ;rw[if_pos ⟨ax.1,ay.1,b1,c0,c1⟩]
   rw[ea,ZB,ql,Ya hkl,ZB,zP hkl,ZB,qJ (by omega)];have m0:=Int.emod_nonneg (x[k]-(y[k]?).getD 0-c) (show(18446744073709551616:Int)≠0 by decide);have m1:=Int.emod_lt_of_pos (x[k]-(y[k]?).getD 0-c) (show(0:Int)<18446744073709551616 by decide)
   have hs:(x[k]-(y[k]?).getD 0-c)%18446744073709551616=x[k]-(y[k]?).getD 0-c+18446744073709551616*(if x[k]<(y[k]?).getD 0+c then 1 else 0):=by
    split<;>omega
   have q:(0:Int)<=(if x[k]<(y[k]?).getD 0+c then 1 else 0)/\(if x[k]<(y[k]?).getD 0+c then(1:Int)else 0)<=1:=by split<;>omega
   refine qnU hx hy hxl hyx K (k+1) _ _ (by omega) (by omega) (by rw[Yk];exact hl) (hd.set ⟨m0,m1⟩) (qfV hz) q.1 q.2 ?_;rw[qjM hkl hz,take_at,take_at,Ya hk,YN,Int.pow_succ];simp only;generalize (if x[k]<(y[k]?).getD 0+c then(1:Int)else 0)=d at*
   have e2:W^k*((x[k]-(y[k]?).getD 0-c)%18446744073709551616)=W^k*x[k]-W^k*(y[k]?).getD 0-W^k*c+W^k*(18446744073709551616*d):=by rw[hs,Int.mul_add,Int.mul_sub,Int.mul_sub]
   rw[Int.mul_assoc];show _=_+W^k*(18446744073709551616*d);omega
  rw[if_neg (by omega)]
  have ek:k=x.length:=by omega
  subst ek;rw[List.take_of_length_le (Nat.le_refl _),List.take_of_length_le hyx]at e;exact⟨l,c,rfl,hl,hd,c0,c1,e⟩
theorem qgH {N:Nat} {x y:List Int} (hx:Can W x) (hy:Can W y) (hxl:x.length<=10000) (hN:x.length+2<N) (h:dv W y<=dv W x):yI N x y=some (dg W (dv W x-dv W y)):=by
 have hyx:y.length<=x.length:=by
  rcases Nat.lt_or_ge x.length y.length with c|c
  ·have:=qdL hx hy c;omega
  exact c
 unfold yI;rw[qbd (by omega),ZB]
 obtain⟨l,c,e,h1,h2,h4,h5,h6⟩:=qnU hx.1 hy.1 (by omega) hyx N 0 (List.replicate x.length 0) 0 (by omega) (by omega) (by simp) (Uo W0 _) (fun i z _ hz=>by
  rw[List.getElem?_replicate]at hz;split at hz
  ·injection hz with hz;exact hz.symm
  cases hz) (by omega) (by omega) (by rw[xK];simp[dv])
 have e:jG x y N (List.replicate x.length 0) 0 0=some l:=e;have l1:=yY W0 h2;rw[h1]at l1;have hp:=pow_pos W0 x.length
 have hc:c=0:=by
  rcases(show c=0\/c=1 by omega)with c|c
  ·exact c
  subst c;omega
 rw[e,ZB,qcM h2 (by omega) (by omega),ZB];subst hc;rw[show dv W l=dv W x-dv W y by omega]
theorem qpF {b:List Int} (hb:Dg W b) (hbl:b.length<=10000) {x:Int} (hx:0<=x/\x<W) {i:Nat} (hi:i<=10000): ∀(K j:Nat) (l:List Int) (c:Int),j<=b.length->b.length<K+j->i+b.length<=l.length->Dg W l->0<=c->c<W->
 ∃l' c',jE b x (i:Int) K l (j:Int) c=some (l',c')/\l'.length=l.length/\Dg W l'/\(∀m,i+b.length<=m->l'[m]? =l[m]?)/\0<=c'/\c'<W/\dv W l'+W^(i+b.length)*c'+W^i*(x*dv W (b.take j))=dv W l+W^(i+j)*c+W^i*(x*dv W b)
 |0,j,l,c,h,hK,_,_,_,_=>by omega
 |K+1,j,l,c,h,hK,hl,hd,c0,c1=>by
  rw[jE];by_cases hj:j<b.length
  ·have ab:=hb.at hj
   have hil:i+j<l.length:=by omega
   have al:=hd.at hil;have b0:=ab.2;have b1:=al.2;have b2:=hx.2;unfold W at b0 b1 b2 c1;rw[if_pos (by omega),ql,Ya hj,ZB,qfO ⟨hx.1,b2⟩ ⟨ab.1,b0⟩,ZB];rw[show(i:Int)+(j:Int)=((i+j:Nat):Int)by omega,qh (by omega) (by omega),ql,Ya hil,ZB];have hp0:0<=x*b[j]:=Yv hx.1 ab.1;have hp1:x*b[j]<=18446744073709551615*18446744073709551615:=Int.mul_le_mul (by omega) (by omega) ab.1 (by omega);generalize hp:x*b[j]=p at*
   have ea:xZ (p%18446744073709551616) l[i+j] 0=some ((p%18446744073709551616+l[i+j])%18446744073709551616,(p%18446744073709551616+l[i+j])/18446744073709551616):=by
    unfold xZ;rw[if_pos (by omega),Int.add_zero]
   rw[ea,ZB]
   have eb:xZ ((p%18446744073709551616+l[i+j])%18446744073709551616) c 0=some (((p%18446744073709551616+l[i+j])%18446744073709551616+c)%18446744073709551616,((p%18446744073709551616+l[i+j])%18446744073709551616+c)/18446744073709551616):=by
    unfold xZ;rw[if_pos (by omega),Int.add_zero]
   simp only;rw[eb,ZB,zP hil,ZB,qJ (by omega)]
   have hc:wrap .u64 (wrap .u64 (p/18446744073709551616+(p%18446744073709551616+l[i+j])/18446744073709551616)+((p%18446744073709551616+l[i+j])%18446744073709551616+c)/18446744073709551616)=(p+l[i+j]+c)/18446744073709551616:=by
    rw[vX (n:=p/18446744073709551616+_) (by omega) (by omega),vX (by omega) (by omega)];omega
   have hv:((p%18446744073709551616+l[i+j])%18446744073709551616+c)%18446744073709551616=(p+l[i+j]+c)%18446744073709551616:=by omega
   simp only;rw[hc,hv];have m0:=Int.emod_nonneg (p+l[i+j]+c) (show(18446744073709551616:Int)≠0 by decide);have m1:=Int.emod_lt_of_pos (p+l[i+j]+c) (show(0:Int)<18446744073709551616 by decide);have hs:=Int.mul_ediv_add_emod (p+l[i+j]+c) 18446744073709551616;obtain⟨l',c',e1,e2,e3,e4,e5,e6,e7⟩:=qpF hb hbl hx hi K (j+1) (l.set (i+j) ((p+l[i+j]+c)%18446744073709551616)) ((p+l[i+j]+c)/18446744073709551616) (by omega) (by omega) (by rw[Yk];exact hl) (hd.set ⟨m0,m1⟩) (by omega) (by unfold W;omega);refine⟨l',c',e1,by rw[e2,Yk],e3,fun m hm=>by rw[e4 m hm,Yw (by omega)],e5,e6,?_⟩;rw[qaV W l (i+j) _ hil,qy W b j hj,<-Nat.add_assoc,Int.pow_succ]at e7;rw[Int.mul_add x,<-Int.mul_assoc x,Int.mul_comm x (W^j),Int.mul_assoc (W^j),hp,Int.mul_add (W^i),<-Int.mul_assoc (W^i) (W^j),<-Int.pow_add]at e7
   have e8:W^(i+j)*(p+l[i+j]+c)=W^(i+j)*(18446744073709551616*((p+l[i+j]+c)/18446744073709551616))+W^(i+j)*((p+l[i+j]+c)%18446744073709551616):=by rw[<-Int.mul_add,hs]
   rw[Int.mul_assoc (W^(i+j))]at e7;have e7:dv W l'+W^(i+b.length)*c'+(W^i*(x*dv W (List.take j b))+W^(i+j)*p)=dv W l+W^(i+j)*((p+l[i+j]+c)%18446744073709551616-l[i+j])+W^(i+j)*(18446744073709551616*((p+l[i+j]+c)/18446744073709551616))+W^i*(x*dv W b):=e7;rw[Int.mul_add,Int.mul_add]at e8;rw[Int.mul_sub]at e7;omega
  rw[if_neg (by omega)]
  have ej:j=b.length:=by omega
  subst ej;rw[List.take_of_length_le (Nat.le_refl _)];exact⟨l,c,rfl,rfl,hd,fun _ _=>rfl,c0,c1,rfl⟩
theorem qoN {N:Nat} {a b:List Int} (ha:Dg W a) (hb:Dg W b) (hal:a.length<=10000) (hbl:b.length<=10000) (hN:b.length<N): ∀(K i:Nat) (l:List Int),i<=a.length->a.length<K+i->l.length=a.length+b.length->Dg W l->(∀(m:Nat) z,i+b.length<=m->l[m]? =some z->z=0)->dv W l=dv W (a.take i)*dv W b->
 ∃l',jF N a b K l (i:Int)=some l'/\l'.length=a.length+b.length/\Dg W l'/\dv W l'=dv W a*dv W b
 |0,i,l,h,hK,_,_,_,_=>by omega
 |K+1,i,l,h,hK,hl,hd,hz,e=>by
  rw[jF];by_cases hi:i<a.length
  ·obtain⟨l1,c,e1,e2,e3,e4,e5,e6,e7⟩:=qpF hb hbl (ha.at hi) (i:=i) (by omega) N 0 l 0 (by omega) (by omega) (by omega) hd (by omega) (by decide);have e1:jE b a[i] (i:Int) N l 0 0=some (l1,c):=e1
   have hib:i+b.length<l1.length:=by omega
   have hz1: ∀(m:Nat) z,i+b.length<=m->l1[m]? =some z->z=0:=fun m z hm hx=>hz m z hm (by rw[<-e4 m hm];exact hx)
   rw[if_pos (by omega),ql,Ya hi,ZB,e1,ZB];simp only;rw[show(i:Int)+(b.length:Int)=((i+b.length:Nat):Int)by omega,qh (by omega) (by omega),ql,Ya hib,ZB,zP hib,ZB,qJ (by omega)];refine qoN ha hb hal hbl hN K (i+1) _ (by omega) (by omega) (by rw[Yk,e2,hl]) (e3.set ⟨e5,e6⟩) (fun m z hm hx=>qfV hz1 m z (by omega) hx) ?_;rw[qjM hib hz1,qy W a i hi,Int.add_mul,<-e,Int.mul_assoc];rw[List.take_zero,ze,Int.mul_zero,Int.mul_zero]at e7;omega
  rw[if_neg (by omega)]
  have ei:i=a.length:=by omega
  subst ei;rw[List.take_of_length_le (Nat.le_refl _)]at e;exact⟨l,rfl,hl,hd,e⟩
theorem qjW {N:Nat} {a b:List Int} (ha:Dg W a) (hb:Dg W b) (hal:a.length<=10000) (hbl:b.length<=10000) (hN:a.length+b.length<N):qav N a b=some (dg W (dv W a*dv W b)):=by
 unfold qav;rw[show(a.length:Int)+(b.length:Int)=((a.length+b.length:Nat):Int)by omega,qh (by omega) (by omega),qbd (by omega),ZB]
 obtain⟨l,e,h1,h2,h3⟩:=qoN ha hb hal hbl (N:=N) (by omega) N 0 (List.replicate (a.length+b.length) 0) (by omega) (by omega) (by simp) (Uo W0 _) (fun i z _ hz=>by
  rw[List.getElem?_replicate]at hz;split at hz
  ·injection hz with hz;exact hz.symm
  cases hz) (by rw[xK];simp[dv])
 have e:jF N a b N (List.replicate (a.length+b.length) 0) 0=some l:=e;rw[e,ZB,qcM h2 (by omega) (by omega),ZB,h3]
theorem qoK {b a:Int} {k:Nat} (ha:0<=a) (hb:0<=b) (hk:b<2^k) (h:a*2^k+b<18446744073709551616):orI .u64 b (a*2^k)=a*2^k+b:=by
 rw[<-qlF ha hb hk h];show wrap .u64 _=wrap .u64 _;rw[BitVec.or_comm]
theorem qim {a:List Int} (ha:Dg W a) (hal:a.length<=10000) {s:Nat} (hs:s<=63): ∀(K i:Nat) (l:List Int),i<=a.length->a.length<K+i->l.length=a.length+1->Dg W l->(∀(m:Nat) z,i+1<=m->l[m]? =some z->z=0)->(∀z,l[i]? =some z->z<2^s)->dv W l=dv W (a.take i)*2^s->
 ∃l',zN a (s:Int) K l (i:Int)=some l'/\l'.length=a.length+1/\Dg W l'/\dv W l'=dv W a*2^s
 |0,i,l,h,hK,_,_,_,_,_=>by omega
 |K+1,i,l,h,hK,hl,hd,hz,hlow,e=>by
  rw[zN];by_cases hi:i<a.length
  ·have hil:i<l.length:=by omega
   have hil2:i+1<l.length:=by omega
   have ax:=ha.at hi;have al:=hd.at hil;have b0:=ax.2;unfold W at b0;have hlo:=hlow l[i] (Ya hil);have hp:=pow_pos (show(0:Int)<2 by omega) s;have hp2:=pow_pos (show(0:Int)<2 by omega) (64-s)
   have hpp:(2:Int)^(64-s)*2^s=18446744073709551616:=by
    rw[<-Int.pow_add,show 64-s+s=64 by omega];rfl
   have em:a[i]*2^s%18446744073709551616=a[i]%2^(64-s)*2^s:=by
    rw[<-hpp,Int.mul_comm a[i],Int.mul_comm (2^(64-s)),Int.mul_emod_mul_of_pos _ _ hp,Int.mul_comm]
   have r0:0<=a[i]%2^(64-s):=Int.emod_nonneg _ (by omega);have r1:a[i]%2^(64-s)<2^(64-s):=Int.emod_lt_of_pos _ hp2;have q0:0<=a[i]/2^(64-s):=Int.ediv_nonneg ax.1 (Int.le_of_lt hp2)
   have q1:a[i]/2^(64-s)<2^s:=by
    rw[Yu hp2,Int.mul_comm,hpp];exact b0
   have hdm:=Int.mul_ediv_add_emod a[i] (2^(64-s))
   have htop:a[i]%2^(64-s)*2^s+l[i]<18446744073709551616:=by
    have:(a[i]%2^(64-s)+1)*2^s<=2^(64-s)*2^s:=Int.mul_le_mul_of_nonneg_right (by omega) (Int.le_of_lt hp);rw[hpp,Int.add_mul,Int.one_mul]at this;omega
   have hq2:(2:Int)^s<W:=by
    have:(2:Int)^s<=2^63:=yH (by omega) hs;have e63:(2:Int)^63=9223372036854775808:=rfl;unfold W;omega
   rw[if_pos (by omega),ql,Ya hi,ZB,ql,Ya hil,ZB,qhu (by omega),ZB,em,qoK r0 al.1 hlo htop,zP hil,ZB];have hlow0:0<=a[i]%2^(64-s)*2^s:=Yv r0 (Int.le_of_lt hp)
   have eset:dv W (l.set i (a[i]%2^(64-s)*2^s+l[i]))=dv W l+W^i*(a[i]%2^(64-s)*2^s):=by
    rw[qaV W l i _ hil];congr 2;omega
   have efin:W^i*(a[i]%2^(64-s)*2^s)+W^(i+1)*(a[i]/2^(64-s))=W^i*a[i]*2^s:=by
    rw[Int.pow_succ,Int.mul_assoc,Int.mul_assoc,<-Int.mul_add];congr 1;show _+18446744073709551616*_=_;rw[<-hpp]
    have e6:a[i]*2^s=(2^(64-s)*(a[i]/2^(64-s))+a[i]%2^(64-s))*2^s:=by rw[hdm]
    rw[Int.add_mul,Int.mul_right_comm]at e6;omega
   by_cases h0:s=0
   ·subst h0;rw[if_neg (by omega),ZB,qJ (by omega)]
    have hq:a[i]/2^(64-0)=0:=by
     have:a[i]/2^(64-0)<1:=q1;omega
    refine qim ha hal hs K (i+1) _ (by omega) (by omega) (by rw[Yk];exact hl) (hd.set ⟨by omega,htop⟩) (fun m z hm hx=>?_) (fun z hx=>?_) ?_
    ·rw[Yw (by omega)]at hx;exact hz m z (by omega) hx
    ·rw[Yw (by omega)]at hx;have:=hz (i+1) z (by omega) hx;rw[this,Int.pow_zero];omega
    rw[eset,e,qy W a i hi,Int.add_mul,<-efin,hq,Int.mul_zero,Int.add_zero]
   have hil3:i+1<(l.set i (a[i]%2^(64-s)*2^s+l[i])).length:=by rw[Yk];exact hil2
   rw[if_pos (by omega),show(64:Int)-(s:Int)=((64-s:Nat):Int)by omega,qh (by omega) (by omega),qhf (by omega),ZB,qJ (by omega),ql,Ya hil3,ZB,zP hil3,ZB,ZB]
   have hget:(l.set i (a[i]%2^(64-s)*2^s+l[i]))[i+1]=0:=by
    rw[List.getElem_set_ne (by omega)];exact hz (i+1) _ (by omega) (Ya hil2)
   refine qim ha hal hs K (i+1) _ (by omega) (by omega) (by rw[Yk,Yk];exact hl) ((hd.set ⟨by omega,htop⟩).set ⟨q0,by omega⟩) (fun m z hm hx=>?_) (fun z hx=>?_) ?_
   ·rw[Yw (by omega),Yw (by omega)]at hx;exact hz m z (by omega) hx
   ·rw[List.getElem?_set_self hil3]at hx;rw[<-Ye hx];exact q1
   rw[qaV W _ (i+1) _ hil3,hget,Int.sub_zero,eset,e,qy W a i hi,Int.add_mul,<-efin];omega
  rw[if_neg (by omega)]
  have ei:i=a.length:=by omega
  subst ei;rw[List.take_of_length_le (Nat.le_refl _)]at e;exact⟨l,rfl,hl,hd,e⟩
theorem qhG {N:Nat} {a:List Int} (ha:Dg W a) (hal:a.length<=10000) {s:Nat} (hs:s<=63) (hN:a.length<N): ∃l,xh N a (s:Int)=some l/\l.length=a.length+1/\Dg W l/\dv W l=dv W a*2^s:=by
 unfold xh;rw[qJ (by omega),qbd (by omega),ZB]
 have hz: ∀(m:Nat) z,(List.replicate (a.length+1) (0:Int))[m]? =some z->z=0:=fun m z hz=>by
  rw[List.getElem?_replicate]at hz;split at hz
  ·injection hz with hz;exact hz.symm
  cases hz
 obtain⟨l,e,h1,h2,h3⟩:=qim ha hal hs N 0 (List.replicate (a.length+1) 0) (by omega) (by omega) (by simp) (Uo W0 _) (fun m z _ h=>hz m z h) (fun z h=>by rw[hz 0 z h];exact pow_pos (by omega) s) (by rw[xK];simp[dv]);have e:zN a (s:Int) N (List.replicate (a.length+1) 0) 0=some l:=e;rw[e];exact⟨l,rfl,h1,h2,h3⟩
end Go.Av
end
section
namespace Go.Av
abbrev E9:Int:=1000000000
theorem E1:(1:Int)<E9:=by decide
theorem E0:(0:Int)<E9:=by decide
theorem qkJ {w:List Int} (hl:w.length<=100000): ∀(K m:Nat),m<=w.length->m<K->(∀(i:Nat) x,m<=i->w[i]? =some x->x=0)->
 ∃m':Nat,yV K (w.take m)=some (w.take m')/\m'<=w.length/\(∀x,0<m'->w[m'-1]? =some x->x≠0)/\ ∀(i:Nat) x,m'<=i->w[i]? =some x->x=0
 |0,m,h,hK,_=>by omega
 |K+1,m,h,hK,hz=>by
  have el:(w.take m).length=m:=by rw[Ym];omega
  rw[yV,el];by_cases h0:0<m
  ·have hm:m-1<w.length:=by omega
   have e1:(w.take m)[m-1]? =some w[m-1]:=by rw[Yt,if_pos (by omega),Ya hm]
   rw[if_pos (by omega),qgy (by omega) h0,ql,e1,ZB,ZB];by_cases c:w[m-1]=0
   ·rw[decide_eq_true c,if_pos rfl,ym (by omega),ZB,List.take_take,Nat.min_eq_left (by omega)]
    refine qkJ hl K (m-1) (by omega) (by omega) fun i x hi hx=>?_
    rcases Nat.lt_or_ge i m with h1|h1
    ·have e:i=m-1:=by omega
     subst e;rw[Ya hm]at hx;rw[<-Ye hx];exact c
    exact hz i x h1 hx
   rw[decide_eq_false c,if_neg (by simp)];refine⟨m,rfl,h,fun x _ hx=>?_,hz⟩;rw[Ya hm]at hx;rw[<-Ye hx];exact c
  rw[if_neg (by omega),ZB,if_neg (by simp)];exact⟨m,rfl,h,fun x h1=>by omega,hz⟩
theorem qcC {N:Nat} {w:List Int} (hw:Dg E9 w) (hl:w.length<=100000) (hN:w.length<N):yB N w=some (dg E9 (dv E9 w)):=by
 unfold yB;obtain⟨m,e,h1,h2,h3⟩:=qkJ hl N w.length (Nat.le_refl _) hN (fun i x hi hx=>by rw[Yg hi]at hx;cases hx);rw[List.take_of_length_le (Nat.le_refl _)]at e;rw[e,ZB,qmc E1 hw h1 h2 h3]
def rI (z:Int):qF:=⟨decide (z<0),dg E9 z.natAbs⟩
theorem qaw {N:Nat} (neg:Bool) {w:List Int} (hw:Dg E9 w) (hl:w.length<=100000) (hN:w.length<N):zI N neg w=some (rI (if neg=true then-dv E9 w else dv E9 w)):=by
 have h0:=qD E0 hw;have hn:=qhS E1 h0;unfold zI;rw[qcC hw hl hN,ZB]
 have hlen:0<(dg E9 (dv E9 w)).length↔0<dv E9 w:=by
  rw[List.length_pos_iff];constructor
  ·intro c
   have:dv E9 w≠0:=fun e=>c (hn.2 e)
   omega
  intro c e;have:=hn.1 e;omega
 cases neg with
 |true=>
  rw[if_pos rfl,if_pos rfl,ZB];unfold rI;rw[Int.natAbs_neg,show(dv E9 w).natAbs=dv E9 w by omega];congr 2;exact decide_eq_decide.2 (by omega)
 |false=>
  rw[if_neg (by simp),if_neg (by simp),ZB];unfold rI;rw[show((dv E9 w).natAbs:Int)=dv E9 w by omega,decide_eq_false (by omega)]
theorem qcI {a b:List Int} (ha:Can E9 a) (hb:Can E9 b) (h:a.length<b.length):dv E9 a<dv E9 b:=by
 obtain⟨n,hn⟩: ∃n,b.length=n+1:=⟨b.length-1,by omega⟩;have h1:=yY E0 ha.1;have h2:=hb.low E1 hn;have h3:=yH (show(1:Int)<=E9 by decide) (show a.length<=n by omega);omega
theorem qmI {a b:List Int} (ha:Dg E9 a) (hl:a.length=b.length) (hb:Dg E9 b) {k:Nat} (hk:k<a.length) (he:a.drop (k+1)=b.drop (k+1)) (h:a[k]<b[k]'(by omega)):dv E9 a<dv E9 b:=by
 have e1:=xc E9 a (k+1) (by omega);have e2:=xc E9 b (k+1) (by omega);rw[qy E9 a k hk]at e1;rw[qy E9 b k (by omega)]at e2;have l1:=yY E0 (ha.take k);have l2:=qD E0 (hb.take k);rw[Ym,Nat.min_eq_left (by omega)]at l1;have l3:E9^k*(a[k]+1)<=E9^k*b[k]:=Yc (by omega) (Int.le_of_lt (pow_pos E0 k));rw[Int.mul_add,Int.mul_one]at l3;rw[he]at e1;omega
theorem qmm {a b:List Int} (ha:Dg E9 a) (hb:Dg E9 b) (hl:a.length=b.length) (hal:a.length<=100000): ∀(K k:Nat),k<=a.length->k<K->a.drop k=b.drop k->
 qY a b K ((k:Int)-1)=some (if dv E9 a<dv E9 b then .inr (-1)else if dv E9 a=dv E9 b then .inl ()else .inr 1)
 |0,k,h,hK,_=>by omega
 |K+1,0,h,hK,he=>by
  rw[YR,YR]at he;rw[qY,if_neg (by omega),he,if_neg (by omega),if_pos rfl]
 |K+1,k+1,h,hK,he=>by
  have hka:k<a.length:=by omega
  have hkb:k<b.length:=by omega
  have ek:((k+1:Nat):Int)-1=(k:Int):=by omega
  rw[ek,qY,if_pos (by omega),ql,Ya hka,ZB,ql,Ya hkb,ZB];by_cases d:a[k]<b[k]
  ·rw[if_pos d,if_pos (qmI ha hl hb hka he d)]
  rw[if_neg d];by_cases c:a[k]>b[k]
  ·have:=qmI hb hl.symm ha hkb he.symm c;rw[if_pos c,if_neg (by omega),if_neg (by omega)]
  rw[if_neg c,qh (by omega) (by omega)];refine qmm ha hb hl hal K k (by omega) (by omega) ?_;rw[YG hka,YG hkb,show a[k]=b[k]by omega,he]
theorem qdo {N:Nat} {a b:List Int} (ha:Can E9 a) (hb:Can E9 b) (hal:a.length<=10000) (hN:a.length+1<N):jy N a b=some (if dv E9 a<dv E9 b then-1 else if dv E9 a=dv E9 b then 0 else 1):=by
 unfold jy;by_cases h:a.length=b.length
 ·have e:=qmm ha.1 hb.1 h (by omega) N a.length (Nat.le_refl _) (by omega) (by rw[List.drop_of_length_le (Nat.le_refl _),List.drop_of_length_le (by omega)]);rw[if_neg (by simp[h]),qh (by omega) (by omega),e,ZB];by_cases c:dv E9 a<dv E9 b
  ·rw[if_pos c,if_pos c]
  rw[if_neg c,if_neg c];by_cases d:dv E9 a=dv E9 b
  ·rw[if_pos d,if_pos d]
  rw[if_neg d,if_neg d]
 rw[if_pos (by simp;omega)];by_cases c:a.length<b.length
 ·rw[if_pos (by omega),if_pos (qcI ha hb c)]
 have:=qcI hb ha (by omega);rw[if_neg (by omega),if_neg (by omega),if_neg (by omega)]
theorem qhp {l:List Int} {k:Nat}:dv E9 (l.take (k+1))=dv E9 (l.take k)+E9^k*((l[k]?).getD 0):=by
 by_cases h:k<l.length
 ·rw[qy E9 l k h,Ya h];rfl
 rw[List.take_of_length_le (by omega),List.take_of_length_le (by omega),Yg (by omega)];simp
theorem qi8 {l:List Int} (h:Dg E9 l) (k:Nat):0<=(l[k]?).getD 0/\(l[k]?).getD 0<1000000000:=by
 by_cases hk:k<l.length
 ·rw[Ya hk];exact h.at hk
 rw[Yg (by omega)];exact⟨Int.le_refl _,by decide⟩
theorem digit_eq (l:List Int) (k:Nat):qaq l (k:Int)=some ((l[k]?).getD 0):=by
 unfold qaq;by_cases h:k<l.length
 ·rw[if_pos (by omega),ql,Ya h];rfl
 rw[if_neg (by omega),Yg (by omega)];rfl
theorem qeU (l:List Int) (x:Int):dv E9 (l++[x])=dv E9 l+E9^l.length*x:=by rw[xe,zt,ze,Int.mul_zero,Int.add_zero]
theorem qlI {a b:List Int} (ha:Dg E9 a) (hb:Dg E9 b) (hal:a.length<=10000) (hbl:b.length<=10000): ∀(K k:Nat) (l:List Int) (c:Int),10002<K+k->k<=10001->l.length=k->Dg E9 l->0<=c->c<=1->(c=1->k<=a.length\/k<=b.length)->dv E9 l+E9^k*c=dv E9 (a.take k)+dv E9 (b.take k)->
 ∃l',zy a b K l c (k:Int)=some l'/\Dg E9 l'/\l'.length<=10002/\dv E9 l'=dv E9 a+dv E9 b
 |0,k,l,c,hK,hk,_,_,_,_,_,_=>by omega
 |K+1,k,l,c,hK,hk,hl,hd,c0,c1,hc,e=>by
  rw[zy]
  have cond:(if(k:Int)<(a.length:Int)then some true else if(k:Int)<(b.length:Int)then some true else some (decide (c>0)):Option Bool)=some (decide (k<a.length\/k<b.length\/0<c)):=by
   by_cases h1:k<a.length
   ·rw[if_pos (by omega),decide_eq_true (.inl h1)]
   rw[if_neg (by omega)];by_cases h2:k<b.length
   ·rw[if_pos (by omega),decide_eq_true (.inr (.inl h2))]
   rw[if_neg (by omega)];congr 1;exact decide_eq_decide.2 (by omega)
  rw[cond,ZB];by_cases h:k<a.length\/k<b.length\/0<c
  ·have xa:=qi8 ha k;have xb:=qi8 hb k;rw[decide_eq_true h,if_pos rfl,digit_eq,ZB,digit_eq,ZB];generalize hx:(a[k]?).getD 0=x at*;generalize hy:(b[k]?).getD 0=y at*;rw[qh (n:=x+y) (by omega) (by omega),qh (n:=x+y+c) (by omega) (by omega),Int.tmod_eq_emod_of_nonneg (by omega),YF (by omega),qbX (by simp;omega) (by simp;omega),ZB,qh (by omega) (by omega),qJ (by omega)];have hs:=Int.mul_ediv_add_emod (x+y+c) 1000000000;have m0:=Int.emod_nonneg (x+y+c) (show(1000000000:Int)≠0 by decide);have m1:=Int.emod_lt_of_pos (x+y+c) (show(0:Int)<1000000000 by decide)
   have hk2:k<=10000:=by
    rcases h with h|h|h
    ·omega
    ·omega
    rcases hc (by omega)with h|h<;>omega
   refine qlI ha hb hal hbl K (k+1) _ _ (by omega) (by omega) (by simp[hl]) (hd.append (Dg.cons ⟨m0,m1⟩ Dg.nil)) (by omega) (by omega) (fun hq=>?_) ?_
   ·rcases Nat.lt_or_ge k a.length with g|g
    ·exact .inl g
    rcases Nat.lt_or_ge k b.length with g2|g2
    ·exact .inr g2
    rw[Yg g]at hx;rw[Yg g2]at hy;simp only[Option.getD_none]at hx hy;omega
   rw[qeU,hl,qhp,qhp,hx,hy,Int.pow_succ,Int.mul_assoc]
   have e2:E9^k*(x+y+c)=E9^k*(E9*((x+y+c)/1000000000))+E9^k*((x+y+c)%1000000000):=by rw[<-Int.mul_add];exact congrArg (E9^k* ·) hs.symm
   rw[Int.mul_add,Int.mul_add]at e2;omega
  have hc0:c=0:=by omega
  rw[decide_eq_false h,if_neg (by simp)];rw[List.take_of_length_le (by omega),List.take_of_length_le (by omega),hc0,Int.mul_zero,Int.add_zero]at e;exact⟨l,rfl,hd,by omega,e⟩
theorem qjo {N:Nat} {a b:List Int} (ha:Dg E9 a) (hb:Dg E9 b) (hal:a.length<=10000) (hbl:b.length<=10000) (hN:11000<N): ∃l,xJ N a b=some l/\Dg E9 l/\l.length<=10002/\dv E9 l=dv E9 a+dv E9 b:=by
 unfold xJ;obtain⟨l,e,h1,h2,h3⟩:=qlI ha hb hal hbl N 0 [] 0 (by omega) (by omega) rfl Dg.nil (by omega) (by omega) (by omega) (by simp[dv]);have e:zy a b N [] 0 0=some l:=e;rw[e,ZB];exact⟨l,rfl,h1,h2,h3⟩
theorem qlZ {a b:List Int} (ha:Dg E9 a) (hb:Dg E9 b) (hal:a.length<=10000) (hba:b.length<=a.length): ∀(K k:Nat) (l:List Int) (c:Int),k<=a.length->a.length<K+k->l.length=k->Dg E9 l->0<=c->c<=1->dv E9 l+dv E9 (b.take k)=dv E9 (a.take k)+E9^k*c->
 ∃l' c',kw a b K l c (k:Int)=some l'/\Dg E9 l'/\l'.length=a.length/\0<=c'/\c'<=1/\dv E9 l'+dv E9 b=dv E9 a+E9^a.length*c'
 |0,k,l,c,h,hK,_,_,_,_,_=>by omega
 |K+1,k,l,c,h,hK,hl,hd,c0,c1,e=>by
  rw[kw];by_cases hk:k<a.length
  ·have xa:=ha.at hk;have xb:=qi8 hb k;have xa2:a[k]<1000000000:=xa.2;rw[if_pos (by omega),ql,Ya hk,ZB,digit_eq,ZB];generalize hy:(b[k]?).getD 0=y at*;rw[qh (n:=a[k]-y) (by omega) (by omega),qh (n:=a[k]-y-c) (by omega) (by omega)]
   have step: ∀(s d:Int),(0<=s/\s<1000000000)->(0<=d/\d<=1)->s=a[k]-y-c+1000000000*d-> ∃l' c',kw a b K (l++[s]) d ((k+1:Nat):Int)=some l'/\Dg E9 l'/\l'.length=a.length/\0<=c'/\c'<=1/\dv E9 l'+dv E9 b=dv E9 a+E9^a.length*c':=by
    intro s d hs hd2 es;refine qlZ ha hb hal hba K (k+1) _ _ (by omega) (by omega) (by simp[hl]) (hd.append (Dg.cons hs Dg.nil)) hd2.1 hd2.2 ?_;rw[qeU,hl,qhp,qy E9 a k hk,hy,Int.pow_succ,Int.mul_assoc,es]
    have e2:E9^k*(a[k]-y-c+1000000000*d)=E9^k*a[k]-E9^k*y-E9^k*c+E9^k*(E9*d):=by rw[Int.mul_add,Int.mul_sub,Int.mul_sub]
    omega
   by_cases c2:a[k]-y-c<0
   ·rw[if_pos c2,qh (by omega) (by omega),ZB];simp only;rw[qbX (by simp;omega) (by simp;omega),ZB,qJ (by omega)];exact step _ 1 (by omega) (by omega) (by omega)
   rw[if_neg c2,ZB];simp only;rw[qbX (by simp;omega) (by simp;omega),ZB,qJ (by omega)];exact step _ 0 (by omega) (by omega) (by omega)
  rw[if_neg (by omega)]
  have ek:k=a.length:=by omega
  subst ek;rw[List.take_of_length_le (Nat.le_refl _),List.take_of_length_le hba]at e;exact⟨l,c,rfl,hd,hl,c0,c1,e⟩
theorem qfR {N:Nat} {a b:List Int} (ha:Can E9 a) (hb:Can E9 b) (hal:a.length<=10000) (hN:a.length+2<N) (h:dv E9 b<=dv E9 a):yG N a b=some (dg E9 (dv E9 a-dv E9 b)):=by
 have hba:b.length<=a.length:=by
  rcases Nat.lt_or_ge a.length b.length with c|c
  ·have:=qcI ha hb c;omega
  exact c
 unfold yG;obtain⟨l,c,e,h1,h2,h4,h5,h6⟩:=qlZ ha.1 hb.1 hal hba N 0 [] 0 (by omega) (by omega) rfl Dg.nil (by omega) (by omega) (by simp[dv]);have e:kw a b N [] 0 0=some l:=e;have l1:=yY E0 h1;rw[h2]at l1;have hp:=pow_pos E0 a.length
 have hc:c=0:=by
  rcases(show c=0\/c=1 by omega)with c|c
  ·exact c
  subst c;omega
 rw[e,ZB,qcC h1 (by omega) (by omega),ZB];subst hc;rw[show dv E9 l=dv E9 a-dv E9 b by omega]
theorem qqS {l:List Int} {k:Nat} {v:Int} (hk:k<l.length) (h: ∀(i:Nat) x,k<=i->l[i]? =some x->x=0):dv E9 (l.set k v)=dv E9 l+E9^k*v:=by
 rw[qaV E9 l k v hk,h k l[k] (Nat.le_refl _) (Ya hk),Int.sub_zero]
theorem qiu {n:Nat}: ∀(m:Nat) z,(List.replicate n (0:Int))[m]? =some z->z=0:=fun m z hz=>by
 rw[List.getElem?_replicate]at hz;split at hz
 ·exact(Ye hz).symm
 cases hz
theorem qlY {a b:List Int} (ha:Dg E9 a) (hb:Dg E9 b) (hbl:b.length<=10000) {i:Nat} (hi:i<a.length) (hal:a.length<=10000): ∀(K j:Nat) (l:List Int) (c:Int),j<=b.length->b.length<K+j->i+b.length<=l.length->Dg E9 l->0<=c->c<1000000000->
 ∃l' c',zA a b (i:Int) K l c (j:Int)=some (l',c')/\l'.length=l.length/\Dg E9 l'/\(∀m,i+b.length<=m->l'[m]? =l[m]?)/\0<=c'/\c'<1000000000/\dv E9 l'+E9^(i+b.length)*c'+E9^i*(a[i]*dv E9 (b.take j))=dv E9 l+E9^(i+j)*c+E9^i*(a[i]*dv E9 b)
 |0,j,l,c,h,hK,_,_,_,_=>by omega
 |K+1,j,l,c,h,hK,hl,hd,c0,c1=>by
  rw[zA];by_cases hj:j<b.length
  ·have xa:=ha.at hi;have xb:=hb.at hj
   have hil:i+j<l.length:=by omega
   have xl:=hd.at hil;have a2:a[i]<1000000000:=xa.2;have b2:b[j]<1000000000:=xb.2;have l2:l[i+j]<1000000000:=xl.2;rw[if_pos (by omega),show(i:Int)+(j:Int)=((i+j:Nat):Int)by omega,qh (n:=((i+j:Nat):Int)) (by omega) (by omega),ql,Ya hil,ZB,ql,Ya hi,ZB,ql,Ya hj,ZB];have hp0:0<=a[i]*b[j]:=Yv xa.1 xb.1;have hp1:a[i]*b[j]<=999999999*999999999:=Int.mul_le_mul (by omega) (by omega) xb.1 (by omega);generalize hp:a[i]*b[j]=p at*;rw[qh (n:=p) (by omega) (by omega),qh (n:=l[i+j]+p) (by omega) (by omega),qh (n:=l[i+j]+p+c) (by omega) (by omega),Int.tmod_eq_emod_of_nonneg (by omega),YF (by omega),zP hil,ZB,qJ (by omega),qh (by omega) (by omega)];have hs:=Int.mul_ediv_add_emod (l[i+j]+p+c) 1000000000;have m0:=Int.emod_nonneg (l[i+j]+p+c) (show(1000000000:Int)≠0 by decide);have m1:=Int.emod_lt_of_pos (l[i+j]+p+c) (show(0:Int)<1000000000 by decide);obtain⟨l',c',e1,e2,e3,e4,e5,e6,e7⟩:=qlY ha hb hbl hi hal K (j+1) (l.set (i+j) ((l[i+j]+p+c)%1000000000)) ((l[i+j]+p+c)/1000000000) (by omega) (by omega) (by rw[Yk];exact hl) (hd.set ⟨m0,m1⟩) (by omega) (by omega);refine⟨l',c',e1,by rw[e2,Yk],e3,fun m hm=>by rw[e4 m hm,Yw (by omega)],e5,e6,?_⟩;rw[qaV E9 l (i+j) _ hil,qy E9 b j hj,<-Nat.add_assoc,Int.pow_succ]at e7;rw[Int.mul_add a[i],<-Int.mul_assoc a[i],Int.mul_comm a[i] (E9^j),Int.mul_assoc (E9^j),hp,Int.mul_add (E9^i),<-Int.mul_assoc (E9^i) (E9^j),<-Int.pow_add]at e7
   have e8:E9^(i+j)*(l[i+j]+p+c)=E9^(i+j)*(E9*((l[i+j]+p+c)/1000000000))+E9^(i+j)*((l[i+j]+p+c)%1000000000):=by rw[<-Int.mul_add];exact congrArg (E9^(i+j)* ·) hs.symm
   rw[Int.mul_assoc (E9^(i+j))]at e7;rw[Int.mul_add,Int.mul_add]at e8;rw[Int.mul_sub]at e7;omega
  rw[if_neg (by omega)]
  have ej:j=b.length:=by omega
  subst ej;rw[List.take_of_length_le (Nat.le_refl _)];exact⟨l,c,rfl,rfl,hd,fun _ _=>rfl,c0,c1,rfl⟩
theorem qlU {N:Nat} {a b:List Int} (ha:Dg E9 a) (hb:Dg E9 b) (hal:a.length<=10000) (hbl:b.length<=10000) (hN:b.length<N): ∀(K i:Nat) (l:List Int),i<=a.length->a.length<K+i->l.length=a.length+b.length->Dg E9 l->(∀(m:Nat) z,i+b.length<=m->l[m]? =some z->z=0)->dv E9 l=dv E9 (a.take i)*dv E9 b->
 ∃l',zD N a b K l (i:Int)=some l'/\l'.length=a.length+b.length/\Dg E9 l'/\dv E9 l'=dv E9 a*dv E9 b
 |0,i,l,h,hK,_,_,_,_=>by omega
 |K+1,i,l,h,hK,hl,hd,hz,e=>by
  rw[zD];by_cases hi:i<a.length
  ·obtain⟨l1,c,e1,e2,e3,e4,e5,e6,e7⟩:=qlY ha hb hbl hi hal N 0 l 0 (by omega) (by omega) (by omega) hd (by omega) (by decide);have e1:zA a b (i:Int) N l 0 0=some (l1,c):=e1
   have hib:i+b.length<l1.length:=by omega
   have hz1: ∀(m:Nat) z,i+b.length<=m->l1[m]? =some z->z=0:=fun m z hm hx=>hz m z hm (by rw[<-e4 m hm];exact hx)
   have h0:l1[i+b.length]=0:=hz1 _ _ (Nat.le_refl _) (Ya hib);rw[if_pos (by omega),e1,ZB];simp only;rw[show(i:Int)+(b.length:Int)=((i+b.length:Nat):Int)by omega,qh (by omega) (by omega),ql,Ya hib,ZB,zP hib,ZB,h0,Int.zero_add,qh (n:=c) (by omega) (by omega),qJ (by omega)];refine qlU ha hb hal hbl hN K (i+1) _ (by omega) (by omega) (by rw[Yk,e2,hl]) (e3.set ⟨e5,e6⟩) (fun m z hm hx=>qfV hz1 m z (by omega) hx) ?_;rw[qqS hib hz1,qy E9 a i hi,Int.add_mul,<-e,Int.mul_assoc];rw[List.take_zero,ze,Int.mul_zero,Int.mul_zero]at e7;omega
  rw[if_neg (by omega)]
  have ei:i=a.length:=by omega
  subst ei;rw[List.take_of_length_le (Nat.le_refl _)]at e;exact⟨l,rfl,hl,hd,e⟩
theorem qdW {N:Nat} {a b:List Int} (ha:Dg E9 a) (hb:Dg E9 b) (hal:a.length<=10000) (hbl:b.length<=10000) (hN:a.length+b.length<N):vP N a b=some (dg E9 (dv E9 a*dv E9 b)):=by
 unfold vP;rw[show(a.length:Int)+(b.length:Int)=((a.length+b.length:Nat):Int)by omega,qh (by omega) (by omega),qbd (by omega),ZB];obtain⟨l,e,h1,h2,h3⟩:=qlU ha hb hal hbl (N:=N) (by omega) N 0 (List.replicate (a.length+b.length) 0) (by omega) (by omega) (by simp) (Uo E0 _) (fun m z _ h=>qiu m z h) (by rw[xK];simp[dv]);have e:zD N a b N (List.replicate (a.length+b.length) 0) 0=some l:=e;rw[e,ZB,qcC h2 (by omega) (by omega),ZB,h3]
theorem qhl (l:List Int) {i:Nat} (h:i<l.length):dv E9 (l.drop i)=l[i]+E9*dv E9 (l.drop (i+1)):=by
 rw[YG h,zt]
theorem qjT {l:List Int} {k:Nat} {v:Int} (hk:k<l.length) (h: ∀(i:Nat) x,i<=k->l[i]? =some x->x=0):dv E9 (l.set k v)=dv E9 l+E9^k*v:=by
 rw[qaV E9 l k v hk,h k l[k] (Nat.le_refl _) (Ya hk),Int.sub_zero]
theorem qmd {a:List Int} (ha:Dg E9 a) (hal:a.length<=20000) {d:Int} (d0:0<d) (d1:d<1000000000): ∀(K i:Nat) (l:List Int) (r:Int),i<=a.length->i<K->l.length=a.length->Dg E9 l->(∀(m:Nat) x,m<i->l[m]? =some x->x=0)->dv E9 l=E9^i*(dv E9 (a.drop i)/d)->r=dv E9 (a.drop i)%d->
 ∃l',zO a d K l r ((i:Int)-1)=some (l',dv E9 a%d)/\l'.length=a.length/\Dg E9 l'/\dv E9 l'=dv E9 a/d
 |0,i,l,r,h,hK,_,_,_,_,_=>by omega
 |K+1,0,l,r,h,hK,hl,hd,hz,e,er=>by
  rw[YR]at e er;rw[zO,if_neg (by omega),er];exact⟨l,rfl,hl,hd,by rw[e];simp⟩
 |K+1,i+1,l,r,h,hK,hl,hd,hz,e,er=>by
  have hi:i<a.length:=by omega
  have hil:i<l.length:=by omega
  have ax:=ha.at hi;have ax2:a[i]<1000000000:=ax.2
  have r0:0<=r:=by rw[er];exact Int.emod_nonneg _ (by omega)
  have r1:r<d:=by rw[er];exact Int.emod_lt_of_pos _ d0
  have ei:((i+1:Nat):Int)-1=(i:Int):=by omega
  have hr1:r*1000000000<=999999998*1000000000:=Int.mul_le_mul_of_nonneg_right (by omega) (by omega);have q0:0<=(r*1000000000+a[i])/d:=Int.ediv_nonneg (by omega) (by omega)
  have q1:(r*1000000000+a[i])/d<1000000000:=by
   rw[Yu d0];have:(r+1)*1000000000<=d*1000000000:=Int.mul_le_mul_of_nonneg_right (by omega) (by omega);rw[Int.mul_comm 1000000000];omega
  have hq:qco .i64 (r*1000000000+a[i]) d=some ((r*1000000000+a[i])/d):=by
   unfold qco;rw[if_neg (by omega),YF (by omega)];show some (w64 _)=_;rw[qh (by omega) (by omega)]
  have hm:qeG .i64 (r*1000000000+a[i]) d=some ((r*1000000000+a[i])%d):=by
   unfold qeG;rw[if_neg (by omega),Int.tmod_eq_emod_of_nonneg (by omega)]
  rw[zO,ei,if_pos (by omega),ql,Ya hi,ZB,qh (n:=r*1000000000) (by omega) (by omega),qh (n:=r*1000000000+a[i]) (by omega) (by omega),hq,ZB,ql,Ya hil,ZB,zP hil,ZB,hm,ZB,qh (by omega) (by omega)]
  have ed:dv E9 (a.drop i)=r*1000000000+a[i]+d*(dv E9 (a.drop (i+1))/d*1000000000):=by
   have h1:=Int.mul_ediv_add_emod (dv E9 (a.drop (i+1))) d;rw[<-er]at h1;rw[qhl a hi,<-Int.mul_assoc];have e9:E9*dv E9 (a.drop (i+1))=1000000000*dv E9 (a.drop (i+1)):=rfl;rw[e9];generalize d*(dv E9 (a.drop (i+1))/d)=m at*;omega
  refine qmd ha hal d0 d1 K i _ _ (by omega) (by omega) (by rw[Yk];exact hl) (hd.set ⟨q0,q1⟩) (fun m x hm hx=>?_) ?_ ?_
  ·rw[Yw (by omega)]at hx;exact hz m x (by omega) hx
  ·rw[qjT hil (fun m x hm hx=>hz m x (by omega) hx),e,ed,Int.add_mul_ediv_left _ _ (by omega),Int.pow_succ,Int.mul_assoc,<-Int.mul_add];congr 1;have e9:E9*(dv E9 (a.drop (i+1))/d)=1000000000*(dv E9 (a.drop (i+1))/d):=rfl;rw[e9];omega
  rw[ed,Int.add_mul_emod_self_left]
theorem qgP {N:Nat} {a:List Int} (ha:Dg E9 a) (hal:a.length<=20000) (hN:a.length<N) {d:Int} (d0:0<d) (d1:d<1000000000):xm N a d=some (dg E9 (dv E9 a/d),dv E9 a%d):=by
 unfold xm;rw[qbd (by omega),ZB,qh (by omega) (by omega)];obtain⟨l,e,h1,h2,h3⟩:=qmd ha hal d0 d1 N a.length (List.replicate a.length 0) 0 (Nat.le_refl _) (by omega) (by simp) (Uo E0 _) (fun m x _ hx=>qiu m x hx) (by rw[xK,List.drop_of_length_le (Nat.le_refl _),ze];simp) (by rw[List.drop_of_length_le (Nat.le_refl _),ze];simp);rw[e,ZB];simp only;rw[qcC h2 (by omega) (by omega),ZB,h3]
end Go.Av
end
section
namespace Go.Av
theorem qdy {p u t:List Int} {m i:Nat} (hi:i<u.length) (hm:u.length<=m):qf7 (p++(u++t)) p.length m (i:Int)=some u[i]:=by
 unfold qf7;rw[if_pos (by omega),Int.toNat_natCast,ql,Yo (by omega),Nat.add_sub_cancel_left,Yf hi,Ya hi]
theorem qg0 {p u t:List Int} {i:Nat} (hi:i<u.length) (x:Int):put (p++(u++t)) ((p.length+((i:Nat):Int).toNat:Nat):Int) x=some (p++(u.set i x++t)):=by
 rw[Int.toNat_natCast,zP (by simp;omega)];congr 1;rw[List.set_append_right _ _ (by omega),Nat.add_sub_cancel_left,List.set_append_left _ _ hi]
theorem qo3 {p r x:Int} (hp:0<=p) (hx:0<=x/\x<18446744073709551616):(if p/18446744073709551616<r then some true else if p/18446744073709551616=r then some (decide (p%18446744073709551616<=x))else some false:Option Bool)=some (decide (p<=r*18446744073709551616+x)):=by
 have h1:=Int.mul_ediv_add_emod p 18446744073709551616;have h2:=Int.emod_nonneg p (show(18446744073709551616:Int)≠0 by decide);have h3:=Int.emod_lt_of_pos p (show(0:Int)<18446744073709551616 by decide);by_cases a:p/18446744073709551616<r
 ·rw[if_pos a,decide_eq_true (by omega)]
 rw[if_neg a];by_cases b:p/18446744073709551616=r
 ·rw[if_pos b];congr 1;exact decide_eq_decide.2 (by omega)
 rw[if_neg b,decide_eq_false (by omega)]
theorem qkf {p u t v:List Int} {k:Nat} (hv:Dg W v) (hvl:v.length=k+2) (hk:k<=10000) (hu:Dg W u) (hul:u.length=k+3) {T v1 v2 u2 Q:Int} (e1:v[k+1]'(by omega)=v1) (e2:v[k]'(by omega)=v2) (e3:u[k]'(by omega)=u2) (hQ:Q*(v1*18446744073709551616+v2)<=T*18446744073709551616+u2) (hQ0:0<=Q) (hn:9223372036854775808<=v1): ∀(K:Nat) (q r o:Int),Q<=q->q<18446744073709551616->0<=r->r<18446744073709551616->(o=0\/o=1)->r+o*18446744073709551616=T-q*v1->18446744073709551616<=r+o*18446744073709551616+K*v1->
 ∃q',yu (p++(u++t)) p.length (k+3) v (K+1) q r o=some q'/\Q<=q'/\q'<18446744073709551616/\q'*(v1*18446744073709551616+v2)<=T*18446744073709551616+u2
 |K,q,r,o,h1,h2,h3,h4,h5,h6,h7=>by
  have a1:=hv.at (show k+1<v.length by omega);have a2:=hv.at (show k<v.length by omega);have a3:=hu.at (show k<u.length by omega);rw[e1]at a1;rw[e2]at a2;rw[e3]at a3;unfold W at a1 a2 a3
  have hq0:0<=q:=by omega
  have hp0:0<=q*v2:=Yv hq0 a2.1;have hp1:q*v2<=18446744073709551615*18446744073709551615:=Int.mul_le_mul (by omega) (by omega) a2.1 (by omega)
  have ed:q*(v1*18446744073709551616+v2)=q*v1*18446744073709551616+q*v2:=by rw[Int.mul_add,Int.mul_assoc]
  rw[yu];rcases h5 with rfl|rfl
  ·have ek:w64 ((v.length:Int)-2)=(k:Int):=by rw[qh (by omega) (by omega)];omega
   have ek1:w64 ((v.length:Int)-1)=((k+1:Nat):Int):=by rw[qh (by omega) (by omega)];omega
   rw[if_pos rfl,ek,ql,Ya (show k<v.length by omega),e2,ZB,qfO ⟨hq0,h2⟩ a2,ZB,qdy (show k<u.length by omega) (by omega),e3];simp only[ZB];rw[qo3 hp0 a3,ZB];by_cases c:q*v2<=r*18446744073709551616+u2
   ·rw[decide_eq_true c,if_pos rfl];exact⟨q,rfl,h1,h2,by rw[ed];omega⟩
   rw[decide_eq_false c,if_neg (by simp),ek1,ql,Ya (show k+1<v.length by omega),e1,ZB]
   have ea:xZ r v1 0=some ((r+v1)%18446744073709551616,(r+v1)/18446744073709551616):=by
    unfold xZ;rw[if_pos (by omega),Int.add_zero]
   have hlt:Q<=q-1:=by
    rcases Int.lt_or_le Q q with h|h
    ·omega
    have e:q=Q:=by omega
    subst e;rw[ed]at hQ;omega
   have hm1:(q-1)*v1=q*v1-v1:=by rw[Int.sub_mul,Int.one_mul]
   rw[ea,ZB,vX (by omega) (by omega)]
   match K,h7 with
   |0,h7=>omega
   |K+1,h7=>
    have eK:((K+1:Nat):Int)*v1=K*v1+v1:=by rw[Int.natCast_add,Int.add_mul];simp
    exact qkf hv hvl hk hu hul e1 e2 e3 hQ hQ0 hn K (q-1) _ _ hlt (by omega) (by omega) (by omega) (by omega) (by rw[hm1];omega) (by omega)
  rw[if_neg (by omega)];refine⟨q,rfl,h1,h2,?_⟩;rw[ed];omega
theorem qmu {v:List Int} (hv:Dg W v) (hvl:v.length<=10000) {q:Int} (hq:0<=q/\q<18446744073709551616) {p t:List Int} (hpl:p.length<=100000) {m:Nat}: ∀(K i:Nat) (u:List Int) (b c:Int),i<=v.length->v.length<K+i->u.length=v.length+1->u.length<=m->Dg W u->0<=b->b<=1->0<=c->c<18446744073709551616->
 ∃u' b' c',vz p.length m v q K (p++(u++t)) (i:Int) b c=some (p++(u'++t),b',c')/\u'.length=v.length+1/\Dg W u'/\u'[v.length]? =u[v.length]? /\0<=b'/\b'<=1/\0<=c'/\c'<18446744073709551616/\dv W u'+q*dv W v=dv W u+q*dv W (v.take i)-W^i*(b+c)+W^v.length*(b'+c')
 |0,i,u,b,c,h,hK,_,_,_,_,_,_,_=>by omega
 |K+1,i,u,b,c,h,hK,hul,hum,hu,b0,b1,c0,c1=>by
  rw[vz];by_cases hi:i<v.length
  ·have av:=hv.at hi
   have hiu:i<u.length:=by omega
   have au:=hu.at hiu;unfold W at av au;have hp0:0<=q*v[i]:=Yv hq.1 av.1;have hp1:q*v[i]<=18446744073709551615*18446744073709551615:=Int.mul_le_mul (by omega) (by omega) av.1 (by omega);rw[if_pos (by omega),ql,Ya hi,ZB,qfO hq av,ZB];generalize hp:q*v[i]=x at*
   have ea:xZ (x%18446744073709551616) c 0=some ((x%18446744073709551616+c)%18446744073709551616,(x%18446744073709551616+c)/18446744073709551616):=by
    unfold xZ;rw[if_pos (by omega),Int.add_zero]
   rw[ea,ZB,qdy hiu hum,ZB]
   have es:qeJ u[i] ((x%18446744073709551616+c)%18446744073709551616) b=some ((u[i]-(x%18446744073709551616+c)%18446744073709551616-b)%18446744073709551616,if u[i]<(x%18446744073709551616+c)%18446744073709551616+b then 1 else 0):=by
    unfold qeJ;rw[if_pos (by omega)]
   simp only;rw[es,ZB,qg0 hiu,ZB,qJ (by omega)]
   have hc:wrap .u64 (x/18446744073709551616+(x%18446744073709551616+c)/18446744073709551616)=(x+c)/18446744073709551616:=by
    rw[vX (by omega) (by omega)];omega
   have hlo:(x%18446744073709551616+c)%18446744073709551616=(x+c)%18446744073709551616:=by omega
   simp only;rw[hc,hlo];have hxc:=Int.mul_ediv_add_emod (x+c) 18446744073709551616;have m0:=Int.emod_nonneg (x+c) (show(18446744073709551616:Int)≠0 by decide);have m1:=Int.emod_lt_of_pos (x+c) (show(0:Int)<18446744073709551616 by decide)
   have k0:0<=(x+c)/18446744073709551616:=by omega
   have k1:(x+c)/18446744073709551616<18446744073709551616:=by omega
   generalize (x+c)/18446744073709551616=c2 at*;generalize (x+c)%18446744073709551616=lo at*
   have hs:(u[i]-lo-b)%18446744073709551616=u[i]-lo-b+18446744073709551616*(if u[i]<lo+b then 1 else 0):=by split<;>omega
   have n0:=Int.emod_nonneg (u[i]-lo-b) (show(18446744073709551616:Int)≠0 by decide);have n1:=Int.emod_lt_of_pos (u[i]-lo-b) (show(0:Int)<18446744073709551616 by decide)
   have q2:(0:Int)<=(if u[i]<lo+b then 1 else 0)/\(if u[i]<lo+b then(1:Int)else 0)<=1:=by split<;>omega
   generalize (if u[i]<lo+b then(1:Int)else 0)=b2 at*;generalize (u[i]-lo-b)%18446744073709551616=un at*;obtain⟨u',b',c',f1,f2,f3,f4,f5,f6,f7,f8,f9⟩:=qmu hv hvl hq hpl K (i+1) (u.set i un) b2 c2 (by omega) (by omega) (by rw[Yk];exact hul) (by rw[Yk];exact hum) (hu.set ⟨n0,n1⟩) q2.1 q2.2 k0 k1;refine⟨u',b',c',f1,f2,f3,by rw[f4,Yw (by omega)],f5,f6,f7,f8,?_⟩;rw[f9,qaV W u i un hiu,qy W v i hi,Int.mul_add q,<-Int.mul_assoc q,Int.mul_comm q (W^i),Int.mul_assoc (W^i) q,hp,Int.pow_succ,Int.mul_assoc (W^i) W]
   have e5:W^i*(un-u[i])+W^i*x-W^i*(W*(b2+c2))= -(W^i*(b+c)):=by
    rw[<-Int.mul_add,<-Int.mul_sub,<-Int.mul_neg];congr 1;unfold W;omega
   omega
  rw[if_neg (by omega)]
  have ei:i=v.length:=by omega
  subst ei;rw[List.take_of_length_le (Nat.le_refl _)];exact⟨u,b,c,rfl,hul,hu,rfl,b0,b1,c0,c1,by omega⟩
theorem qlK {v:List Int} (hv:Dg W v) (hvl:v.length<=10000) {p t:List Int} (hpl:p.length<=100000) {m:Nat}: ∀(K i:Nat) (u:List Int) (c:Int),i<=v.length->v.length<K+i->u.length=v.length+1->u.length<=m->Dg W u->0<=c->c<=1->
 ∃u' c',vD p.length m v K (p++(u++t)) (i:Int) c=some (p++(u'++t),c')/\u'.length=v.length+1/\Dg W u'/\u'[v.length]? =u[v.length]? /\0<=c'/\c'<=1/\dv W u'+W^v.length*c'=dv W u+dv W v-dv W (v.take i)+W^i*c
 |0,i,u,c,h,hK,_,_,_,_,_=>by omega
 |K+1,i,u,c,h,hK,hul,hum,hu,c0,c1=>by
  rw[vD];by_cases hi:i<v.length
  ·have av:=hv.at hi
   have hiu:i<u.length:=by omega
   have au:=hu.at hiu;unfold W at av au;rw[if_pos (by omega),qdy hiu hum,ZB,ql,Ya hi,ZB]
   have ea:xZ u[i] v[i] c=some ((u[i]+v[i]+c)%18446744073709551616,(u[i]+v[i]+c)/18446744073709551616):=by
    unfold xZ;rw[if_pos (by omega)]
   rw[ea,ZB,qg0 hiu,ZB,qJ (by omega)];have hs:=Int.mul_ediv_add_emod (u[i]+v[i]+c) 18446744073709551616;have m0:=Int.emod_nonneg (u[i]+v[i]+c) (show(18446744073709551616:Int)≠0 by decide);have m1:=Int.emod_lt_of_pos (u[i]+v[i]+c) (show(0:Int)<18446744073709551616 by decide)
   have k0:0<=(u[i]+v[i]+c)/18446744073709551616/\(u[i]+v[i]+c)/18446744073709551616<=1:=by omega
   simp only;generalize (u[i]+v[i]+c)/18446744073709551616=c2 at*;generalize (u[i]+v[i]+c)%18446744073709551616=un at*;obtain⟨u',c',f1,f2,f3,f4,f5,f6,f7⟩:=qlK hv hvl hpl K (i+1) (u.set i un) c2 (by omega) (by omega) (by rw[Yk];exact hul) (by rw[Yk];exact hum) (hu.set ⟨m0,m1⟩) k0.1 k0.2;refine⟨u',c',f1,f2,f3,by rw[f4,Yw (by omega)],f5,f6,?_⟩;rw[f7,qaV W u i un hiu,qy W v i hi,Int.pow_succ,Int.mul_assoc (W^i) W]
   have e5:W^i*(un-u[i])-W^i*v[i]+W^i*(W*c2)=W^i*c:=by
    rw[<-Int.mul_sub,<-Int.mul_add];congr 1;unfold W;omega
   omega
  rw[if_neg (by omega)]
  have ei:i=v.length:=by omega
  subst ei;rw[List.take_of_length_le (Nat.le_refl _)];exact⟨u,c,rfl,hul,hu,rfl,c0,c1,by omega⟩
theorem qkh {P ulo vlo T3 V2 U V Q q v1 v2:Int} (hP:0<P) (eU:U=ulo+P*T3) (eV:V=vlo+P*V2) (hu:0<=ulo/\ulo<P) (hv:0<=vlo/\vlo<P) (e2:V2=v1*18446744073709551616+v2) (h1:1<=v1) (h2:0<=v2) (hU:0<=U) (eQ:Q=U/V):0<V/\Q*V2<=T3/\(0<=q->q<18446744073709551616->q*V2<=T3->q<=Q+1):=by
 have hPW:P*18446744073709551616<=P*V2:=Yc (by omega) (by omega)
 have hV:0<V:=by omega
 have q0:0<=Q:=by rw[eQ];exact Int.ediv_nonneg hU (by omega)
 have q1:Q*V<=U:=by rw[eQ];exact Int.ediv_mul_le U (by omega)
 have q2:U<(Q+1)*V:=by
  rw[eQ];exact Int.lt_ediv_add_one_mul_self U hV
 refine⟨hV,?_,fun a b c=>?_⟩
 ·rcases Int.lt_or_le T3 (Q*V2)with h|h
  ·exfalso;have a1:P*(T3+1)<=P*(Q*V2):=Yc (by omega) (by omega)
   have a2:P*(Q*V2)<=Q*V:=by
    rw[eV,Int.mul_add]
    have:P*(Q*V2)=Q*(P*V2):=by rw[<-Int.mul_assoc,Int.mul_comm P Q,Int.mul_assoc]
    have:=Yv q0 hv.1;omega
   rw[Int.mul_add,Int.mul_one]at a1;omega
  exact h
 have a1:q*V=q*vlo+P*(q*V2):=by
  rw[eV,Int.mul_add];congr 1;rw[<-Int.mul_assoc,Int.mul_comm q P,Int.mul_assoc]
 have a2:P*(q*V2)<=P*T3:=Yc c (by omega);have a3:q*vlo<=18446744073709551615*P:=Int.mul_le_mul (by omega) (by omega) hv.1 (by omega)
 have a4:q*V<(Q+2)*V:=by
  rw[Int.add_mul];rw[Int.add_mul]at q2;omega
 have:=Int.lt_of_mul_lt_mul_right a4 (by omega);omega
theorem qpN {N:Nat} (hN:11000<N) {p u t v:List Int} {k c:Nat} (hv:Dg W v) (hvl:v.length=k+2) (hk:k<=9000) (hu:Dg W u) (hul:u.length=k+3) (hpl:p.length<=100000) (hn:9223372036854775808<=v[k+1]'(by omega)) (hlt:dv W u<18446744073709551616*dv W v):
 ∃u',qbL N (p++(u++t)) p.length (k+3) c v=some (p++(u'++t),dv W u/dv W v)/\u'.length=k+3/\Dg W u'/\dv W u'=dv W u%dv W v:=by
 have a1:=hv.at (show k+1<v.length by omega);have a2:=hv.at (show k<v.length by omega);have b0:=hu.at (show k+2<u.length by omega);have b1:=hu.at (show k+1<u.length by omega);have b2:=hu.at (show k<u.length by omega)
 have eV:dv W v=dv W (v.take k)+W^k*(v[k+1]*18446744073709551616+v[k]):=by
  have e1:=qy W v (k+1) (by omega);have e2:=qy W v k (by omega);rw[List.take_of_length_le (by omega),e2,Int.pow_succ,Int.mul_assoc]at e1;rw[e1,Int.mul_add,Int.mul_comm v[k+1]];show _=_+(W^k*(W*v[k+1])+_);omega
 have eU:dv W u=dv W (u.take k)+W^k*((u[k+2]*18446744073709551616+u[k+1])*18446744073709551616+u[k]):=by
  have e0:=qy W u (k+2) (by omega);have e1:=qy W u (k+1) (by omega);have e2:=qy W u k (by omega);have p1:W^(k+1)=W^k*W:=Int.pow_succ _ _
  have p2:W^(k+2)=W^k*W*W:=by rw[<-p1];exact Int.pow_succ _ _
  rw[List.take_of_length_le (by omega),e1,e2,p2,p1]at e0
  have e3:(u[k+2]*18446744073709551616+u[k+1])*18446744073709551616+u[k]=u[k]+W*u[k+1]+W*(W*u[k+2]):=by unfold W;omega
  rw[e0,e3,Int.mul_add,Int.mul_add];simp only[Int.mul_assoc];omega
 have vlo0:=qD W0 (hv.take k);have vlo1:=yY W0 (hv.take k);have ulo0:=qD W0 (hu.take k);have ulo1:=yY W0 (hu.take k);rw[Ym,Nat.min_eq_left (by omega)]at vlo1 ulo1;have U0:=qD W0 hu;have hP:=pow_pos W0 k
 have DF:=fun q=>qkh (q:=q) hP eU eV ⟨ulo0,ulo1⟩ ⟨vlo0,vlo1⟩ rfl (by omega) a2.1 U0 rfl
 have V0:=(DF 0).1;have hQ0:0<=dv W u/dv W v:=Int.ediv_nonneg U0 (by omega)
 have hQ1:dv W u/dv W v<18446744073709551616:=by rw[Yu V0];exact hlt
 have hQ2:=(DF 0).2.1;generalize hQ:dv W u/dv W v=Q at*;unfold W at a1 a2 b0 b1 b2
 have ek:w64 ((v.length:Int)-1)=((k+1:Nat):Int):=by rw[qh (by omega) (by omega)];omega
 have el:(v.length:Int)=((k+2:Nat):Int):=by rw[hvl]
 unfold qbL;rw[ek,el,qdy (show k+2<u.length by omega) (by omega),ZB,ql,Ya (show k+1<v.length by omega),ZB,qdy (show k+1<u.length by omega) (by omega)];simp only[ZB]
 have G: ∃q r o:Int,(if u[k+2]>=v[k+1]then(xZ u[k+1] v[k+1] 0).bind fun r11=>some (18446744073709551615,r11.1,r11.2)else(qaW N u[k+2] u[k+1] v[k+1]).bind fun r14=>some (r14.1,r14.2,0):Option (Int×Int×Int))=some (q,r,o)/\Q<=q/\q<18446744073709551616/\0<=r/\r<18446744073709551616/\(o=0\/o=1)/\r+o*18446744073709551616=(u[k+2]*18446744073709551616+u[k+1])-q*v[k+1]:=by
  by_cases h:u[k+2]>=v[k+1]
  ·have he:u[k+2]=v[k+1]:=by
    rcases Int.lt_or_le v[k+1] u[k+2]with g|g
    ·exfalso;have g1:W^k*((v[k+1]*18446744073709551616+v[k]+1)*18446744073709551616)<=W^k*((u[k+2]*18446744073709551616+u[k+1])*18446744073709551616+u[k]):=Yc (by omega) (by omega);rw[<-Int.mul_assoc,Int.mul_add (W^k) _ 1]at g1;omega
    omega
   have ea:xZ u[k+1] v[k+1] 0=some ((u[k+1]+v[k+1])%18446744073709551616,(u[k+1]+v[k+1])/18446744073709551616):=by
    unfold xZ;rw[if_pos (by omega),Int.add_zero]
   rw[if_pos h,ea,ZB];exact⟨_,_,_,rfl,by omega,by omega,by omega,by omega,by omega,by omega⟩
  rw[if_neg h,qj1 (by omega) b0.1 (by omega) a1.2 b1,ZB];have d1:=Int.mul_ediv_add_emod (u[k+2]*18446744073709551616+u[k+1]) v[k+1];have d2:=Int.emod_nonneg (u[k+2]*18446744073709551616+u[k+1]) (show v[k+1]≠0 by omega);have d3:=Int.emod_lt_of_pos (u[k+2]*18446744073709551616+u[k+1]) (show 0<v[k+1]by omega)
  have d4:(u[k+2]*18446744073709551616+u[k+1])/v[k+1]<18446744073709551616:=by
   rw[Yu (by omega)];omega
  refine⟨_,_,_,rfl,?_,d4,d2,by omega,.inl rfl,by rw[Int.mul_comm (_/_)];omega⟩;rw[Int.le_ediv_iff_mul_le (by omega)]
  have e:Q*(v[k+1]*18446744073709551616+v[k])=Q*v[k+1]*18446744073709551616+Q*v[k]:=by rw[Int.mul_add,Int.mul_assoc]
  have:=Yv hQ0 a2.1;omega
 obtain⟨q,r,o,e,g1,g2,g3,g4,g5,g6⟩:=G;rw[e,ZB];simp only;obtain⟨K,rfl⟩: ∃K,N=K+1:=⟨N-1,by omega⟩
 have hKv:(18446744073709551616:Int)<=r+o*18446744073709551616+K*v[k+1]:=by
  have:(2:Int)*v[k+1]<=K*v[k+1]:=Int.mul_le_mul_of_nonneg_right (by omega) (by omega);omega
 obtain⟨q',f1,f2,f3,f4⟩:=qkf (p:=p) (t:=t) hv hvl (by omega) hu hul rfl rfl rfl hQ2 hQ0 hn K q r o g1 g2 g3 g4 g5 g6 hKv;rw[f1,ZB];have hle:=(DF q').2.2 (by omega) f3 f4;obtain⟨u',b',c',m1,m2,m3,m4,m5,m6,m7,m8,m9⟩:=qmu hv (by omega) (q:=q') ⟨by omega,f3⟩ (p:=p) (t:=t) hpl (m:=k+3) (K+1) 0 u 0 0 (by omega) (by omega) (by omega) (by omega) hu (by omega) (by omega) (by omega) (by omega);have m1:vz p.length (k+3) v q' (K+1) (p++(u++t)) 0 0 0=some (p++(u'++t),b',c'):=m1;rw[m1,ZB];simp only
 have hku':k+2<u'.length:=by omega
 have eu:u'[k+2]=u[k+2]:=by
  rw[hvl,Ya hku',Ya (show k+2<u.length by omega)]at m4;injection m4
 have es:qeJ u'[k+2] c' b'=some ((u'[k+2]-c'-b')%18446744073709551616,if u'[k+2]<c'+b' then 1 else 0):=by
  unfold qeJ;rw[if_pos (by omega)]
 rw[qdy hku' (by omega),ZB,es,ZB,qg0 hku',ZB];simp only;have n0:=Int.emod_nonneg (u'[k+2]-c'-b') (show(18446744073709551616:Int)≠0 by decide);have n1:=Int.emod_lt_of_pos (u'[k+2]-c'-b') (show(0:Int)<18446744073709551616 by decide)
 have hs:(u'[k+2]-c'-b')%18446744073709551616=u'[k+2]-c'-b'+18446744073709551616*(if u'[k+2]<c'+b' then 1 else 0):=by split<;>omega
 have hset:=qaV W u' (k+2) ((u'[k+2]-c'-b')%18446744073709551616) hku';have dset:Dg W (u'.set (k+2) ((u'[k+2]-c'-b')%18446744073709551616)):=m3.set ⟨n0,n1⟩
 have lset:(u'.set (k+2) ((u'[k+2]-c'-b')%18446744073709551616)).length=k+3:=by rw[Yk];omega
 have bset:=yY W0 dset;have bset0:=qD W0 dset;rw[lset]at bset;rw[List.take_zero,ze,Int.mul_zero,hvl]at m9;simp only[Int.pow_zero]at m9;have hWk:W^(k+3)=W^(k+2)*18446744073709551616:=Int.pow_succ _ _
 have tot:dv W (u'.set (k+2) ((u'[k+2]-c'-b')%18446744073709551616))=dv W u-q'*dv W v+W^(k+3)*(if u'[k+2]<c'+b' then 1 else 0):=by
  rw[hset,hs,hWk,Int.mul_assoc]
  have e5:W^(k+2)*(u'[k+2]-c'-b'+18446744073709551616*(if u'[k+2]<c'+b' then 1 else 0)-u'[k+2])=W^(k+2)*(18446744073709551616*(if u'[k+2]<c'+b' then 1 else 0))-W^(k+2)*(b'+c'):=by
   rw[<-Int.mul_sub];congr 1;omega
  rw[e5];omega
 generalize u'.set (k+2) ((u'[k+2]-c'-b')%18446744073709551616)=u2 at*
 have hmod:dv W u%dv W v=dv W u-Q*dv W v:=by rw[<-hQ,Int.emod_def,Int.mul_comm]
 have hm0:=Int.emod_nonneg (dv W u) (show dv W v≠0 by omega);have hm1:=Int.emod_lt_of_pos (dv W u) V0
 have hVk:dv W v<W^(k+2):=by have:=yY W0 hv;rw[hvl]at this;exact this
 have hPk:=pow_pos W0 (k+2);by_cases hq:q'=Q
 ·subst hq
  have hb: ¬u'[k+2]<c'+b':=by
   intro h;rw[if_pos h,Int.mul_one]at tot;omega
  rw[if_neg hb]at tot;rw[if_neg hb,if_pos rfl];exact⟨u2,rfl,lset,dset,by omega⟩
 have hq1:q'=Q+1:=by omega
 have hqm:q'*dv W v=Q*dv W v+dv W v:=by rw[hq1,Int.add_mul,Int.one_mul]
 have hb:u'[k+2]<c'+b':=by
  rcases Int.lt_or_le u'[k+2] (c'+b')with h|h
  ·exact h
  rw[if_neg (by omega)]at tot;omega
 rw[if_pos hb]at tot;rw[if_pos hb,if_neg (by omega)];obtain⟨u3,c3,a1',a2',a3',a4',a5',a6',a7'⟩:=qlK hv (by omega) (p:=p) (t:=t) hpl (m:=k+3) (K+1) 0 u2 0 (by omega) (by omega) (by omega) (by omega) dset (by omega) (by omega);have a1':vD p.length (k+3) v (K+1) (p++(u2++t)) 0 0=some (p++(u3++t),c3):=a1'
 have hk3:k+2<u3.length:=by omega
 rw[a1',ZB];simp only;rw[qdy hk3 (by omega),ZB,qg0 hk3,ZB,wu,vX (n:=q'-1) (by omega) (by omega)];have au:=a3'.at hk3;unfold W at au;have r0:=Int.emod_nonneg (u3[k+2]+c3) (show(18446744073709551616:Int)≠0 by decide);have r1:=Int.emod_lt_of_pos (u3[k+2]+c3) (show(0:Int)<18446744073709551616 by decide);refine⟨_,by rw[hq1,Int.add_sub_cancel],by rw[Yk];omega,a3'.set ⟨r0,r1⟩,?_⟩;have dfin:=qaV W u3 (k+2) ((u3[k+2]+c3)%18446744073709551616) hk3;have dd:Dg W (u3.set (k+2) ((u3[k+2]+c3)%18446744073709551616)):=a3'.set ⟨r0,r1⟩;have l1:=yY W0 dd;have l0:=qD W0 dd;rw[Yk,a2',hvl]at l1;have l1:_<W^(k+3):=l1;rw[List.take_zero,ze,hvl]at a7';simp only[Int.pow_zero]at a7'
 have hd:(u3[k+2]+c3)%18446744073709551616=u3[k+2]+c3-18446744073709551616*((u3[k+2]+c3)/18446744073709551616):=by omega
 have hd1:0<=(u3[k+2]+c3)/18446744073709551616/\(u3[k+2]+c3)/18446744073709551616<=1:=by omega
 have e6:W^(k+2)*((u3[k+2]+c3)%18446744073709551616-u3[k+2])=W^(k+2)*c3-W^(k+3)*((u3[k+2]+c3)/18446744073709551616):=by
  rw[hWk,Int.mul_assoc,<-Int.mul_sub];congr 1;omega
 rw[dfin]at l0 l1⊢;rw[e6]at l0 l1⊢;generalize (u3[k+2]+c3)/18446744073709551616=z at*;rcases(show z=0\/z=1 by omega)with rfl|rfl<;>omega
end Go.Av
end
section
namespace Go.Av
theorem e9m (x:Int):E9*x=1000000000*x:=rfl
theorem qbW {p u t:List Int} {i:Nat} (hi:i<u.length):idx (p++(u++t)) ((i+p.length:Nat):Int)=some u[i]:=by
 rw[ql,Yo (by omega),Nat.add_sub_cancel,Yf hi,Ya hi]
theorem qeD {p u t:List Int} {i:Nat} (hi:i<u.length) (x:Int):put (p++(u++t)) ((i+p.length:Nat):Int) x=some (p++(u.set i x++t)):=by
 rw[zP (by simp;omega)];congr 1;rw[List.set_append_right _ _ (by omega),Nat.add_sub_cancel,List.set_append_left _ _ hi]
theorem qh5 {i j:Nat} (hi:i<=100000) (hj:j<=100000):w64 ((i:Int)+(j:Int))=((i+j:Nat):Int):=by rw[qh (by omega) (by omega)];omega
theorem qiR {p u t v:List Int} {k:Nat} (hv:Dg E9 v) (hvl:v.length=k+2) (hk:k<=10000) (hu:Dg E9 u) (hul:u.length=k+3) (hpl:p.length<=50000) {T v1 v2 u2 Q:Int} (e1:v[k+1]'(by omega)=v1) (e2:v[k]'(by omega)=v2) (e3:u[k]'(by omega)=u2) (hT:T<=v1*1000000000+999999999) (hQ:Q*(v1*1000000000+v2)<=T*1000000000+u2) (hQ0:0<=Q) (hQ1:Q<1000000000) (hn:1<=v1): ∀(K:Nat) (q r:Int),Q<=q->q<=4000000000->0<=r->r<1000000000->r=T-q*v1->1000000000<=r+K*v1->
 ∃q',(jW (p++(u++t)) v (p.length:Int) K r q=some (.inl q')\/jW (p++(u++t)) v (p.length:Int) K r q=some (.inr q'))/\Q<=q'/\q'<1000000000/\q'*(v1*1000000000+v2)<=T*1000000000+u2
 |0,q,r,h1,h2,h3,h4,h6,h7=>by simp at h7;omega
 |K+1,q,r,h1,h2,h3,h4,h6,h7=>by
  have a1:=hv.at (show k+1<v.length by omega);have a2:=hv.at (show k<v.length by omega);have a3:=hu.at (show k<u.length by omega);rw[e1]at a1;rw[e2]at a2;rw[e3]at a3;have b1:v1<1000000000:=a1.2;have b2:v2<1000000000:=a2.2;have b3:u2<1000000000:=a3.2
  have hq0:0<=q:=by omega
  have hp0:0<=q*v2:=Yv hq0 a2.1
  have ed: ∀q:Int,q*(v1*1000000000+v2)=q*v1*1000000000+q*v2:=fun q=>by rw[Int.mul_add,Int.mul_assoc]
  have ek:w64 ((v.length:Int)-2)=(k:Int):=by rw[qh (by omega) (by omega)];omega
  have ek1:w64 ((v.length:Int)-1)=((k+1:Nat):Int):=by rw[qh (by omega) (by omega)];omega
  have eku:w64 (w64 ((p.length:Int)+(v.length:Int))-2)=((k+p.length:Nat):Int):=by
   rw[qh5 (by omega) (by omega),qh (by omega) (by omega)];omega
  have cond:(if q>=1000000000 then some true else(idx v (w64 ((v.length:Int)-2))).bind fun x12=>(idx (p++(u++t)) (w64 ((w64 ((p.length:Int)+(v.length:Int)))-2))).bind fun x13=>some (decide ((w64 (q*x12))>(w64 ((w64 (r*1000000000))+x13)))):Option Bool)=some (decide (q>=1000000000\/q*v2>r*1000000000+u2)):=by
   by_cases c:q>=1000000000
   ·rw[if_pos c,decide_eq_true (.inl c)]
   have hp1:q*v2<=999999999*999999999:=Int.mul_le_mul (by omega) (by omega) a2.1 (by omega);rw[if_neg c,ek,ql,Ya (show k<v.length by omega),e2,ZB,eku,qbW (show k<u.length by omega),e3,ZB,qh (n:=q*v2) (by omega) (by omega),qh (n:=r*1000000000) (by omega) (by omega),qh (by omega) (by omega)];congr 1;exact decide_eq_decide.2 (by omega)
  rw[jW,cond,ZB];by_cases c:q>=1000000000\/q*v2>r*1000000000+u2
  ·have hm1:(q-1)*v1=q*v1-v1:=by rw[Int.sub_mul,Int.one_mul]
   have hlt:Q<=q-1:=by
    rcases Int.lt_or_le Q q with h|h
    ·omega
    exfalso
    have e:q=Q:=by omega
    subst e;rw[ed]at hQ;rcases c with c|c<;>omega
   rw[decide_eq_true c,if_pos rfl,ek1,ql,Ya (show k+1<v.length by omega),e1,ZB,qh (n:=r+v1) (by omega) (by omega),qh (n:=q-1) (by omega) (by omega)];by_cases d:r+v1>=1000000000
   ·rw[if_pos d]
    have hq1:q-1<1000000000:=by
     rcases Int.lt_or_le (q-1) 1000000000 with h|h
     ·exact h
     have:v1*1000000000<=(q-1)*v1:=by rw[Int.mul_comm];exact Int.mul_le_mul_of_nonneg_right h (by omega)
     omega
    have hp1:(q-1)*v2<=999999999*999999999:=Int.mul_le_mul (by omega) (by omega) a2.1 (by omega);refine⟨q-1,.inr rfl,hlt,hq1,?_⟩;rw[ed];omega
   rw[if_neg d]
   have eK:((K+1:Nat):Int)*v1=K*v1+v1:=by rw[Int.natCast_add,Int.add_mul];simp
   exact qiR hv hvl hk hu hul hpl e1 e2 e3 hT hQ hQ0 hQ1 hn K (q-1) _ hlt (by omega) (by omega) (by omega) (by rw[hm1];omega) (by omega)
  rw[decide_eq_false c,if_neg (by simp)];refine⟨q,.inl rfl,h1,by omega,?_⟩;rw[ed];omega
theorem qke {v:List Int} (hv:Dg E9 v) (hvl:v.length<=10002) {q:Int} (hq:0<=q/\q<1000000000) {p t:List Int} (hpl:p.length<=50000): ∀(K i:Nat) (u:List Int) (b:Int),i<=v.length->v.length<K+i->u.length=v.length+1->Dg E9 u->0<=b->b<=1000000000->
 ∃u' b',qV v (p.length:Int) q K (p++(u++t)) b (i:Int)=some (p++(u'++t),b')/\u'.length=v.length+1/\Dg E9 u'/\u'[v.length]? =u[v.length]? /\0<=b'/\b'<=1000000000/\dv E9 u'+q*dv E9 v=dv E9 u+q*dv E9 (v.take i)-E9^i*b+E9^v.length*b'
 |0,i,u,b,h,hK,_,_,_,_=>by omega
 |K+1,i,u,b,h,hK,hul,hu,b0,b1=>by
  rw[qV];by_cases hi:i<v.length
  ·have av:=hv.at hi
   have hiu:i<u.length:=by omega
   have au:=hu.at hiu;have av2:v[i]<1000000000:=av.2;have au2:u[i]<1000000000:=au.2;have hp0:0<=q*v[i]:=Yv hq.1 av.1;have hp1:q*v[i]<=999999999*999999999:=Int.mul_le_mul (by omega) (by omega) av.1 (by omega);rw[if_pos (by omega),ql,Ya hi,ZB,qh5 (by omega) (by omega),qbW hiu,ZB];generalize hp:q*v[i]=x at*;rw[qh (n:=x) (by omega) (by omega),qh (n:=x+b) (by omega) (by omega),Int.tmod_eq_emod_of_nonneg (by omega),YF (by omega),qh (n:=u[i]-(x+b)%1000000000) (by omega) (by omega)];have hxc:=Int.mul_ediv_add_emod (x+b) 1000000000;have step: ∀(un b2 d:Int),(0<=un/\un<1000000000)->(0<=d/\d<=1)->b2=(x+b)/1000000000+d->un=u[i]-(x+b)%1000000000+1000000000*d->
    ∃u' b',qV v (p.length:Int) q K (p++(u.set i un++t)) b2 ((i+1:Nat):Int)=some (p++(u'++t),b')/\u'.length=v.length+1/\Dg E9 u'/\u'[v.length]? =u[v.length]? /\0<=b'/\b'<=1000000000/\dv E9 u'+q*dv E9 v=dv E9 u+q*dv E9 (v.take i)-E9^i*b+E9^v.length*b':=by
    intro un b2 d hun hd eb eun;obtain⟨u',b',f1,f2,f3,f4,f5,f6,f9⟩:=qke hv hvl hq hpl K (i+1) (u.set i un) b2 (by omega) (by omega) (by rw[Yk];exact hul) (hu.set hun) (by omega) (by omega);refine⟨u',b',f1,f2,f3,by rw[f4,Yw (by omega)],f5,f6,?_⟩;rw[f9,qaV E9 u i un hiu,qy E9 v i hi,Int.mul_add q,<-Int.mul_assoc q,Int.mul_comm q (E9^i),Int.mul_assoc (E9^i) q,hp,Int.pow_succ,Int.mul_assoc (E9^i) E9]
    have e5:E9^i*(un-u[i])+E9^i*x-E9^i*(E9*b2)= -(E9^i*b):=by
     rw[<-Int.mul_add,<-Int.mul_sub,<-Int.mul_neg];congr 1;rw[e9m];omega
    omega
   by_cases c:u[i]-(x+b)%1000000000<0
   ·rw[if_pos c,qh (n:=(x+b)/1000000000) (by omega) (by omega),qh (n:=(x+b)/1000000000+1) (by omega) (by omega),qh (n:=u[i]-(x+b)%1000000000+1000000000) (by omega) (by omega),ZB];simp only;rw[qeD hiu,ZB,qJ (by omega)];exact step _ _ 1 (by omega) (by omega) rfl (by omega)
   rw[if_neg c,qh (n:=(x+b)/1000000000) (by omega) (by omega),ZB];simp only;rw[qeD hiu,ZB,qJ (by omega)];exact step _ _ 0 (by omega) (by omega) (by omega) (by omega)
  rw[if_neg (by omega)]
  have ei:i=v.length:=by omega
  subst ei;rw[List.take_of_length_le (Nat.le_refl _)];exact⟨u,b,rfl,hul,hu,rfl,b0,b1,by omega⟩
theorem qjU {v:List Int} (hv:Dg E9 v) (hvl:v.length<=10002) {q:Int} (hq:0<q/\q<1000000000) {p t:List Int} (hpl:p.length<=50000): ∀(K i:Nat) (u:List Int) (y c:Int),i<=v.length->v.length<K+i->u.length=v.length->Dg E9 u->0<=c->c<=1->
 ∃u' c',zb v (p.length:Int) q K (p++(u++[y]++t)) c (i:Int)=some (p++(u'++[y]++t),q-1,c')/\u'.length=v.length/\Dg E9 u'/\0<=c'/\c'<=1/\dv E9 u'+E9^v.length*c'=dv E9 u+dv E9 v-dv E9 (v.take i)+E9^i*c
 |0,i,u,y,c,h,hK,_,_,_,_=>by omega
 |K+1,i,u,y,c,h,hK,hul,hu,c0,c1=>by
  rw[zb];by_cases hi:i<v.length
  ·have av:=hv.at hi
   have hiu:i<u.length:=by omega
   have hiu2:i<(u++[y]).length:=by simp;omega
   have au:=hu.at hiu;have av2:v[i]<1000000000:=av.2;have au2:u[i]<1000000000:=au.2;have eg:(u++[y])[i]=u[i]:=List.getElem_append_left hiu;rw[if_pos (by omega),qh5 (by omega) (by omega),qbW hiu2,eg,ZB,ql,Ya hi,ZB,qh (n:=u[i]+v[i]) (by omega) (by omega),qh (n:=u[i]+v[i]+c) (by omega) (by omega),Int.tmod_eq_emod_of_nonneg (by omega),YF (by omega),qeD hiu2,ZB,List.set_append_left _ _ hiu,qh (n:=(u[i]+v[i]+c)/1000000000) (by omega) (by omega),qJ (by omega)];have hs:=Int.mul_ediv_add_emod (u[i]+v[i]+c) 1000000000;have m0:=Int.emod_nonneg (u[i]+v[i]+c) (show(1000000000:Int)≠0 by decide);have m1:=Int.emod_lt_of_pos (u[i]+v[i]+c) (show(0:Int)<1000000000 by decide)
   have k0:0<=(u[i]+v[i]+c)/1000000000/\(u[i]+v[i]+c)/1000000000<=1:=by omega
   generalize (u[i]+v[i]+c)/1000000000=c2 at*;generalize (u[i]+v[i]+c)%1000000000=un at*;obtain⟨u',c',f1,f2,f3,f5,f6,f7⟩:=qjU hv hvl hq hpl K (i+1) (u.set i un) y c2 (by omega) (by omega) (by rw[Yk];exact hul) (hu.set ⟨m0,m1⟩) k0.1 k0.2;refine⟨u',c',f1,f2,f3,f5,f6,?_⟩;rw[f7,qaV E9 u i un hiu,qy E9 v i hi,Int.pow_succ,Int.mul_assoc (E9^i) E9]
   have e5:E9^i*(un-u[i])-E9^i*v[i]+E9^i*(E9*c2)=E9^i*c:=by
    rw[<-Int.mul_sub,<-Int.mul_add];congr 1;rw[e9m];omega
   omega
  rw[if_neg (by omega),qh (by omega) (by omega)]
  have ei:i=v.length:=by omega
  subst ei;rw[List.take_of_length_le (Nat.le_refl _)];exact⟨u,c,rfl,hul,hu,c0,c1,by omega⟩
theorem qjg {P ulo vlo T3 V2 U V Q q v1 v2:Int} (hP:0<P) (eU:U=ulo+P*T3) (eV:V=vlo+P*V2) (hu:0<=ulo/\ulo<P) (hv:0<=vlo/\vlo<P) (e2:V2=v1*1000000000+v2) (h1:1<=v1) (h2:0<=v2) (hU:0<=U) (eQ:Q=U/V):0<V/\Q*V2<=T3/\(0<=q->q<1000000000->q*V2<=T3->q<=Q+1):=by
 have hPW:P*1000000000<=P*V2:=Yc (by omega) (by omega)
 have hV:0<V:=by omega
 have q0:0<=Q:=by rw[eQ];exact Int.ediv_nonneg hU (by omega)
 have q1:Q*V<=U:=by rw[eQ];exact Int.ediv_mul_le U (by omega)
 have q2:U<(Q+1)*V:=by
  rw[eQ];exact Int.lt_ediv_add_one_mul_self U hV
 refine⟨hV,?_,fun a b c=>?_⟩
 ·rcases Int.lt_or_le T3 (Q*V2)with h|h
  ·exfalso;have a1:P*(T3+1)<=P*(Q*V2):=Yc (by omega) (by omega)
   have a2:P*(Q*V2)<=Q*V:=by
    rw[eV,Int.mul_add]
    have:P*(Q*V2)=Q*(P*V2):=by rw[<-Int.mul_assoc,Int.mul_comm P Q,Int.mul_assoc]
    have:=Yv q0 hv.1;omega
   rw[Int.mul_add,Int.mul_one]at a1;omega
  exact h
 have a1:q*V=q*vlo+P*(q*V2):=by
  rw[eV,Int.mul_add];congr 1;rw[<-Int.mul_assoc,Int.mul_comm q P,Int.mul_assoc]
 have a2:P*(q*V2)<=P*T3:=Yc c (by omega);have a3:q*vlo<=999999999*P:=Int.mul_le_mul (by omega) (by omega) hv.1 (by omega)
 have a4:q*V<(Q+2)*V:=by
  rw[Int.add_mul];rw[Int.add_mul]at q2;omega
 have:=Int.lt_of_mul_lt_mul_right a4 (by omega);omega
set_option maxHeartbeats 1000000 in
theorem qpo {N:Nat} (hN:11000<N) {p u t v:List Int} {k:Nat} (hv:Dg E9 v) (hvl:v.length=k+2) (hk:k<=9000) (hu:Dg E9 u) (hul:u.length=k+3) (hpl:p.length<=50000) (hn:1000000<=v[k+1]'(by omega)) (hlt:dv E9 u<1000000000*dv E9 v):
 ∃u',u'.length=k+3/\Dg E9 u'/\dv E9 u'=dv E9 u%dv E9 v/\((qad N (p++(u++t)) v (p.length:Int)).bind fun r25=>
 (qV v (p.length:Int) r25 N (p++(u++t)) 0 0).bind fun(l29,n30)=>
 (idx l29 (w64 ((p.length:Int)+(v.length:Int)))).bind fun x40=>
 (put l29 (w64 ((p.length:Int)+(v.length:Int))) (w64 (x40-n30))).bind fun l41=>
 (idx l41 (w64 ((p.length:Int)+(v.length:Int)))).bind fun x42=>
 ((if x42<0 then
 (zb v (p.length:Int) r25 N l41 0 0).bind fun(l50,n51,n52)=>
 (idx l50 (w64 ((p.length:Int)+(v.length:Int)))).bind fun x58=>
 (put l50 (w64 ((p.length:Int)+(v.length:Int))) (w64 (x58+n52))).bind fun l59=>
 some (l59,n51)
 else
 some (l41,r25):Option ((List Int)×Int))))=some (p++(u'++t),dv E9 u/dv E9 v):=by
 have a1:=hv.at (show k+1<v.length by omega);have a2:=hv.at (show k<v.length by omega);have b0:=hu.at (show k+2<u.length by omega);have b1:=hu.at (show k+1<u.length by omega);have b2:=hu.at (show k<u.length by omega)
 have eV:dv E9 v=dv E9 (v.take k)+E9^k*(v[k+1]*1000000000+v[k]):=by
  have e1:=qy E9 v (k+1) (by omega);have e2:=qy E9 v k (by omega);have p1:E9^(k+1)=E9^k*E9:=Int.pow_succ _ _;rw[List.take_of_length_le (by omega),e2,p1]at e1;rw[e1,show v[k+1]*1000000000+v[k]=v[k]+E9*v[k+1]by rw[e9m];omega,Int.mul_add];simp only[Int.mul_assoc];omega
 have eU:dv E9 u=dv E9 (u.take k)+E9^k*((u[k+2]*1000000000+u[k+1])*1000000000+u[k]):=by
  have e0:=qy E9 u (k+2) (by omega);have e1:=qy E9 u (k+1) (by omega);have e2:=qy E9 u k (by omega);have p1:E9^(k+1)=E9^k*E9:=Int.pow_succ _ _
  have p2:E9^(k+2)=E9^k*E9*E9:=by rw[<-p1];exact Int.pow_succ _ _
  rw[List.take_of_length_le (by omega),e1,e2,p2,p1]at e0
  have e3:(u[k+2]*1000000000+u[k+1])*1000000000+u[k]=u[k]+E9*u[k+1]+E9*(E9*u[k+2]):=by
   have h1:E9*u[k+1]=1000000000*u[k+1]:=rfl;have h2:E9*(E9*u[k+2])=1000000000*(1000000000*u[k+2]):=rfl;omega
  rw[e0,e3,Int.mul_add,Int.mul_add];simp only[Int.mul_assoc];omega
 have vlo0:=qD E0 (hv.take k);have vlo1:=yY E0 (hv.take k);have ulo0:=qD E0 (hu.take k);have ulo1:=yY E0 (hu.take k);rw[Ym,Nat.min_eq_left (by omega)]at vlo1 ulo1;have U0:=qD E0 hu;have hP:=pow_pos E0 k
 have DF:=fun q=>qjg (q:=q) hP eU eV ⟨ulo0,ulo1⟩ ⟨vlo0,vlo1⟩ rfl (by omega) a2.1 U0 rfl
 have V0:=(DF 0).1;have hQ0:0<=dv E9 u/dv E9 v:=Int.ediv_nonneg U0 (by omega)
 have hQ1:dv E9 u/dv E9 v<1000000000:=by rw[Yu V0];exact hlt
 have hQ2:=(DF 0).2.1
 have hmod:dv E9 u%dv E9 v=dv E9 u-dv E9 u/dv E9 v*dv E9 v:=by rw[Int.emod_def,Int.mul_comm]
 have hm0:=Int.emod_nonneg (dv E9 u) (show dv E9 v≠0 by omega);have hm1:=Int.emod_lt_of_pos (dv E9 u) V0;generalize hQ:dv E9 u/dv E9 v=Q at*;have c1:v[k+1]<1000000000:=a1.2;have c2:v[k]<1000000000:=a2.2;have d0:u[k+2]<1000000000:=b0.2;have d1:u[k+1]<1000000000:=b1.2;have d2:u[k]<1000000000:=b2.2
 have hle:u[k+2]<=v[k+1]:=by
  rcases Int.lt_or_le v[k+1] u[k+2]with g|g
  ·exfalso;have g1:E9^k*((v[k+1]*1000000000+v[k]+1)*1000000000)<=E9^k*((u[k+2]*1000000000+u[k+1])*1000000000+u[k]):=Yc (by omega) (by omega);rw[<-Int.mul_assoc,Int.mul_add (E9^k) _ 1]at g1;omega
  exact g
 have G: ∃q',qad N (p++(u++t)) v (p.length:Int)=some q'/\Q<=q'/\q'<1000000000/\q'*(v[k+1]*1000000000+v[k])<=(u[k+2]*1000000000+u[k+1])*1000000000+u[k]:=by
  have ek:w64 ((v.length:Int)-1)=((k+1:Nat):Int):=by rw[qh (by omega) (by omega)];omega
  have ek2:w64 ((p.length:Int)+(v.length:Int))=((k+2+p.length:Nat):Int):=by rw[qh5 (by omega) (by omega)];congr 1;omega
  have ek1:w64 (((k+2+p.length:Nat):Int)-1)=((k+1+p.length:Nat):Int):=by rw[qh (by omega) (by omega)];omega
  have e1:=Int.mul_ediv_add_emod (u[k+2]*1000000000+u[k+1]) v[k+1];have e2:=Int.emod_nonneg (u[k+2]*1000000000+u[k+1]) (show v[k+1]≠0 by omega);have e3:=Int.emod_lt_of_pos (u[k+2]*1000000000+u[k+1]) (show 0<v[k+1]by omega)
  have e4:(u[k+2]*1000000000+u[k+1])/v[k+1]<=1000001000:=by
   have:(u[k+2]*1000000000+u[k+1])/v[k+1]<1000001001:=by
    rw[Yu (by omega)];omega
   omega
  have e5:Q<=(u[k+2]*1000000000+u[k+1])/v[k+1]:=by
   rw[Int.le_ediv_iff_mul_le (by omega)]
   have e:Q*(v[k+1]*1000000000+v[k])=Q*v[k+1]*1000000000+Q*v[k]:=by rw[Int.mul_add,Int.mul_assoc]
   have:=Yv hQ0 a2.1;omega
  have hq:qco .i64 (u[k+2]*1000000000+u[k+1]) v[k+1]=some ((u[k+2]*1000000000+u[k+1])/v[k+1]):=by
   unfold qco;rw[if_neg (by omega),YF (by omega)];show some (w64 _)=_;rw[qh (by omega) (by omega)]
  have hm:qeG .i64 (u[k+2]*1000000000+u[k+1]) v[k+1]=some ((u[k+2]*1000000000+u[k+1])%v[k+1]):=by
   unfold qeG;rw[if_neg (by omega),Int.tmod_eq_emod_of_nonneg (by omega)]
  have hKv:(1000000000:Int)<=(u[k+2]*1000000000+u[k+1])%v[k+1]+N*v[k+1]:=by
   have:(1000:Int)*v[k+1]<=N*v[k+1]:=Int.mul_le_mul_of_nonneg_right (by omega) (by omega);omega
  obtain⟨q',g1,g2,g3,g4⟩:=qiR (p:=p) (t:=t) hv hvl (by omega) hu hul hpl rfl rfl rfl (T:=u[k+2]*1000000000+u[k+1]) (by omega) hQ2 hQ0 hQ1 (by omega) N _ _ e5 (by omega) e2 (by omega) (by rw[Int.mul_comm (_/_)];omega) hKv;refine⟨q',?_,g2,g3,g4⟩;unfold qad;rw[ek2,ek1,ek,qbW (show k+2<u.length by omega),ZB,qbW (show k+1<u.length by omega),ZB,ql,Ya (show k+1<v.length by omega),ZB,qh (n:=u[k+2]*1000000000) (by omega) (by omega),qh (n:=u[k+2]*1000000000+u[k+1]) (by omega) (by omega),hq,ZB,hm,ZB];rcases g1 with g1|g1<;>rw[g1]<;>rfl
 obtain⟨q',g1,f2,f3,f4⟩:=G;have hle2:=(DF q').2.2 (by omega) f3 f4;obtain⟨w,b',m1,m2,m3,m4,m5,m6,m9⟩:=qke hv (by omega) (q:=q') ⟨by omega,f3⟩ (p:=p) (t:=t) hpl N 0 u 0 (by omega) (by omega) (by omega) hu (by omega) (by omega);have m1:qV v (p.length:Int) q' N (p++(u++t)) 0 0=some (p++(w++t),b'):=m1
 have hkw:k+2<w.length:=by omega
 have ew:w[k+2]=u[k+2]:=by
  rw[hvl,Ya hkw,Ya (show k+2<u.length by omega)]at m4;exact Ye m4
 have wsp:w=w.take (k+2)++[w[k+2]]:=by
  have:=List.take_succ_eq_append_getElem hkw;rw[List.take_of_length_le (by omega)]at this;exact this
 have wl:(w.take (k+2)).length=k+2:=by rw[Ym];omega
 have wd:=m3.take (k+2)
 have wv:dv E9 w=dv E9 (w.take (k+2))+E9^(k+2)*w[k+2]:=by
  have:=qy E9 w (k+2) hkw;rw[List.take_of_length_le (by omega)]at this;exact this
 have lo0:=qD E0 wd;have lo1:=yY E0 wd;rw[wl]at lo1;rw[List.take_zero,ze,Int.mul_zero,hvl]at m9;simp only[Int.pow_zero]at m9
 have hVk:dv E9 v<E9^(k+2):=by have:=yY E0 hv;rw[hvl]at this;exact this
 have hPk:=pow_pos E0 (k+2)
 have ek2:w64 ((p.length:Int)+(v.length:Int))=((k+2+p.length:Nat):Int):=by rw[qh5 (by omega) (by omega)];congr 1;omega
 have eset:w.set (k+2) (u[k+2]-b')=w.take (k+2)++[u[k+2]-b']:=by
  rw[List.set_eq_take_append_cons_drop,if_pos hkw,List.drop_of_length_le (by omega)]
 have hks:k+2<(w.set (k+2) (u[k+2]-b')).length:=by rw[Yk];exact hkw
 have tot:dv E9 (w.take (k+2))+E9^(k+2)*(u[k+2]-b')=dv E9 u-q'*dv E9 v:=by
  rw[Int.mul_sub,<-ew];omega
 rw[g1,ZB,m1,ZB];simp only;rw[ek2,qbW hkw,ZB,ew,qh (n:=u[k+2]-b') (by omega) (by omega),qeD hkw,ZB,qbW hks,List.getElem_set_self,ZB];by_cases hq:q'=Q
 ·have hy:u[k+2]-b'=0:=by
   subst hq
   have h1: ¬(1<=u[k+2]-b'):=fun h=>by
    have:=Yc h (Int.le_of_lt hPk);omega
   have h2: ¬(u[k+2]-b'<= -1):=fun h=>by
    have:=Yc h (Int.le_of_lt hPk);omega
   omega
  rw[if_neg (by omega),eset,hy,hq];rw[hy,Int.mul_zero,Int.add_zero,hq]at tot;refine⟨w.take (k+2)++[0],by simp;omega,wd.append (Dg.cons ⟨by omega,by decide⟩ Dg.nil),?_,rfl⟩;rw[qeU,Int.mul_zero,Int.add_zero];omega
 have hq1:q'=Q+1:=by omega
 have hqm:q'*dv E9 v=Q*dv E9 v+dv E9 v:=by rw[hq1,Int.add_mul,Int.one_mul]
 have hy:u[k+2]-b'<0:=by
  rcases Int.lt_or_le (u[k+2]-b') 0 with h|h
  ·exact h
  have:=Yv (Int.le_of_lt hPk) h;omega
 obtain⟨u3,c3,a1',a2',a3',a5',a6',a7'⟩:=qjU hv (by omega) (q:=q') ⟨by omega,f3⟩ (p:=p) (t:=t) hpl N 0 (w.take (k+2)) (u[k+2]-b') 0 (by omega) (by omega) (by omega) wd (by omega) (by omega);have a1':zb v (p.length:Int) q' N (p++(w.take (k+2)++[u[k+2]-b']++t)) 0 0=some (p++(u3++[u[k+2]-b']++t),q'-1,c3):=a1';rw[List.take_zero,ze,hvl]at a7';simp only[Int.pow_zero]at a7';have l0:=qD E0 a3';have l1:=yY E0 a3';rw[a2',hvl]at l1
 have hyc:u[k+2]-b'+c3=0:=by
  have e1:dv E9 u3+E9^(k+2)*(u[k+2]-b'+c3)=dv E9 u-Q*dv E9 v:=by
   rw[Int.mul_add];omega
  have h1: ¬(1<=u[k+2]-b'+c3):=fun h=>by
   have:=Yc h (Int.le_of_lt hPk);omega
  have h2: ¬(u[k+2]-b'+c3<= -1):=fun h=>by
   have:=Yc h (Int.le_of_lt hPk);omega
  omega
 have hk3:k+2<(u3++[u[k+2]-b']).length:=by simp;omega
 have eg:(u3++[u[k+2]-b'])[k+2]=u[k+2]-b':=by
  rw[List.getElem_append_right (by omega)];simp
 have es:(u3++[u[k+2]-b']).set (k+2) 0=u3++[0]:=by
  rw[List.set_append_right _ _ (by omega),show k+2-u3.length=0 by omega];rfl
 rw[if_pos hy,eset,a1',ZB];simp only;rw[qbW hk3,eg,ZB,hyc,show w64 (0:Int)=0 from rfl,qeD hk3,ZB,es,hq1,Int.add_sub_cancel];refine⟨u3++[0],by simp;omega,a3'.append (Dg.cons ⟨by omega,by decide⟩ Dg.nil),?_,rfl⟩;rw[qeU,Int.mul_zero,Int.add_zero]
 have e1:dv E9 u3+E9^(k+2)*(u[k+2]-b'+c3)=dv E9 u-Q*dv E9 v:=by
  rw[Int.mul_add];omega
 rw[hyc,Int.mul_zero,Int.add_zero]at e1;omega
end Go.Av
end
section
namespace Go.Av
theorem rep0 {n m:Nat} {z:Int} (h:(List.replicate n (0:Int))[m]? =some z):z=0:=List.eq_of_mem_replicate (Yn h)
theorem qg4 (l:List Int) {i:Nat} (h:i<l.length):dv W (l.drop i)=l[i]+W*dv W (l.drop (i+1)):=by
 rw[YG h,zt]
theorem qlJ {l:List Int} {k:Nat} {v:Int} (hk:k<l.length) (h: ∀(i:Nat) x,i<=k->l[i]? =some x->x=0):dv W (l.set k v)=dv W l+W^k*v:=by
 rw[qaV W l k v hk,h k l[k] (Nat.le_refl _) (Ya hk),Int.sub_zero]
theorem qnz {N:Nat} (hN:5<=N) {a b:List Int} (ha:Dg W a) (hal:a.length<=10000) {d:Int} (hb:b[0]? =some d) (d0:0<d) (d1:d<18446744073709551616): ∀(K i:Nat) (l:List Int) (r:Int),i<=a.length->i<K->l.length=a.length->Dg W l->(∀(m:Nat) x,m<i->l[m]? =some x->x=0)->dv W l=W^i*(dv W (a.drop i)/d)->r=dv W (a.drop i)%d->
 ∃l',vV N a b K l r ((i:Int)-1)=some (l',dv W a%d)/\l'.length=a.length/\Dg W l'/\dv W l'=dv W a/d
 |0,i,l,r,h,hK,_,_,_,_,_=>by omega
 |K+1,0,l,r,h,hK,hl,hd,hz,e,er=>by
  rw[YR]at e er;rw[vV,if_neg (by omega),er];exact⟨l,rfl,hl,hd,by rw[e];simp⟩
 |K+1,i+1,l,r,h,hK,hl,hd,hz,e,er=>by
  have hi:i<a.length:=by omega
  have hil:i<l.length:=by omega
  have ax:=ha.at hi;unfold W at ax
  have r0:0<=r:=by rw[er];exact Int.emod_nonneg _ (by omega)
  have r1:r<d:=by rw[er];exact Int.emod_lt_of_pos _ d0
  have ei:((i+1:Nat):Int)-1=(i:Int):=by omega
  rw[vV,ei,if_pos (by omega),ql,Ya hi,ZB,qcz,hb,ZB,qj1 hN r0 r1 d1 ax,ZB,ql,Ya hil,ZB,zP hil,ZB];simp only;rw[qh (by omega) (by omega)]
  have ed:dv W (a.drop i)=r*18446744073709551616+a[i]+d*(dv W (a.drop (i+1))/d*18446744073709551616):=by
   have h1:=Int.mul_ediv_add_emod (dv W (a.drop (i+1))) d;rw[<-er]at h1;rw[qg4 a hi,<-Int.mul_assoc,show W*dv W (a.drop (i+1))=18446744073709551616*dv W (a.drop (i+1))from rfl];generalize d*(dv W (a.drop (i+1))/d)=m at*;omega
  have q0:0<=(r*18446744073709551616+a[i])/d:=Int.ediv_nonneg (by omega) (by omega)
  have q1:(r*18446744073709551616+a[i])/d<18446744073709551616:=by
   rw[Yu d0];have:(r+1)*18446744073709551616<=d*18446744073709551616:=Int.mul_le_mul_of_nonneg_right (by omega) (by omega);rw[Int.mul_comm 18446744073709551616];omega
  refine qnz hN ha hal hb d0 d1 K i _ _ (by omega) (by omega) (by rw[Yk];exact hl) (hd.set ⟨q0,q1⟩) (fun m x hm hx=>?_) ?_ ?_
  ·rw[Yw (by omega)]at hx;exact hz m x (by omega) hx
  ·rw[qlJ hil (fun m x hm hx=>hz m x (by omega) hx),e,ed,Int.add_mul_ediv_left _ _ (by omega),Int.pow_succ,Int.mul_assoc,<-Int.mul_add];congr 1;show 18446744073709551616*_+_=_;omega
  rw[ed,Int.add_mul_emod_self_left]
theorem qeA {l:List Int} (h:Dg W l) {n:Nat} (hl:dv W l<W^n):dv W (l.drop n)=0:=by
 by_cases hn:n<=l.length
 ·have e:=xc W l n hn;have h1:=qD W0 (h.take n);have h2:=qD W0 (h.drop n);rcases Int.lt_or_le 0 (dv W (l.drop n))with c|c
  ·have:=Yc (show 1<=dv W (l.drop n)by omega) (Int.le_of_lt (pow_pos W0 n));omega
  omega
 rw[List.drop_of_length_le (by omega),ze]
theorem ql5 {N:Nat} (hN:11000<N) {v:List Int} {k:Nat} (hv:Dg W v) (hvl:v.length=k+2) (hk:k<=9000) (hn:9223372036854775808<=v[k+1]'(by omega)) {A:Int} {m:Nat} (hm:m<=9000): ∀(K i:Nat) (l qs:List Int),i<=m+1->i<K->l.length=m+k+3->qs.length=m+1->Dg W l->Dg W qs->(∀(j:Nat) x,j<i->qs[j]? =some x->x=0)->dv W (l.drop i)<dv W v->dv W l+dv W v*dv W qs=A->
 ∃l' qs',vY N v K l qs ((i:Int)-1)=some (l',qs')/\l'.length=m+k+3/\qs'.length=m+1/\Dg W l'/\Dg W qs'/\dv W l'<dv W v/\dv W l'+dv W v*dv W qs'=A
 |0,i,l,qs,h,hK,_,_,_,_,_,_,_=>by omega
 |K+1,0,l,qs,h,hK,hl,hql,hd,hqd,hz,hlt,e=>by
  rw[vY,if_neg (by omega)];exact⟨l,qs,rfl,hl,hql,hd,hqd,hlt,e⟩
 |K+1,i+1,l,qs,h,hK,hl,hql,hd,hqd,hz,hlt,e=>by
  have hil:i<l.length:=by omega
  have hiq:i<qs.length:=by omega
  have ei:((i+1:Nat):Int)-1=(i:Int):=by omega
  have V1:=yY W0 hv;rw[hvl]at V1
  have V0:0<dv W v:=by
   have:=qD W0 (hd.drop (i+1));omega
  have lp:(l.take i).length=i:=by rw[Ym];omega
  have lu:((l.drop i).take (k+3)).length=k+3:=by rw[Ym,YJ];omega
  have el:l=l.take i++((l.drop i).take (k+3)++(l.drop i).drop (k+3)):=by rw[YS,YS]
  have hu:=(hd.drop i).take (k+3)
  have ht:dv W ((l.drop i).drop (k+3))=0:=by
   have:=qeA (hd.drop (i+1)) (n:=k+2) (by omega);rw[List.drop_drop]at this⊢;rw[show i+(k+3)=i+1+(k+2)by omega];exact this
  have eu:dv W ((l.drop i).take (k+3))=dv W (l.drop i):=by
   have:=xe W ((l.drop i).take (k+3)) ((l.drop i).drop (k+3));rw[YS,ht,Int.mul_zero,Int.add_zero]at this;exact this.symm
  have hUlt:dv W ((l.drop i).take (k+3))<18446744073709551616*dv W v:=by
   rw[eu,qg4 l hil];have:=(hd.at hil).2;have:W*(dv W (l.drop (i+1))+1)<=W*dv W v:=Yc (by omega) (by decide);rw[Int.mul_add,Int.mul_one]at this;show _<W*dv W v;omega
  have ew:win l (i:Int) (w64 (w64 ((i:Int)+(v.length:Int))+1))=some (i,k+3):=by
   rw[qh (n:=(i:Int)+(v.length:Int)) (by omega) (by omega),qh (by omega) (by omega)];unfold win;rw[if_pos (by omega)];congr 2;omega
  obtain⟨u',s1,s2,s3,s4⟩:=qpN hN (p:=l.take i) (t:=(l.drop i).drop (k+3)) (c:=l.length-i) hv hvl hk hu lu (by omega) hn hUlt;rw[lp,<-el]at s1;rw[vY,ei,if_pos (by omega),ew,ZB];simp only;rw[s1,ZB];simp only
  have hlen:l.length=(l.take i++(u'++(l.drop i).drop (k+3))).length:=by
   simp only[Yq,Ym,YJ];omega
  rw[if_pos hlen,ZB,ql,Ya hiq,ZB,zP hiq,ZB,qh (by omega) (by omega)];have hU0:=qD W0 hu;have Q0:0<=dv W ((l.drop i).take (k+3))/dv W v:=Int.ediv_nonneg hU0 (by omega)
  have Q1:dv W ((l.drop i).take (k+3))/dv W v<W:=by rw[Yu V0];exact hUlt
  have hR:=Int.emod_lt_of_pos (dv W ((l.drop i).take (k+3))) V0;have hdm:=Int.mul_ediv_add_emod (dv W ((l.drop i).take (k+3))) (dv W v)
  have hdrop:(l.take i++(u'++(l.drop i).drop (k+3))).drop i=u'++(l.drop i).drop (k+3):=by
   rw[List.drop_append_of_le_length (by omega),List.drop_of_length_le (by omega),List.nil_append]
  have hdn:dv W (u'++(l.drop i).drop (k+3))=dv W u':=by rw[xe,ht,Int.mul_zero,Int.add_zero]
  refine ql5 hN hv hvl hk hn hm K i _ _ (by omega) (by omega) ?_ (by rw[Yk];exact hql) ((hd.take i).append (s3.append ((hd.drop i).drop _))) (hqd.set ⟨Q0,Q1⟩) (fun j x hj hx=>?_) ?_ ?_
  ·rw[Yq,Yq,lp,s2,YJ,YJ];omega
  ·rw[Yw (by omega)]at hx;exact hz j x (by omega) hx
  ·rw[hdrop,hdn,s4];exact hR
  rw[qlJ hiq (fun j x hj hx=>hz j x (by omega) hx),xe,lp,hdn,s4,Int.mul_add];have e1:=xc W l i (by omega);rw[<-eu]at e1
  have e2:W^i*dv W ((l.drop i).take (k+3))=W^i*(dv W v*(dv W ((l.drop i).take (k+3))/dv W v))+W^i*(dv W ((l.drop i).take (k+3))%dv W v):=by rw[<-Int.mul_add,hdm]
  have e3:dv W v*(W^i*(dv W ((l.drop i).take (k+3))/dv W v))=W^i*(dv W v*(dv W ((l.drop i).take (k+3))/dv W v)):=Int.mul_left_comm _ _ _;rw[e3];omega
theorem qlP {o v:List Int} (ho:Dg W o) {s:Nat} (hs:s<=63) (hvo:v.length<o.length) (hol:o.length<=100000) {z:Int} (hz:z=(o[0]'(by omega))%2^s): ∀(K i:Nat) (l:List Int),i<=v.length->v.length<K+i->l.length=o.length->Dg W l->(∀(m:Nat),i<=m->l[m]? =o[m]?)->dv W (l.take i)*2^s=dv W (o.take i)-z+W^i*((o[i]?.getD 0)%2^s)->
 ∃l',jR (s:Int) v K l (i:Int)=some l'/\l'.length=o.length/\Dg W l'/\dv W (l'.take v.length)*2^s=dv W (o.take v.length)-z+W^v.length*((o[v.length]?.getD 0)%2^s)
 |0,i,l,h,hK,_,_,_,_=>by omega
 |K+1,i,l,h,hK,hl,hd,hsame,e=>by
  rw[jR];by_cases hi:i<v.length
  ·have hil:i<l.length:=by omega
   have hil1:i+1<l.length:=by omega
   have hio:i<o.length:=by omega
   have hio1:i+1<o.length:=by omega
   have ax:=ho.at hio;have ay:=ho.at hio1;unfold W at ax ay
   have el0:l[i]=o[i]:=by
    have:=hsame i (Nat.le_refl _);rw[Ya hil,Ya hio]at this;injection this
   have el1:l[i+1]=o[i+1]:=by
    have:=hsame (i+1) (by omega);rw[Ya hil1,Ya hio1]at this;injection this
   have hp:=pow_pos (show(0:Int)<2 by omega) s;have hp2:=pow_pos (show(0:Int)<2 by omega) (64-s)
   have hpp:(2:Int)^s*2^(64-s)=18446744073709551616:=by
    rw[<-Int.pow_add,show s+(64-s)=64 by omega];rfl
   have q0:0<=o[i]/2^s:=Int.ediv_nonneg ax.1 (Int.le_of_lt hp)
   have q1:o[i]/2^s<2^(64-s):=by
    rw[Yu hp,Int.mul_comm,hpp];exact ax.2
   have r0:0<=o[i+1]%2^s:=Int.emod_nonneg _ (by omega);have r1:o[i+1]%2^s<2^s:=Int.emod_lt_of_pos _ hp;have hdm:=Int.mul_ediv_add_emod o[i] (2^s)
   have htop:o[i+1]%2^s*2^(64-s)+o[i]/2^s<18446744073709551616:=by
    have:(o[i+1]%2^s+1)*2^(64-s)<=2^s*2^(64-s):=Int.mul_le_mul_of_nonneg_right (by omega) (Int.le_of_lt hp2);rw[hpp,Int.add_mul,Int.one_mul]at this;omega
   have hlow0:0<=o[i+1]%2^s*2^(64-s):=Yv r0 (Int.le_of_lt hp2)
   have efin:(o[i+1]%2^s*2^(64-s)+o[i]/2^s)*2^s=18446744073709551616*(o[i+1]%2^s)+o[i]-o[i]%2^s:=by
    rw[Int.add_mul,Int.mul_assoc,Int.mul_comm (2^(64-s)),hpp,Int.mul_comm (o[i]/2^s)];omega
   have fin: ∀l2:List Int,l2=l.set i (o[i+1]%2^s*2^(64-s)+o[i]/2^s)-> ∃l',jR (s:Int) v K l2 ((i+1:Nat):Int)=some l'/\l'.length=o.length/\Dg W l'/\dv W (l'.take v.length)*2^s=dv W (o.take v.length)-z+W^v.length*((o[v.length]?.getD 0)%2^s):=by
    rintro l2 rfl;refine qlP ho hs hvo hol hz K (i+1) _ (by omega) (by omega) (by rw[Yk];exact hl) (hd.set ⟨by omega,htop⟩) (fun m hm=>?_) ?_
    ·rw[Yw (by omega)];exact hsame m (by omega)
    have hls:i<(l.set i (o[i+1]%2^s*2^(64-s)+o[i]/2^s)).length:=by rw[Yk];exact hil
    rw[qy W _ i hls,List.getElem_set_self,List.take_set_of_le (Nat.le_refl _),Int.add_mul,Int.mul_assoc,efin,e,qy W o i hio,Ya hio,Ya hio1,YN,YN,Int.pow_succ,Int.mul_assoc (W^i) W]
    have e5:W^i*(18446744073709551616*(o[i+1]%2^s)+o[i]-o[i]%2^s)=W^i*(W*(o[i+1]%2^s))+W^i*o[i]-W^i*(o[i]%2^s):=by
     rw[<-Int.mul_add,<-Int.mul_sub]
    omega
   rw[if_pos (by omega),ql,Ya hil,el0,ZB,qhf (by omega),ZB,zP hil,ZB,qJ (by omega)];by_cases h0:s=0
   ·subst h0;rw[if_neg (by omega),ZB,if_neg (by simp),ZB];refine fin _ ?_;congr 1
    have:o[i+1]%2^0=0:=by simp[Int.emod_one]
    rw[this];omega
   have hls0:i<(l.set i (o[i]/2^s)).length:=by rw[Yk];exact hil
   have hls1:i+1<(l.set i (o[i]/2^s)).length:=by rw[Yk];exact hil1
   have em:o[i+1]*2^(64-s)%18446744073709551616=o[i+1]%2^s*2^(64-s):=by
    rw[<-hpp,Int.mul_comm o[i+1],Int.mul_comm (2^s),Int.mul_emod_mul_of_pos _ _ hp2,Int.mul_comm]
   rw[if_pos (by omega),ZB,if_pos (decide_eq_true (by omega)),ql,Ya hls0,List.getElem_set_self,ZB,ql,Ya hls1,List.getElem_set_ne (by omega),el1,ZB,show(64:Int)-(s:Int)=((64-s:Nat):Int)by omega,qh (by omega) (by omega),qhu (by omega),ZB,em,qoK r0 q0 q1 htop,zP hls0,ZB,ZB];refine fin _ ?_;rw[List.set_set]
  rw[if_neg (by omega)]
  have ei:i=v.length:=by omega
  subst ei;exact⟨l,rfl,hl,hd,e⟩
theorem qiJ {N:Nat} (hN:11000<N) {a b:List Int} (ha:Can W a) (hb:Can W b) (hal:a.length<=4000) (hb0:0<dv W b):qaY N a b=some (dg W (dv W a/dv W b),dg W (dv W a%dv W b)):=by
 have A0:=qD W0 ha.1;unfold qaY;rw[qd9 ha hb (by omega) (by omega),ZB];by_cases h:dv W a<dv W b
 ·rw[if_pos h,if_pos (by omega),Int.ediv_eq_zero_of_lt A0 h,Int.emod_eq_of_lt A0 h,qdV,qpz W1 ha]
 have hlen:b.length<=a.length:=by
  rcases Nat.lt_or_ge a.length b.length with c|c
  ·have:=qdL ha hb c;omega
  exact c
 have hb1:0<b.length:=by
  rcases Nat.eq_zero_or_pos b.length with c|c
  ·rw[YL.1 c,ze]at hb0;omega
  exact c
 have hge: ¬((if dv W a<dv W b then-1 else if dv W a=dv W b then(0:Int)else 1)<0):=by
  rw[if_neg h];split<;>omega
 rw[if_neg hge];by_cases hone:b.length=1
 ·obtain⟨d,rfl⟩:=List.length_eq_one_iff.1 hone
  have ed:dv W [d]=d:=by rw[zt,ze];omega
  rw[ed]at hb0⊢;have hd:=hb.1.head;unfold W at hd;rw[if_pos (by simp),qbd (by omega),ZB,qh (by omega) (by omega)];obtain⟨l,e,h1,h2,h3⟩:=qnz (N:=N) (by omega) ha.1 (by omega) (b:=[d]) rfl hb0 hd.2 N a.length (List.replicate a.length 0) 0 (Nat.le_refl _) (by omega) (by simp) (Uo W0 _) (fun m x _ hx=>rep0 hx) (by rw[xK,List.drop_of_length_le (Nat.le_refl _),ze];simp) (by rw[List.drop_of_length_le (Nat.le_refl _),ze];simp);have m0:=Int.emod_nonneg (dv W a) (show d≠0 by omega);have m1:=Int.emod_lt_of_pos (dv W a) hb0;rw[e,ZB];simp only;rw[qcM h2 (by omega) (by omega),ZB,qcM (Dg.cons ⟨m0,show _<(18446744073709551616:Int)by omega⟩ Dg.nil) (by simp) (by simp;omega),ZB,h3,zt,ze,Int.mul_zero,Int.add_zero]
 obtain⟨k,hk⟩: ∃k,b.length=k+2:=⟨b.length-2,by omega⟩;obtain⟨m,hm⟩: ∃m,a.length=m+k+2:=⟨a.length-(k+2),by omega⟩
 have hkb:k+1<b.length:=by omega
 have at1:=hb.1.at hkb;have at0:b[k+1]≠0:=hb.2 _ (by rw[List.getLast?_eq_getElem?,hk];exact Ya hkb);unfold W at at1;obtain⟨s,hs,es,g1,g2⟩:=qq6 (y:=b[k+1]) (by omega) at1.2;have hp:=pow_pos (show(0:Int)<2 by omega) s;have hPk:=pow_pos W0 (k+1);rw[if_neg (by omega),show w64 ((b.length:Int)-1)=((k+1:Nat):Int)by rw[qh (by omega) (by omega)];omega,ql,Ya hkb,ZB,es,ZB];obtain⟨vb,e1,l1,d1,x1⟩:=qhG (N:=N) hb.1 (by omega) hs (by omega);obtain⟨ua,e2,l2,d2,x2⟩:=qhG (N:=N) ha.1 (by omega) hs (by omega);rw[e1,ZB,qcM d1 (by omega) (by omega),ZB,e2,ZB];have V0:0<dv W b*2^s:=Int.mul_pos hb0 hp
 have ebs:dv W b=dv W (b.take (k+1))+W^(k+1)*b[k+1]:=by
  have:=qy W b (k+1) hkb;rw[List.take_of_length_le (by omega)]at this;exact this
 have blo0:=qD W0 (hb.1.take (k+1));have blo1:=yY W0 (hb.1.take (k+1));rw[Ym,Nat.min_eq_left (by omega)]at blo1
 have Vlow:W^(k+1)*9223372036854775808<=dv W b*2^s:=by
  have h1:=Yc g1 (Int.le_of_lt hPk);rw[ebs,Int.add_mul,Int.mul_assoc];have:=Yv blo0 (Int.le_of_lt hp);omega
 have Vhigh:dv W b*2^s<W^(k+2):=by
  have h1:(dv W b)*2^s<W^(k+1)*((b[k+1]+1)*2^s):=by
   rw[<-Int.mul_assoc];refine YH ?_ hp;rw[ebs,Int.mul_add,Int.mul_one];omega
  have h2:(b[k+1]+1)*2^s<=18446744073709551616:=by
   have hpp:(2:Int)^(64-s)*2^s=18446744073709551616:=by
    rw[<-Int.pow_add,show 64-s+s=64 by omega];rfl
   have:b[k+1]<2^(64-s):=by
    rw[<-hpp]at g2;exact Int.lt_of_mul_lt_mul_right g2 (Int.le_of_lt hp)
   rw[<-hpp];exact Int.mul_le_mul_of_nonneg_right (by omega) (Int.le_of_lt hp)
  have h3:=Yc h2 (Int.le_of_lt hPk);rw[Int.pow_succ];show _<W^(k+1)*18446744073709551616;omega
 rw[x1];have cv:=zY W1 (Int.le_of_lt V0);have evv:=jU W1 (Int.le_of_lt V0)
 have lv:(dg W (dv W b*2^s)).length=k+2:=by
  have h1:=(qcX W1 (Int.le_of_lt V0) (n:=k+2)).2 Vhigh
  have h2:=(not_congr (qcX W1 (Int.le_of_lt V0) (n:=k+1))).2 (by
   have:W^(k+1)*1<=W^(k+1)*9223372036854775808:=Yc (by omega) (Int.le_of_lt hPk)
   omega)
  omega
 generalize hvv:dg W (dv W b*2^s)=v at*
 have hkv:k+1<v.length:=by omega
 have hn:9223372036854775808<=v[k+1]:=by
  have e:=qy W v (k+1) hkv;rw[List.take_of_length_le (by omega),evv]at e;have h1:=yY W0 (cv.1.take (k+1));rw[Ym,Nat.min_eq_left (by omega)]at h1
  have h2:W^(k+1)*9223372036854775808<W^(k+1)*(v[k+1]+1):=by rw[Int.mul_add,Int.mul_one];omega
  have:=Int.lt_of_mul_lt_mul_left h2 (Int.le_of_lt hPk);omega
 have htop:dv W (ua.drop (m+1))<dv W v:=by
  rw[evv];have e:=xc W ua (m+1) (by omega);have h1:=qD W0 (d2.take (m+1));have hA:=yY W0 ha.1
  have h2:dv W ua<W^(m+1)*(W^(k+1)*2^s):=by
   rw[x2,<-Int.mul_assoc,<-Int.pow_add,show m+1+(k+1)=a.length by omega];exact YH hA hp
  have hPm:=pow_pos W0 (m+1)
  have h3:W^(m+1)*dv W (ua.drop (m+1))<W^(m+1)*(W^(k+1)*2^s):=by omega
  have h4:=Int.lt_of_mul_lt_mul_left h3 (Int.le_of_lt hPm);have h5:W^(k+1)*2^s<=W^(k+1)*9223372036854775808:=Yc (yH (by omega) hs) (Int.le_of_lt hPk);omega
 rw[show w64 (w64 ((a.length:Int)-(v.length:Int))+1)=((m+1:Nat):Int)by rw[qh (n:=(a.length:Int)-(v.length:Int)) (by omega) (by omega),qh (by omega) (by omega)];omega,qbd (by omega),ZB,show w64 ((a.length:Int)-(v.length:Int))=((m+1:Nat):Int)-1 by rw[qh (by omega) (by omega)];omega];obtain⟨l,qs,f1,f2,f3,f4,f5,f6,f7⟩:=ql5 hN cv.1 lv (by omega) hn (A:=dv W ua) (m:=m) (by omega) N (m+1) ua (List.replicate (m+1) 0) (Nat.le_refl _) (by omega) (by omega) (by simp) d2 (Uo W0 _) (fun j x _ hx=>rep0 hx) htop (by rw[xK,Int.mul_zero,Int.add_zero]);rw[f1,ZB];simp only;rw[x2]at f7;rw[evv]at f6 f7;have hl0:=qD W0 f4
 have eq:dv W qs=dv W a/dv W b:=by
  rw[<-Int.mul_ediv_mul_of_pos_left (dv W a) (dv W b) hp,<-f7,Int.add_mul_ediv_left _ _ (by omega),Int.ediv_eq_zero_of_lt hl0 f6,Int.zero_add]
 have er:dv W l=dv W a%dv W b*2^s:=by
  have:(dv W a*2^s)%(dv W b*2^s)=dv W l:=by rw[<-f7,Int.add_mul_emod_self_left,Int.emod_eq_of_lt hl0 f6]
  rw[<-this,Int.mul_comm (dv W a),Int.mul_comm (dv W b),Int.mul_emod_mul_of_pos _ _ hp,Int.mul_comm]
 have hzl:dv W (l.drop (k+2))=0:=qeA f4 (by omega)
 have etk:dv W (l.take (k+2))=dv W l:=by
  have:=xc W l (k+2) (by omega);rw[hzl,Int.mul_zero,Int.add_zero]at this;exact this.symm
 have hkl:k+2<l.length:=by omega
 have hl2:l[k+2]%2^s=0:=by
  have h1:=qg4 l hkl;have h2:=qD W0 (f4.drop (k+2+1));have h3:=f4.at hkl;have h4:=Yv (Int.le_of_lt W0) h2
  have:l[k+2]=0:=by omega
  rw[this];exact Int.zero_emod _
 have h0l:0<l.length:=by omega
 have hl0m:l[0]%2^s=0:=by
  have h1:=qg4 l h0l;rw[YR,er]at h1
  have e63:W=2^(64-s)*2^s:=by
   rw[<-Int.pow_add,show 64-s+s=64 by omega];rfl
  have h2:l[0]=0+2^s*(dv W a%dv W b-2^(64-s)*dv W (l.drop (0+1))):=by
   rw[Int.mul_sub,<-Int.mul_assoc,Int.mul_comm (2^s) (2^(64-s)),<-e63,Int.mul_comm (2^s)];omega
  rw[h2,Int.add_mul_emod_self_left];exact Int.zero_emod _
 obtain⟨l4,j1,j2,j3,j4⟩:=qlP (o:=l) (v:=v) f4 hs (by omega) (by omega) (z:=0) hl0m.symm N 0 l (by omega) (by omega) rfl f4 (fun _ _=>rfl) (by
  rw[List.take_zero,ze,Ya h0l,YN,hl0m]
  simp)
 have j1:jR (s:Int) v N l 0=some l4:=j1;rw[lv,etk,Ya hkl,YN,hl2,Int.mul_zero,Int.add_zero,Int.sub_zero,er]at j4;have j5:=Int.eq_of_mul_eq_mul_right (by omega) j4;rw[j1,ZB,qcM f5 (by omega) (by omega),ZB,ym (by omega),ZB,lv,qcM (j3.take _) (by rw[Ym];omega) (by rw[Ym];omega),ZB,j5,eq]
end Go.Av
end
section
namespace Go.Av
def IsZ (x:qo) (z:Int):Prop:=(x.w=[]/\x.s=z/\ -9223372036854775808<=z/\z<=9223372036854775807)\/(x.w=dg W z.natAbs/\x.w≠[]/\9223372036854775808<=(z.natAbs:Int)/\x.s=if z<0 then-1 else 1)
abbrev Fit (z:Int) (n:Nat):Prop:=(z.natAbs:Int)<W^n
theorem Uf {z:Int} (h1: -9223372036854775808<=z) (h2:z<=9223372036854775807):IsZ ⟨z,[]⟩ z:= .inl ⟨rfl,rfl,h1,h2⟩
theorem Fit.len {z:Int} {n:Nat} (h:Fit z n):(dg W z.natAbs).length<=n:=(qcX W1 (by omega)).2 h
theorem Fit.mono {z:Int} {m n:Nat} (h:Fit z m) (hn:m<=n):Fit z n:=Int.lt_of_lt_of_le h (yH (by decide) hn)
theorem IsZ.sgn {x:qo} {z:Int} (h:IsZ x z):(x.s<0↔z<0)/\(0<x.s↔0<z)/\(x.s=0↔z=0):=by
 rcases h with⟨_,h,_,_⟩|⟨_,_,h1,h2⟩
 ·subst h;exact⟨Iff.rfl,Iff.rfl,Iff.rfl⟩
 split at h2<;>omega
theorem IsZ.emp {x:qo} {z:Int} (h:IsZ x z) (he:x.w.isEmpty=true):x.s=z/\ -9223372036854775808<=z/\z<=9223372036854775807:=by
 rcases h with⟨_,h⟩|⟨_,h,_⟩
 ·exact h
 exact absurd (List.isEmpty_iff.1 he) h
theorem qhM (n:Int):qcm n=some ⟨n,[]⟩:=rfl
theorem size_eq {n:Int} (h1: -9223372036854775808<=n) (h2:n<=9223372036854775807):qcs n=some (n.natAbs:Int):=by
 unfold qcs;by_cases h:n<0
 ·rw[if_pos h];congr 1
  have e:w64 (0-n)=(if n= -9223372036854775808 then-9223372036854775808 else-n):=by
   split
   ·rename_i e;subst e;rfl
   rw[qh (by omega) (by omega)];omega
  rw[e,wu];split<;>omega
 rw[if_neg h,vX (by omega) (by omega)];congr 1;omega
theorem parts_eq {x:qo} {z:Int} (h:IsZ x z):qG x=some (decide (z<0),dg W z.natAbs):=by
 unfold qG;have hs:=h.sgn;rcases h with⟨hw,hz,h1,h2⟩|⟨hw,hne,h1,h2⟩
 ·rw[hw,if_neg (by simp)];by_cases h0:x.s=0
  ·rw[if_pos h0]
   have:z=0:=by omega
   subst this;rfl
  rw[if_neg h0,hz,size_eq h1 h2,ZB,qi4 (by omega) (by unfold W;omega)]
 rw[if_pos (by cases e:x.w with|nil=>exact absurd e hne|cons a l=>rfl),<-hw];congr 2;exact decide_eq_decide.2 hs.1
theorem ql7 {m:Int} (h0:0<=m) (h:m<=9223372036854775807):w64 (0-w64 m)= -m:=by
 rw[qh (n:=m) (by omega) (by omega),qh (by omega) (by omega)];omega
theorem qdY (neg:Bool) {m:Int} (h:0<=m): ∃r,jX neg (dg W m)=some r/\IsZ r (if neg=true then-m else m):=by
 have hc:=zY W1 h;have hv:=jU W1 h;unfold jX
 cases hl:dg W m with
 |nil=>
  rw[hl,ze]at hv;subst hv;refine⟨⟨0,[]⟩,rfl,?_⟩
  have:(if neg=true then-(0:Int)else 0)=0:=by cases neg<;>rfl
  rw[this];exact Uf (by omega) (by omega)
 |cons a l=>
  rw[hl]at hc hv;have ha:=hc.1.head;rw[if_neg (by simp;omega)]
  have hm0:0<m:=by have:=hc.pos W1 (by simp);omega
  have big:9223372036854775808<=m-> ∀s:Int,s=(if(if neg=true then-m else m)<0 then-1 else 1)->IsZ ⟨s,a::l⟩ (if neg=true then-m else m):=by
   intro hm s hs
   have e:((if neg=true then-m else m).natAbs:Int)=m:=by split<;>omega
   exact .inr ⟨by rw[e];exact hl.symm,by simp,by omega,hs⟩
  cases l with
  |nil=>
   rw[zt,ze]at hv
   have hma:a=m:=by omega
   subst hma;have e0:idx [a] 0=some a:=rfl;by_cases hs:a<=9223372036854775807
   ·cases neg with
    |true=>
     simp only[Yr,List.length_nil,e0,ZB,if_pos hs];refine⟨⟨w64 (0-w64 a),[]⟩,by simp,?_⟩;rw[ql7 (by omega) hs];have q:=Uf (z:= -a) (by omega) (by omega);simpa using q
    |false=>
     simp only[Yr,List.length_nil,e0,ZB,if_pos hs,decide_eq_true hs];refine⟨⟨w64 a,[]⟩,by simp,?_⟩;rw[qh (by omega) (by omega)];have q:=Uf (z:=a) (by omega) (by omega);simpa using q
   simp only[Yr,List.length_nil,e0,ZB,if_neg hs,decide_eq_false hs]
   cases neg with
   |true=>exact⟨⟨-1,[a]⟩,by simp,big (by omega) _ (by simp;omega)⟩
   |false=>exact⟨⟨1,[a]⟩,by simp,big (by omega) _ (by simp;omega)⟩
  |cons b l=>
   have hm:9223372036854775808<=m:=by
    have:=hc.low W1 (n:=l.length+1) (by simp);have h2:=yH (show(1:Int)<=W by decide) (show 1<=l.length+1 by omega);rw[Int.pow_one]at h2;rw[hv]at this;unfold W at h2 this;omega
   have hl1: ¬(((a::b::l).length:Int)=1):=by simp;omega
   simp only[if_neg hl1,ZB,ZF,if_false]
   cases neg with
   |true=>exact⟨⟨-1,a::b::l⟩,by simp,big hm _ (by simp;omega)⟩
   |false=>exact⟨⟨1,a::b::l⟩,by simp,big hm _ (by simp;omega)⟩
theorem qgt {x:qo} {z:Int} (h:IsZ x z): ∃r,zx x=some r/\IsZ r (-z):=by
 have hp:=parts_eq h;obtain⟨r,e,hr⟩:=qdY (!decide (z<0)) (m:=(z.natAbs:Int)) (by omega)
 have ez:(if(!decide (z<0))=true then-(z.natAbs:Int)else(z.natAbs:Int))= -z:=by
  by_cases hz:z<0
  ·rw[decide_eq_true hz,if_neg (by simp)];omega
  rw[decide_eq_false hz,if_pos (by simp)];omega
 rw[ez]at hr;unfold zx
 cases he:x.w.isEmpty with
 |true=>
  obtain⟨h1,h2,h3⟩:=h.emp he;rw[if_pos rfl,ZB];by_cases hm:x.s= -9223372036854775808
  ·rw[if_neg (by simp[hm]),hp,ZB,e,ZB];exact⟨r,rfl,hr⟩
  rw[if_pos (by simp[hm]),qh (by omega) (by omega),show 0-x.s= -z by omega];exact⟨_,rfl,Uf (by omega) (by omega)⟩
 |false=>
  rw[if_neg (by simp),ZB,if_neg (by simp),hp,ZB,e,ZB];exact⟨r,rfl,hr⟩
theorem qpg {x:qo} {z:Int} (h:IsZ x z): ∃r,qa0 x=some r/\IsZ r (z.natAbs:Int):=by
 unfold qa0;by_cases hz:z<0
 ·obtain⟨r,e,hr⟩:=qgt h;rw[if_pos (h.sgn.1.2 hz),e,ZB];refine⟨r,rfl,?_⟩;rw[show(z.natAbs:Int)= -z by omega];exact hr
 rw[if_neg (fun c=>hz (h.sgn.1.1 c))];refine⟨x,rfl,?_⟩;rw[show(z.natAbs:Int)=z by omega];exact h
theorem qe0 {x:qo} {z:Int} (h:IsZ x z):ky x=some (if z<0 then-1 else if z=0 then 0 else 1):=by
 have hs:=h.sgn;unfold ky;congr 1
 repeat' split
 all_goals omega
theorem qh4 {N:Nat} (hN:11000<N) {x y:qo} {a b:Int} (hx:IsZ x a) (hy:IsZ y b) (ha:Fit a 4000) (hb:Fit b 4000): ∃r,vH N x y=some r/\IsZ r (a+b):=by
 have px:=parts_eq hx;have py:=parts_eq hy;have la:=ha.len;have lb:=hb.len;have ca:=zY W1 (show 0<=(a.natAbs:Int)by omega);have cb:=zY W1 (show 0<=(b.natAbs:Int)by omega);have va:=jU W1 (show 0<=(a.natAbs:Int)by omega);have vb:=jU W1 (show 0<=(b.natAbs:Int)by omega)
 have long: ∃r,((qG x).bind fun r8=>
  (qG y).bind fun r9=>
  if(r8.1==r9.1)=true then
  (qaA N r8.2 r9.2).bind fun r11=>
  (jX r8.1 r11).bind fun r12=>
  some r12
  else
  (jK N r8.2 r9.2).bind fun r13=>
  if r13>=0 then
  (yI N r8.2 r9.2).bind fun r15=>
  (jX r8.1 r15).bind fun r16=>
  some r16
  else
  (yI N r9.2 r8.2).bind fun r17=>
  (jX r9.1 r17).bind fun r18=>
  some r18)=some r/\IsZ r (a+b):=by
  rw[px,ZB,py,ZB];by_cases hs:(a<0↔b<0)
  ·rw[if_pos (by rw[beq_iff_eq];exact decide_eq_decide.2 hs),qkl ca.1 cb.1 (by omega) (by omega) (by omega) (by omega),ZB,va,vb];obtain⟨r,e,hr⟩:=qdY (decide (a<0)) (m:=(a.natAbs:Int)+(b.natAbs:Int)) (by omega);rw[e,ZB];refine⟨r,rfl,?_⟩
   have:(if decide (a<0)=true then-((a.natAbs:Int)+(b.natAbs:Int))else(a.natAbs:Int)+(b.natAbs:Int))=a+b:=by
    simp only[decide_eq_true_eq];split<;>omega
   rw[this]at hr;exact hr
  rw[if_neg (by rw[beq_iff_eq];exact fun c=>hs (decide_eq_decide.1 c)),qd9 ca cb (by omega) (by omega),ZB,va,vb];by_cases hc:(a.natAbs:Int)<(b.natAbs:Int)
  ·rw[if_pos hc,if_neg (by omega),qgH cb ca (by omega) (by omega) (by omega),ZB,va,vb];obtain⟨r,e,hr⟩:=qdY (decide (b<0)) (m:=(b.natAbs:Int)-(a.natAbs:Int)) (by omega);rw[e,ZB];refine⟨r,rfl,?_⟩
   have:(if decide (b<0)=true then-((b.natAbs:Int)-(a.natAbs:Int))else(b.natAbs:Int)-(a.natAbs:Int))=a+b:=by
    simp only[decide_eq_true_eq];split<;>omega
   rw[this]at hr;exact hr
  rw[if_neg hc,if_pos (by split<;>omega),qgH ca cb (by omega) (by omega) (by omega),ZB,va,vb];obtain⟨r,e,hr⟩:=qdY (decide (a<0)) (m:=(a.natAbs:Int)-(b.natAbs:Int)) (by omega);rw[e,ZB];refine⟨r,rfl,?_⟩
  have:(if decide (a<0)=true then-((a.natAbs:Int)-(b.natAbs:Int))else(a.natAbs:Int)-(b.natAbs:Int))=a+b:=by
   simp only[decide_eq_true_eq];split<;>omega
  rw[this]at hr;exact hr
 unfold vH
 cases ex:x.w.isEmpty with
 |false=>
  rw[if_neg (by simp),ZB,if_neg (by simp),ZB];exact long
 |true=>
  rw[if_pos rfl,ZB]
  cases ey:y.w.isEmpty with
  |false=>
   rw[if_neg (by simp),ZB];exact long
  |true=>
   obtain⟨h1,h2,h3⟩:=hx.emp ex;obtain⟨k1,k2,k3⟩:=hy.emp ey;rw[if_pos rfl,h1,k1];by_cases hi: -9223372036854775808<=a+b/\a+b<=9223372036854775807
   ·have e:w64 (a+b)=a+b:=qh hi.1 hi.2;rw[e,if_pos (by rw[beq_iff_eq];exact decide_eq_decide.2 (by omega)),ZB];exact⟨_,rfl,Uf hi.1 hi.2⟩
   have e:w64 (a+b)=a+b-18446744073709551616\/w64 (a+b)=a+b+18446744073709551616:=by
    unfold w64 at*;simp only[wrap,IntKind.bits,IntKind.signed];simp;split<;>omega
   have hne: ¬((decide (w64 (a+b)>a)==decide (b>0))=true):=by
    rw[beq_iff_eq];intro c;have c:=decide_eq_decide.1 c
    have hw: -9223372036854775808<=w64 (a+b)/\w64 (a+b)<=9223372036854775807:=by
     simp only[wrap,IntKind.bits,IntKind.signed];simp;split<;>omega
    omega
   rw[if_neg hne,ZB];exact long
theorem qoX {N:Nat} (hN:11000<N) {x y:qo} {a b:Int} (hx:IsZ x a) (hy:IsZ y b) (ha:Fit a 4000) (hb:Fit b 4000): ∃r,xq N x y=some r/\IsZ r (a-b):=by
 obtain⟨n,e,hn⟩:=qgt hy;obtain⟨r,e2,hr⟩:=qh4 hN hx hn ha (by unfold Fit;rw[Int.natAbs_neg];exact hb);unfold xq;rw[e,ZB,e2,ZB];exact⟨r,rfl,by rw[Int.sub_eq_add_neg];exact hr⟩
theorem qrh {N:Nat} (hN:11000<N) {x y:qo} {a b:Int} (hx:IsZ x a) (hy:IsZ y b) (ha:Fit a 4000) (hb:Fit b 4000):qbS N x y=some (if a<b then-1 else if a=b then 0 else 1):=by
 obtain⟨r,e,hr⟩:=qoX hN hx hy ha hb
 have long:((xq N x y).bind fun r7=>(ky r7).bind fun r8=>some r8)=some (if a<b then-1 else if a=b then 0 else 1):=by
  rw[e,ZB,qe0 hr,ZB];congr 1
  repeat' split
  all_goals omega
 unfold qbS
 cases ex:x.w.isEmpty with
 |false=>
  rw[if_neg (by simp),ZB,if_neg (by simp)];exact long
 |true=>
  rw[if_pos rfl,ZB]
  cases ey:y.w.isEmpty with
  |false=>
   rw[if_neg (by simp)];exact long
  |true=>
   obtain⟨h1,_,_⟩:=hx.emp ex;obtain⟨k1,_,_⟩:=hy.emp ey;rw[if_pos rfl,h1,k1];by_cases c:a<b
   ·rw[if_pos c,if_pos c]
   rw[if_neg c,if_neg c];by_cases d:a=b
   ·rw[if_neg (by omega),if_pos d]
   rw[if_pos (by omega),if_neg d]
theorem qec {N:Nat} (hN:11000<N) {x y:qo} {a b:Int} (hx:IsZ x a) (hy:IsZ y b) (ha:Fit a 4000) (hb:Fit b 4000): ∃r,qM N x y=some r/\IsZ r (a*b):=by
 have px:=parts_eq hx;have py:=parts_eq hy;have la:=ha.len;have lb:=hb.len;have ca:=zY W1 (show 0<=(a.natAbs:Int)by omega);have cb:=zY W1 (show 0<=(b.natAbs:Int)by omega);have va:=jU W1 (show 0<=(a.natAbs:Int)by omega);have vb:=jU W1 (show 0<=(b.natAbs:Int)by omega)
 have hab:(a.natAbs:Int)*(b.natAbs:Int)=((a*b).natAbs:Int):=by rw[Int.natAbs_mul,Int.natCast_mul]
 have sg:(if(!((decide (a<0))==(decide (b<0))))=true then-((a*b).natAbs:Int)else((a*b).natAbs:Int))=a*b:=by
  by_cases h1:a<0
  ·by_cases h2:b<0
   ·have:=Int.mul_pos_of_neg_of_neg h1 h2;rw[decide_eq_true h1,decide_eq_true h2,if_neg (by simp)];omega
   have:=Int.mul_nonpos_of_nonpos_of_nonneg (show a<=0 by omega) (show 0<=b by omega);rw[decide_eq_true h1,decide_eq_false h2,if_pos (by simp)];omega
  by_cases h2:b<0
  ·have:=Int.mul_nonpos_of_nonneg_of_nonpos (show 0<=a by omega) (show b<=0 by omega);rw[decide_eq_false h1,decide_eq_true h2,if_pos (by simp)];omega
  have:=Yv (show 0<=a by omega) (show 0<=b by omega);rw[decide_eq_false h1,decide_eq_false h2,if_neg (by simp)];omega
 have long: ∃r,((qG x).bind fun r15=>
  (qG y).bind fun r16=>
  (qav N r15.2 r16.2).bind fun r17=>
  (jX (!(r15.1==r16.1)) r17).bind fun r18=>
  some r18)=some r/\IsZ r (a*b):=by
  rw[px,ZB,py,ZB,qjW ca.1 cb.1 (by omega) (by omega) (by omega),ZB,va,vb,hab];obtain⟨r,e,hr⟩:=qdY (!((decide (a<0))==(decide (b<0)))) (m:=((a*b).natAbs:Int)) (by omega);rw[sg]at hr;rw[e,ZB];exact⟨r,rfl,hr⟩
 unfold qM
 cases ex:x.w.isEmpty with
 |false=>
  rw[if_neg (by simp),ZB,if_neg (by simp),ZB];exact long
 |true=>
  rw[if_pos rfl,ZB]
  cases ey:y.w.isEmpty with
  |false=>
   rw[if_neg (by simp),ZB];exact long
  |true=>
   obtain⟨h1,h2,h3⟩:=hx.emp ex;obtain⟨k1,k2,k3⟩:=hy.emp ey;rw[if_pos rfl,h1,k1,size_eq h2 h3,ZB,size_eq k2 k3,ZB,qfO (by omega) (by omega),ZB,hab];by_cases hi:((a*b).natAbs:Int)/18446744073709551616=0
   ·rw[if_pos hi,ZB];by_cases hj:((a*b).natAbs:Int)%18446744073709551616<=9223372036854775807
    ·have em:((a*b).natAbs:Int)%18446744073709551616=((a*b).natAbs:Int):=by omega
     rw[decide_eq_true hj,if_pos rfl,em];by_cases hs:(!((decide (a<0))==(decide (b<0))))=true
     ·rw[if_pos hs]at sg;rw[if_pos hs,ZB,ql7 (by omega) (by omega),sg];exact⟨_,rfl,Uf (by omega) (by omega)⟩
     rw[if_neg hs]at sg;rw[if_neg hs,ZB,qh (by omega) (by omega),sg];exact⟨_,rfl,Uf (by omega) (by omega)⟩
    rw[decide_eq_false hj,if_neg (by simp),ZB];exact long
   rw[if_neg hi,ZB,if_neg (by simp),ZB];exact long
theorem qgp {N:Nat} (hN:11000<N) {x y:qo} {a b:Int} (hx:IsZ x a) (hy:IsZ y b) (ha:Fit a 3900) (hb:Fit b 3900) (hb0:0<b): ∃q r,jv N x y=some (q,r)/\IsZ q (a/b)/\IsZ r (a%b):=by
 have px:=parts_eq hx;have py:=parts_eq hy;have la:=ha.len;have lb:=hb.len;have ca:=zY W1 (show 0<=(a.natAbs:Int)by omega);have cb:=zY W1 (show 0<=(b.natAbs:Int)by omega);have va:=jU W1 (show 0<=(a.natAbs:Int)by omega);have vb:=jU W1 (show 0<=(b.natAbs:Int)by omega)
 have eb:(b.natAbs:Int)=b:=by omega
 have m0:=Int.emod_nonneg (a.natAbs:Int) (show b≠0 by omega);have m1:=Int.emod_lt_of_pos (a.natAbs:Int) hb0;have q0:0<=(a.natAbs:Int)/b:=Int.ediv_nonneg (by omega) (by omega);have q1:(a.natAbs:Int)/b<=(a.natAbs:Int):=Int.ediv_le_self _ (by omega);have dm:=Int.mul_ediv_add_emod (a.natAbs:Int) b
 have long: ∃q r,((qG x).bind fun r12=>
  (qG y).bind fun r13=>
  (qaY N r12.2 r13.2).bind fun r14=>
  (jX r12.1 r14.1).bind fun r15=>
  (jX r12.1 r14.2).bind fun r16=>
  (ky r16).bind fun r17=>
  ((if r17<0 then
  (qcm 1).bind fun r24=>
  (xq N r15 r24).bind fun r25=>
  (vH N r16 y).bind fun r26=>
  some (r25.s,r25.w,r26.s,r26.w)
  else
  some (r15.s,r15.w,r16.s,r16.w):Option (Int×(List Int)×Int×(List Int)))).bind fun(n18,l19,n20,l21)=>
  some ((⟨n18,l19⟩:qo),(⟨n20,l21⟩:qo)))=some (q,r)/\IsZ q (a/b)/\IsZ r (a%b):=by
  rw[px,ZB,py,ZB,qiJ hN ca cb (by omega) (by rw[vb,eb];exact hb0),ZB,va,vb,eb];obtain⟨q,e1,hq⟩:=qdY (decide (a<0)) q0;obtain⟨r,e2,hr⟩:=qdY (decide (a<0)) m0;simp only;rw[e1,ZB,e2,ZB,qe0 hr,ZB];by_cases hz:a<0
  ·rw[decide_eq_true hz,if_pos rfl]at hq hr;by_cases hm:(a.natAbs:Int)%b=0
   ·rw[hm]at hr dm;have:=Int.ediv_emod_unique (a:=a) (b:=b) (r:=0) (q:= -((a.natAbs:Int)/b)) hb0;have u:=this.2 ⟨by rw[Int.mul_neg];omega,by omega,hb0⟩;rw[u.1,u.2,decide_eq_true hz,if_pos rfl,hm];simp only[Int.neg_zero,Int.lt_irrefl,if_false,if_true,ZB];exact⟨q,r,rfl,hq,hr⟩
   have u:=(Int.ediv_emod_unique (a:=a) (b:=b) (r:=b-(a.natAbs:Int)%b) (q:= -((a.natAbs:Int)/b)-1) hb0).2 ⟨by rw[Int.mul_sub,Int.mul_neg,Int.mul_one];omega,by omega,by omega⟩;rw[u.1,u.2,decide_eq_true hz,if_pos rfl,if_pos (by omega),qhM,ZB]
   have f1:Fit (-((a.natAbs:Int)/b)) 4000:=by
    refine Fit.mono (m:=3900) ?_ (by omega);unfold Fit at ha⊢;omega
   have f2:Fit (-((a.natAbs:Int)%b)) 4000:=by
    refine Fit.mono (m:=3900) ?_ (by omega);unfold Fit at hb⊢;omega
   have f0:Fit 1 4000:=by
    have:=yH (show(1:Int)<=W by decide) (show 1<=4000 by omega);rw[Int.pow_one]at this
    have hw:(1:Int)<=W-1:=by decide
    have hw2: -W< -(1:Int):=by decide
    unfold Fit;omega
   obtain⟨q2,g1,hq2⟩:=qoX hN hq (Uf (z:=1) (by omega) (by omega)) f1 f0;obtain⟨r2,g2,hr2⟩:=qh4 hN hr hy f2 (hb.mono (by omega));rw[g1,ZB,g2,ZB,ZB];refine⟨q2,r2,rfl,hq2,?_⟩;rw[show b-(a.natAbs:Int)%b= -((a.natAbs:Int)%b)+b by omega];exact hr2
  rw[decide_eq_false hz,if_neg (by simp)]at hq hr
  have ea:(a.natAbs:Int)=a:=by omega
  rw[ea]at hq hr m0
  have hm': ¬((a.natAbs:Int)%b<0):=by rw[ea];omega
  rw[decide_eq_false hz,if_neg (by rw[if_neg (show¬(false=true)by simp),if_neg hm'];split<;>omega),ZB];exact⟨q,r,rfl,hq,hr⟩
 unfold jv
 cases ex:x.w.isEmpty with
 |false=>
  rw[if_neg (by simp),ZB,if_neg (by simp)];exact long
 |true=>
  rw[if_pos rfl]
  cases ey:y.w.isEmpty with
  |false=>
   rw[if_neg (by simp),ZB,if_neg (by simp)];exact long
  |true=>
   obtain⟨h1,h2,h3⟩:=hx.emp ex;obtain⟨k1,k2,k3⟩:=hy.emp ey;rw[if_pos rfl,ZB];by_cases hm:x.s= -9223372036854775808
   ·rw[if_neg (by simp[hm])];exact long
   rw[if_pos (by simp[hm]),h1,k1]
   have b1: -9223372036854775807<=a:=by omega
   have d1:=Int.mul_ediv_add_emod a b;have d2:=Int.emod_nonneg a (show b≠0 by omega);have d3:=Int.emod_lt_of_pos a hb0;have t1:=Int.mul_tdiv_add_tmod a b
   have hq:qco .i64 a b=some (a.tdiv b):=by
    unfold qco;have h4:=Int.natAbs_tdiv_le_natAbs a b;rw[if_neg (by omega)];show some (w64 _)=_;rw[qh (by omega) (by omega)]
   have hr:qeG .i64 a b=some (a.tmod b):=by
    unfold qeG;rw[if_neg (by omega)]
   have h4:=Int.natAbs_tdiv_le_natAbs a b;rw[hq,ZB,hr,ZB]
   have t2:a.tmod b=if 0<=a\/b∣a then a%b else a%b-b:=by
    rw[Int.tmod_eq_emod];have:(b.natAbs:Int)=b:=eb;split<;>omega
   have t3:a.tdiv b=if 0<=a\/b∣a then a/b else a/b+1:=by
    rw[Int.tdiv_eq_ediv];have:b.sign=1:=Int.sign_eq_one_of_pos hb0;split<;>omega
   by_cases hc:0<=a\/b∣a
   ·rw[if_pos hc]at t2 t3;rw[t2,t3,if_neg (by omega),ZB];rw[t3]at h4;exact⟨_,_,rfl,Uf (by omega) (by omega),Uf (by omega) (by omega)⟩
   rw[if_neg hc]at t2 t3;rw[t3]at h4
   have e1:w64 (a/b+1-1)=a/b:=by rw[qh (by omega) (by omega)];omega
   have e2:w64 (a%b-b+b)=a%b:=by rw[qh (by omega) (by omega)];omega
   rw[t2,t3,if_pos (by omega),ZB,e1,e2]
   have h5: -9223372036854775808<=a/b/\a/b<=9223372036854775807:=by
    constructor
    ·omega
    omega
   exact⟨_,_,rfl,Uf h5.1 h5.2,Uf (by omega) (by omega)⟩
end Go.Av
end
section
namespace Go.Av
theorem qdb {a b:Int} (ha:0<=a) (hb:0<=b):Int.gcd a b=Int.gcd b (a%b):=by
 obtain⟨m,rfl⟩:=Int.eq_ofNat_of_zero_le ha;obtain⟨n,rfl⟩:=Int.eq_ofNat_of_zero_le hb;show Nat.gcd m n=Nat.gcd n (m%n);rw[Nat.gcd_comm m n,Nat.gcd_rec n m,Nat.gcd_comm]
theorem qd0 {a b:Int} {n:Nat} (h:(a.natAbs:Int)<=(b.natAbs:Int)) (k:Fit b n):Fit a n:=Int.lt_of_le_of_lt h k
theorem qoz {N:Nat} (hN:11000<N) (B:Nat) (hB:B<=3900): ∀(k K:Nat) (x y:qo) (a b:Int),IsZ x a->IsZ y b->0<=a->0<=b->b<2^k->2*k+2<=K->Fit a B->Fit b B->
 ∃g:qo,yz N K x.s x.w y.s y.w=some (g.s,g.w)/\IsZ g (Int.gcd a b:Int)
 |k,0,x,y,a,b,_,_,_,_,_,hK,_,_=>by omega
 |k,K+1,x,y,a,b,hx,hy,ha,hb,hk,hK,fa,fb=>by
  have sg:=qe0 hy
  have done:b=0-> ∃g:qo,yz N (K+1) x.s x.w y.s y.w=some (g.s,g.w)/\IsZ g (Int.gcd a b:Int):=by
   intro h0;rw[h0,if_neg (by omega),if_pos rfl]at sg;have sg:ky ⟨y.s,y.w⟩=some 0:=sg;rw[yz,sg,ZB,if_neg (by simp)];refine⟨x,rfl,?_⟩;rw[h0,Int.gcd_zero,show(a.natAbs:Int)=a by omega];exact hx
  rcases(show b=0\/0<b by omega)with h0|h0
  ·exact done h0
  match k,hk,hK with
  |0,hk,hK=>simp at hk;omega
  |k+1,hk,hK=>
   rw[if_neg (by omega),if_neg (by omega)]at sg;have sg:ky ⟨y.s,y.w⟩=some 1:=sg;have m0:=Int.emod_nonneg a (show b≠0 by omega);have m1:=Int.emod_lt_of_pos a h0;obtain⟨q,r,e,hq,hr⟩:=qgp hN hx hy (fa.mono hB) (fb.mono hB) h0;have e:jv N ⟨x.s,x.w⟩ ⟨y.s,y.w⟩=some (q,r):=e;rw[yz,sg,ZB,if_pos (by simp),e,ZB];have fr:Fit (a%b) B:=qd0 (by omega) fb;simp only;rw[qdb ha hb]
   match K,hK with
   |0,hK=>omega
   |K+1,hK=>
    have sr:=qe0 hr;rcases(show a%b=0\/0<a%b by omega)with g0|g0
    ·rw[g0,if_neg (by omega),if_pos rfl]at sr;have sr:ky ⟨r.s,r.w⟩=some 0:=sr;rw[yz,sr,ZB,if_neg (by simp)];refine⟨y,rfl,?_⟩;rw[g0,Int.gcd_zero,show(b.natAbs:Int)=b by omega];exact hy
    rw[if_neg (by omega),if_neg (by omega)]at sr;have sr:ky ⟨r.s,r.w⟩=some 1:=sr;obtain⟨q2,r2,e2,hq2,hr2⟩:=qgp hN hy hr (fb.mono hB) (fr.mono hB) g0;have e2:jv N ⟨y.s,y.w⟩ ⟨r.s,r.w⟩=some (q2,r2):=e2;rw[yz,sr,ZB,if_pos (by simp),e2,ZB];have n0:=Int.emod_nonneg b (show a%b≠0 by omega);have n1:=Int.emod_lt_of_pos b g0
    have hhalf:b%(a%b)<2^k:=by
     have d1:=Int.mul_ediv_add_emod b (a%b)
     have d2:1<=b/(a%b):=by
      rw[Int.le_ediv_iff_mul_le g0];omega
     have d3:a%b*1<=a%b*(b/(a%b)):=Yc d2 (by omega);rw[Int.pow_succ]at hk;omega
    simp only;rw[qdb hb m0];exact qoz hN B hB k K r r2 (a%b) (b%(a%b)) hr hr2 m0 n0 hhalf (by omega) fr (qd0 (by omega) fr)
theorem qof {N:Nat} (hN:600000<N) {x y:qo} {a b:Int} (hx:IsZ x a) (hy:IsZ y b) (fa:Fit a 3900) (fb:Fit b 3900): ∃g,qcN N x y=some g/\IsZ g (Int.gcd a b:Int):=by
 obtain⟨x',e1,hx'⟩:=qpg hx;obtain⟨y',e2,hy'⟩:=qpg hy
 have hb:(b.natAbs:Int)<2^(64*3900):=by
  have e:W^3900=2^(64*3900):=by
   rw[Int.pow_mul];rfl
  unfold Fit at fb;rw[<-e];exact fb
 obtain⟨g,e3,hg⟩:=qoz (N:=N) (by omega) 3900 (Nat.le_refl _) (64*3900) N x' y' _ _ hx' hy' (by omega) (by omega) hb (by omega) (by unfold Fit;rw[Int.natAbs_natCast];exact fa) (by unfold Fit;rw[Int.natAbs_natCast];exact fb);unfold qcN;rw[e1,ZB,e2,ZB,e3,ZB];refine⟨g,rfl,?_⟩;rw[show Int.gcd a b=Int.gcd (a.natAbs:Int) (b.natAbs:Int)from rfl];exact hg
theorem qoi {N:Nat} (hN:11000<N) {x y:qo} {a b:Int} (hx:IsZ x a) (hy:IsZ y b) (fa:Fit a 3900) (fb:Fit b 3900) (hb:0<b): ∃q,vW N x y=some q/\IsZ q (a/b):=by
 obtain⟨q,r,e,hq,_⟩:=qgp hN hx hy fa fb hb;have e:jv N ⟨x.s,x.w⟩ ⟨y.s,y.w⟩=some (q,r):=e;unfold vW;rw[qe0 hy,ZB,if_neg (by split<;>omega),ZB];simp only;rw[e,ZB];exact⟨q,rfl,hq⟩
def IsF (f:qj) (q:Rat):Prop:=IsZ f.Num q.num/\IsZ f.Den (q.den:Int)
abbrev xI (q:Rat) (n:Nat):Prop:=Fit q.num n/\Fit (q.den:Int) n
theorem xI.mono {q:Rat} {m n:Nat} (h:xI q m) (hn:m<=n):xI q n:=⟨h.1.mono hn,h.2.mono hn⟩
theorem xG (a:Int) {g:Int} (hg:0<g):((a/g).natAbs:Int)<=(a.natAbs:Int):=by
 have:=Int.natAbs_ediv_le_natAbs a g;omega
theorem qhw {a b:Int} {n:Nat} (hb:b≠0) (fa:Fit a n) (fb:Fit b n):xI (Rat.divInt a b) n:=by
 have hg:0<Int.gcd b a:=Int.gcd_pos_of_ne_zero_left _ hb;constructor
 ·rw[Rat.num_divInt];refine qd0 (Int.le_trans (xG _ (by omega)) ?_) fa;rw[Int.natAbs_mul,Int.natAbs_sign_of_ne_zero hb,Nat.one_mul];exact Int.le_refl _
 rw[Rat.den_divInt,if_neg hb];have:=Nat.div_le_self b.natAbs (Int.gcd b a);refine qd0 ?_ fb;rw[Int.natAbs_natCast];omega
theorem qi6 {N:Nat} (hN:600000<N) {x y:qo} {a b:Int} (hx:IsZ x a) (hy:IsZ y b) (fa:Fit a 3900) (fb:Fit b 3900) (hb:b≠0): ∃f,qbJ N x y=some f/\IsF f (Rat.divInt a b):=by
 have hg:0<Int.gcd b a:=Int.gcd_pos_of_ne_zero_left _ hb
 have S: ∃n d:qo,(if(if b<0 then-1 else if b=0 then 0 else(1:Int))<0 then
  (zx x).bind fun r8=>(zx y).bind fun r9=>some (r8.s,r8.w,r9.s,r9.w)
  else some (x.s,x.w,y.s,y.w):Option (Int×(List Int)×Int×(List Int)))=some (n.s,n.w,d.s,d.w)/\IsZ n (b.sign*a)/\IsZ d (b.natAbs:Int):=by
  by_cases h:b<0
  ·obtain⟨n,e1,h1⟩:=qgt hx;obtain⟨d,e2,h2⟩:=qgt hy;rw[if_pos h,if_pos (by omega),e1,ZB,e2,ZB];refine⟨n,d,rfl,?_,?_⟩
   ·rw[Int.sign_eq_neg_one_of_neg h,Int.neg_mul,Int.one_mul];exact h1
   rw[show(b.natAbs:Int)= -b by omega];exact h2
  rw[if_neg h,if_neg (by split<;>omega)];refine⟨x,y,rfl,?_,?_⟩
  ·rw[Int.sign_eq_one_of_pos (by omega),Int.one_mul];exact hx
  rw[show(b.natAbs:Int)=b by omega];exact hy
 obtain⟨n,d,e,hn,hd⟩:=S;unfold qbJ;rw[qe0 hy,ZB,e,ZB];simp only
 have ha:((b.sign*a).natAbs:Int)=(a.natAbs:Int):=by rw[Int.natAbs_mul,Int.natAbs_sign_of_ne_zero hb,Nat.one_mul]
 have fn:Fit (b.sign*a) 3900:=qd0 (by omega) fa;have fd:Fit (b.natAbs:Int) 3900:=qd0 (by omega) fb
 have long: ∃f,((qcN N (⟨n.s,n.w⟩:qo) (⟨d.s,d.w⟩:qo)).bind fun r14=>
  (vW N (⟨n.s,n.w⟩:qo) r14).bind fun r15=>
  (vW N (⟨d.s,d.w⟩:qo) r14).bind fun r16=>
  some (⟨r15,r16⟩:qj))=some f/\IsF f (Rat.divInt a b):=by
  obtain⟨g,e1,h1⟩:=qof hN hn hd fn fd
  have eg:Int.gcd (b.sign*a) (b.natAbs:Int)=Int.gcd b a:=by
   rw[Int.gcd_comm];show Nat.gcd (b.natAbs:Int).natAbs (b.sign*a).natAbs=Nat.gcd b.natAbs a.natAbs;rw[show(b.sign*a).natAbs=a.natAbs by omega];rfl
  rw[eg]at h1
  have fg:Fit (Int.gcd b a:Int) 3900:=by
   have:Int.gcd b a<=b.natAbs:=Nat.le_of_dvd (by omega) (Int.gcd_dvd_natAbs_left b a);exact qd0 (by rw[Int.natAbs_natCast];omega) fb
  obtain⟨p,e2,h2⟩:=qoi (N:=N) (by omega) hn h1 fn fg (by omega);obtain⟨q,e3,h3⟩:=qoi (N:=N) (by omega) hd h1 fd fg (by omega);have e1:qcN N (⟨n.s,n.w⟩:qo) (⟨d.s,d.w⟩:qo)=some g:=e1;have e2:vW N (⟨n.s,n.w⟩:qo) g=some p:=e2;have e3:vW N (⟨d.s,d.w⟩:qo) g=some q:=e3;rw[e1,ZB,e2,ZB,e3,ZB];refine⟨⟨p,q⟩,rfl,?_,?_⟩
  ·rw[Rat.num_divInt];exact h2
  rw[Rat.den_divInt,if_neg hb,Int.natCast_ediv];exact h3
 have hs:=hd.sgn
 cases ed:d.w.isEmpty with
 |false=>
  rw[if_neg (by simp),ZB,if_neg (by simp)];exact long
 |true=>
  obtain⟨h1,h2,h3⟩:=hd.emp ed;rw[if_pos rfl,ZB];by_cases h:d.s=1
  ·rw[if_pos (by simp[h])]
   have hb1:b.natAbs=1:=by omega
   have eg:Int.gcd b a=1:=by
    show Nat.gcd b.natAbs a.natAbs=1;rw[hb1,Nat.gcd_one_left]
   refine⟨⟨⟨n.s,n.w⟩,⟨d.s,d.w⟩⟩,rfl,?_,?_⟩
   ·rw[Rat.num_divInt,eg,Int.natCast_one,Int.ediv_one];exact hn
   rw[Rat.den_divInt,if_neg hb,eg,Nat.div_one];exact hd
  rw[if_neg (by simp[h])];exact long
theorem F1 {n:Nat} (h:1<=n):Fit 1 n:=by
 have:=yH (show(1:Int)<=W by decide) h;rw[Int.pow_one]at this
 have hw:(1:Int)<=W-1:=by decide
 have hw2: -W< -(1:Int):=by decide
 unfold Fit;omega
theorem qh0 {x:qo} {z:Int} (h:IsZ x z): ∃f,qbu x=some f/\IsF f (z:Rat):=by
 unfold qbu;rw[qhM,ZB];exact⟨_,rfl,h,Uf (by decide) (by decide)⟩
theorem qfD {f:qj} {q:Rat} (h:IsF f q):jL f=some (decide (q.den=1)):=by
 have hs:=h.2.sgn;have hd:=q.den_pos;unfold jL
 cases ed:f.Den.w.isEmpty with
 |true=>
  obtain⟨h1,_,_⟩:=h.2.emp ed;rw[if_pos rfl,ZB];congr 1;exact decide_eq_decide.2 (by omega)
 |false=>
  rw[if_neg (by simp),ZB];rcases h.2 with⟨hw,_⟩|⟨_,_,h1,_⟩
  ·rw[hw]at ed;simp at ed
  rw[decide_eq_false (by omega)]
theorem qb7 {a b:Int} {m n:Nat} (ha:Fit a m) (hb:Fit b n):Fit (a*b) (m+n):=by
 unfold Fit at*;rw[Int.natAbs_mul,Int.natCast_mul,Int.pow_add];have h1:(a.natAbs:Int)*(b.natAbs:Int)<=(a.natAbs:Int)*W^n:=Yc (Int.le_of_lt hb) (by omega);have h2:(a.natAbs:Int)*W^n<W^m*W^n:=YH ha (pow_pos W0 n);omega
theorem qpM {a b:Int} {n:Nat} (ha:Fit a n) (hb:Fit b n):Fit (a+b) (n+1):=by
 unfold Fit at*;rw[Int.pow_succ];have hp:=pow_pos W0 n
 have:((a+b).natAbs:Int)<=(a.natAbs:Int)+(b.natAbs:Int):=by omega
 unfold W at*;omega
theorem qp3 {a:Int} {n:Nat} (h:Fit a n):Fit (-a) n:=by unfold Fit;rw[Int.natAbs_neg];exact h
theorem qpS {f:qj} {q:Rat} (h:IsF f q): ∃r,qbf f=some r/\IsF r (-q):=by
 obtain⟨n,e,hn⟩:=qgt h.1;unfold qbf;rw[e,ZB];exact⟨_,rfl,by rw[Rat.neg_num];exact hn,by rw[Rat.neg_den];exact h.2⟩
theorem qfv (p q:Rat):p+q=Rat.divInt (p.num*q.den+q.num*p.den) ((p.den:Int)*q.den):=by
 rw[Rat.add_def',<-Rat.divInt_ofNat,Int.natCast_mul]
theorem qcn (p q:Rat):p*q=Rat.divInt (p.num*q.num) ((p.den:Int)*q.den):=by
 rw[Rat.mul_def',<-Rat.divInt_ofNat,Int.natCast_mul]
theorem qdS (p q:Rat):(p.den:Int)*q.den≠0:=Int.mul_ne_zero (by have:=p.den_pos;omega) (by have:=q.den_pos;omega)
theorem qj6 {p q:Rat} {n:Nat} (hp:xI p n) (hq:xI q n):xI (p*q) (n+n):=by
 rw[qcn];exact qhw (qdS p q) (qb7 hp.1 hq.1) (qb7 hp.2 hq.2)
theorem qnB {p:Rat} {n:Nat} (hp:xI p n):xI (-p) n:=⟨by rw[Rat.neg_num];exact qp3 hp.1,by rw[Rat.neg_den];exact hp.2⟩
theorem qlR {N:Nat} (hN:600000<N) {f g:qj} {p q:Rat} (hf:IsF f p) (hg:IsF g q) {n:Nat} (hn:n<=1900) (fp:xI p n) (fq:xI q n): ∃r,yQ N f g=some r/\IsF r (p+q):=by
 have fp':=fp.mono hn;have fq':=fq.mono hn
 have long: ∃r,((qM N f.Num g.Den).bind fun r9=>
  (qM N g.Num f.Den).bind fun r10=>
  (vH N r9 r10).bind fun r11=>
  (qM N f.Den g.Den).bind fun r12=>
  (qbJ N r11 r12).bind fun r13=>
  some r13)=some r/\IsF r (p+q):=by
  obtain⟨a,e1,h1⟩:=qec (N:=N) (by omega) hf.1 hg.2 (fp'.1.mono (by omega)) (fq'.2.mono (by omega));obtain⟨b,e2,h2⟩:=qec (N:=N) (by omega) hg.1 hf.2 (fq'.1.mono (by omega)) (fp'.2.mono (by omega));have s1:=qb7 fp'.1 fq'.2;have s2:=qb7 fq'.1 fp'.2;obtain⟨c,e3,h3⟩:=qh4 (N:=N) (by omega) h1 h2 (s1.mono (by omega)) (s2.mono (by omega));obtain⟨d,e4,h4⟩:=qec (N:=N) (by omega) hf.2 hg.2 (fp'.2.mono (by omega)) (fq'.2.mono (by omega));obtain⟨m,e5,h5⟩:=qi6 hN h3 h4 ((qpM s1 s2).mono (by omega)) ((qb7 fp'.2 fq'.2).mono (by omega)) (qdS p q);rw[e1,ZB,e2,ZB,e3,ZB,e4,ZB,e5,ZB];exact⟨m,rfl,by rw[qfv];exact h5⟩
 unfold yQ;rw[qfD hf,ZB];by_cases h1:p.den=1
 ·rw[decide_eq_true h1,if_pos rfl,qfD hg,ZB,ZB];by_cases h2:q.den=1
  ·rw[decide_eq_true h2,if_pos rfl];obtain⟨c,e3,h3⟩:=qh4 (N:=N) (by omega) hf.1 hg.1 (fp'.1.mono (by omega)) (fq'.1.mono (by omega));obtain⟨m,e4,h4⟩:=qh0 h3;rw[e3,ZB,e4,ZB];refine⟨m,rfl,?_⟩;have ep:p=(p.num:Rat):=Rat.ext (by simp) (by simp[h1]);have eq:q=(q.num:Rat):=Rat.ext (by simp) (by simp[h2]);rw[ep,eq,<-Rat.intCast_add];exact h4
  rw[decide_eq_false h2,if_neg (by simp)];exact long
 rw[decide_eq_false h1,if_neg (by simp),ZB,if_neg (by simp)];exact long
theorem qmn {N:Nat} (hN:600000<N) {f g:qj} {p q:Rat} (hf:IsF f p) (hg:IsF g q) {n:Nat} (hn:n<=1900) (fp:xI p n) (fq:xI q n): ∃r,qaB N f g=some r/\IsF r (p-q):=by
 obtain⟨m,e1,h1⟩:=qpS hg;obtain⟨r,e2,h2⟩:=qlR hN hf h1 hn fp (qnB fq);unfold qaB;rw[e1,ZB,e2,ZB];exact⟨r,rfl,by rw[Rat.sub_eq_add_neg];exact h2⟩
theorem qmt {N:Nat} (hN:600000<N) {f g:qj} {p q:Rat} (hf:IsF f p) (hg:IsF g q) {n:Nat} (hn:n<=1900) (fp:xI p n) (fq:xI q n): ∃r,jQ N f g=some r/\IsF r (p*q):=by
 have fp':=fp.mono hn;have fq':=fq.mono hn;obtain⟨a,e1,h1⟩:=qec (N:=N) (by omega) hf.1 hg.1 (fp'.1.mono (by omega)) (fq'.1.mono (by omega));obtain⟨b,e2,h2⟩:=qec (N:=N) (by omega) hf.2 hg.2 (fp'.2.mono (by omega)) (fq'.2.mono (by omega));obtain⟨m,e3,h3⟩:=qi6 hN h1 h2 ((qb7 fp'.1 fq'.1).mono (by omega)) ((qb7 fp'.2 fq'.2).mono (by omega)) (qdS p q);unfold jQ;rw[e1,ZB,e2,ZB,e3,ZB];exact⟨m,rfl,by rw[qcn];exact h3⟩
theorem qqF {N:Nat} (hN:600000<N) {f:qj} {p:Rat} (hf:IsF f p) (fp:xI p 3900) (h0:p≠0): ∃r,qay N f=some r/\IsF r p⁻¹:=by
 obtain⟨m,e,h⟩:=qi6 hN hf.2 hf.1 fp.2 fp.1 (fun c=>h0 (Rat.num_eq_zero.1 c));unfold qay;rw[e,ZB];exact⟨m,rfl,by rw[Rat.inv_def];exact h⟩
end Go.Av
end
section
namespace Go.Av
theorem qd8 {l:List Int} (h:Dg E9 l) {n:Nat} (hl:dv E9 l<E9^n):dv E9 (l.drop n)=0:=by
 by_cases hn:n<=l.length
 ·have e:=xc E9 l n hn;have h1:=qD E0 (h.take n);have h2:=qD E0 (h.drop n);rcases Int.lt_or_le 0 (dv E9 (l.drop n))with c|c
  ·have:=Yc (show 1<=dv E9 (l.drop n)by omega) (Int.le_of_lt (pow_pos E0 n));omega
  omega
 rw[List.drop_of_length_le (by omega),ze]
theorem qkP {N:Nat} (hN:11000<N) {v:List Int} {k:Nat} (hv:Dg E9 v) (hvl:v.length=k+2) (hk:k<=9000) (hn:1000000<=v[k+1]'(by omega)) {A:Int} {m:Nat} (hm:m<=9000): ∀(K i:Nat) (l qs:List Int),i<=m+1->i<K->l.length=m+k+3->qs.length=m+1->Dg E9 l->Dg E9 qs->(∀(j:Nat) x,j<i->qs[j]? =some x->x=0)->dv E9 (l.drop i)<dv E9 v->dv E9 l+dv E9 v*dv E9 qs=A->
 ∃l' qs',zw N v K l qs ((i:Int)-1)=some (l',qs')/\l'.length=m+k+3/\qs'.length=m+1/\Dg E9 l'/\Dg E9 qs'/\dv E9 l'<dv E9 v/\dv E9 l'+dv E9 v*dv E9 qs'=A
 |0,i,l,qs,h,hK,_,_,_,_,_,_,_=>by omega
 |K+1,0,l,qs,h,hK,hl,hql,hd,hqd,hz,hlt,e=>by
  rw[zw,if_neg (by omega)];exact⟨l,qs,rfl,hl,hql,hd,hqd,hlt,e⟩
 |K+1,i+1,l,qs,h,hK,hl,hql,hd,hqd,hz,hlt,e=>by
  have hil:i<l.length:=by omega
  have hiq:i<qs.length:=by omega
  have ei:((i+1:Nat):Int)-1=(i:Int):=by omega
  have V1:=yY E0 hv;rw[hvl]at V1
  have V0:0<dv E9 v:=by
   have:=qD E0 (hd.drop (i+1));omega
  have lp:(l.take i).length=i:=by rw[Ym];omega
  have lu:((l.drop i).take (k+3)).length=k+3:=by rw[Ym,YJ];omega
  have el:l=l.take i++((l.drop i).take (k+3)++(l.drop i).drop (k+3)):=by rw[YS,YS]
  have hu:=(hd.drop i).take (k+3)
  have ht:dv E9 ((l.drop i).drop (k+3))=0:=by
   have:=qd8 (hd.drop (i+1)) (n:=k+2) (by omega);rw[List.drop_drop]at this⊢;rw[show i+(k+3)=i+1+(k+2)by omega];exact this
  have eu:dv E9 ((l.drop i).take (k+3))=dv E9 (l.drop i):=by
   have:=xe E9 ((l.drop i).take (k+3)) ((l.drop i).drop (k+3));rw[YS,ht,Int.mul_zero,Int.add_zero]at this;exact this.symm
  have hUlt:dv E9 ((l.drop i).take (k+3))<1000000000*dv E9 v:=by
   rw[eu,qhl l hil];have:=(hd.at hil).2;have h1:E9*(dv E9 (l.drop (i+1))+1)<=E9*dv E9 v:=Yc (by omega) (by decide);rw[Int.mul_add,Int.mul_one]at h1;have h2:E9*dv E9 v=1000000000*dv E9 v:=rfl;omega
  obtain⟨u',s2,s3,s4,s1⟩:=qpo hN (p:=l.take i) (t:=(l.drop i).drop (k+3)) hv hvl hk hu lu (by omega) hn hUlt;rw[lp,<-el]at s1;rw[zw,ei,if_pos (by omega)];have hU0:=qD E0 hu;have Q0:0<=dv E9 ((l.drop i).take (k+3))/dv E9 v:=Int.ediv_nonneg hU0 (by omega)
  have Q1:dv E9 ((l.drop i).take (k+3))/dv E9 v<E9:=by rw[Yu V0];exact hUlt
  have hR:=Int.emod_lt_of_pos (dv E9 ((l.drop i).take (k+3))) V0;have hdm:=Int.mul_ediv_add_emod (dv E9 ((l.drop i).take (k+3))) (dv E9 v)
  have hdrop:(l.take i++(u'++(l.drop i).drop (k+3))).drop i=u'++(l.drop i).drop (k+3):=by
   rw[List.drop_append_of_le_length (by omega),List.drop_of_length_le (by omega),List.nil_append]
  have hdn:dv E9 (u'++(l.drop i).drop (k+3))=dv E9 u':=by rw[xe,ht,Int.mul_zero,Int.add_zero]
  have main:=qkP hN hv hvl hk hn (A:=A) hm K i (l.take i++(u'++(l.drop i).drop (k+3))) (qs.set i (dv E9 ((l.drop i).take (k+3))/dv E9 v)) (by omega) (by omega) (by rw[Yq,Yq,lp,s2,YJ,YJ];omega) (by rw[Yk];exact hql) ((hd.take i).append (s3.append ((hd.drop i).drop _))) (hqd.set ⟨Q0,Q1⟩) (fun j x hj hx=>by
   rw[Yw (by omega)]at hx
   exact hz j x (by omega) hx) (by rw[hdrop,hdn,s4];exact hR) (by
   rw[qjT hiq (fun j x hj hx=>hz j x (by omega) hx),xe,lp,hdn,s4,Int.mul_add];have e1:=xc E9 l i (by omega);rw[<-eu]at e1
   have e2:E9^i*dv E9 ((l.drop i).take (k+3))=E9^i*(dv E9 v*(dv E9 ((l.drop i).take (k+3))/dv E9 v))+E9^i*(dv E9 ((l.drop i).take (k+3))%dv E9 v):=by rw[<-Int.mul_add,hdm]
   have e3:dv E9 v*(E9^i*(dv E9 ((l.drop i).take (k+3))/dv E9 v))=E9^i*(dv E9 v*(dv E9 ((l.drop i).take (k+3))/dv E9 v)):=Int.mul_left_comm _ _ _;rw[e3]
   omega)
  obtain⟨l',qs',g1,g2⟩:=main;refine⟨l',qs',?_,g2⟩;rw[<-g1];generalize hw:qad N l v (i:Int)=og at s1⊢
  cases og with
  |none=>cases s1
  |some r25=>
   simp only[ZB]at s1⊢;generalize qV v (i:Int) r25 N l 0 0=o2 at s1⊢
   cases o2 with
   |none=>cases s1
   |some p2=>
    obtain⟨l29,n30⟩:=p2;simp only[ZB]at s1⊢;generalize idx l29 (w64 ((i:Int)+(v.length:Int)))=o3 at s1⊢
    cases o3 with
    |none=>cases s1
    |some x40=>
     simp only[ZB]at s1⊢;generalize put l29 (w64 ((i:Int)+(v.length:Int))) (w64 (x40-n30))=o4 at s1⊢
     cases o4 with
     |none=>cases s1
     |some l41=>
      simp only[ZB]at s1⊢;generalize idx l41 (w64 ((i:Int)+(v.length:Int)))=o5 at s1⊢
      cases o5 with
      |none=>cases s1
      |some x42=>
       simp only[ZB]at s1⊢;refine(congrArg (fun z=>Option.bind z _) s1).trans ?_;rw[ZB];simp only;rw[ql,Ya hiq,ZB,zP hiq,ZB,qh (by omega) (by omega)]
theorem qpH {a:List Int} (hal:a.length<=50000): ∀(K:Nat) (l:List Int),a.length+1<K+l.length->l.length<=a.length+1->z8 a K l=some (l++List.replicate (a.length+1-l.length) 0)
 |0,l,h,h2=>by omega
 |K+1,l,h,h2=>by
  rw[z8,qJ (by omega)];by_cases c:l.length<a.length+1
  ·rw[if_pos (by omega),qbX (by simp;omega) (by simp;omega),ZB,qpH hal K (l++[0]) (by simp;omega) (by simp;omega),Yz,Yq,List.length_singleton];rw[show a.length+1-l.length=a.length+1-(l.length+1)+1 by omega,List.replicate_succ];rfl
  rw[if_neg (by omega),show a.length+1-l.length=0 by omega];simp
theorem qdD {N:Nat} (hN:60000<N) {a b:List Int} (ha:Can E9 a) (hb:Can E9 b) (hal:a.length<=8000) (hb0:0<dv E9 b):jB N a b=some (dg E9 (dv E9 a/dv E9 b),dg E9 (dv E9 a%dv E9 b)):=by
 have A0:=qD E0 ha.1;unfold jB;rw[qdo ha hb (by omega) (by omega),ZB];by_cases h:dv E9 a<dv E9 b
 ·rw[if_pos h,if_pos (by omega),Int.ediv_eq_zero_of_lt A0 h,Int.emod_eq_of_lt A0 h,qdV,qpz E1 ha]
 have hlen:b.length<=a.length:=by
  rcases Nat.lt_or_ge a.length b.length with c|c
  ·have:=qcI ha hb c;omega
  exact c
 have hb1:0<b.length:=by
  rcases Nat.eq_zero_or_pos b.length with c|c
  ·rw[YL.1 c,ze]at hb0;omega
  exact c
 have hge: ¬((if dv E9 a<dv E9 b then-1 else if dv E9 a=dv E9 b then(0:Int)else 1)<0):=by
  rw[if_neg h];split<;>omega
 rw[if_neg hge];by_cases hone:b.length=1
 ·obtain⟨d,rfl⟩:=List.length_eq_one_iff.1 hone
  have ed:dv E9 [d]=d:=by rw[zt,ze];omega
  rw[ed]at hb0⊢;have hd:d<1000000000:=hb.1.head.2;have m0:=Int.emod_nonneg (dv E9 a) (show d≠0 by omega);have m1:=Int.emod_lt_of_pos (dv E9 a) hb0;rw[if_pos (by simp),qcz];simp only[Yj,ZB];rw[qgP ha.1 (by omega) (by omega) hb0 hd,ZB];simp only;rw[qcC (Dg.cons ⟨m0,Int.lt_trans m1 hd⟩ Dg.nil) (by simp) (by simp;omega),ZB,zt,ze,Int.mul_zero,Int.add_zero]
 obtain⟨k,hk⟩: ∃k,b.length=k+2:=⟨b.length-2,by omega⟩;obtain⟨m,hm⟩: ∃m,a.length=m+k+2:=⟨a.length-(k+2),by omega⟩
 have hkb:k+1<b.length:=by omega
 have at1:=hb.1.at hkb;have at2:b[k+1]<1000000000:=at1.2;have at0:b[k+1]≠0:=hb.2 _ (by rw[List.getLast?_eq_getElem?,hk];exact Ya hkb);have hPk:=pow_pos E0 (k+1);rw[if_neg (by omega),show w64 ((b.length:Int)-1)=((k+1:Nat):Int)by rw[qh (by omega) (by omega)];omega,ql,Ya hkb,ZB,qh (n:=b[k+1]+1) (by omega) (by omega)]
 have hq:qco .i64 1000000000 (b[k+1]+1)=some (1000000000/(b[k+1]+1)):=by
  unfold qco;have:(1000000000:Int)/(b[k+1]+1)<=1000000000:=Int.ediv_le_self _ (by omega);have:0<=(1000000000:Int)/(b[k+1]+1):=Int.ediv_nonneg (by omega) (by omega);rw[if_neg (by omega),YF (by omega)];show some (w64 _)=_;rw[qh (by omega) (by omega)]
 rw[hq,ZB];have f1:=Int.mul_ediv_add_emod 1000000000 (b[k+1]+1);have f2:=Int.emod_lt_of_pos 1000000000 (show 0<b[k+1]+1 by omega);have f3:=Int.emod_nonneg 1000000000 (show b[k+1]+1≠0 by omega)
 have f0:1<=(1000000000:Int)/(b[k+1]+1):=by
  rw[Int.le_ediv_iff_mul_le (by omega)];omega
 have f5:(1000000000:Int)/(b[k+1]+1)<=500000000:=by
  have:(1000000000:Int)/(b[k+1]+1)<500000001:=by
   rw[Yu (by omega)];omega
  omega
 generalize hf:(1000000000:Int)/(b[k+1]+1)=f at*
 have f4:250000000<=b[k+1]*f:=by
  rw[Int.add_mul,Int.one_mul]at f1
  have:f<=b[k+1]*f:=by
   have:=Int.mul_le_mul_of_nonneg_right (show 1<=b[k+1]by omega) (show 0<=f by omega);omega
  have:b[k+1]<=b[k+1]*f:=by
   have:=Yc (show 1<=f by omega) (show 0<=b[k+1]by omega);omega
  omega
 have fd:Dg E9 [f]:=Dg.cons ⟨by omega,show f<1000000000 by omega⟩ Dg.nil
 have fv:dv E9 [f]=f:=by rw[zt,ze];omega
 have hf0:0<f:=by omega
 rw[qdW hb.1 fd (by omega) (by simp) (by simp;omega),ZB,qdW ha.1 fd (by omega) (by simp) (by simp;omega),ZB,fv];have V0:0<dv E9 b*f:=Int.mul_pos hb0 hf0
 have ebs:dv E9 b=dv E9 (b.take (k+1))+E9^(k+1)*b[k+1]:=by
  have:=qy E9 b (k+1) hkb;rw[List.take_of_length_le (by omega)]at this;exact this
 have blo0:=qD E0 (hb.1.take (k+1));have blo1:=yY E0 (hb.1.take (k+1));rw[Ym,Nat.min_eq_left (by omega)]at blo1
 have Vlow:E9^(k+1)*250000000<=dv E9 b*f:=by
  have h1:=Yc f4 (Int.le_of_lt hPk);rw[ebs,Int.add_mul,Int.mul_assoc];have:=Yv blo0 (Int.le_of_lt hf0);omega
 have Vhigh:dv E9 b*f<E9^(k+2):=by
  have h1:(dv E9 b)*f<E9^(k+1)*((b[k+1]+1)*f):=by
   rw[<-Int.mul_assoc];refine YH ?_ hf0;rw[ebs,Int.mul_add,Int.mul_one];omega
  have h3:E9^(k+1)*((b[k+1]+1)*f)<=E9^(k+1)*1000000000:=Yc (by omega) (Int.le_of_lt hPk);rw[Int.pow_succ];exact Int.lt_of_lt_of_le h1 h3
 have U0:0<=dv E9 a*f:=Yv A0 (Int.le_of_lt hf0);have cu:=zY E1 U0;have euu:=jU E1 U0;have hA:=yY E0 ha.1
 have lu:(dg E9 (dv E9 a*f)).length<=a.length+1:=by
  refine(qcX E1 U0).2 ?_;rw[Int.pow_succ];have h1:dv E9 a*f<E9^a.length*f:=YH hA hf0;have h2:E9^a.length*f<=E9^a.length*E9:=Yc (show f<=1000000000 by omega) (Int.le_of_lt (pow_pos E0 _));omega
 generalize hua:dg E9 (dv E9 a*f)=ua at*;rw[qbX (by simp;omega) (by simp;omega),ZB,List.nil_append,qpH (by omega) N ua (by omega) lu,ZB]
 have lU:(ua++List.replicate (a.length+1-ua.length) 0).length=m+k+3:=by simp;omega
 have dU:Dg E9 (ua++List.replicate (a.length+1-ua.length) 0):=cu.1.append (Uo E0 _)
 have vU:dv E9 (ua++List.replicate (a.length+1-ua.length) 0)=dv E9 a*f:=by rw[xe,xK,Int.mul_zero,Int.add_zero,euu]
 generalize ua++List.replicate (a.length+1-ua.length) 0=U at*;have cv:=zY E1 (Int.le_of_lt V0);have evv:=jU E1 (Int.le_of_lt V0)
 have lv:(dg E9 (dv E9 b*f)).length=k+2:=by
  have h1:=(qcX E1 (Int.le_of_lt V0) (n:=k+2)).2 Vhigh
  have h2:=(not_congr (qcX E1 (Int.le_of_lt V0) (n:=k+1))).2 (by
   have:E9^(k+1)*1<=E9^(k+1)*250000000:=Yc (by omega) (Int.le_of_lt hPk)
   omega)
  omega
 generalize hvv:dg E9 (dv E9 b*f)=v at*
 have hkv:k+1<v.length:=by omega
 have hn:1000000<=v[k+1]:=by
  have e:=qy E9 v (k+1) hkv;rw[List.take_of_length_le (by omega),evv]at e;have h1:=yY E0 (cv.1.take (k+1));rw[Ym,Nat.min_eq_left (by omega)]at h1
  have h2:E9^(k+1)*250000000<E9^(k+1)*(v[k+1]+1):=by rw[Int.mul_add,Int.mul_one];omega
  have:=Int.lt_of_mul_lt_mul_left h2 (Int.le_of_lt hPk);omega
 have htop:dv E9 (U.drop (m+1))<dv E9 v:=by
  rw[evv];have e:=xc E9 U (m+1) (by omega);have h1:=qD E0 (dU.take (m+1))
  have h2:dv E9 U<E9^(m+1)*(E9^(k+1)*f):=by
   rw[vU,<-Int.mul_assoc,<-Int.pow_add,show m+1+(k+1)=a.length by omega];exact YH hA hf0
  have hPm:=pow_pos E0 (m+1)
  have h3:E9^(m+1)*dv E9 (U.drop (m+1))<E9^(m+1)*(E9^(k+1)*f):=by omega
  have h4:=Int.lt_of_mul_lt_mul_left h3 (Int.le_of_lt hPm)
  have h5:E9^(k+1)*f<=E9^(k+1)*(b[k+1]*f):=by
   refine Yc ?_ (Int.le_of_lt hPk);have:=Int.mul_le_mul_of_nonneg_right (show 1<=b[k+1]by omega) (show 0<=f by omega);omega
  have h6:E9^(k+1)*(b[k+1]*f)<=dv E9 b*f:=by
   rw[<-Int.mul_assoc];exact Int.mul_le_mul_of_nonneg_right (by omega) (Int.le_of_lt hf0)
  omega
 rw[show w64 ((U.length:Int)-(v.length:Int))=((m+1:Nat):Int)by rw[qh (by omega) (by omega)];omega,qbd (by omega),ZB,show w64 (((m+1:Nat):Int)-1)=((m+1:Nat):Int)-1 from qh (by omega) (by omega)];obtain⟨l,qs,g1,g2,g3,g4,g5,g6,g7⟩:=qkP (N:=N) (by omega) cv.1 lv (by omega) hn (A:=dv E9 U) (m:=m) (by omega) N (m+1) U (List.replicate (m+1) 0) (Nat.le_refl _) (by omega) lU (by simp) dU (Uo E0 _) (fun j x _ hx=>qiu j x hx) htop (by rw[xK,Int.mul_zero,Int.add_zero]);rw[g1,ZB];simp only;rw[vU]at g7;rw[evv]at g6 g7;have hl0:=qD E0 g4
 have eq:dv E9 qs=dv E9 a/dv E9 b:=by
  rw[<-Int.mul_ediv_mul_of_pos_left (dv E9 a) (dv E9 b) hf0,<-g7,Int.add_mul_ediv_left _ _ (by omega),Int.ediv_eq_zero_of_lt hl0 g6,Int.zero_add]
 have er:dv E9 l=dv E9 a%dv E9 b*f:=by
  have:(dv E9 a*f)%(dv E9 b*f)=dv E9 l:=by rw[<-g7,Int.add_mul_emod_self_left,Int.emod_eq_of_lt hl0 g6]
  rw[<-this,Int.mul_comm (dv E9 a),Int.mul_comm (dv E9 b),Int.mul_emod_mul_of_pos _ _ hf0,Int.mul_comm]
 have hzl:dv E9 (l.drop (k+2))=0:=qd8 g4 (by omega)
 have etk:dv E9 (l.take (k+2))=dv E9 l:=by
  have:=xc E9 l (k+2) (by omega);rw[hzl,Int.mul_zero,Int.add_zero]at this;exact this.symm
 have m0:0<=dv E9 a%dv E9 b:=Int.emod_nonneg _ (by omega);have r0:0<=dv E9 a%dv E9 b*f:=Yv m0 (Int.le_of_lt hf0);rw[lv,ym (by omega),ZB,qcC (g4.take _) (by rw[Ym];omega) (by rw[Ym];omega),ZB,etk,er,qcz];simp only[Yj,ZB]
 have lr:(dg E9 (dv E9 a%dv E9 b*f)).length<=20000:=by
  have h1:(dg E9 (dv E9 a%dv E9 b*f)).length<=k+2:=(qcX E1 r0).2 (by omega);omega
 rw[qgP (zY E1 r0).1 lr (by omega) hf0 (by omega),ZB,jU E1 r0,Int.mul_ediv_cancel _ (by omega),qcC g5 (by omega) (by omega),ZB,eq]
abbrev jh (z:Int) (n:Nat):Prop:=(z.natAbs:Int)<E9^n
theorem jh.len {z:Int} {n:Nat} (h:jh z n):(dg E9 z.natAbs).length<=n:=(qcX E1 (by omega)).2 h
theorem jh.mono {z:Int} {m n:Nat} (h:jh z m) (hn:m<=n):jh z n:=Int.lt_of_lt_of_le h (yH (by decide) hn)
theorem qgj (z:Int):Can E9 (rI z).w/\dv E9 (rI z).w=(z.natAbs:Int):=⟨zY E1 (by omega),jU E1 (by omega)⟩
theorem qkr {N:Nat} (hN:60000<N) {z:Int} (h:jh z 50000):xy N (rI z)=some (rI (-z)):=by
 have l:=h.len;obtain⟨c,e⟩:=qgj z;unfold xy;rw[qaw _ c.1 (by show(dg E9 z.natAbs).length<=_;omega) (by show(dg E9 z.natAbs).length<_;omega),ZB,e]
 have:(if(!(rI z).neg)=true then-(z.natAbs:Int)else(z.natAbs:Int))= -z:=by
  show(if(!decide (z<0))=true then-(z.natAbs:Int)else(z.natAbs:Int))= -z;by_cases hz:z<0
  ·rw[decide_eq_true hz,if_neg (by simp)];omega
  rw[decide_eq_false hz,if_pos (by simp)];omega
 rw[this]
theorem qeN {N:Nat} (hN:60000<N) {a b:Int} (ha:jh a 8000) (hb:jh b 8000):yN N (rI a) (rI b)=some (rI (a*b)):=by
 have la:=ha.len;have lb:=hb.len;obtain⟨ca,ea⟩:=qgj a;obtain⟨cb,eb⟩:=qgj b;have l1:(rI a).w.length<=8000:=la;have l2:(rI b).w.length<=8000:=lb;have hp:0<=(a.natAbs:Int)*(b.natAbs:Int):=Yv (by omega) (by omega)
 have lp:(dg E9 ((a.natAbs:Int)*(b.natAbs:Int))).length<=16000:=by
  refine(qcX E1 hp).2 ?_;rw[show 16000=8000+8000 from rfl,Int.pow_add];have h1:(a.natAbs:Int)*(b.natAbs:Int)<=(a.natAbs:Int)*E9^8000:=Yc (Int.le_of_lt hb) (by omega);have h2:(a.natAbs:Int)*E9^8000<E9^8000*E9^8000:=YH ha (pow_pos E0 _);omega
 unfold yN;rw[qdW ca.1 cb.1 (by omega) (by omega) (by omega),ZB,ea,eb,qaw _ (zY E1 hp).1 (by omega) (by omega),ZB,jU E1 hp];congr 2
 have hab:(a.natAbs:Int)*(b.natAbs:Int)=((a*b).natAbs:Int):=by rw[Int.natAbs_mul,Int.natCast_mul]
 rw[hab];show(if(!(decide (a<0)==decide (b<0)))=true then _ else _)=_;by_cases h1:a<0
 ·by_cases h2:b<0
  ·have:=Int.mul_pos_of_neg_of_neg h1 h2;rw[decide_eq_true h1,decide_eq_true h2,if_neg (by simp)];omega
  have:=Int.mul_nonpos_of_nonpos_of_nonneg (show a<=0 by omega) (show 0<=b by omega);rw[decide_eq_true h1,decide_eq_false h2,if_pos (by simp)];omega
 by_cases h2:b<0
 ·have:=Int.mul_nonpos_of_nonneg_of_nonpos (show 0<=a by omega) (show b<=0 by omega);rw[decide_eq_false h1,decide_eq_true h2,if_pos (by simp)];omega
 have:=Yv (show 0<=a by omega) (show 0<=b by omega);rw[decide_eq_false h1,decide_eq_false h2,if_neg (by simp)];omega
theorem qqn {N:Nat} (hN:60000<N) {a b:Int} (ha:jh a 9000) (hb:jh b 9000):qck N (rI a) (rI b)=some (rI (a+b)):=by
 have la:=ha.len;have lb:=hb.len;obtain⟨ca,ea⟩:=qgj a;obtain⟨cb,eb⟩:=qgj b;have l1:(rI a).w.length<=9000:=la;have l2:(rI b).w.length<=9000:=lb
 have lsub: ∀x y:Int,0<=x-y->0<=y->x<E9^9000->(dg E9 (x-y)).length<=9000:=fun x y h h0 h1=>(qcX E1 h).2 (by omega)
 unfold qck;have hneg:((rI a).neg==(rI b).neg)=(decide (a<0)==decide (b<0)):=rfl;have na:(rI a).neg=decide (a<0):=rfl;have nb:(rI b).neg=decide (b<0):=rfl;rw[hneg];by_cases hs:(a<0↔b<0)
 ·obtain⟨l,e,d1,d2,d3⟩:=qjo (N:=N) ca.1 cb.1 (by omega) (by omega) (by omega);rw[if_pos (by rw[beq_iff_eq];exact decide_eq_decide.2 hs),e,ZB,qaw _ d1 (by omega) (by omega),ZB,d3,ea,eb,na];congr 2;simp only[decide_eq_true_eq];split<;>omega
 rw[if_neg (by rw[beq_iff_eq];exact fun c=>hs (decide_eq_decide.1 c)),qdo ca cb (by omega) (by omega),ZB,ea,eb];by_cases hc:(a.natAbs:Int)<(b.natAbs:Int)
 ·rw[if_pos hc,if_neg (by omega),qfR cb ca (by omega) (by omega) (by omega),ZB,ea,eb]
  have h0:0<=(b.natAbs:Int)-(a.natAbs:Int):=by omega
  have ll:=lsub _ _ h0 (by omega) hb;rw[qaw _ (zY E1 h0).1 (by omega) (by omega),ZB,jU E1 h0,nb];congr 2;simp only[decide_eq_true_eq];split<;>omega
 rw[if_neg hc,if_pos (by split<;>omega),qfR ca cb (by omega) (by omega) (by omega),ZB,ea,eb]
 have h0:0<=(a.natAbs:Int)-(b.natAbs:Int):=by omega
 have ll:=lsub _ _ h0 (by omega) ha;rw[qaw _ (zY E1 h0).1 (by omega) (by omega),ZB,jU E1 h0,na];congr 2;simp only[decide_eq_true_eq];split<;>omega
theorem qdj {x y:Int} (hx:0<=x) (h:x<=y): ∀n:Nat,0<=x^n/\x^n<=y^n
 |0=>by simp
 |n+1=>by
  have ih:=qdj hx h n;rw[Int.pow_succ,Int.pow_succ];exact⟨Yv ih.1 hx,Int.mul_le_mul ih.2 h hx (Int.le_trans ih.1 ih.2)⟩
theorem qhm {N:Nat} (hN:60000<N) (B:Nat) (hB:B<=8000): ∀(k K:Nat) (a b:Int),0<=a->0<=b->b<2^k->2*k+2<=K->jh a B->jh b B->zg N K (dg E9 a) (dg E9 b)=some (dg E9 (Int.gcd a b:Int))
 |k,0,a,b,_,_,_,hK,_,_=>by omega
 |k,K+1,a,b,ha,hb,hk,hK,fa,fb=>by
  have na:(a.natAbs:Int)=a:=by omega
  have nb:(b.natAbs:Int)=b:=by omega
  have done:b=0->zg N (K+1) (dg E9 a) (dg E9 b)=some (dg E9 (Int.gcd a b:Int)):=by
   intro h0;subst h0;rw[zg,qdV,if_neg (by simp),Int.gcd_zero,na]
  rcases(show b=0\/0<b by omega)with h0|h0
  ·exact done h0
  match k,hk,hK with
  |0,hk,hK=>simp at hk;omega
  |k+1,hk,hK=>
   have m0:=Int.emod_nonneg a (show b≠0 by omega);have m1:=Int.emod_lt_of_pos a h0;have la:=fa.len;have lb:=fb.len;rw[na]at la;rw[nb]at lb
   have lpos:0<(dg E9 b).length:=by
    rw[List.length_pos_iff];intro c;have:=(qhS E1 hb).1 c;omega
   have fr:jh (a%b) B:=by unfold jh at fb⊢;omega
   rw[zg,if_pos (by omega),qdD hN (zY E1 ha) (zY E1 hb) (by omega) (by rw[jU E1 hb];exact h0),ZB,jU E1 ha,jU E1 hb];simp only;rw[qdb ha hb]
   match K,hK with
   |0,hK=>omega
   |K+1,hK=>
    rcases(show a%b=0\/0<a%b by omega)with g0|g0
    ·rw[g0,zg,qdV,if_neg (by simp),Int.gcd_zero,nb]
    have lr:=fr.len;rw[show((a%b).natAbs:Int)=a%b by omega]at lr
    have lpos2:0<(dg E9 (a%b)).length:=by
     rw[List.length_pos_iff];intro c;have:=(qhS E1 m0).1 c;omega
    have n0:=Int.emod_nonneg b (show a%b≠0 by omega);have n1:=Int.emod_lt_of_pos b g0;rw[zg,if_pos (by omega),qdD hN (zY E1 hb) (zY E1 m0) (by omega) (by rw[jU E1 m0];exact g0),ZB,jU E1 hb,jU E1 m0]
    have hhalf:b%(a%b)<2^k:=by
     have d1:=Int.mul_ediv_add_emod b (a%b)
     have d2:1<=b/(a%b):=by
      rw[Int.le_ediv_iff_mul_le g0];omega
     have d3:a%b*1<=a%b*(b/(a%b)):=Yc d2 (by omega);rw[Int.pow_succ]at hk;omega
    simp only;rw[qdb hb m0];exact qhm hN B hB k K (a%b) (b%(a%b)) m0 n0 hhalf (by omega) fr (by unfold jh at fr⊢;omega)
theorem qiO {N:Nat} (hN:600000<N) {a b:Int} (ha:0<=a) (hb:0<=b) (fa:jh a 8000) (fb:jh b 8000):qaz N (dg E9 a) (dg E9 b)=some (dg E9 (Int.gcd a b:Int)):=by
 have h2:b<2^(30*8000):=by
  have e:(2:Int)^(30*8000)=1073741824^8000:=by rw[Int.pow_mul,show(2:Int)^30=1073741824 from rfl]
  rw[e];have:E9^8000<=(1073741824:Int)^8000:=(qdj (by decide) (by decide) _).2;unfold jh at fb;omega
 unfold qaz;rw[qhm (by omega) 8000 (Nat.le_refl _) (30*8000) N a b ha hb h2 (by omega) fa fb,ZB]
end Go.Av
end
section
namespace Go.Av
def yc (c:UInt8):Bool:=decide (48<=c.toNat)&&decide (c.toNat<=57)
def qU (n:Nat) (s:List UInt8):Nat:=s.foldl (fun a c=>a*10+(c.toNat-48)) n
theorem qct (n:Nat):qU n []=n:=List.foldl_nil
theorem qbD (n:Nat) (c:UInt8) (s:List UInt8):qU n (c::s)=qU (n*10+(c.toNat-48)) s:=by
 unfold qU;rw[List.foldl_cons]
theorem qe3 (s:List UInt8): ∀n:Nat,s.all yc=true->qU n s<(n+1)*10^s.length:=by
 induction s with
 |nil=>
  intro n _;rw[List.length_nil,Nat.pow_zero,Nat.mul_one,qct];exact Nat.lt_succ_self n
 |cons c s ih=>
  intro n h;rw[List.all_cons,Bool.and_eq_true]at h;have h1:=ih (n*10+(c.toNat-48)) h.2
  have hd:c.toNat-48<=9:=by
   have:=h.1;simp[yc]at this;omega
  have h2:n*10+(c.toNat-48)+1<=(n+1)*10:=by omega
  rw[qbD,Yr,Nat.pow_succ,Nat.mul_comm (10^s.length) 10,<-Nat.mul_assoc];exact Nat.lt_of_lt_of_le h1 (Nat.mul_le_mul_right _ h2)
theorem ne48 {c:UInt8} (h: ¬c=48): ¬((c.toNat:Int)=48):=fun e=>h (UInt8.toNat_inj.1 (show c.toNat=48 from by omega))
theorem qpi (c:UInt8):([48,49,50,51,52,53,54,55,56,57]:Str).contains c=yc c:=by
 rw[Bool.eq_iff_iff];simp only[List.contains_cons,List.contains_nil,Bool.or_eq_true,beq_iff_eq,yc,Bool.and_eq_true,decide_eq_true_eq,<-UInt8.toNat_inj,Bool.or_false];simp only[show(48:UInt8).toNat=48 from rfl,show(49:UInt8).toNat=49 from rfl,show(50:UInt8).toNat=50 from rfl,show(51:UInt8).toNat=51 from rfl,show(52:UInt8).toNat=52 from rfl,show(53:UInt8).toNat=53 from rfl,show(54:UInt8).toNat=54 from rfl,show(55:UInt8).toNat=55 from rfl,show(56:UInt8).toNat=56 from rfl,show(57:UInt8).toNat=57 from rfl];omega
theorem qcW {α:Type} {p:α->Bool}: ∀{l:List α},l.dropWhile p=[]↔l.all p=true
 |[]=>by simp
 |x::l=>by
  rw[List.dropWhile_cons,List.all_cons];by_cases h:p x=true
  ·rw[if_pos h,h,Bool.true_and];exact qcW
  rw[if_neg h];simp[h]
theorem qmP {s:Str}:(Lib.trimS s [48,49,50,51,52,53,54,55,56,57]==[])=s.all yc:=by
 have e:(fun c=>([48,49,50,51,52,53,54,55,56,57]:Str).contains c)=yc:=funext qpi;unfold Lib.trimS Lib.trimLeftS Lib.trimRightS;rw[e];rw[Bool.eq_iff_iff,beq_iff_eq,qcW,List.all_reverse];constructor
 ·intro h
  have h2: ∀x∈s.reverse.takeWhile yc++s.reverse.dropWhile yc,yc x=true:=by
   intro x hx;rcases List.mem_append.1 hx with hx|hx
   ·exact Yp.1 List.all_takeWhile x hx
   exact Yp.1 h x hx
  rw[List.takeWhile_append_dropWhile]at h2
  exact Yp.2 fun x hx=>h2 x (by simpa using hx)
 intro h;have:s.reverse.dropWhile yc=[]:=qcW.2 (by rw[List.all_reverse];exact h);rw[this];rfl
theorem qia: ∀(s:Str) (n:Nat),s.all yc=true->Lib.decFrom n s=some (qU n s)
 |[],n,_=>rfl
 |c::s,n,h=>by
  rw[List.all_cons,Bool.and_eq_true]at h;unfold Lib.decFrom;rw[qbD]
  have h1:48<=c.toNat/\c.toNat<=57:=by simpa[yc]using h.1
  have e:Lib.digitVal c=some (c.toNat-48):=by unfold Lib.digitVal;rw[if_pos h1]
  rw[e];exact qia s _ h.2
theorem qjS {s:Str} (h0:1<=s.length) (h:s.all yc=true):Lib.atoi s=some ((qU 0 s:Nat):Int):=by
 cases s with
 |nil=>simp at h0
 |cons c s=>
  have hc:yc c=true:=by rw[List.all_cons,Bool.and_eq_true]at h;exact h.1
  have h1:48<=c.toNat/\c.toNat<=57:=by simpa[yc]using hc
  unfold Lib.atoi Lib.decNat
  have n1: ¬(c==45)=true:=fun e=>by rw[beq_iff_eq.1 e]at h1;simp at h1
  have n2: ¬(c==43)=true:=fun e=>by rw[beq_iff_eq.1 e]at h1;simp at h1
  simp only;rw[if_neg n1,if_neg n2,if_neg (by simp),qia _ _ h];rfl
theorem qoF (s:List UInt8): ∀n:Nat,qU n s=n*10^s.length+qU 0 s:=by
 induction s with
 |nil=>intro n;rw[qct,qct];simp
 |cons c s ih=>
  intro n;rw[qbD,qbD,ih,ih (0*10+_),Yr,Nat.pow_succ,Nat.zero_mul,Nat.zero_add,Nat.add_mul];rw[Nat.mul_assoc,Nat.mul_comm 10,<-Nat.add_assoc]
theorem qeg (s t:List UInt8):qU 0 (s++t)=qU 0 s*10^t.length+qU 0 t:=by
 have:qU 0 (s++t)=qU (qU 0 s) t:=by unfold qU;rw[List.foldl_append]
 rw[this,qoF]
theorem qgz (s:List UInt8) (c:UInt8):qU 0 (s++[c])=qU 0 s*10+(c.toNat-48):=by
 rw[qeg];simp[qbD,qct]
def dch (n:Nat):UInt8:=UInt8.ofNat (48+n)
theorem qhd {n:Nat} (h:n<10):(dch n).toNat=48+n:=by
 unfold dch;rw[UInt8.toNat_ofNat'];omega
theorem qlS {n:Nat} (h:n<10):yc (dch n)=true:=by
 unfold yc;rw[qhd h,Bool.and_eq_true,decide_eq_true_eq,decide_eq_true_eq];omega
theorem qmq {c:UInt8} (h:yc c=true):c=dch (c.toNat-48)/\c.toNat-48<10:=by
 unfold yc at h;rw[Bool.and_eq_true,decide_eq_true_eq,decide_eq_true_eq]at h;refine⟨?_,by omega⟩;rw[<-UInt8.toNat_inj,qhd (by omega)];omega
def qea:Nat->Nat->Str
 |0,_=>[]
 |k+1,n=>qea k (n/10)++[dch (n%10)]
theorem qih: ∀k n,(qea k n).length=k
 |0,n=>rfl
 |k+1,n=>by rw[qea,Yq,qih];rfl
theorem vR {n:Nat} (h:n<10):Lib.decDigits n=[dch n]:=by rw[Lib.decDigits,dif_pos h];rfl
theorem qgE {n:Nat} (h: ¬n<10):Lib.decDigits n=Lib.decDigits (n/10)++[dch (n%10)]:=by rw[Lib.decDigits,dif_neg h];rfl
theorem qho: ∀(k n:Nat),0<n/10^k->Lib.decDigits n=Lib.decDigits (n/10^k)++qea k (n%10^k)
 |0,n,_=>by simp[qea]
 |k+1,n,h=>by
  have e1:n/10^(k+1)=n/10/10^k:=by rw[Nat.pow_succ,Nat.mul_comm,Nat.div_div_eq_div_mul]
  have hp:0<10^k:=Nat.pow_pos (by decide)
  have h10: ¬n<10:=fun c=>by
   rw[e1,Nat.div_eq_of_lt c,Nat.zero_div]at h;omega
  have e2:n%10^(k+1)/10=n/10%10^k:=by rw[Nat.pow_succ,Nat.mul_comm,Nat.mod_mul_right_div_self]
  have e3:n%10^(k+1)%10=n%10:=Nat.mod_mod_of_dvd _ ⟨10^k,by rw[Nat.pow_succ,Nat.mul_comm]⟩;rw[qgE h10,qho k (n/10) (by rw[<-e1];exact h),qea,e2,e3,e1,Yz]
theorem qbY (n:Nat):(Lib.decDigits n).all yc=true:=by
 induction n using Nat.strongRecOn with
 |_ n ih=>
  by_cases h:n<10
  ·rw[vR h,List.all_cons,qlS h];rfl
  rw[qgE h,List.all_append,ih _ (by omega),List.all_cons,qlS (by omega)];rfl
theorem qeI (n:Nat):qU 0 (Lib.decDigits n)=n:=by
 induction n using Nat.strongRecOn with
 |_ n ih=>
  by_cases h:n<10
  ·rw[vR h,qbD,qct,qhd h];omega
  rw[qgE h,qgz,ih _ (by omega),qhd (by omega)];omega
theorem qk7 (n:Nat):0<(Lib.decDigits n).length:=by rw[Lib.decDigits_length];exact Lib.nDigits_pos n
theorem qrF {m n:Nat} (h:Lib.decDigits m=Lib.decDigits n):m=n:=by rw[<-qeI m,h,qeI]
theorem qaS {n k:Nat} (hk:0<k):(Lib.decDigits n).length<=k↔n<10^k:=by
 constructor
 ·intro h;have:=qe3 (Lib.decDigits n) 0 (qbY n);rw[qeI]at this;have h2:(10:Nat)^(Lib.decDigits n).length<=10^k:=Nat.pow_le_pow_right (by omega) h;omega
 intro h;rcases Nat.lt_or_ge k (Lib.decDigits n).length with c|c
 ·exfalso;rw[Lib.decDigits_length]at c;obtain⟨m,hm⟩: ∃m,Lib.nDigits n=m+2:=⟨Lib.nDigits n-2,by omega⟩
  have hlow: ∀(n m:Nat),Lib.nDigits n=m+2->10^(m+1)<=n:=by
   intro n
   induction n using Nat.strongRecOn with
   |_ n ih=>
    intro m hm;by_cases h:n<10
    ·rw[Lib.nDigits_small h]at hm;omega
    rw[Lib.nDigits_big h]at hm
    cases m with
    |zero=>simp;omega
    |succ m=>
     have:=ih (n/10) (by omega) m (by omega);rw[Nat.pow_succ];omega
  have:=hlow n m hm;have h2:(10:Nat)^k<=10^(m+1):=Nat.pow_le_pow_right (by omega) (by omega);omega
 exact c
def Dec (s:Str):Prop:=0<s.length/\s.all yc=true/\(s[0]? =some 48->s=[48])
instance (s:Str):Decidable (Dec s):=by unfold Dec;infer_instance
theorem qmh {c:UInt8} (h:yc c=true):Dec [c]:=⟨by simp,by simp[h],fun e=>by simp at e;rw[e]⟩
theorem qpa: ∀(k:Nat) (s:Str),s.length<=k->Dec s->s=Lib.decDigits (qU 0 s)
 |0,s,h,hd=>by have:=hd.1;omega
 |k+1,s,h,hd=>by
  rcases List.eq_nil_or_concat s with e|⟨t,c,e⟩
  ·rw[e]at hd;exact absurd hd.1 (by simp)
  rw[List.concat_eq_append]at e;subst e;have ha:=hd.2.1;rw[List.all_append,Bool.and_eq_true,List.all_cons,List.all_nil,Bool.and_true]at ha;obtain⟨ec,hc⟩:=qmq ha.2;by_cases ht:t=[]
  ·subst ht;rw[List.nil_append,qbD,qct,Nat.zero_mul,Nat.zero_add,vR hc,<-ec]
  have htl:0<t.length:=List.length_pos_iff.2 ht
  have h0:t[0]? ≠some 48:=fun e=>by
   have:=hd.2.2 (by rw[Yf htl];exact e);have:=congrArg List.length this;rw[Yq,List.length_singleton,List.length_singleton]at this;omega
  have hD:Dec t:=⟨htl,ha.1,fun e=>absurd e h0⟩;have ih:=qpa k t (by simp at h;omega) hD
  have hv:qU 0 t≠0:=fun e=>by
   rw[e]at ih;exact h0 (by rw[ih,vR (by decide)];rfl)
  rw[qgz,qgE (by omega),show(qU 0 t*10+(c.toNat-48))/10=qU 0 t by omega,show(qU 0 t*10+(c.toNat-48))%10=c.toNat-48 by omega,<-ih,<-ec]
theorem Dec.eq {s:Str} (h:Dec s):s=Lib.decDigits (qU 0 s):=qpa s.length s (Nat.le_refl _) h
end Go.Av
end
