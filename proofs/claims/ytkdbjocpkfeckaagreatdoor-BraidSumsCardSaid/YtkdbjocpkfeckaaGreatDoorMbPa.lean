/-
  Digits to any base.
-/
import Derived.Test.YtkdbjocpkfeckaaGreatDoorAvPt
import Derived.Test.YtkdbjocpkfeckaaGreatDoorQGenSu
open Go.IntKind(wrap)
set_option linter.unusedVariables false
set_option linter.unusedSimpArgs false
set_option maxRecDepth 100000
set_option linter.unusedSectionVars false
section
namespace Go.Av
def dv (B:Int):List Int->Int
 |[]=>0
 |x::l=>x+B*dv B l
def Dg (B:Int) (l:List Int):Prop:= ∀x∈l,0<=x/\x<B
theorem Dg.nil {B:Int}:Dg B []:=fun x h=>by cases h
theorem Dg.cons {B x:Int} {l:List Int} (h:0<=x/\x<B) (k:Dg B l):Dg B (x::l):=fun y hy=>by
 rcases List.mem_cons.1 hy with rfl|hy
 ·exact h
 exact k y hy
theorem Dg.head {B x:Int} {l:List Int} (h:Dg B (x::l)):0<=x/\x<B:=h x (List.mem_cons_self ..)
theorem Dg.tail {B x:Int} {l:List Int} (h:Dg B (x::l)):Dg B l:=fun y hy=>h y (List.mem_cons_of_mem _ hy)
theorem Dg.take {B:Int} {l:List Int} (h:Dg B l) (n:Nat):Dg B (l.take n):=fun y hy=>h y (List.mem_of_mem_take hy)
theorem Dg.drop {B:Int} {l:List Int} (h:Dg B l) (n:Nat):Dg B (l.drop n):=fun y hy=>h y (List.mem_of_mem_drop hy)
theorem Dg.append {B:Int} {l r:List Int} (h:Dg B l) (k:Dg B r):Dg B (l++r):=fun y hy=>by
 rcases List.mem_append.1 hy with hy|hy
 ·exact h y hy
 exact k y hy
theorem Dg.set {B:Int} {l:List Int} (h:Dg B l) {i:Nat} {v:Int} (hv:0<=v/\v<B):Dg B (l.set i v):=fun y hy=>by
 rcases List.mem_or_eq_of_mem_set hy with hy|rfl
 ·exact h y hy
 exact hv
theorem Dg.at {B:Int} {l:List Int} (h:Dg B l) {i:Nat} (hi:i<l.length):0<=l[i]/\l[i]<B:=h _ (List.getElem_mem hi)
theorem Dg.zeros {B:Int} (hB:0<B) (n:Nat):Dg B (List.replicate n 0):=fun y hy=>by
 rw[(List.mem_replicate.1 hy).2];omega
theorem qaC (B:Int):dv B []=0:=rfl
theorem vB (B x:Int) (l:List Int):dv B (x::l)=x+B*dv B l:=rfl
theorem qeg (B:Int): ∀(l r:List Int),dv B (l++r)=dv B l+B^l.length*dv B r
 |[],r=>by simp[dv]
 |x::l,r=>by
  rw[List.cons_append,vB,vB,qeg B l r,Yr,Int.pow_succ];grind
theorem qhw (B:Int): ∀n,dv B (List.replicate n 0)=0
 |0=>rfl
 |n+1=>by rw[List.replicate_succ,vB,qhw B n];simp
theorem qcI {B:Int} (hB:0<B): ∀{l:List Int},Dg B l->0<=dv B l
 |[],_=>Int.le_refl _
 |x::l,h=>by
  have h1:=h.head;have h2:=Yv (Int.le_of_lt hB) (qcI hB h.tail);rw[vB];omega
theorem pow_pos {B:Int} (hB:0<B): ∀n:Nat,0<B^n
 |0=>by simp
 |n+1=>by rw[Int.pow_succ];exact Int.mul_pos (pow_pos hB n) hB
theorem qmc {B:Int} (hB:0<B): ∀{l:List Int},Dg B l->dv B l<B^l.length
 |[],_=>by simp[dv]
 |x::l,h=>by
  have h1:=h.head;have h2:=qmc hB h.tail;have h3:B*(dv B l+1)<=B*B^l.length:=Yc (by omega) (Int.le_of_lt hB);rw[vB,Yr,Int.pow_succ,Int.mul_comm (B^l.length)];rw[Int.mul_add,Int.mul_one]at h3;omega
theorem qpw (B:Int): ∀(l:List Int) (i:Nat) (v:Int) (h:i<l.length),dv B (l.set i v)=dv B l+B^i*(v-l[i])
 |[],i,v,h=>by simp at h
 |x::l,0,v,h=>by
  rw[List.set_cons_zero,vB,vB];simp only[Int.pow_zero,List.getElem_cons_zero];omega
 |x::l,i+1,v,h=>by
  have:=qpw B l i v (by simpa using h);rw[List.set_cons_succ,vB,vB,this,Int.pow_succ];simp only[List.getElem_cons_succ];grind
theorem qe4 (B:Int) (l:List Int) (i:Nat) (h:i<l.length):dv B (l.take (i+1))=dv B (l.take i)+B^i*l[i]:=by
 rw[List.take_succ_eq_append_getElem h,qeg,Ym,Nat.min_eq_left (Nat.le_of_lt h),vB,qaC];simp
theorem qg7 (B:Int) (l:List Int) (k:Nat) (h:k<=l.length):dv B l=dv B (l.take k)+B^k*dv B (l.drop k):=by
 have:=qeg B (l.take k) (l.drop k);rw[List.take_append_drop,Ym,Nat.min_eq_left h]at this;exact this
def Can (B:Int) (l:List Int):Prop:=Dg B l/\ ∀x,l.getLast? =some x->x≠0
theorem Can.nil {B:Int}:Can B []:=⟨Dg.nil,fun x h=>by simp at h⟩
theorem Can.tail {B x:Int} {l:List Int} (h:Can B (x::l)):Can B l:=⟨h.1.tail,fun y hy=>h.2 y (by
 cases l with
 |nil=>simp at hy
 |cons a l=>rw[List.getLast?_cons_cons];exact hy)⟩
theorem Can.pos {B:Int} (hB:1<B): ∀{l:List Int},Can B l->l≠[]->0<dv B l
 |[],_,h=>absurd rfl h
 |x::l,h,_=>by
  have h1:=h.1.head;rw[vB]
  cases l with
  |nil=>
   have:=h.2 x (by simp);rw[qaC];omega
  |cons y l=>
   have h2:=h.tail.pos hB (by simp);have h3:0<B*dv B (y::l):=Int.mul_pos (by omega) h2;omega
theorem Can.uniq {B:Int} (hB:1<B): ∀{l r:List Int},Can B l->Can B r->dv B l=dv B r->l=r
 |[],[],_,_,_=>rfl
 |[],y::r,_,k,e=>by have:=k.pos hB (by simp);rw[<-e,qaC]at this;omega
 |x::l,[],h,_,e=>by have:=h.pos hB (by simp);rw[e,qaC]at this;omega
 |x::l,y::r,h,k,e=>by
  rw[vB,vB]at e;have h1:=h.1.head;have k1:=k.1.head
  have e1:x=y:=by
   have a:(x+B*dv B l)%B=x:=by rw[Int.add_mul_emod_self_left];exact Int.emod_eq_of_lt h1.1 h1.2
   have b:(y+B*dv B r)%B=y:=by rw[Int.add_mul_emod_self_left];exact Int.emod_eq_of_lt k1.1 k1.2
   rw[<-a,<-b,e]
  have e2:dv B l=dv B r:=Int.eq_of_mul_eq_mul_left (by omega) (show B*dv B l=B*dv B r by omega);rw[e1,h.tail.uniq hB k.tail e2]
theorem Can.low {B:Int} (hB:1<B): ∀{l:List Int} {n:Nat},Can B l->l.length=n+1->B^n<=dv B l
 |[],n,_,h=>by simp at h
 |x::l,0,h,hn=>by
  have:=h.pos hB (by simp);simp only[Int.pow_zero];omega
 |x::l,n+1,h,hn=>by
  have h1:=h.1.head;have h2:=h.tail.low hB (n:=n) (by simpa using hn);have h3:B*B^n<=B*dv B l:=Yc h2 (by omega);rw[vB,Int.pow_succ,Int.mul_comm (B^n)];omega
def dgF (B:Int):Nat->Int->List Int
 |0,_=>[]
 |t+1,z=>if z<=0 then[]else z%B::dgF B t (z/B)
def dg (B z:Int):List Int:=dgF B z.toNat z
theorem qfE {B:Int} (hB:1<B): ∀(t:Nat) (z:Int),0<=z->z<=t->Can B (dgF B t z)/\dv B (dgF B t z)=z
 |0,z,h1,h2=>⟨Can.nil,by rw[dgF,qaC];omega⟩
 |t+1,z,h1,h2=>by
  rw[dgF];split
  ·exact⟨Can.nil,by rw[qaC];omega⟩
  rename_i hz;have hd:=Int.mul_ediv_add_emod z B;have hm:=Int.emod_nonneg z (show B≠0 by omega);have hm2:=Int.emod_lt_of_pos z (show 0<B by omega);have hq:0<=z/B:=Int.ediv_nonneg h1 (by omega);have hq2:z/B<z:=Int.ediv_lt_self_of_pos_of_ne_one (by omega) (by omega);obtain⟨c,e⟩:=qfE hB t (z/B) hq (by omega);refine⟨⟨Dg.cons ⟨hm,hm2⟩ c.1,fun x hx=>?_⟩,by rw[vB,e];omega⟩
  cases hl:dgF B t (z/B)with
  |nil=>
   rw[hl]at hx e;rw[qaC]at e;rw[<-e,Int.mul_zero]at hd;simp only[List.getLast?_singleton,ZI]at hx;omega
  |cons a l=>
   rw[hl,List.getLast?_cons_cons]at hx;exact c.2 x (by rw[hl];exact hx)
theorem qfO {B:Int} (hB:1<B) {z:Int} (h:0<=z):Can B (dg B z):=(qfE hB _ z h (by omega)).1
theorem qgR {B:Int} (hB:1<B) {z:Int} (h:0<=z):dv B (dg B z)=z:=(qfE hB _ z h (by omega)).2
theorem dg_dv {B:Int} (hB:1<B) {l:List Int} (h:Can B l):dg B (dv B l)=l:=
 (qfO hB (qcI (by omega) h.1)).uniq hB h (qgR hB (qcI (by omega) h.1))
theorem qlB (B:Int):dg B 0=[]:=rfl
theorem qrh {B:Int} (hB:1<B) {z:Int} (h:0<=z):dg B z=[]↔z=0:=by
 constructor
 ·intro e;have:=qgR hB h;rw[e,qaC]at this;exact this.symm
 rintro rfl;rfl
theorem ym {B:Int} (hB:1<=B) {m n:Nat} (h:m<=n):B^m<=B^n:=by
 obtain⟨k,rfl⟩:=Nat.exists_eq_add_of_le h;rw[Int.pow_add]
 have h1:1<=B^k:=by have:=pow_pos (show 0<B by omega) k;omega
 have h2:=Yc h1 (Int.le_of_lt (pow_pos (show 0<B by omega) m));omega
theorem qnv {B:Int} (hB:1<B) {z:Int} (h:0<=z) {n:Nat}:(dg B z).length<=n↔z<B^n:=by
 constructor
 ·intro hl;have h1:=qmc (show 0<B by omega) (qfO hB h).1;have h2:=ym (show 1<=B by omega) hl;rw[qgR hB h]at h1;omega
 intro hz
 cases e:(dg B z).length with
 |zero=>omega
 |succ m=>
  have h1:=(qfO hB h).low hB e;rw[qgR hB h]at h1;rcases Nat.lt_or_ge m n with h2|h2
  ·exact h2
  have:=ym (show 1<=B by omega) h2;omega
theorem qjc {B:Int} {z:Int} (h0:0<z) (h:z<B):dg B z=[z]:=by
 have hB:1<B:=by omega
 refine(qfO hB (by omega)).uniq hB ⟨Dg.cons ⟨by omega,h⟩ Dg.nil,fun x hx=>?_⟩ ?_
 ·simp only[List.getLast?_singleton,ZI]at hx;omega
 rw[qgR hB (by omega),vB,qaC];omega
theorem qqK {B:Int} (hB:1<B) {w:List Int} (h:Dg B w) {m:Nat} (hm:m<=w.length) (h0: ∀x,0<m->w[m-1]? =some x->x≠0) (hz: ∀(i:Nat) x,m<=i->w[i]? =some x->x=0):w.take m=dg B (dv B w):=by
 have hc:Can B (w.take m):=⟨h.take m,fun x hx=>by
  rw[List.getLast?_eq_getElem?,Ym,Nat.min_eq_left hm]at hx
  cases m with
  |zero=>simp at hx
  |succ m=>
   refine h0 x (by omega) ?_;rw[Yt]at hx;split at hx
   ·exact hx
   cases hx⟩
 have e:dv B w=dv B (w.take m):=by
  rw[qg7 B w m hm]
  have:w.drop m=List.replicate (w.length-m) 0:=by
   refine List.ext_getElem? fun i=>?_
   rw[YI,List.getElem?_replicate];by_cases hi:i<w.length-m
   ·rw[if_pos hi]
    cases hx:w[m+i]? with
    |none=>rw[List.getElem?_eq_none_iff]at hx;omega
    |some x=>rw[hz (m+i) x (by omega) hx]
   rw[if_neg hi];exact Yg (by omega)
  rw[this,qhw,Int.mul_zero,Int.add_zero]
 rw[e,dg_dv hB hc]
end Go.Av
end
section
namespace Go.Av
abbrev W:Int:=18446744073709551616
theorem wu (n:Int):wrap .u64 n=n%18446744073709551616:=rfl
theorem qec {n:Int} (h0:0<=n) (h:n<18446744073709551616):wrap .u64 n=n:=by rw[wu];exact Int.emod_eq_of_lt h0 h
theorem qh5 {n:Int} (h0:0<=n) (h:n<18446744073709551616):(BitVec.ofInt 64 n).toNat=n.toNat:=by
 rw[BitVec.toNat_ofInt];have:n%((2:Nat)^64:Nat)=n:=Int.emod_eq_of_lt h0 (by simpa using h);rw[this]
theorem qfL {x:Int} (h0:0<=x) (h:x<18446744073709551616):zo .u64 x 4294967295=x%4294967296:=by
 show wrap .u64 _=_
 have e:(BitVec.ofInt IntKind.u64.bits x&&&BitVec.ofInt IntKind.u64.bits 4294967295).toNat=x.toNat%4294967296:=by
  rw[BitVec.toNat_and];show(BitVec.ofInt 64 x).toNat&&&(BitVec.ofInt 64 4294967295).toNat=_;rw[qh5 h0 h,qh5 (by omega) (by omega)];exact Nat.and_two_pow_sub_one_eq_mod x.toNat 32
 rw[e,wu];omega
theorem qiu (x:Int) (k:Nat):qW .u64 x (k:Int)=x/2^(min k 64):=by
 show x.fdiv (2^(min (k:Int).toNat 64))=_;rw[Int.toNat_natCast,Int.fdiv_eq_ediv_of_nonneg _ (Int.le_of_lt (pow_pos (by omega) _))]
theorem qii (x:Int):qW .u64 x 32=x/4294967296:=qiu x 32
theorem shr16 (x:Int):qW .u64 x 16=x/65536:=qiu x 16
theorem shr8 (x:Int):qW .u64 x 8=x/256:=qiu x 8
theorem qep {a b:Int} (ha:0<=a/\a<4294967296) (hb:0<=b/\b<4294967296):0<=a*b/\a*b<=18446744065119617025:=by
 refine⟨Yv ha.1 hb.1,?_⟩;have:a*b<=4294967295*4294967295:=Int.mul_le_mul (by omega) (by omega) hb.1 (by omega);omega
theorem qnS {x y:Int} (hx:0<=x/\x<18446744073709551616) (hy:0<=y/\y<18446744073709551616):bits_Mul64 x y=some (x*y/18446744073709551616,x*y%18446744073709551616):=by
 unfold bits_Mul64;rw[qfL hx.1 hx.2,qfL hy.1 hy.2,qii x,qii y]
 have x1:0<=x/4294967296/\x/4294967296<4294967296:=by omega
 have x0:0<=x%4294967296/\x%4294967296<4294967296:=by omega
 have y1:0<=y/4294967296/\y/4294967296<4294967296:=by omega
 have y0:0<=y%4294967296/\y%4294967296<4294967296:=by omega
 have ex:x=x/4294967296*4294967296+x%4294967296:=by omega
 have ey:y=y/4294967296*4294967296+y%4294967296:=by omega
 have e:x*y=x/4294967296*(y/4294967296)*18446744073709551616+(x/4294967296*(y%4294967296)+x%4294967296*(y/4294967296))*4294967296+x%4294967296*(y%4294967296):=by
  generalize x/4294967296=a at*;generalize x%4294967296=b at*;generalize y/4294967296=c at*;generalize y%4294967296=d at*;subst ex ey;grind
 have b11:=qep x1 y1;have b10:=qep x1 y0;have b01:=qep x0 y1;have b00:=qep x0 y0;rw[e];generalize x/4294967296*(y/4294967296)=p11 at*;generalize x/4294967296*(y%4294967296)=p10 at*;generalize x%4294967296*(y/4294967296)=p01 at*;generalize x%4294967296*(y%4294967296)=p00 at*;rw[qec b11.1 (by omega),qec b10.1 (by omega),qec b01.1 (by omega),qec b00.1 (by omega),qii p00,qec (n:=p10+p00/4294967296) (by omega) (by omega),qii (p10+_),qfL (by omega) (by omega),qec (n:=_+p01) (by omega) (by omega),qii,qec (n:=p11+(p10+p00/4294967296)/4294967296) (by omega) (by omega),qec (by omega) (by omega),wu];congr 2;omega
def isLen (x l:Int):Prop:=(x=0/\l=0)\/(1<=l/\l<=64/\2^(l.toNat-1)<=x/\x<2^l.toNat)
def okT (T:List UInt8):Bool:=(List.range 256).all fun n=>match T[n]? with
 |some c=>decide (c.toNat<=8)&&((n==0&&c.toNat==0)||(decide (1<=c.toNat)&&(decide (2^(c.toNat-1)<=n)&&decide (n<2^c.toNat))))
 |none=>false
theorem qrZ {T:List UInt8} (h:okT T=true) {n:Int} (h0:0<=n) (h1:n<256): ∃c:UInt8,idx T n=some c/\c.toNat<=8/\isLen n (c.toNat:Int):=by
 obtain⟨n,rfl⟩:=Int.eq_ofNat_of_zero_le h0;have k1:=Yp.1 h n (List.mem_range.2 (by omega));split at k1
 ·rename_i c hc;simp only[Bool.and_eq_true,Bool.or_eq_true,decide_eq_true_eq,beq_iff_eq]at k1;refine⟨c,by rw[qp];exact hc,k1.1,?_⟩;rcases k1.2 with⟨k,k2⟩|⟨k,k2,k3⟩
  ·exact .inl ⟨by omega,by omega⟩
  refine .inr ⟨by omega,by omega,?_,?_⟩
  ·rw[Int.toNat_natCast];exact_mod_cast k2
  rw[Int.toNat_natCast];exact_mod_cast k3
 cases k1
theorem qko {x c:Int} (h0:0<=x) {k:Nat} (hk:k+c<=64) (h:isLen (x/2^k) c) (h1:1<=x/2^k\/k=0):isLen x (k+c):=by
 rcases h with⟨e,hc⟩|⟨c1,c2,l1,l2⟩
 ·rcases h1 with h1|rfl
  ·omega
  left;simp only[Int.pow_zero,Int.ediv_one]at e;omega
 right;have hp:=pow_pos (show(0:Int)<2 by omega) k;obtain⟨c,rfl⟩:=Int.eq_ofNat_of_zero_le (show 0<=c by omega);rw[Int.toNat_natCast]at l1 l2
 have e1:((k:Int)+(c:Int)).toNat=k+c:=by omega
 rw[e1];refine⟨by omega,hk,?_,?_⟩
 ·have:=(Int.le_ediv_iff_mul_le hp).1 l1;rw[<-Int.pow_add]at this;rw[show k+c-1=c-1+k by omega];exact this
 have:=(Int.ediv_lt_iff_lt_mul hp).1 l2;rw[<-Int.pow_add]at this;rw[show k+c=c+k by omega];exact this
theorem qpB {T:List UInt8} (hT:okT T=true) {x:Int} (h0:0<=x) (h:x<18446744073709551616): ∃l,(((if x>=4294967296 then
 some (qW .u64 x 32,32)
 else
 some (x,0):Option (Int×Int))).bind fun(n1,n2)=>
 ((if n1>=65536 then
 some (qW .u64 n1 16,w64 (n2+16))
 else
 some (n1,n2):Option (Int×Int))).bind fun(n5,n6)=>
 ((if n5>=256 then
 some (qW .u64 n5 8,w64 (n6+8))
 else
 some (n5,n6):Option (Int×Int))).bind fun(n9,n10)=>
 (idx T (wrap .u8 n9)).bind fun c13=>
 some (w64 (n10+(w64 (c13.toNat:Int)))))=some l/\isLen x l:=by
 have A: ∃(n k:Nat),(if x>=4294967296 then some (qW .u64 x 32,32)else some (x,0):Option (Int×Int))=some ((n:Int),(k:Int))/\(n:Int)=x/2^k/\k<=32/\(1<=n\/k=0)/\n<4294967296:=by
  by_cases c:x>=4294967296
  ·refine⟨(x/4294967296).toNat,32,?_,?_,by omega,by omega,by omega⟩
   ·rw[if_pos c,qii];congr 2;omega
   show _=x/4294967296;omega
  refine⟨x.toNat,0,?_,?_,by omega,by omega,by omega⟩
  ·rw[if_neg c];congr 2;omega
  show _=x/1;omega
 obtain⟨n,k,e,hn,hk,hp,hl⟩:=A;rw[e,ZB]
 have B: ∃(m j:Nat),(if(n:Int)>=65536 then some (qW .u64 n 16,w64 (k+16))else some ((n:Int),(k:Int)):Option (Int×Int))=some ((m:Int),(j:Int))/\(m:Int)=x/2^j/\j<=48/\(1<=m\/j=0)/\m<65536:=by
  by_cases c:(n:Int)>=65536
  ·refine⟨n/65536,k+16,?_,?_,by omega,by omega,by omega⟩
   ·rw[if_pos c,shr16,qz (by omega) (by omega)];congr 2
   rw[Int.natCast_ediv,hn,Int.pow_add,<-Int.ediv_ediv_of_nonneg (Int.le_of_lt (pow_pos (by omega) _))];rfl
  refine⟨n,k,by rw[if_neg c],hn,by omega,hp,by omega⟩
 obtain⟨m,j,e,hm,hj,hp,hl⟩:=B;simp only;rw[e,ZB]
 have C: ∃(p i:Nat),(if(m:Int)>=256 then some (qW .u64 m 8,w64 (j+8))else some ((m:Int),(j:Int)):Option (Int×Int))=some ((p:Int),(i:Int))/\(p:Int)=x/2^i/\i<=56/\(1<=p\/i=0)/\p<256:=by
  by_cases c:(m:Int)>=256
  ·refine⟨m/256,j+8,?_,?_,by omega,by omega,by omega⟩
   ·rw[if_pos c,shr8,qz (by omega) (by omega)];congr 2
   rw[Int.natCast_ediv,hm,Int.pow_add,<-Int.ediv_ediv_of_nonneg (Int.le_of_lt (pow_pos (by omega) _))];rfl
  refine⟨m,j,by rw[if_neg c],hm,by omega,hp,by omega⟩
 obtain⟨p,i,e,hpx,hi,hp,hl⟩:=C;simp only;rw[e,ZB];simp only;have w8:wrap .u8 (p:Int)=(p:Int):=Int.emod_eq_of_lt (by omega) (show(p:Int)<256 by omega);obtain⟨c,hc,c8,hlen⟩:=qrZ hT (n:=(p:Int)) (by omega) (by omega);rw[w8,hc,ZB,qz (n:=(c.toNat:Int)) (by omega) (by omega),qz (by omega) (by omega)];refine⟨_,rfl,qko h0 (by omega) (hpx▸hlen) ?_⟩;rcases hp with hp|hp
 ·left;rw[<-hpx];omega
 exact .inr hp
theorem qpD {x:Int} (h0:0<=x) (h:x<18446744073709551616): ∃l,bits_Len64 x=some l/\isLen x l:=by
 unfold bits_Len64;exact qpB (by kernel_rfl) h0 h
end Go.Av
end
section
namespace Go.Av
theorem W1:(1:Int)<W:=by decide
theorem qn9 {n:Nat} (h:n<=100000):mk 8 (n:Int) (0:Int)=some (List.replicate n 0):=by
 unfold mk;rw[if_pos (by omega),Int.toNat_natCast]
end Go.Av
end
section
namespace Go.Av
abbrev E9:Int:=1000000000
theorem E1:(1:Int)<E9:=by decide
theorem E0:(0:Int)<E9:=by decide
theorem qj8 {w:List Int} (hl:w.length<=100000): ∀(K m:Nat),m<=w.length->m<K->(∀(i:Nat) x,m<=i->w[i]? =some x->x=0)->
 ∃m':Nat,yz K (w.take m)=some (w.take m')/\m'<=w.length/\(∀x,0<m'->w[m'-1]? =some x->x≠0)/\ ∀(i:Nat) x,m'<=i->w[i]? =some x->x=0
 |0,m,h,hK,_=>by omega
 |K+1,m,h,hK,hz=>by
  have el:(w.take m).length=m:=by rw[Ym];omega
  rw[yz,el];by_cases h0:0<m
  ·have hm:m-1<w.length:=by omega
   have e1:(w.take m)[m-1]? =some w[m-1]:=by rw[Yt,if_pos (by omega),Ya hm]
   rw[if_pos (by omega),qnj (by omega) h0,qp,e1,ZB,ZB];by_cases c:w[m-1]=0
   ·rw[decide_eq_true c,if_pos rfl,qca (by omega),ZB,List.take_take,Nat.min_eq_left (by omega)]
    refine qj8 hl K (m-1) (by omega) (by omega) fun i x hi hx=>?_
    rcases Nat.lt_or_ge i m with h1|h1
    ·have e:i=m-1:=by omega
     subst e;rw[Ya hm]at hx;rw[<-Ye hx];exact c
    exact hz i x h1 hx
   rw[decide_eq_false c,if_neg (by simp)];refine⟨m,rfl,h,fun x _ hx=>?_,hz⟩;rw[Ya hm]at hx;rw[<-Ye hx];exact c
  rw[if_neg (by omega),ZB,if_neg (by simp)];exact⟨m,rfl,h,fun x h1=>by omega,hz⟩
theorem qhe {N:Nat} {w:List Int} (hw:Dg E9 w) (hl:w.length<=100000) (hN:w.length<N):qau N w=some (dg E9 (dv E9 w)):=by
 unfold qau;obtain⟨m,e,h1,h2,h3⟩:=qj8 hl N w.length (Nat.le_refl _) hN (fun i x hi hx=>by rw[Yg hi]at hx;cases hx);rw[List.take_of_length_le (Nat.le_refl _)]at e;rw[e,ZB,qqK E1 hw h1 h2 h3]
def rI (z:Int):yH:=⟨decide (z<0),dg E9 z.natAbs⟩
theorem qm6 {N:Nat} (neg:Bool) {w:List Int} (hw:Dg E9 w) (hl:w.length<=100000) (hN:w.length<N):xX N neg w=some (rI (if neg=true then-dv E9 w else dv E9 w)):=by
 have h0:=qcI E0 hw;have hn:=qrh E1 h0;unfold xX;rw[qhe hw hl hN,ZB]
 have hlen:0<(dg E9 (dv E9 w)).length↔0<dv E9 w:=by
  rw[List.length_pos_iff];constructor
  ·intro c
   have:dv E9 w≠0:=fun e=>c (hn.2 e)
   omega
  intro c e;have:=hn.1 e;omega
 cases neg with
 |true=>
  rw[if_pos rfl,if_pos rfl,ZB];unfold rI;rw[Int.natAbs_neg,show(dv E9 w).natAbs=dv E9 w by omega];congr 2;exact decide_eq_decide.2 (by omega)
 |false=>
  rw[if_neg (by simp),if_neg (by simp),ZB];unfold rI;rw[show((dv E9 w).natAbs:Int)=dv E9 w by omega,decide_eq_false (by omega)]
theorem qfW {a b:List Int} (ha:Can E9 a) (hb:Can E9 b) (h:a.length<b.length):dv E9 a<dv E9 b:=by
 obtain⟨n,hn⟩: ∃n,b.length=n+1:=⟨b.length-1,by omega⟩;have h1:=qmc E0 ha.1;have h2:=hb.low E1 hn;have h3:=ym (show(1:Int)<=E9 by decide) (show a.length<=n by omega);omega
theorem qlM {a b:List Int} (ha:Dg E9 a) (hl:a.length=b.length) (hb:Dg E9 b) {k:Nat} (hk:k<a.length) (he:a.drop (k+1)=b.drop (k+1)) (h:a[k]<b[k]'(by omega)):dv E9 a<dv E9 b:=by
 have e1:=qg7 E9 a (k+1) (by omega);have e2:=qg7 E9 b (k+1) (by omega);rw[qe4 E9 a k hk]at e1;rw[qe4 E9 b k (by omega)]at e2;have l1:=qmc E0 (ha.take k);have l2:=qcI E0 (hb.take k);rw[Ym,Nat.min_eq_left (by omega)]at l1;have l3:E9^k*(a[k]+1)<=E9^k*b[k]:=Yc (by omega) (Int.le_of_lt (pow_pos E0 k));rw[Int.mul_add,Int.mul_one]at l3;rw[he]at e1;omega
theorem qmd {a b:List Int} (ha:Dg E9 a) (hb:Dg E9 b) (hl:a.length=b.length) (hal:a.length<=100000): ∀(K k:Nat),k<=a.length->k<K->a.drop k=b.drop k->
 ko a b K ((k:Int)-1)=some (if dv E9 a<dv E9 b then .inr (-1)else if dv E9 a=dv E9 b then .inl ()else .inr 1)
 |0,k,h,hK,_=>by omega
 |K+1,0,h,hK,he=>by
  rw[YR,YR]at he;rw[ko,if_neg (by omega),he,if_neg (by omega),if_pos rfl]
 |K+1,k+1,h,hK,he=>by
  have hka:k<a.length:=by omega
  have hkb:k<b.length:=by omega
  have ek:((k+1:Nat):Int)-1=(k:Int):=by omega
  rw[ek,ko,if_pos (by omega),qp,Ya hka,ZB,qp,Ya hkb,ZB];by_cases d:a[k]<b[k]
  ·rw[if_pos d,if_pos (qlM ha hl hb hka he d)]
  rw[if_neg d];by_cases c:a[k]>b[k]
  ·have:=qlM hb hl.symm ha hkb he.symm c;rw[if_pos c,if_neg (by omega),if_neg (by omega)]
  rw[if_neg c,qz (by omega) (by omega)];refine qmd ha hb hl hal K k (by omega) (by omega) ?_;rw[YG hka,YG hkb,show a[k]=b[k]by omega,he]
theorem qfK {N:Nat} {a b:List Int} (ha:Can E9 a) (hb:Can E9 b) (hal:a.length<=10000) (hN:a.length+1<N):vz N a b=some (if dv E9 a<dv E9 b then-1 else if dv E9 a=dv E9 b then 0 else 1):=by
 unfold vz;by_cases h:a.length=b.length
 ·have e:=qmd ha.1 hb.1 h (by omega) N a.length (Nat.le_refl _) (by omega) (by rw[List.drop_of_length_le (Nat.le_refl _),List.drop_of_length_le (by omega)]);rw[if_neg (by simp[h]),qz (by omega) (by omega),e,ZB];by_cases c:dv E9 a<dv E9 b
  ·rw[if_pos c,if_pos c]
  rw[if_neg c,if_neg c];by_cases d:dv E9 a=dv E9 b
  ·rw[if_pos d,if_pos d]
  rw[if_neg d,if_neg d]
 rw[if_pos (by simp;omega)];by_cases c:a.length<b.length
 ·rw[if_pos (by omega),if_pos (qfW ha hb c)]
 have:=qfW hb ha (by omega);rw[if_neg (by omega),if_neg (by omega),if_neg (by omega)]
theorem qlS (l:List Int) (x:Int):dv E9 (l++[x])=dv E9 l+E9^l.length*x:=by rw[qeg,vB,qaC,Int.mul_zero,Int.add_zero]
theorem qoT {n:Nat}: ∀(m:Nat) z,(List.replicate n (0:Int))[m]? =some z->z=0:=fun m z hz=>by
 rw[List.getElem?_replicate]at hz;split at hz
 ·exact(Ye hz).symm
 cases hz
theorem qoE (l:List Int) {i:Nat} (h:i<l.length):dv E9 (l.drop i)=l[i]+E9*dv E9 (l.drop (i+1)):=by
 rw[YG h,vB]
theorem qn6 {l:List Int} {k:Nat} {v:Int} (hk:k<l.length) (h: ∀(i:Nat) x,i<=k->l[i]? =some x->x=0):dv E9 (l.set k v)=dv E9 l+E9^k*v:=by
 rw[qpw E9 l k v hk,h k l[k] (Nat.le_refl _) (Ya hk),Int.sub_zero]
theorem qlP {a:List Int} (ha:Dg E9 a) (hal:a.length<=20000) {d:Int} (d0:0<d) (d1:d<1000000000): ∀(K i:Nat) (l:List Int) (r:Int),i<=a.length->i<K->l.length=a.length->Dg E9 l->(∀(m:Nat) x,m<i->l[m]? =some x->x=0)->dv E9 l=E9^i*(dv E9 (a.drop i)/d)->r=dv E9 (a.drop i)%d->
 ∃l',zC a d K l r ((i:Int)-1)=some (l',dv E9 a%d)/\l'.length=a.length/\Dg E9 l'/\dv E9 l'=dv E9 a/d
 |0,i,l,r,h,hK,_,_,_,_,_=>by omega
 |K+1,0,l,r,h,hK,hl,hd,hz,e,er=>by
  rw[YR]at e er;rw[zC,if_neg (by omega),er];exact⟨l,rfl,hl,hd,by rw[e];simp⟩
 |K+1,i+1,l,r,h,hK,hl,hd,hz,e,er=>by
  have hi:i<a.length:=by omega
  have hil:i<l.length:=by omega
  have ax:=ha.at hi;have ax2:a[i]<1000000000:=ax.2
  have r0:0<=r:=by rw[er];exact Int.emod_nonneg _ (by omega)
  have r1:r<d:=by rw[er];exact Int.emod_lt_of_pos _ d0
  have ei:((i+1:Nat):Int)-1=(i:Int):=by omega
  have hr1:r*1000000000<=999999998*1000000000:=Int.mul_le_mul_of_nonneg_right (by omega) (by omega);have q0:0<=(r*1000000000+a[i])/d:=Int.ediv_nonneg (by omega) (by omega)
  have q1:(r*1000000000+a[i])/d<1000000000:=by
   rw[Int.ediv_lt_iff_lt_mul d0];have:(r+1)*1000000000<=d*1000000000:=Int.mul_le_mul_of_nonneg_right (by omega) (by omega);rw[Int.mul_comm 1000000000];omega
  have hq:qfq .i64 (r*1000000000+a[i]) d=some ((r*1000000000+a[i])/d):=by
   unfold qfq;rw[if_neg (by omega),Int.tdiv_eq_ediv_of_nonneg (by omega)];show some (w64 _)=_;rw[qz (by omega) (by omega)]
  have hm:qhf .i64 (r*1000000000+a[i]) d=some ((r*1000000000+a[i])%d):=by
   unfold qhf;rw[if_neg (by omega),Int.tmod_eq_emod_of_nonneg (by omega)]
  rw[zC,ei,if_pos (by omega),qp,Ya hi,ZB,qz (n:=r*1000000000) (by omega) (by omega),qz (n:=r*1000000000+a[i]) (by omega) (by omega),hq,ZB,qp,Ya hil,ZB,yh hil,ZB,hm,ZB,qz (by omega) (by omega)]
  have ed:dv E9 (a.drop i)=r*1000000000+a[i]+d*(dv E9 (a.drop (i+1))/d*1000000000):=by
   have h1:=Int.mul_ediv_add_emod (dv E9 (a.drop (i+1))) d;rw[<-er]at h1;rw[qoE a hi,<-Int.mul_assoc];have e9:E9*dv E9 (a.drop (i+1))=1000000000*dv E9 (a.drop (i+1)):=rfl;rw[e9];generalize d*(dv E9 (a.drop (i+1))/d)=m at*;omega
  refine qlP ha hal d0 d1 K i _ _ (by omega) (by omega) (by rw[Yk];exact hl) (hd.set ⟨q0,q1⟩) (fun m x hm hx=>?_) ?_ ?_
  ·rw[Yw (by omega)]at hx;exact hz m x (by omega) hx
  ·rw[qn6 hil (fun m x hm hx=>hz m x (by omega) hx),e,ed,Int.add_mul_ediv_left _ _ (by omega),Int.pow_succ,Int.mul_assoc,<-Int.mul_add];congr 1;have e9:E9*(dv E9 (a.drop (i+1))/d)=1000000000*(dv E9 (a.drop (i+1))/d):=rfl;rw[e9];omega
  rw[ed,Int.add_mul_emod_self_left]
theorem qkn {N:Nat} {a:List Int} (ha:Dg E9 a) (hal:a.length<=20000) (hN:a.length<N) {d:Int} (d0:0<d) (d1:d<1000000000):xx N a d=some (dg E9 (dv E9 a/d),dv E9 a%d):=by
 unfold xx;rw[qn9 (by omega),ZB,qz (by omega) (by omega)];obtain⟨l,e,h1,h2,h3⟩:=qlP ha hal d0 d1 N a.length (List.replicate a.length 0) 0 (Nat.le_refl _) (by omega) (by simp) (Dg.zeros E0 _) (fun m x _ hx=>qoT m x hx) (by rw[qhw,List.drop_of_length_le (Nat.le_refl _),qaC];simp) (by rw[List.drop_of_length_le (Nat.le_refl _),qaC];simp);rw[e,ZB];simp only;rw[qhe h2 (by omega) (by omega),ZB,h3]
end Go.Av
end
section
namespace Go.Av
end Go.Av
end
section
namespace Go.Av
end Go.Av
end
section
namespace Go.Av
end Go.Av
end
section
namespace Go.Av
theorem size_eq {n:Int} (h1: -9223372036854775808<=n) (h2:n<=9223372036854775807):qaL n=some (n.natAbs:Int):=by
 unfold qaL;by_cases h:n<0
 ·rw[if_pos h];congr 1
  have e:w64 (0-n)=(if n= -9223372036854775808 then-9223372036854775808 else-n):=by
   split
   ·rename_i e;subst e;rfl
   rw[qz (by omega) (by omega)];omega
  rw[e,wu];split<;>omega
 rw[if_neg h,qec (by omega) (by omega)];congr 1;omega
end Go.Av
end
section
namespace Go.Av
theorem qcL {a b:Int} (ha:0<=a) (hb:0<=b):Int.gcd a b=Int.gcd b (a%b):=by
 obtain⟨m,rfl⟩:=Int.eq_ofNat_of_zero_le ha;obtain⟨n,rfl⟩:=Int.eq_ofNat_of_zero_le hb;show Nat.gcd m n=Nat.gcd n (m%n);rw[Nat.gcd_comm m n,Nat.gcd_rec n m,Nat.gcd_comm]
theorem qdd (a:Int) {g:Int} (hg:0<g):((a/g).natAbs:Int)<=(a.natAbs:Int):=by
 have:=Int.natAbs_ediv_le_natAbs a g;omega
theorem qgK (p q:Rat):p+q=Rat.divInt (p.num*q.den+q.num*p.den) ((p.den:Int)*q.den):=by
 rw[Rat.add_def',<-Rat.divInt_ofNat,Int.natCast_mul]
theorem qhh (p q:Rat):p*q=Rat.divInt (p.num*q.num) ((p.den:Int)*q.den):=by
 rw[Rat.mul_def',<-Rat.divInt_ofNat,Int.natCast_mul]
theorem qiM (p q:Rat):(p.den:Int)*q.den≠0:=Int.mul_ne_zero (by have:=p.den_pos;omega) (by have:=q.den_pos;omega)
end Go.Av
end
section
namespace Go.Av
abbrev qj0 (z:Int) (n:Nat):Prop:=(z.natAbs:Int)<E9^n
theorem qj0.len {z:Int} {n:Nat} (h:qj0 z n):(dg E9 z.natAbs).length<=n:=(qnv E1 (by omega)).2 h
theorem qj0.mono {z:Int} {m n:Nat} (h:qj0 z m) (hn:m<=n):qj0 z n:=Int.lt_of_lt_of_le h (ym (by decide) hn)
end Go.Av
end
section
namespace Go.Av
def qaj (c:UInt8):Bool:=decide (48<=c.toNat)&&decide (c.toNat<=57)
def vG (n:Nat) (s:List UInt8):Nat:=s.foldl (fun a c=>a*10+(c.toNat-48)) n
theorem qcH (n:Nat):vG n []=n:=List.foldl_nil
theorem qbV (n:Nat) (c:UInt8) (s:List UInt8):vG n (c::s)=vG (n*10+(c.toNat-48)) s:=by
 unfold vG;rw[List.foldl_cons]
theorem qgv (s:List UInt8): ∀n:Nat,s.all qaj=true->vG n s<(n+1)*10^s.length:=by
 induction s with
 |nil=>
  intro n _;rw[List.length_nil,Nat.pow_zero,Nat.mul_one,qcH];exact Nat.lt_succ_self n
 |cons c s ih=>
  intro n h;rw[List.all_cons,Bool.and_eq_true]at h;have h1:=ih (n*10+(c.toNat-48)) h.2
  have hd:c.toNat-48<=9:=by
   have:=h.1;simp[qaj]at this;omega
  have h2:n*10+(c.toNat-48)+1<=(n+1)*10:=by omega
  rw[qbV,Yr,Nat.pow_succ,Nat.mul_comm (10^s.length) 10,<-Nat.mul_assoc];exact Nat.lt_of_lt_of_le h1 (Nat.mul_le_mul_right _ h2)
theorem ne48 {c:UInt8} (h: ¬c=48): ¬((c.toNat:Int)=48):=fun e=>h (UInt8.toNat_inj.1 (show c.toNat=48 from by omega))
theorem qnG (s:List UInt8): ∀n:Nat,vG n s=n*10^s.length+vG 0 s:=by
 induction s with
 |nil=>intro n;rw[qcH,qcH];simp
 |cons c s ih=>
  intro n;rw[qbV,qbV,ih,ih (0*10+_),Yr,Nat.pow_succ,Nat.zero_mul,Nat.zero_add,Nat.add_mul];rw[Nat.mul_assoc,Nat.mul_comm 10,<-Nat.add_assoc]
theorem qfX (s t:List UInt8):vG 0 (s++t)=vG 0 s*10^t.length+vG 0 t:=by
 have:vG 0 (s++t)=vG (vG 0 s) t:=by unfold vG;rw[List.foldl_append]
 rw[this,qnG]
theorem qfT (s:List UInt8) (c:UInt8):vG 0 (s++[c])=vG 0 s*10+(c.toNat-48):=by
 rw[qfX];simp[qbV,qcH]
def dch (n:Nat):UInt8:=UInt8.ofNat (48+n)
theorem qgg {n:Nat} (h:n<10):(dch n).toNat=48+n:=by
 unfold dch;rw[UInt8.toNat_ofNat'];omega
theorem qlv {n:Nat} (h:n<10):qaj (dch n)=true:=by
 unfold qaj;rw[qgg h,Bool.and_eq_true,decide_eq_true_eq,decide_eq_true_eq];omega
theorem ql6 {c:UInt8} (h:qaj c=true):c=dch (c.toNat-48)/\c.toNat-48<10:=by
 unfold qaj at h;rw[Bool.and_eq_true,decide_eq_true_eq,decide_eq_true_eq]at h;refine⟨?_,by omega⟩;rw[<-UInt8.toNat_inj,qgg (by omega)];omega
theorem qbh {n:Nat} (h:n<10):Lib.decDigits n=[dch n]:=by rw[Lib.decDigits,dif_pos h];rfl
theorem qhz {n:Nat} (h: ¬n<10):Lib.decDigits n=Lib.decDigits (n/10)++[dch (n%10)]:=by rw[Lib.decDigits,dif_neg h];rfl
theorem xE (n:Nat):(Lib.decDigits n).all qaj=true:=by
 induction n using Nat.strongRecOn with
 |_ n ih=>
  by_cases h:n<10
  ·rw[qbh h,List.all_cons,qlv h];rfl
  rw[qhz h,List.all_append,ih _ (by omega),List.all_cons,qlv (by omega)];rfl
theorem qa0 (n:Nat):vG 0 (Lib.decDigits n)=n:=by
 induction n using Nat.strongRecOn with
 |_ n ih=>
  by_cases h:n<10
  ·rw[qbh h,qbV,qcH,qgg h];omega
  rw[qhz h,qfT,ih _ (by omega),qgg (by omega)];omega
theorem qkI (n:Nat):0<(Lib.decDigits n).length:=by rw[Lib.decDigits_length];exact Lib.nDigits_pos n
theorem qrV {m n:Nat} (h:Lib.decDigits m=Lib.decDigits n):m=n:=by rw[<-qa0 m,h,qa0]
theorem qhv {n k:Nat} (hk:0<k):(Lib.decDigits n).length<=k↔n<10^k:=by
 constructor
 ·intro h;have:=qgv (Lib.decDigits n) 0 (xE n);rw[qa0]at this;have h2:(10:Nat)^(Lib.decDigits n).length<=10^k:=Nat.pow_le_pow_right (by omega) h;omega
 intro h;rcases Nat.lt_or_ge k (Lib.decDigits n).length with c|c
 ·exfalso;rw[Lib.decDigits_length]at c;obtain⟨m,hm⟩: ∃m,Lib.nDigits n=m+2:=⟨Lib.nDigits n-2,by omega⟩
  have hlow: ∀(n m:Nat),Lib.nDigits n=m+2->10^(m+1)<=n:=by
   intro n
   induction n using Nat.strongRecOn with
   |_ n ih=>
    intro m hm;by_cases h:n<10
    ·rw[Lib.nDigits_small h]at hm;omega
    rw[Lib.nDigits_big h]at hm
    cases m with
    |zero=>simp;omega
    |succ m=>
     have:=ih (n/10) (by omega) m (by omega);rw[Nat.pow_succ];omega
  have:=hlow n m hm;have h2:(10:Nat)^k<=10^(m+1):=Nat.pow_le_pow_right (by omega) (by omega);omega
 exact c
def Dec (s:Str):Prop:=0<s.length/\s.all qaj=true/\(s[0]? =some 48->s=[48])
instance (s:Str):Decidable (Dec s):=by unfold Dec;infer_instance
theorem qqf {c:UInt8} (h:qaj c=true):Dec [c]:=⟨by simp,by simp[h],fun e=>by simp at e;rw[e]⟩
theorem qpz: ∀(k:Nat) (s:Str),s.length<=k->Dec s->s=Lib.decDigits (vG 0 s)
 |0,s,h,hd=>by have:=hd.1;omega
 |k+1,s,h,hd=>by
  rcases List.eq_nil_or_concat s with e|⟨t,c,e⟩
  ·rw[e]at hd;exact absurd hd.1 (by simp)
  rw[List.concat_eq_append]at e;subst e;have ha:=hd.2.1;rw[List.all_append,Bool.and_eq_true,List.all_cons,List.all_nil,Bool.and_true]at ha;obtain⟨ec,hc⟩:=ql6 ha.2;by_cases ht:t=[]
  ·subst ht;rw[List.nil_append,qbV,qcH,Nat.zero_mul,Nat.zero_add,qbh hc,<-ec]
  have htl:0<t.length:=List.length_pos_iff.2 ht
  have h0:t[0]? ≠some 48:=fun e=>by
   have:=hd.2.2 (by rw[Yf htl];exact e);have:=congrArg List.length this;rw[Yq,List.length_singleton,List.length_singleton]at this;omega
  have hD:Dec t:=⟨htl,ha.1,fun e=>absurd e h0⟩;have ih:=qpz k t (by simp at h;omega) hD
  have hv:vG 0 t≠0:=fun e=>by
   rw[e]at ih;exact h0 (by rw[ih,qbh (by decide)];rfl)
  rw[qfT,qhz (by omega),show(vG 0 t*10+(c.toNat-48))/10=vG 0 t by omega,show(vG 0 t*10+(c.toNat-48))%10=c.toNat-48 by omega,<-ih,<-ec]
theorem Dec.eq {s:Str} (h:Dec s):s=Lib.decDigits (vG 0 s):=qpz s.length s (Nat.le_refl _) h
theorem qpq (n:Nat):Dec (Lib.decDigits n):=by
 refine⟨qkI n,xE n,?_⟩
 induction n using Nat.strongRecOn with
 |_ n ih=>
  intro e;by_cases h:n<10
  ·rw[qbh h]at e⊢;simp only[Yj]at e;rw[Ye e]
  exfalso;rw[qhz h,Yf (qkI _)]at e;have:=ih (n/10) (by omega) e;have h2:=qa0 (n/10);rw[this]at h2;have:vG 0 [48]=0:=rfl;omega
end Go.Av
end
section
namespace Go.Av
theorem qeN {a b:Str} (h:a.length+b.length<=1000000000):cat a b=some (a++b):=by
 unfold cat;rw[if_pos (by omega)]
theorem dcut {d:Nat} (h:d<10):cut ([48,49,50,51,52,53,54,55,56,57]:Str) (d:Int) (w64 ((d:Int)+1))=some [dch d]:=by
 rw[qV (by omega)];rcases(show d=0\/d=1\/d=2\/d=3\/d=4\/d=5\/d=6\/d=7\/d=8\/d=9 by omega)with e|e|e|e|e|e|e|e|e|e<;>subst e<;>decide
theorem tm10 (n:Nat):(n:Int).tmod 10=((n%10:Nat):Int):=by rw[Int.tmod_eq_emod_of_nonneg (by omega)];omega
theorem td10 (n:Nat):(n:Int).tdiv 10=((n/10:Nat):Int):=by rw[Int.tdiv_eq_ediv_of_nonneg (by omega)];omega
theorem qie {least:Int} {K n:Nat} {s:Str} (hn:n<9223372036854775808) (hs:s.length<=1000) (h:0<n\/(s.length:Int)<least):qX least (K+1) (n:Int) s=qX least K ((n/10:Nat):Int) (dch (n%10)::s):=by
 have cond:(if(n:Int)>0 then some true else some (decide ((s.length:Int)<least)):Option Bool)=some true:=by
  by_cases c:(n:Int)>0
  ·rw[if_pos c]
  rw[if_neg c,decide_eq_true (by omega)]
 rw[qX,cond,ZB,if_pos rfl,tm10,td10,dcut (by omega),ZB,qeN (by simp;omega),ZB,qz (by omega) (by omega)];rfl
theorem qh7 {least:Int} {K:Nat} {s:Str} (h: ¬(s.length:Int)<least):qX least (K+1) 0 s=some s:=by
 rw[qX,if_neg (by omega),decide_eq_false h,ZB,if_neg (by simp)]
theorem qjD: ∀(k K n:Nat) (s:Str),0<n->n<10^k->n<9223372036854775808->s.length+k<=900->k<K->qX 1 K (n:Int) s=some (Lib.decDigits n++s)
 |k,0,n,s,_,_,_,_,h=>by omega
 |0,K+1,n,s,h0,hn,_,hs,h=>by simp at hn;omega
 |k+1,K+1,n,s,h0,hn,h63,hs,h=>by
  rw[Nat.pow_succ]at hn;rw[qie h63 (by omega) (.inl h0)];by_cases c:n<10
  ·obtain⟨K2,rfl⟩: ∃K2,K=K2+1:=⟨K-1,by omega⟩;rw[show n/10=0 by omega,qbh c,show n%10=n by omega];exact qh7 (by simp;omega)
  rw[qjD k K (n/10) _ (by omega) (by omega) (by omega) (by simp;omega) (by omega),qhz c,Yz];rfl
theorem qjY {N n:Nat} (hN:100<N) (h:n<9223372036854775808):xe N (n:Int) 1=some (Lib.decDigits n):=by
 unfold xe;rcases Nat.eq_zero_or_pos n with e|e
 ·subst e;obtain⟨K,rfl⟩: ∃K,N=K+1+1:=⟨N-2,by omega⟩;have h1:=qie (least:=1) (K:=K+1) (n:=0) (s:=[]) (by omega) (by simp) (.inr (by simp));rw[h1,Nat.zero_div];have h2:=qh7 (least:=1) (K:=K) (s:=[dch (0%10)]) (by simp);have h2:qX 1 (K+1) ((0:Nat):Int) [dch (0%10)]=_:=h2;rw[h2,ZB,qbh (by decide)]
 rw[qjD 19 N n [] e (by omega) h (by simp) (by omega),ZB,YQ]
def nv (w:List Int):Nat:=(dv E9 w).toNat
theorem qa9 {z:Int} (h:z<0):Lib.itoa z=45::Lib.decDigits z.natAbs:=by unfold Lib.itoa;rw[if_pos h]
theorem xQ {z:Int} (h: ¬z<0):Lib.itoa z=Lib.decDigits z.natAbs:=by
 unfold Lib.itoa;rw[if_neg h,show z.toNat=z.natAbs by omega]
theorem qjT {s:Str} (hd:s.all qaj=true) (hl:s.length<=18): ∀(K i:Nat),i<=s.length->s.length<K+i->jV s K ((vG 0 (s.take i):Nat):Int) (i:Int)=some ((vG 0 s:Nat):Int)
 |0,i,h,hK=>by omega
 |K+1,i,h,hK=>by
  rw[jV];by_cases hi:i<s.length
  ·have ht:s.take (i+1)=s.take i++[s[i]]:=List.take_succ_eq_append_getElem hi;have hc:qaj s[i]=true:=Yp.1 hd _ (List.getElem_mem hi);obtain⟨_,hc2⟩:=ql6 hc
   have hc1:48<=s[i].toNat:=by
    unfold qaj at hc;rw[Bool.and_eq_true,decide_eq_true_eq]at hc;exact hc.1
   have hv:=qgv (s.take i) 0 (Yp.2 fun x hx=>Yp.1 hd x (List.mem_of_mem_take hx));have hp:(10:Nat)^(s.take i).length<=10^17:=Nat.pow_le_pow_right (by omega) (by rw[Ym];omega);have hp2:(10:Nat)^17=100000000000000000:=rfl;rw[if_pos (by omega),qp,Ya hi,ZB,qz (n:=10*((vG 0 (s.take i):Nat):Int)) (by omega) (by omega),qz (n:=(s[i].toNat:Int)) (by omega) (by omega),qz (n:=10*((vG 0 (s.take i):Nat):Int)+(s[i].toNat:Int)) (by omega) (by omega),qz (by omega) (by omega),qV (by omega)]
   have e:10*((vG 0 (s.take i):Nat):Int)+(s[i].toNat:Int)-48=((vG 0 (s.take (i+1)):Nat):Int):=by rw[ht,qfT];omega
   rw[e];exact qjT hd hl K (i+1) (by omega) (by omega)
  rw[if_neg (by omega),List.take_of_length_le (by omega)]
theorem qdF {N:Nat} (hN:100<N) {s:Str} (hd:s.all qaj=true) (hl:s.length<=18):yc N s=some ((vG 0 s:Nat):Int):=by
 have e:=qjT hd hl N 0 (by omega) (by omega);have e:jV s N 0 0=_:=e;unfold yc;rw[e,ZB]
theorem qpK {s:Str} (h:s.all qaj=true) (k:Nat):(s.take k).all qaj=true:=Yp.2 fun x hx=>Yp.1 h x (List.mem_of_mem_take hx)
theorem qkc {s:Str} (h:s.all qaj=true) (k:Nat):(s.drop k).all qaj=true:=Yp.2 fun x hx=>Yp.1 h x (List.mem_of_mem_drop hx)
theorem qjm {N:Nat} (hN:100<N): ∀(K:Nat) (l:List Int) (s:Str),s.all qaj=true->l.length+s.length<=90000->s.length<K->Dg E9 l->
 ∃l' s',vK N K l s=some (l',s')/\s'.length<=9/\s'.all qaj=true/\Dg E9 l'/\l'.length<=90000/\dv E9 l'+E9^l'.length*(vG 0 s':Nat)=dv E9 l+E9^l.length*(vG 0 s:Nat)
 |0,l,s,_,_,h,_=>by omega
 |K+1,l,s,hd,hl,h,hg=>by
  rw[vK];by_cases c:s.length>9
  ·have lu:(s.drop (s.length-9)).length=9:=by rw[YJ];omega
   have hv:=qdF (N:=N) hN (qkc hd (s.length-9)) (by omega);have hv2:=qgv _ 0 (qkc hd (s.length-9));rw[lu]at hv2;rw[if_pos (by omega),show w64 ((s.length:Int)-9)=((s.length-9:Nat):Int)by rw[qz (by omega) (by omega)];omega,qeb (by omega),ZB,hv,ZB,qct (by simp;omega) (by simp;omega),ZB,qca (by omega),ZB];obtain⟨l',s',f1,f2,f3,f4,f5,f6⟩:=qjm hN K (l++[((vG 0 (s.drop (s.length-9)):Nat):Int)]) (s.take (s.length-9)) (qpK hd _) (by simp;omega) (by rw[Ym];omega) (hg.append (Dg.cons ⟨by omega,show((vG 0 (s.drop (s.length-9)):Nat):Int)<1000000000 by omega⟩ Dg.nil));refine⟨l',s',f1,f2,f3,f4,f5,?_⟩;rw[f6,qlS,Yq,List.length_singleton,Int.pow_succ,Int.mul_assoc]
   have e:vG 0 s=vG 0 (s.take (s.length-9))*1000000000+vG 0 (s.drop (s.length-9)):=by
    have:=qfX (s.take (s.length-9)) (s.drop (s.length-9));rw[List.take_append_drop,lu]at this;exact this
   have e2:((vG 0 s:Nat):Int)=((vG 0 (s.drop (s.length-9)):Nat):Int)+E9*((vG 0 (s.take (s.length-9)):Nat):Int):=by
    have h4:E9*((vG 0 (s.take (s.length-9)):Nat):Int)=1000000000*((vG 0 (s.take (s.length-9)):Nat):Int):=rfl;omega
   rw[e2,Int.mul_add];omega
  rw[if_neg (by omega)];exact⟨l,s,rfl,by omega,hd,hg,by omega,rfl⟩
def sgn (s:Str):Bool:=decide (s[0]? =some 45)
def bdy (s:Str):Str:=if sgn s=true then s.drop 1 else s
theorem qe5 (s:Str):(if(s.length:Int)>0 then(idx s 0).bind fun c=>some (decide ((c.toNat:Int)=45))else some false:Option Bool)=some (sgn s):=by
 unfold sgn
 cases s with
 |nil=>rfl
 |cons c t=>
  rw[if_pos (by simp),qnT];have e:((c.toNat:Int)=45)↔(some c=some (45:UInt8)):=⟨fun h=>congrArg some (UInt8.toNat_inj.1 (show c.toNat=45 by omega)),fun h=>by rw[Ye h];rfl⟩;simp only[Yj,ZB];congr 1;exact decide_eq_decide.2 e
theorem qiv (s:Str):(if sgn s=true then(cut s 1 (s.length:Int)).bind fun x=>some x else some s:Option Str)=some (bdy s):=by
 unfold bdy
 cases h:sgn s with
 |false=>rw[if_neg (by simp),if_neg (by simp)]
 |true=>
  have hl:1<=s.length:=by
   cases s with
   |nil=>simp[sgn]at h
   |cons=>simp
  have:=qeb hl;have e:cut s 1 (s.length:Int)=some (s.drop 1):=this;rw[if_pos rfl,if_pos rfl,e,ZB]
def qky (s:Str):Int:=if sgn s=true then-((vG 0 (bdy s):Nat):Int)else((vG 0 (bdy s):Nat):Int)
theorem qjJ {N:Nat} (hN:100000<N) {s:Str} (hd:(bdy s).all qaj=true) (hl:(bdy s).length<=80000):xN N s=some (rI (qky s)):=by
 unfold xN;rw[qe5,ZB,qiv,ZB];obtain⟨l,t,f1,f2,f3,f4,f5,f6⟩:=qjm (N:=N) (by omega) N [] (bdy s) hd (by simp;omega) (by omega) Dg.nil;have hv:=qdF (N:=N) (by omega) f3 (by omega);have hv2:=qgv _ 0 f3;have hp:(10:Nat)^t.length<=10^9:=Nat.pow_le_pow_right (by omega) f2;rw[f1,ZB];simp only;have hg:=f4.append (r:=[((vG 0 t:Nat):Int)]) (Dg.cons ⟨by omega,show((vG 0 t:Nat):Int)<1000000000 by omega⟩ Dg.nil);rw[hv,ZB,qct (by simp;omega) (by simp;omega),ZB,qm6 _ hg (by simp;omega) (by simp;omega),ZB,qlS,f6];simp only[qaC,List.length_nil,Int.pow_zero,Int.one_mul,Int.zero_add];rfl
theorem qgC (z:Int):sgn (Lib.itoa z)=decide (z<0):=by
 unfold sgn;by_cases h:z<0
 ·rw[qa9 h,decide_eq_true h];rfl
 rw[xQ h,decide_eq_false h]
 refine decide_eq_false fun e=>?_
 have hm:(45:UInt8)∈Lib.decDigits z.natAbs:=Yn e;have:=Yp.1 (xE z.natAbs) _ hm;exact absurd this (by decide)
theorem qno (z:Int):bdy (Lib.itoa z)=Lib.decDigits z.natAbs:=by
 unfold bdy;rw[qgC];by_cases h:z<0
 ·rw[decide_eq_true h,if_pos rfl,qa9 h];rfl
 rw[decide_eq_false h,if_neg (by simp),xQ h]
theorem qh6 (z:Int):qky (Lib.itoa z)=z:=by
 unfold qky;rw[qgC,qno,qa0];by_cases h:z<0
 ·rw[decide_eq_true h,if_pos rfl];omega
 rw[decide_eq_false h,if_neg (by simp)];omega
def slA:Str->Nat
 |[]=>0
 |c::s=>if c=47 then 0 else slA s+1
theorem qnM: ∀s:Str,slA s<=s.length
 |[]=>Nat.le_refl _
 |c::s=>by
  rw[slA,Yr];have:=qnM s;split<;>omega
theorem qjy {s:Str} (hl:s.length<=1000000): ∀(K i:Nat),i<=s.length->s.length<K+i->jS s K (i:Int)=some (if i+slA (s.drop i)<s.length then .inr ((i+slA (s.drop i):Nat):Int)else .inl ())
 |0,i,h,hK=>by omega
 |K+1,i,h,hK=>by
  rw[jS];by_cases hi:i<s.length
  ·have hd:s.drop i=s[i]::s.drop (i+1):=YG hi;rw[if_pos (by omega),qp,Ya hi,ZB,hd,slA];by_cases c:s[i]=47
   ·rw[if_pos c,if_pos (by rw[c];rfl),Nat.add_zero,if_pos hi]
   rw[if_neg c,if_neg (fun e=>c (UInt8.toNat_inj.1 (show s[i].toNat=47 by omega))),qV (by omega),qjy hl K (i+1) (by omega) (by omega),show i+1+slA (s.drop (i+1))=i+(slA (s.drop (i+1))+1)by omega]
  rw[if_neg (by omega),List.drop_of_length_le (by omega),if_neg (by omega)]
theorem qe2 {N:Nat} {s:Str} (hl:s.length<=1000000) (hN:s.length<N):xG N s=some (slA s:Int):=by
 have e:=qjy hl N 0 (by omega) (by omega);have e:jS s N 0=_:=e;have h:=qnM s;unfold xG;rw[e,YR,Nat.zero_add];by_cases c:slA s<s.length
 ·rw[if_pos c];rfl
 rw[if_neg c]
 have:slA s=s.length:=by omega
 rw[this];rfl
theorem qi9: ∀(s t:Str),(∀c∈s,c≠47)->slA (s++47::t)=s.length/\slA s=s.length
 |[],t,_=>⟨by simp[slA],rfl⟩
 |c::s,t,h=>by
  have h1:=qi9 s t fun x hx=>h x (List.mem_cons_of_mem _ hx)
  rw[List.cons_append,slA,slA,if_neg (h c (List.mem_cons_self ..)),if_neg (h c (List.mem_cons_self ..)),h1.1,h1.2];exact⟨rfl,rfl⟩
end Go.Av
end
section
namespace Go.Av
end Go.Av
end
section
namespace Go.Av
theorem qmD (n:Nat):Lib.itoa (n:Int)=Lib.decDigits n:=by rw[xQ (by omega),Int.natAbs_natCast]
end Go.Av
end
section
namespace Go.Av
def T (q:Rat):Str:=Lib.itoa q.num++(if q.den=1 then[]else 47::Lib.decDigits q.den)
theorem qg9 {s:Str} (hl:s.length<=1000000): ∀(K i:Nat),i<=s.length->s.length<K+i->jl s K (i:Int)=some (if(s.drop i).all qaj=true then .inl ()else .inr false)
 |0,i,h,hK=>by omega
 |K+1,i,h,hK=>by
  rw[jl];by_cases hi:i<s.length
  ·have hd:s.drop i=s[i]::s.drop (i+1):=YG hi;rw[if_pos (by omega),qp,Ya hi,ZB,hd,List.all_cons];generalize s[i]=c
   have e:(if(c.toNat:Int)<48 then some true else some (decide ((c.toNat:Int)>57)):Option Bool)=some (!qaj c):=by
    by_cases h1:(c.toNat:Int)<48
    ·rw[if_pos h1];congr 1;unfold qaj;rw[decide_eq_false (by omega)];rfl
    rw[if_neg h1];congr 1;unfold qaj;rw[decide_eq_true (p:=48<=c.toNat) (by omega),Bool.true_and,<-decide_not];exact decide_eq_decide.2 (by omega)
   rw[e,ZB]
   cases hc:qaj c with
   |true=>rw[if_neg (by simp),qV (by omega),qg9 hl K (i+1) (by omega) (by omega),Bool.true_and]
   |false=>rw[if_pos (by simp),Bool.false_and,if_neg (by simp)]
  rw[if_neg (by omega),List.drop_of_length_le (by omega)];rfl
theorem qhI {N:Nat} {s:Str} (hl:s.length<=1000000) (hN:s.length<N):j4 N s=some (decide (Dec s)):=by
 have e:=qg9 hl N 0 (by omega) (by omega);have e:jl s N 0=_:=e
 have ed:qaE N s=some (s.all qaj):=by
  unfold qaE;rw[e,YR];cases s.all qaj<;>rfl
 unfold j4
 cases s with
 |nil=>rfl
 |cons c t=>
  rw[if_neg (by simp;omega)];by_cases h1:((c::t).length:Int)>1
  ·rw[if_pos h1,qnT];simp only[Yj,ZB];by_cases h:c=48
   ·subst h;rw[if_pos (by decide),decide_eq_false fun hD=>?_];have:=congrArg List.length (hD.2.2 rfl);rw[List.length_singleton]at this;omega
   rw[if_neg (by simp[ne48 h]),ed,ZB];congr 1;rw[Bool.eq_iff_iff,decide_eq_true_eq];exact⟨fun hd=>⟨by simp,hd,fun e=>absurd (Ye e) h⟩,fun hD=>hD.2.1⟩
  rw[if_neg h1,ZB,if_neg (by simp),ed,ZB];have ht:t=[]:=YL.1 (by simp at h1;omega);subst ht;congr 1;rw[Bool.eq_iff_iff,decide_eq_true_eq];exact⟨fun hd=>qqf (by simpa using hd),fun hD=>hD.2.1⟩
end Go.Av
end
section
namespace Go.Av
theorem qix {s:Str} (h:s.all qaj=true):sgn s=false/\bdy s=s:=by
 have e:sgn s=false:=decide_eq_false fun e=>by
  have hm:(45:UInt8)∈s:=Yn e;exact absurd (Yp.1 h _ hm) (by decide)
 exact⟨e,by unfold bdy;rw[e];rfl⟩
theorem qjC {s:Str} (h:s.all qaj=true):qky s=(vG 0 s:Nat):=by
 obtain⟨h1,h2⟩:=qix h;unfold qky;rw[h1,h2];rfl
theorem qfl (s:Str):(bdy s).length<=s.length:=by
 unfold bdy;split
 ·rw[YJ];omega
 exact Nat.le_refl _
end Go.Av
end
section
namespace Go.Av
theorem qrY:dg E9 1=[1]:=qjc (by decide) (by decide)
theorem qm5 {N:Nat} (hN:600000<N) {s:Str} (hl:s.length<=10000) (hk:slA s<s.length) (h1:(bdy (s.take (slA s))).all qaj=true) (h2:(bdy (s.drop (slA s+1))).all qaj=true):qbp N s=some (rI (qky (s.take (slA s))),rI (qky (s.drop (slA s+1)))):=by
 have b1:=qfl (s.take (slA s));have b2:=qfl (s.drop (slA s+1));rw[Ym]at b1;rw[YJ]at b2;unfold qbp;rw[qe2 (by omega) (by omega),ZB,if_neg (by omega),qca (by omega),ZB,qjJ (by omega) h1 (by omega),ZB,qV (by omega),qeb (by omega),ZB,qjJ (by omega) h2 (by omega),ZB]
end Go.Av
end
section
namespace Go.Av
def tl (q:Rat):Str:=if q.den=1 then[]else 47::Lib.decDigits q.den
theorem qpx (q:Rat):T q=Lib.itoa q.num++tl q:=rfl
theorem qol {s:Str} (h:s.all qaj=true): ∀c∈s,c≠47:=fun c hc e=>by
 have:=Yp.1 h c hc;rw[e]at this;exact absurd this (by decide)
theorem qjl: ∀{s:Str},(∀c∈s,c≠47)->slA s=s.length:=fun {s} h=>(qi9 s [] h).2
theorem qgA {s:Str} (h: ∀c∈s,c≠47) (q:Rat):slA (s++tl q)=s.length:=by
 unfold tl;by_cases c:q.den=1
 ·rw[if_pos c,YQ];exact qjl h
 rw[if_neg c];exact(qi9 s _ h).1
theorem qfx (z:Int): ∀c∈Lib.itoa z,c≠47:=by
 by_cases h:z<0
 ·rw[qa9 h];intro c hc;rcases List.mem_cons.1 hc with e|e
  ·rw[e];decide
  exact qol (xE _) c e
 rw[xQ h];exact qol (xE _)
theorem qpS {s t:Str} (h:0<s.length):sgn (s++t)=sgn s:=by
 unfold sgn;rw[Yf h]
theorem qkt (z:Int):0<(Lib.itoa z).length:=by
 by_cases h:z<0
 ·rw[qa9 h];simp
 rw[xQ h];exact qkI _
theorem qlG (q:Rat):sgn (T q)=decide (q.num<0):=by rw[qpx,qpS (qkt _),qgC]
theorem qnC (q:Rat):bdy (T q)=Lib.decDigits q.num.natAbs++tl q:=by
 unfold bdy;rw[qlG,qpx];by_cases h:q.num<0
 ·rw[decide_eq_true h,if_pos rfl,qa9 h];rfl
 rw[decide_eq_false h,if_neg (by simp),xQ h]
theorem T_inj {p q:Rat} (h:T p=T q):p=q:=by
 have h1:=congrArg slA h;have e1:slA (T p)=(Lib.itoa p.num).length:=qgA (qfx _) p;have e2:slA (T q)=(Lib.itoa q.num).length:=qgA (qfx _) q;rw[e1,e2]at h1;rw[qpx,qpx]at h;obtain⟨h2,h3⟩:=List.append_inj h h1
 have n1:p.num=q.num:=by rw[<-qh6 p.num,h2,qh6]
 have n2:p.den=q.den:=by
  unfold tl at h3;by_cases c:p.den=1
  ·by_cases d:q.den=1
   ·rw[c,d]
   rw[if_pos c,if_neg d]at h3;cases h3
  by_cases d:q.den=1
  ·rw[if_neg c,if_pos d]at h3;cases h3
  rw[if_neg c,if_neg d]at h3;injection h3 with _ h3;exact qrV h3
 exact Rat.ext n1 n2
theorem qqe (s:Str):s=if sgn s=true then 45::bdy s else bdy s:=by
 unfold bdy
 cases h:sgn s with
 |false=>rw[if_neg (by simp),if_neg (by simp)]
 |true=>
  rw[if_pos rfl,if_pos rfl]
  cases s with
  |nil=>cases h
  |cons c t=>
   have e:=of_decide_eq_true h;simp only[Yj]at e;rw[Ye e];rfl
end Go.Av
end
section
namespace Go.Av
def Sml (q:Rat) (k:Nat):Prop:=(Lib.decDigits q.num.natAbs).length<=k/\(Lib.decDigits q.den).length<=k
theorem qi1 (z:Int):(Lib.itoa z).length<=(Lib.decDigits z.natAbs).length+1:=by
 by_cases h:z<0
 ·rw[qa9 h];simp
 rw[xQ h];omega
theorem qqq (q:Rat) (h:q.den=1):T q=Lib.itoa q.num/\slA (T q)=(T q).length:=by
 have ht:T q=Lib.itoa q.num:=by unfold T;rw[if_pos h,YQ]
 refine⟨ht,?_⟩;rw[ht];exact qjl (qfx _)
theorem qog {q:Rat} {k:Nat} (h:Sml q k):(T q).length<=2*k+2:=by
 have h1:=qi1 q.num;have h2:=h.1;have h3:=h.2;unfold T;rw[Yq];split
 ·simp;omega
 rw[Yr];omega
end Go.Av
end
section
namespace Go.Av
theorem rI_w (z:Int):(rI z).w=dg E9 (z.natAbs:Int):=rfl
theorem qj0.le {a b:Int} {n:Nat} (h:(a.natAbs:Int)<=(b.natAbs:Int)) (k:qj0 b n):qj0 a n:=Int.lt_of_le_of_lt h k
theorem den_pos (q:Rat):0<q.den:=Nat.pos_of_ne_zero q.den_nz
theorem qo8 {a b:Int} (hb:b≠0):(b.sign*a).natAbs=a.natAbs:=by rw[Int.natAbs_mul,Int.natAbs_sign_of_ne_zero hb,Nat.one_mul]
theorem qpZ (a b:Int):Int.gcd (a.natAbs:Int) (b.natAbs:Int)=Int.gcd b a:=by
 rw[Int.gcd_comm];rfl
theorem qqX {a b:Int} (ha:0<=a) (hb:0<b):qhf .i64 a b=some (a%b):=by
 unfold qhf;rw[if_neg (by omega),Int.tmod_eq_emod_of_nonneg ha]
theorem qq0 {a b:Int} (hb:0<b) (h1: -4000000000000000000<=a) (h2:a<=4000000000000000000) (hd:b∣a):qfq .i64 a b=some (a/b):=by
 have:=qdd a hb;unfold qfq;rw[if_neg (by omega),Int.tdiv_eq_ediv_of_dvd hd];show some (w64 _)=_;rw[qz (by omega) (by omega)]
theorem ql4: ∀(k K:Nat) (a b:Int),0<=a->0<=b->b<2^k->2*k+2<=K->jN K a b=some (Int.gcd a b:Int)
 |k,0,a,b,_,_,_,hK=>by omega
 |k,K+1,a,b,ha,hb,hk,hK=>by
  have na:(a.natAbs:Int)=a:=by omega
  have nb:(b.natAbs:Int)=b:=by omega
  rcases(show b=0\/0<b by omega)with h0|h0
  ·rw[h0,jN,if_neg (by omega),Int.gcd_zero,na]
  match k,hk,hK with
  |0,hk,hK=>simp at hk;omega
  |k+1,hk,hK=>
   have m0:=Int.emod_nonneg a (show b≠0 by omega);have m1:=Int.emod_lt_of_pos a h0;rw[jN,if_pos (by omega),qqX ha h0,ZB,qcL ha hb]
   match K,hK with
   |0,hK=>omega
   |K+1,hK=>
    rcases(show a%b=0\/0<a%b by omega)with g0|g0
    ·rw[g0,jN,if_neg (by omega),Int.gcd_zero,nb]
    have n0:=Int.emod_nonneg b (show a%b≠0 by omega);have n1:=Int.emod_lt_of_pos b g0
    have hhalf:b%(a%b)<2^k:=by
     have d1:=Int.mul_ediv_add_emod b (a%b)
     have d2:1<=b/(a%b):=by
      rw[Int.le_ediv_iff_mul_le g0];omega
     have d3:a%b*1<=a%b*(b/(a%b)):=Yc d2 (by omega);rw[Int.pow_succ]at hk;omega
    rw[jN,if_pos (by omega),qqX hb g0,ZB,qcL hb m0];exact ql4 k K (a%b) (b%(a%b)) m0 n0 hhalf (by omega)
theorem qqa {N:Nat} (hN:200<N) {a b:Int} (ha:0<=a) (hb:0<=b) (h:b<9223372036854775808):qcF N a b=some (Int.gcd a b:Int):=by
 unfold qcF;rw[ql4 63 N a b ha hb h (by omega),ZB]
theorem rabs {z:Int} (h1: -9223372036854775807<=z) (h2:z<=9223372036854775807):(if w64 (0-z)>z then w64 (0-z)else z)=(z.natAbs:Int):=by
 rw[qz (by omega) (by omega)];split<;>omega
theorem qqY {n:Nat} (h:n<=4000000000000000000):(Lib.decDigits n).length<=19:=(qhv (by decide)).2 (by omega)
end Go.Av
end
section
namespace Go.Av
theorem Sml.mono {q:Rat} {m n:Nat} (h:Sml q m) (hn:m<=n):Sml q n:=⟨Nat.le_trans h.1 hn,Nat.le_trans h.2 hn⟩
theorem itoa0:Lib.itoa 0=[48]:=by
 rw[xQ (by decide),show(0:Int).natAbs=0 from rfl,qbh (by decide)];rfl
theorem T0:T 0=[48]:=by
 rw[(qqq 0 rfl).1];exact itoa0
theorem qr7 {q:Rat}:T q=[48]↔q=0:=by
 constructor
 ·intro h;exact T_inj (h.trans T0.symm)
 intro h;rw[h];exact T0
theorem qnn {N:Nat} (hN:100000<N) {q:Rat} {k:Nat} (h:Sml q k) (hk:k<=9000):jW N (T q)=some (0,0,false)\/(jW N (T q)=some (q.num,(q.den:Int),true)/\q.num.natAbs<1000000000/\q.den<1000000000):=by
 have hl:=qog h;have hb:=qfl (T q);have eb:=qnC q;have es:slA (Lib.decDigits q.num.natAbs++tl q)=(Lib.decDigits q.num.natAbs).length:=qgA (qol (xE _)) q;have lt:(Lib.decDigits q.num.natAbs++tl q).length=(Lib.decDigits q.num.natAbs).length+(tl q).length:=Yq;rw[eb]at hb;unfold jW;by_cases c:((T q).length:Int)>20
 ·left;rw[if_pos c]
 rw[if_neg c,qe5,ZB,qiv,ZB,eb,qe2 (by omega) (by omega),ZB,es,qlG];by_cases c1:(Lib.decDigits q.num.natAbs).length>9
 ·left;rw[if_pos (by omega),ZB,if_pos rfl]
 rw[if_neg (by omega),qz (by omega) (by omega)];by_cases c2:(tl q).length>10
 ·left;rw[decide_eq_true (by omega),ZB,if_pos rfl]
 right;rw[decide_eq_false (by omega),ZB,if_neg (by simp),qca (by omega),ZB,List.take_left',qdF (by omega) (xE _) (by omega),ZB,qa0]
 ·have hn:q.num.natAbs<1000000000:=(qhv (show 0<9 by decide)).1 (by omega)
  have sg:(if decide (q.num<0)=true then some (w64 (0-(q.num.natAbs:Int)))else some (q.num.natAbs:Int):Option Int)=some q.num:=by
   by_cases d:q.num<0
   ·rw[if_pos (decide_eq_true d),qz (by omega) (by omega)];congr 1;omega
   rw[if_neg (fun h=>d (of_decide_eq_true h))];congr 1;omega
  by_cases d:q.den=1
  ·have ht:tl q=[]:=by unfold tl;rw[if_pos d]
   rw[ht]at lt;rw[List.length_nil]at lt;rw[ht,if_neg (by omega),ZB,sg,ZB,d];exact⟨rfl,hn,by decide⟩
  have ht:tl q=47::Lib.decDigits q.den:=by unfold tl;rw[if_neg d]
  rw[ht,Yr]at lt c2;have hd:q.den<1000000000:=(qhv (show 0<9 by decide)).1 (by omega);rw[ht,if_pos (by omega),qV (by omega),qeb (by omega),ZB,List.drop_append,List.drop_of_length_le (by omega),show(Lib.decDigits q.num.natAbs).length+1-(Lib.decDigits q.num.natAbs).length=1 by omega,List.nil_append,List.drop_succ_cons,YR,qdF (by omega) (xE _) (by omega),ZB,ZB,sg,ZB,qa0];exact⟨rfl,hn,hd⟩
 rfl
end Go.Av
end
section
namespace Go.Av
theorem em0:([]:List Int).isEmpty=true:=rfl
theorem qlR {a:Int} (h1: -9000000000000000000<=a) (h2:a<=9000000000000000000):zX ⟨a,[]⟩=some ⟨-a,[]⟩:=by
 unfold zX;dsimp only;rw[if_pos em0,ZB,if_pos (by simp;omega),qz (by omega) (by omega),show 0-a= -a by omega]
theorem qqZ {a:Int} (h1: -9000000000000000000<=a) (h2:a<=9000000000000000000):qaw ⟨a,[]⟩=some ⟨(a.natAbs:Int),[]⟩:=by
 unfold qaw;dsimp only;by_cases h:a<0
 ·rw[if_pos h,qlR h1 h2,ZB,show(a.natAbs:Int)= -a by omega]
 rw[if_neg h,show(a.natAbs:Int)=a by omega]
theorem qiV (a:Int) (l:List Int):vC ⟨a,l⟩=some (if a<0 then-1 else if a=0 then 0 else 1):=by
 unfold vC;congr 1;dsimp only
 repeat' split
 all_goals omega
theorem qra {a b:Int} (h1: -9000000000000000000<=a+b) (h2:a+b<=9000000000000000000):yN ⟨a,[]⟩ ⟨b,[]⟩=some ⟨a+b,[]⟩:=by
 unfold yN;dsimp only;rw[if_pos em0,ZB,if_pos em0,qz (by omega) (by omega),if_pos (by rw[beq_iff_eq];exact decide_eq_decide.2 (by omega)),ZB]
theorem qk2 {n:Int} (h1: -9000000000000000000<=n) (h2:n<=9000000000000000000):qaL n=some (n.natAbs:Int):=by
 unfold qaL;by_cases h:n<0
 ·rw[if_pos h,qz (by omega) (by omega),qec (by omega) (by omega)];congr 1;omega
 rw[if_neg h,qec (by omega) (by omega)];congr 1;omega
theorem qkh {a b:Int} (a1:a.natAbs<=2000000000000000000) (b1:b.natAbs<=2000000000000000000) (h:(a*b).natAbs<=9000000000000000000):zy ⟨a,[]⟩ ⟨b,[]⟩=some ⟨a*b,[]⟩:=by
 have hab:(a.natAbs:Int)*(b.natAbs:Int)=((a*b).natAbs:Int):=by rw[Int.natAbs_mul,Int.natCast_mul]
 have sg:(if(!((decide (a<0))==(decide (b<0))))=true then-((a*b).natAbs:Int)else((a*b).natAbs:Int))=a*b:=by
  by_cases h1:a<0
  ·by_cases h2:b<0
   ·have:=Int.mul_pos_of_neg_of_neg h1 h2;rw[decide_eq_true h1,decide_eq_true h2,if_neg (by simp)];omega
   have:=Int.mul_nonpos_of_nonpos_of_nonneg (show a<=0 by omega) (show 0<=b by omega);rw[decide_eq_true h1,decide_eq_false h2,if_pos (by simp)];omega
  by_cases h2:b<0
  ·have:=Int.mul_nonpos_of_nonneg_of_nonpos (show 0<=a by omega) (show b<=0 by omega);rw[decide_eq_false h1,decide_eq_true h2,if_pos (by simp)];omega
  have:=Yv (show 0<=a by omega) (show 0<=b by omega);rw[decide_eq_false h1,decide_eq_false h2,if_neg (by simp)];omega
 unfold zy;dsimp only;rw[if_pos em0,ZB,if_pos em0,qk2 (by omega) (by omega),ZB,qk2 (by omega) (by omega),ZB,qnS (by omega) (by omega),ZB,hab];dsimp only;rw[if_pos (show((a*b).natAbs:Int)/18446744073709551616=0 by omega),show((a*b).natAbs:Int)%18446744073709551616=((a*b).natAbs:Int)by omega,decide_eq_true (show((a*b).natAbs:Int)<=9223372036854775807 by omega),ZB,if_pos rfl];by_cases hs:(!((decide (a<0))==(decide (b<0))))=true
 ·rw[if_pos hs]at sg;rw[if_pos hs,ZB,qz (n:=((a*b).natAbs:Int)) (by omega) (by omega),qz (by omega) (by omega),show 0-((a*b).natAbs:Int)=a*b by omega]
 rw[if_neg hs]at sg;rw[if_neg hs,ZB,qz (by omega) (by omega),sg]
theorem qgF {a b:Int} (h1: -9000000000000000000<=a) (h2:a<=9000000000000000000) (hb0:0<b) (hb:b<=9000000000000000000):yI ⟨a,[]⟩ ⟨b,[]⟩=some (⟨a/b,[]⟩,⟨a%b,[]⟩):=by
 have d1:=Int.mul_ediv_add_emod a b;have d2:=Int.emod_nonneg a (show b≠0 by omega);have d3:=Int.emod_lt_of_pos a hb0;have h4:=Int.natAbs_tdiv_le_natAbs a b
 have hq:qfq .i64 a b=some (a.tdiv b):=by
  unfold qfq;rw[if_neg (by omega)];show some (w64 _)=_;rw[qz (by omega) (by omega)]
 have hr:qhf .i64 a b=some (a.tmod b):=by
  unfold qhf;rw[if_neg (by omega)]
 have t2:a.tmod b=if 0<=a\/b∣a then a%b else a%b-b:=by
  rw[Int.tmod_eq_emod]
  have:(b.natAbs:Int)=b:=by omega
  split<;>omega
 have t3:a.tdiv b=if 0<=a\/b∣a then a/b else a/b+1:=by
  rw[Int.tdiv_eq_ediv];have:b.sign=1:=Int.sign_eq_one_of_pos hb0;split<;>omega
 unfold yI;dsimp only;rw[if_pos em0,if_pos em0,ZB,if_pos (by simp;omega),hq,ZB,hr,ZB];by_cases hc:0<=a\/b∣a
 ·rw[if_pos hc]at t2 t3;rw[t2,t3,if_neg (by omega),ZB]
 rw[if_neg hc]at t2 t3;rw[t3]at h4
 have e1:w64 (a/b+1-1)=a/b:=by rw[qz (by omega) (by omega)];omega
 have e2:w64 (a%b-b+b)=a%b:=by rw[qz (by omega) (by omega)];omega
 rw[t2,t3,if_pos (by omega),e1,e2,ZB]
theorem qo7: ∀(k K:Nat) (a b:Int),0<=a->0<=b->a<=9000000000000000000->b<=9000000000000000000->b<2^k->2*k+2<=K->xy K a [] b []=some ((Int.gcd a b:Int),[])
 |k,0,a,b,_,_,_,_,_,hK=>by omega
 |k,K+1,a,b,ha,hb,ma,mb,hk,hK=>by
  have sg:=qiV b [];rw[xy];rcases(show b=0\/0<b by omega)with h0|h0
  ·subst h0;rw[show vC ⟨0,[]⟩=some 0 from rfl,ZB,if_neg (by simp),Int.gcd_zero,show(a.natAbs:Int)=a by omega]
  match k,hk,hK with
  |0,hk,hK=>simp at hk;omega
  |k+1,hk,hK=>
   have m0:=Int.emod_nonneg a (show b≠0 by omega);have m1:=Int.emod_lt_of_pos a h0;rw[if_neg (by omega),if_neg (by omega)]at sg;rw[sg,ZB,if_pos (by simp),qgF (by omega) (by omega) h0 mb,ZB];dsimp only;rw[qcL ha hb]
   match K,hK with
   |0,hK=>omega
   |K+1,hK=>
    have sr:=qiV (a%b) [];rw[xy];rcases(show a%b=0\/0<a%b by omega)with g0|g0
    ·rw[g0,show vC ⟨0,[]⟩=some 0 from rfl,ZB,if_neg (by simp),Int.gcd_zero,show(b.natAbs:Int)=b by omega]
    have n0:=Int.emod_nonneg b (show a%b≠0 by omega);have n1:=Int.emod_lt_of_pos b g0
    have hhalf:b%(a%b)<2^k:=by
     have d1:=Int.mul_ediv_add_emod b (a%b)
     have d2:1<=b/(a%b):=by
      rw[Int.le_ediv_iff_mul_le g0];omega
     have d3:a%b*1<=a%b*(b/(a%b)):=Yc d2 (by omega);rw[Int.pow_succ]at hk;omega
    rw[if_neg (by omega),if_neg (by omega)]at sr;rw[sr,ZB,if_pos (by simp),qgF (by omega) (by omega) g0 (by omega),ZB];dsimp only;rw[qcL hb m0];exact qo7 k K (a%b) (b%(a%b)) m0 n0 (by omega) (by omega) hhalf (by omega)
theorem gcd_s {N:Nat} (hN:200<N) {a b:Int} (ha:a.natAbs<=9000000000000000000) (hb:b.natAbs<=9000000000000000000):qej N ⟨a,[]⟩ ⟨b,[]⟩=some ⟨(Int.gcd a b:Int),[]⟩:=by
 unfold qej;rw[qqZ (by omega) (by omega),ZB,qqZ (by omega) (by omega),ZB];dsimp only;rw[qo7 63 N _ _ (by omega) (by omega) (by omega) (by omega) (by omega) (by omega),ZB];rfl
theorem qq9 {a b:Int} (h1: -9000000000000000000<=a) (h2:a<=9000000000000000000) (hb0:0<b) (hb:b<=9000000000000000000):qaz ⟨a,[]⟩ ⟨b,[]⟩=some ⟨a/b,[]⟩:=by
 have sg:=qiV b [];rw[if_neg (by omega),if_neg (by omega)]at sg;unfold qaz;rw[sg,ZB,if_neg (by omega),ZB];dsimp only;rw[qgF h1 h2 hb0 hb,ZB]
def Fq (q:Rat):qm:=⟨⟨q.num,[]⟩,⟨(q.den:Int),[]⟩⟩
def IsF (f:qm) (q:Rat):Prop:=f=Fq q
theorem qkW {N:Nat} (hN:200<N) {a b:Int} (ha:a.natAbs<=9000000000000000000) (hb:b.natAbs<=9000000000000000000) (h0:b≠0):qbs N ⟨a,[]⟩ ⟨b,[]⟩=some (Fq (Rat.divInt a b)):=by
 have hg:0<Int.gcd b a:=Int.gcd_pos_of_ne_zero_left _ h0
 have S:(if(if b<0 then-1 else if b=0 then 0 else(1:Int))<0 then
  (zX ⟨a,[]⟩).bind fun r8=>(zX ⟨b,[]⟩).bind fun r9=>some (r8.s,r8.w,r9.s,r9.w)
  else some (a,[],b,[]):Option (Int×(List Int)×Int×(List Int)))=some (b.sign*a,[],(b.natAbs:Int),[]):=by
  by_cases h:b<0
  ·rw[if_pos h,if_pos (by omega),qlR (by omega) (by omega),ZB,qlR (by omega) (by omega),ZB,Int.sign_eq_neg_one_of_neg h,Int.neg_mul,Int.one_mul,show(b.natAbs:Int)= -b by omega]
  rw[if_neg h,if_neg (by omega),Int.sign_eq_one_of_pos (by omega),Int.one_mul,show(b.natAbs:Int)=b by omega]
 have ea:(b.sign*a).natAbs=a.natAbs:=by rw[Int.natAbs_mul,Int.natAbs_sign_of_ne_zero h0,Nat.one_mul]
 have eg:Int.gcd (b.sign*a) (b.natAbs:Int)=Int.gcd b a:=by
  rw[Int.gcd_comm];show Nat.gcd (b.natAbs:Int).natAbs (b.sign*a).natAbs=Nat.gcd b.natAbs a.natAbs;rw[ea];rfl
 have gl:Int.gcd b a<=b.natAbs:=Nat.le_of_dvd (by omega) (Int.gcd_dvd_natAbs_left b a);have en:(Rat.divInt a b).num=b.sign*a/(Int.gcd b a:Int):=Rat.num_divInt ..
 have ed:((Rat.divInt a b).den:Int)=(b.natAbs:Int)/(Int.gcd b a:Int):=by rw[Rat.den_divInt,if_neg h0,Int.natCast_ediv]
 unfold qbs;rw[qiV,ZB];dsimp only;rw[S,ZB];dsimp only;rw[if_pos em0,ZB];by_cases h:(b.natAbs:Int)=1
 ·have e1:Int.gcd b a=1:=by omega
  rw[decide_eq_true h,if_pos rfl];unfold Fq;rw[en,ed,e1,h,Int.natCast_one,Int.ediv_one];rfl
 rw[decide_eq_false h,if_neg (by simp),gcd_s hN (by omega) (by omega),ZB,eg,qq9 (by omega) (by omega) (by omega) (by omega),ZB,qq9 (by omega) (by omega) (by omega) (by omega),ZB];unfold Fq;rw[en,ed]
def Q9 (q:Rat):Prop:=q.num.natAbs<1000000000/\q.den<1000000000
theorem Q9.sml {q:Rat} (h:Q9 q):Sml q 9:=⟨(qhv (by decide)).2 h.1,(qhv (by decide)).2 h.2⟩
theorem qbc {a b:Int} (ha:a.natAbs<1000000000) (hb:b.natAbs<1000000000):(a*b).natAbs<=1000000000000000000:=by
 rw[Int.natAbs_mul];exact Nat.le_trans (Nat.mul_le_mul (Nat.le_of_lt ha) (Nat.le_of_lt hb)) (by decide)
theorem Q9.d {q:Rat} (h:Q9 q):((q.den:Int)).natAbs<1000000000:=by have:=h.2;omega
theorem Q9.neg {q:Rat} (h:Q9 q):Q9 (-q):=by
 unfold Q9;rw[Rat.neg_num,Rat.neg_den,Int.natAbs_neg];exact h
theorem qqv (z:Int):qa5 ⟨z,[]⟩=some (Fq (z:Rat)):=by
 unfold qa5 qdo;rw[ZB];rfl
theorem qfz (q:Rat):jF (Fq q)=some (decide (q.den=1)):=by
 unfold jF Fq;dsimp only;rw[if_pos em0,ZB];congr 1;exact decide_eq_decide.2 (by omega)
theorem qr8 {q:Rat} (h:Q9 q):qaM (Fq q)=some (Fq (-q)):=by
 have:=h.1;unfold qaM;dsimp only[Fq];rw[qlR (by omega) (by omega),ZB,Rat.neg_num,Rat.neg_den]
theorem qkG {N:Nat} (hN:200<N) {p q:Rat} (hp:Q9 p) (hq:Q9 q):yS N (Fq p) (Fq q)=some (Fq (p+q)):=by
 have h1:=hp.1;have h2:=hq.1;have h3:=hp.2;have h4:=hq.2;have m1:=qbc hp.1 hq.d;have m2:=qbc hq.1 hp.d;have m3:=qbc hp.d hq.d
 have long:((zy (Fq p).Num (Fq q).Den).bind fun r9=>
  (zy (Fq q).Num (Fq p).Den).bind fun r10=>
  (yN r9 r10).bind fun r11=>
  (zy (Fq p).Den (Fq q).Den).bind fun r12=>
  (qbs N r11 r12).bind fun r13=>
  some r13)=some (Fq (p+q)):=by
  dsimp only[Fq];rw[qkh (by omega) (by omega) (by omega),ZB,qkh (by omega) (by omega) (by omega),ZB,qra (by omega) (by omega),ZB,qkh (by omega) (by omega) (by omega),ZB,qkW hN (by omega) (by omega) (qiM p q),ZB,qgK p q];rfl
 unfold yS;rw[qfz,ZB];by_cases c1:p.den=1
 ·rw[decide_eq_true c1,if_pos rfl,qfz,ZB,ZB];by_cases c2:q.den=1
  ·rw[decide_eq_true c2,if_pos rfl];have ep:p=(p.num:Rat):=Rat.ext (by simp) (by simp[c1]);have eq:q=(q.num:Rat):=Rat.ext (by simp) (by simp[c2])
   have es:p+q=((p.num+q.num:Int):Rat):=by rw[Rat.intCast_add,<-ep,<-eq]
   rw[es];dsimp only[Fq];rw[qra (by omega) (by omega),ZB,qqv,ZB];rfl
  rw[decide_eq_false c2,if_neg (by simp)];exact long
 rw[decide_eq_false c1,if_neg (by simp),ZB,if_neg (by simp)];exact long
theorem qoD {N:Nat} (hN:200<N) {p q:Rat} (hp:Q9 p) (hq:Q9 q):xR N (Fq p) (Fq q)=some (Fq (p-q)):=by
 unfold xR;rw[qr8 hq,ZB,qkG hN hp hq.neg,ZB,Rat.sub_eq_add_neg]
theorem qi0 {N:Nat} (hN:200<N) {p q:Rat} (hp:Q9 p) (hq:Q9 q):yg N (Fq p) (Fq q)=some (Fq (p*q)):=by
 have h1:=hp.1;have h2:=hq.1;have h3:=hp.2;have h4:=hq.2;have m1:=qbc hp.1 hq.1;have m3:=qbc hp.d hq.d;unfold yg;dsimp only[Fq];rw[qkh (by omega) (by omega) (by omega),ZB,qkh (by omega) (by omega) (by omega),ZB,qkW hN (by omega) (by omega) (qiM p q),ZB,qhh p q];rfl
theorem qrW {N:Nat} (hN:200<N) {p:Rat} (hp:Q9 p) (h0:p≠0):xU N (Fq p)=some (Fq p⁻¹):=by
 have h1:=hp.1;have h2:=hp.d;unfold xU;dsimp only[Fq];rw[qkW hN (by omega) (by omega) (fun c=>h0 (Rat.num_eq_zero.1 c)),ZB,Rat.inv_def];rfl
theorem qkO {z:Int} (h:z.natAbs<1000000000):vM ⟨z,[]⟩=some (Lib.itoa z):=by
 unfold vM qmi;dsimp only;rw[if_pos em0,if_pos (by omega),ZB]
theorem qr2 {q:Rat} (h:Q9 q):qaf (Fq q)=some (T q):=by
 have h1:=qi1 q.num;have h2:=h.sml.1;have h3:=h.sml.2;unfold qaf;rw[qfz,ZB];dsimp only[Fq];unfold T;by_cases c:q.den=1
 ·rw[decide_eq_true c,if_pos rfl,if_pos c,qkO h.1,ZB,YQ]
 rw[decide_eq_false c,if_neg (by simp),if_neg c,qkO h.1,ZB,qeN (by simp;omega),ZB,qkO h.d,ZB,qmD,qeN (by simp;omega),ZB,Yz];rfl
theorem qnV {z:Int} (h:z.natAbs<1000000000):qcU ⟨z,[]⟩=some false:=by
 unfold qcU qbL qbg;dsimp only;rw[if_neg (by simp)];by_cases c:z=0
 ·rw[if_pos c];rfl
 obtain⟨l,e,hl⟩:=qpD (x:=(z.natAbs:Int)) (by omega) (by omega);rw[if_neg c,qk2 (by omega) (by omega),ZB,ZB];dsimp only;rw[if_neg (by simp),show idx [((z.natAbs:Nat):Int)] (w64 (([((z.natAbs:Nat):Int)].length:Int)-1))=some (z.natAbs:Int)from rfl,ZB,e,ZB]
 have hl2:0<=l/\l<=64:=by rcases hl with⟨_,h⟩|⟨h1,h2,_⟩<;>omega
 rw[show w64 (64*(w64 (([((z.natAbs:Nat):Int)].length:Int)-1)))=0 from rfl,qz (by omega) (by omega)];rw[ZB,if_neg (by omega)];rfl
theorem qpT {q:Rat} (h:Q9 q):xz (Fq q)=some false:=by
 unfold xz;dsimp only[Fq];rw[qnV h.1,ZB,if_neg (by simp),qnV h.d,ZB,ZB]
end Go.Av
end
section
namespace Go.Av
theorem qpu {N:Nat} (hN:1000<N) {x y:Int} (hx:0<=x) (hx9:x<1000000000) (hy:0<y) (hy9:y<1000000000):y8 N (dg E9 x) (dg E9 y)=some (dg E9 (x/y),dg E9 (x%y)):=by
 have ca:=qfO E1 hx;have cb:=qfO E1 (show 0<=y by omega);have la:(dg E9 x).length<=1:=(qnv E1 hx).2 (by rw[Int.pow_one];exact hx9);have eb:dg E9 y=[y]:=qjc hy hy9;have va:=qgR E1 hx;have vb:=qgR E1 (show 0<=y by omega);unfold y8;rw[qfK ca cb (by omega) (by omega),ZB,va,vb];by_cases c:x<y
 ·rw[if_pos c,if_pos (by omega),Int.ediv_eq_zero_of_lt hx c,Int.emod_eq_of_lt hx c];rfl
 have m0:=Int.emod_nonneg x (show y≠0 by omega);have m1:=Int.emod_lt_of_pos x hy
 have dm:dv E9 [x%y]=x%y:=by rw[vB,qaC,Int.mul_zero,Int.add_zero]
 rw[if_neg c,if_neg (by split<;>omega),eb,if_pos (show(([y]:List Int).length:Int)=1 from rfl),show idx [y] (0:Int)=some y from rfl,ZB,qkn ca.1 (by omega) (by omega) hy hy9,ZB,va];dsimp only;rw[qhe (w:=[x%y]) (Dg.cons ⟨m0,by show x%y<1000000000;omega⟩ Dg.nil) (by simp) (by simp;omega),dm,ZB]
theorem qij {N:Nat} (hN:1000<N): ∀(k K:Nat) (a b:Int),0<=a->0<=b->a<1000000000->b<1000000000->b<2^k->2*k+2<=K->jm N K (dg E9 a) (dg E9 b)=some (dg E9 (Int.gcd a b:Int))
 |k,0,a,b,_,_,_,_,_,hK=>by omega
 |k,K+1,a,b,ha,hb,a9,b9,hk,hK=>by
  rw[jm];rcases(show b=0\/0<b by omega)with h0|h0
  ·subst h0;rw[qlB,if_neg (by simp),Int.gcd_zero,show(a.natAbs:Int)=a by omega]
  match k,hk,hK with
  |0,hk,hK=>simp at hk;omega
  |k+1,hk,hK=>
   have m0:=Int.emod_nonneg a (show b≠0 by omega);have m1:=Int.emod_lt_of_pos a h0;have eb:dg E9 b=[b]:=qjc h0 b9;rw[if_pos (by rw[eb];simp),qpu hN ha a9 h0 b9,ZB,qcL ha hb];dsimp only
   match K,hK with
   |0,hK=>omega
   |K+1,hK=>
    rw[jm];rcases(show a%b=0\/0<a%b by omega)with g0|g0
    ·rw[g0,qlB,if_neg (by simp),Int.gcd_zero,show(b.natAbs:Int)=b by omega]
    have n0:=Int.emod_nonneg b (show a%b≠0 by omega);have n1:=Int.emod_lt_of_pos b g0;have em:dg E9 (a%b)=[a%b]:=qjc g0 (by show a%b<1000000000;omega)
    have hhalf:b%(a%b)<2^k:=by
     have d1:=Int.mul_ediv_add_emod b (a%b)
     have d2:1<=b/(a%b):=by
      rw[Int.le_ediv_iff_mul_le g0];omega
     have d3:a%b*1<=a%b*(b/(a%b)):=Yc d2 (by omega);rw[Int.pow_succ]at hk;omega
    rw[if_pos (by rw[em];simp),qpu hN (by omega) b9 g0 (by omega),ZB,qcL hb m0];dsimp only;exact qij hN k K (a%b) (b%(a%b)) m0 n0 (by omega) (by omega) hhalf (by omega)
theorem qom {N:Nat} (hN:1000<N) {a b:Int} (ha:0<=a) (hb:0<=b) (a9:a<1000000000) (b9:b<1000000000):qaG N (dg E9 a) (dg E9 b)=some (dg E9 (Int.gcd a b:Int)):=by
 unfold qaG;rw[qij hN 30 N a b ha hb a9 b9 (by omega) (by omega),ZB]
theorem qqm (q:Rat):Nat.gcd q.num.natAbs q.den=1:=q.reduced
theorem qpH {N:Nat} (hN:600000<N) {q:Rat} (h:Q9 q):qbt N (T q)=some 0:=by
 have hl:=qog h.sml;have hb:=qfl (T q);have eb:=qnC q;have es:slA (Lib.decDigits q.num.natAbs++tl q)=(Lib.decDigits q.num.natAbs).length:=qgA (qol (xE _)) q;have lt:(Lib.decDigits q.num.natAbs++tl q).length=(Lib.decDigits q.num.natAbs).length+(tl q).length:=Yq;have l1:=h.sml.1;have l2:=h.sml.2;rw[eb]at hb;unfold qbt;rw[qe5,ZB,qiv,ZB,eb,qe2 (by omega) (by omega),ZB,es,qca (by omega),ZB,List.take_left' rfl,qhI (by omega) (by omega),ZB,decide_eq_true (qpq _),if_neg (by decide)]
 have I:((idx (T q) 0).bind fun c13=>if(c13.toNat:Int)=45 then(some (Lib.decDigits q.num.natAbs)).bind fun s15=>some (s15==[48])else some false:Option Bool)=some false:=by
  have hs:=qe5 (T q)
  have hp:0<(T q).length:=by rw[qpx,Yq];have:=qkt q.num;omega
  rw[if_pos (by omega),qlG]at hs;rw[qnT]at hs⊢
  cases e:(T q)[0]? with
  |none=>rw[e]at hs;cases hs
  |some c=>
   rw[e,ZB]at hs;rw[ZB];have hs:=Ye hs;by_cases c2:(c.toNat:Int)=45
   ·rw[decide_eq_true c2]at hs;have hn:q.num<0:=of_decide_eq_true hs.symm;rw[if_pos c2,ZB];congr 1;rw[beq_eq_false_iff_ne];intro e0;have e1:=qa0 q.num.natAbs;rw[e0]at e1;have:q.num.natAbs=0:=e1.symm;omega
   rw[if_neg c2]
 rw[I,ZB,if_neg (by decide)];by_cases d:q.den=1
 ·have ht:tl q=[]:=by unfold tl;rw[if_pos d]
  rw[ht,YQ,if_neg (by omega),ZB,if_neg (by decide),if_neg (by omega),qz (n:=((Lib.decDigits q.num.natAbs).length:Int)-_) (by omega) (by omega),qz (by omega) (by omega),decide_eq_false (by omega),ZB,if_neg (by decide),if_neg (by omega),ZB]
 have ht:tl q=47::Lib.decDigits q.den:=by unfold tl;rw[if_neg d]
 have hd:=den_pos q;rw[ht,Yr]at lt
 have hdrop:(Lib.decDigits q.num.natAbs++47::Lib.decDigits q.den).drop ((Lib.decDigits q.num.natAbs).length+1)=Lib.decDigits q.den:=by
  rw[List.drop_append,List.drop_of_length_le (by omega),show(Lib.decDigits q.num.natAbs).length+1-(Lib.decDigits q.num.natAbs).length=1 by omega,List.nil_append,List.drop_succ_cons,YR]
 have n0: ¬(Lib.decDigits q.den=[48]):=fun e0=>by
  have e1:=qa0 q.den;rw[e0]at e1;have:q.den=0:=e1.symm;omega
 have n1: ¬(Lib.decDigits q.den=[49]):=fun e0=>by
  have e1:=qa0 q.den;rw[e0]at e1;exact d e1.symm
 have ep:=qm5 hN (s:=Lib.decDigits q.num.natAbs++47::Lib.decDigits q.den) (by omega) (by rw[<-ht,es,ht];omega) (by rw[<-ht,es,List.take_left' rfl,(qix (xE _)).2];exact xE _) (by rw[<-ht,es,ht,hdrop,(qix (xE _)).2];exact xE _);rw[<-ht,es,List.take_left' rfl,ht,hdrop,qjC (xE _),qjC (xE _),qa0,qa0]at ep;rw[ht,if_pos (by omega),qV (by omega),qeb (by omega),ZB,hdrop,qhI (by omega) (by omega),ZB,decide_eq_true (qpq _),if_neg (by decide),ZB,if_neg (by simp[n0]),ZB,show(Lib.decDigits q.den==[49])=false from beq_eq_false_iff_ne.2 n1,ZB,if_neg (by decide),if_neg (by omega),qz (n:=((Lib.decDigits q.num.natAbs++47::Lib.decDigits q.den).length:Int)-_) (by omega) (by omega),qz (by omega) (by omega),decide_eq_false (by omega),ZB,if_neg (by decide),if_pos (by omega),ep,ZB];dsimp only;have h1:=h.1;have h2:=h.2;rw[rI_w,rI_w,Int.natAbs_natCast,Int.natAbs_natCast,qom (by omega) (by omega) (by omega) (by omega) (by omega),ZB,show Int.gcd ((q.num.natAbs:Nat):Int) ((q.den:Nat):Int)=1 from qqm q,Int.natCast_one,qrY];rfl
theorem qqV {N:Nat} (hN:1000<N) {a b:Int} (a1: -4000000000000000000<=a) (a2:a<=4000000000000000000) (b1: -4000000000000000000<=b) (b2:b<=4000000000000000000) (hb:b≠0):qcN N a b=some (T (Rat.divInt a b)):=by
 have hg:0<Int.gcd b a:=Int.gcd_pos_of_ne_zero_left _ hb;have ea:=qo8 (a:=a) hb
 have S:(if b<0 then some (w64 (0-a),w64 (0-b))else some (a,b):Option (Int×Int))=some (b.sign*a,(b.natAbs:Int)):=by
  by_cases h:b<0
  ·rw[if_pos h,qz (by omega) (by omega),qz (by omega) (by omega),Int.sign_eq_neg_one_of_neg h,show(-1:Int)*a=0-a by omega,show(b.natAbs:Int)=0-b by omega]
  rw[if_neg h,Int.sign_eq_one_of_pos (by omega),Int.one_mul,show(b.natAbs:Int)=b by omega]
 have en:(Rat.divInt a b).num=b.sign*a/(Int.gcd b a:Int):=Rat.num_divInt ..
 have ed:(b.natAbs:Int)/(Int.gcd b a:Int)=((Rat.divInt a b).den:Int):=by rw[Rat.den_divInt,if_neg hb,Int.natCast_ediv]
 have hd:=den_pos (Rat.divInt a b);have dvd:(Int.gcd b a:Int)∣b.sign*a:=Int.dvd_mul_of_dvd_right (Int.gcd_dvd_right ..)
 have dvb:(Int.gcd b a:Int)∣(b.natAbs:Int):=by
  rw[Int.dvd_natAbs];exact Int.gcd_dvd_left ..
 have n1:=qdd (b.sign*a) (show(0:Int)<(Int.gcd b a:Int)by omega);have n2:=qdd (b.natAbs:Int) (show(0:Int)<(Int.gcd b a:Int)by omega);rw[<-en,ea]at n1;rw[ed,Int.natAbs_natCast,Int.natAbs_natCast]at n2;unfold qcN;rw[if_neg (show¬a< -4000000000000000000 by omega),if_neg (show¬a>4000000000000000000 by omega),if_neg (show¬b< -4000000000000000000 by omega),decide_eq_false (show¬b>4000000000000000000 by omega),ZB,if_neg (by simp),S,ZB];simp only;rw[rabs (by omega) (by omega),ea,qqa (by omega) (by omega) (by omega) (by omega),ZB,qpZ,qq0 (by omega) (by omega) (by omega) dvd,ZB,qq0 (by omega) (by omega) (by omega) dvb,ZB,<-en,ed,rabs (by omega) (by omega),qjY (by omega) (by omega),qjY (by omega) (by omega)];generalize Rat.divInt a b=q at*;have l1:=qqY (n:=q.num.natAbs) (by omega);have l2:=qqY (n:=q.den) (by omega)
 have S2:((if q.num<0 then some [45]else some []:Option Str).bind fun s17=>(some (Lib.decDigits q.num.natAbs)).bind fun r20=>(cat s17 r20).bind fun s21=>(if(q.den:Int)>1 then(cat s21 [47]).bind fun s25=>(some (Lib.decDigits q.den)).bind fun r26=>(cat s25 r26).bind fun s27=>some s27 else some s21:Option Str).bind fun s22=>some s22)=some (T q):=by
  have li:(Lib.itoa q.num).length<=20:=by have:=qi1 q.num;omega
  have I:((if q.num<0 then some [45]else some []:Option Str).bind fun s17=>(some (Lib.decDigits q.num.natAbs)).bind fun r20=>(cat s17 r20).bind fun s21=>(if(q.den:Int)>1 then(cat s21 [47]).bind fun s25=>(some (Lib.decDigits q.den)).bind fun r26=>(cat s25 r26).bind fun s27=>some s27 else some s21:Option Str).bind fun s22=>some s22)=((if(q.den:Int)>1 then(cat (Lib.itoa q.num) [47]).bind fun s25=>(some (Lib.decDigits q.den)).bind fun r26=>(cat s25 r26).bind fun s27=>some s27 else some (Lib.itoa q.num):Option Str).bind fun s22=>some s22):=by
   by_cases c:q.num<0
   ·rw[if_pos c,ZB,ZB,qeN (by simp;omega),ZB,qa9 c];rfl
   rw[if_neg c,ZB,ZB,qeN (by simp;omega),ZB,xQ c];rfl
  rw[I];unfold T;by_cases c:q.den=1
  ·rw[if_neg (by omega),if_pos c,ZB,YQ]
  rw[if_pos (by omega),if_neg c,qeN (by simp;omega),ZB,ZB,qeN (by simp;omega),ZB,ZB,Yz];rfl
 exact S2
theorem qgh {N:Nat} (hN:100000<N) {q:Rat} (h:Q9 q):jW N (T q)=some (q.num,(q.den:Int),true):=by
 rcases qnn hN h.sml (by decide)with e|⟨e,_⟩
 ·exfalso;have hl:=qog h.sml;have hb:=qfl (T q);have eb:=qnC q;have es:slA (Lib.decDigits q.num.natAbs++tl q)=(Lib.decDigits q.num.natAbs).length:=qgA (qol (xE _)) q;have lt:(Lib.decDigits q.num.natAbs++tl q).length=(Lib.decDigits q.num.natAbs).length+(tl q).length:=Yq;have l1:=h.sml.1
  have l2:(tl q).length<=10:=by
   have:=h.sml.2;unfold tl;split
   ·simp
   rw[Yr];omega
  have l3:(T q).length<=20:=by
   rw[qqe (T q)];split
   ·rw[Yr,eb];omega
   rw[eb];omega
  rw[eb]at hb;unfold jW at e;rw[if_neg (by omega),qe5,ZB,qiv,ZB,eb,qe2 (by omega) (by omega),ZB,es,qlG,if_neg (by omega),qz (by omega) (by omega),decide_eq_false (by omega),ZB,if_neg (by simp),qca (by omega),ZB,List.take_left' rfl,qdF (by omega) (xE _) (by omega),ZB,qa0]at e
  cases h3:(if((Lib.decDigits q.num.natAbs).length:Int)<((Lib.decDigits q.num.natAbs++tl q).length:Int)then
   (cut (Lib.decDigits q.num.natAbs++tl q) (w64 (((Lib.decDigits q.num.natAbs).length:Int)+1)) ((Lib.decDigits q.num.natAbs++tl q).length:Int)).bind fun s20=>
   (yc N s20).bind fun r21=>
   some r21
   else
   some 1:Option Int)with
  |none=>rw[h3]at e;cases e
  |some v=>
   rw[h3,ZB]at e
   cases h4:(if decide (q.num<0)=true then some (w64 (0-(q.num.natAbs:Int)))else some (q.num.natAbs:Int):Option Int)with
   |none=>rw[h4]at e;cases e
   |some u=>
    rw[h4,ZB]at e;have:=congrArg (fun x:Option (Int×Int×Bool)=>x.map fun y=>y.2.2) e;simp at this
 exact e
theorem qrq {N:Nat} (hN:600000<N) {p q:Rat} (hp:Q9 p) (hq:Q9 q):qcG N (T p) (T q)=some (T (p+q)):=by
 have m1:=qbc hp.1 hq.d;have m2:=qbc hq.1 hp.d;have m3:=qbc hp.d hq.d;unfold qcG;rw[qgh (by omega) hp,ZB,qgh (by omega) hq,ZB];dsimp only;rw[if_pos rfl,ZB,if_pos rfl,qz (n:=p.num*(q.den:Int)) (by omega) (by omega),qz (n:=q.num*(p.den:Int)) (by omega) (by omega),qz (n:=(p.den:Int)*(q.den:Int)) (by omega) (by omega),qz (by omega) (by omega),qqV (by omega) (by omega) (by omega) (by omega) (by omega) (qiM p q),<-qgK];rfl
theorem qrA {N:Nat} (hN:600000<N) {p q:Rat} (hp:Q9 p) (hq:Q9 q):qcV N (T p) (T q)=some (T (p*q)):=by
 have m1:=qbc hp.1 hq.1;have m3:=qbc hp.d hq.d;unfold qcV;rw[qgh (by omega) hp,ZB,qgh (by omega) hq,ZB];dsimp only;rw[if_pos rfl,ZB,if_pos rfl,qz (n:=p.num*q.num) (by omega) (by omega),qz (n:=(p.den:Int)*(q.den:Int)) (by omega) (by omega),qqV (by omega) (by omega) (by omega) (by omega) (by omega) (qiM p q),<-qhh];rfl
end Go.Av
end
noncomputable section
namespace Go.Av
open Go.Proofs Go.RowKit
variable [Glob]
def qdu {β:Type} (v:Nat->β) (k:Nat) (q:β):Nat->β:=fun j=>if j=k then q else v j
def qaT {α:Type} (R:α->Rat->Prop) (n:Nat) (r:List α) (v:Nat->Rat):Prop:=r.length=n/\ ∀j f,r[j]? =some f->R f (v j)
def MR {α:Type} (R:α->Rat->Prop) (n:Nat) (l:List (List α)) (M:Nat->Nat->Rat):Prop:=l.length=n/\ ∀i r,l[i]? =some r->qaT R n r (M i)
variable {α:Type} {R:α->Rat->Prop} {n:Nat}
theorem qaT.set {r:List α} {v:Nat->Rat} (h:qaT R n r v) {f:α} {q:Rat} (hf:R f q) (k:Nat):qaT R n (r.set k f) (qdu v k q):=by
 refine⟨by rw[Yk];exact h.1,fun j g hj=>?_⟩;unfold qdu;by_cases e:j=k
 ·subst e
  have hl:j<r.length:=by
   have:=(Yb.1 hj).1
   rwa [Yk]at this
  rw[List.getElem?_set_self hl]at hj;cases hj
  rw[if_pos rfl];exact hf
 rw[Yw (fun c=>e c.symm)]at hj;rw[if_neg e];exact h.2 j g hj
theorem qaT.get {r:List α} {v:Nat->Rat} (h:qaT R n r v) {k:Nat} (hk:k<n): ∃f,r[k]? =some f/\R f (v k):=by
 have hk':k<r.length:=by rw[h.1];exact hk
 exact⟨r[k],Ya hk',h.2 k _ (Ya hk')⟩
theorem MR.get {l:List (List α)} {M:Nat->Nat->Rat} (h:MR R n l M) {k:Nat} (hk:k<n): ∃r,l[k]? =some r/\qaT R n r (M k):=by
 have hk':k<l.length:=by rw[h.1];exact hk
 exact⟨l[k],Ya hk',h.2 k _ (Ya hk')⟩
theorem MR.set {l:List (List α)} {M:Nat->Nat->Rat} (h:MR R n l M) {r:List α} {v:Nat->Rat} (hr:qaT R n r v) (k:Nat):MR R n (l.set k r) (qdu M k v):=by
 refine⟨by rw[Yk];exact h.1,fun j g hj=>?_⟩;unfold qdu;by_cases e:j=k
 ·subst e
  have hl:j<l.length:=by
   have:=(Yb.1 hj).1
   rwa [Yk]at this
  rw[List.getElem?_set_self hl]at hj;cases hj
  rw[if_pos rfl];exact hr
 rw[Yw (fun c=>e c.symm)]at hj;rw[if_neg e];exact h.2 j g hj
theorem MR.congr {l:List (List α)} {M M':Nat->Nat->Rat} (h:MR R n l M) (e: ∀i<n,M i=M' i):MR R n l M':=
 ⟨h.1,fun i r hi=>by
  have hl:i<n:=by rw[<-h.1];exact(Yb.1 hi).1
  rw[<-e i hl];exact h.2 i r hi⟩
theorem qaT.ext {f:Rat->α} {r r':List α} {v:Nat->Rat} (h:qaT (fun x q=>x=f q) n r v) (h':qaT (fun x q=>x=f q) n r' v):r=r':=by
 apply List.ext_getElem?;intro k;by_cases hk:k<n
 ·obtain⟨x,x1,x2⟩:=h.get hk;obtain⟨y,y1,y2⟩:=h'.get hk;rw[x1,y1,x2,y2]
 rw[Yg (by rw[h.1];omega),Yg (by rw[h'.1];omega)]
theorem MR.ext {f:Rat->α} {r r':List (List α)} {M:Nat->Nat->Rat} (h:MR (fun x q=>x=f q) n r M) (h':MR (fun x q=>x=f q) n r' M):r=r':=by
 apply List.ext_getElem?;intro k;by_cases hk:k<n
 ·obtain⟨x,x1,x2⟩:=h.get hk;obtain⟨y,y1,y2⟩:=h'.get hk;rw[x1,y1,x2.ext y2]
 rw[Yg (by rw[h.1];omega),Yg (by rw[h'.1];omega)]
def qcj (p:Bool) (t:Rat) (k:Nat) (v:Nat->Rat):Nat->Rat:=
 if p=true then qdu (qdu v k (v k*(1-t)+v (k+1)*1)) (k+1) (v k*t+v (k+1)*0)
 else qdu (qdu v k (v k*0+v (k+1)*t⁻¹)) (k+1) (v k*1+v (k+1)*(1-t⁻¹))
def qhx (t:Rat) (c:Int) (M:Nat->Nat->Rat):Nat->Nat->Rat:=fun i=>qcj (decide (c>0)) t (c.natAbs-1) (M i)
def idM:Nat->Nat->Rat:=fun i=>qdu (fun _=>0) i 1
def vD (t:Rat) (w:List Int):Nat->Nat->Rat:=w.foldl (fun M c=>qhx t c M) idM
def qa8:Nat->(Nat->Rat)->Rat
 |0,_=>0
 |n+1,f=>qa8 n f+f n
theorem qde {f g:Nat->Rat}: ∀(n:Nat),(∀j<n,f j=g j)->qa8 n f=qa8 n g
 |0,_=>rfl
 |n+1,h=>by
  unfold qa8;rw[qde n (fun j hj=>h j (by omega)),h n (by omega)]
theorem qdL (a x y:Nat->Rat) (p q:Rat): ∀n:Nat,qa8 n (fun j=>a j*(x j*p+y j*q))=qa8 n (fun j=>a j*x j)*p+qa8 n (fun j=>a j*y j)*q
 |0=>by
  show(0:Rat)=0*p+0*q;rw[Rat.zero_mul,Rat.zero_mul,Rat.add_zero]
 |n+1=>by
  unfold qa8;rw[qdL a x y p q n];grind
theorem qgL (a:Nat->Rat) (k:Nat): ∀n:Nat,qa8 n (fun j=>a j*idM j k)=if k<n then a k else 0
 |0=>rfl
 |n+1=>by
  unfold qa8;rw[qgL a k n]
  show(if k<n then a k else 0)+a n*(if k=n then 1 else 0)=if k<n+1 then a k else 0
  by_cases h:k<n
  ·rw[if_pos h,if_neg (show¬k=n by omega),if_pos (show k<n+1 by omega),Rat.mul_zero,Rat.add_zero]
  by_cases e:k=n
  ·subst e;rw[if_neg h,if_pos (show k<k+1 by omega),if_pos rfl,Rat.mul_one,Rat.zero_add]
  rw[if_neg h,if_neg e,if_neg (show¬k<n+1 by omega),Rat.mul_zero,Rat.add_zero]
def qfJ (n:Nat) (a:Nat->Rat) (V:Nat->Nat->Rat):Nat->Rat:=fun k=>qa8 n fun j=>a j*V j k
theorem qlk (p:Bool) (t:Rat) (k n:Nat) (a:Nat->Rat) (V:Nat->Nat->Rat):qcj p t k (qfJ n a V)=qfJ n a fun j=>qcj p t k (V j):=by
 funext m;unfold qcj;by_cases hp:p=true
 ·simp only[if_pos hp];unfold qdu qfJ;by_cases e:m=k+1
  ·simp only[if_pos e];exact(qdL a _ _ t 0 n).symm
  simp only[if_neg e];by_cases e2:m=k
  ·simp only[if_pos e2];exact(qdL a _ _ (1-t) 1 n).symm
  simp only[if_neg e2]
 simp only[if_neg hp];unfold qdu qfJ;by_cases e:m=k+1
 ·simp only[if_pos e];exact(qdL a _ _ 1 (1-t⁻¹) n).symm
 simp only[if_neg e];by_cases e2:m=k
 ·simp only[if_pos e2];exact(qdL a _ _ 0 t⁻¹ n).symm
 simp only[if_neg e2]
def qff (t:Rat) (w:List Int) (v:Nat->Rat):Nat->Rat:=w.foldl (fun v c=>qcj (decide (c>0)) t (c.natAbs-1) v) v
theorem qd6 (t:Rat): ∀(w:List Int) (M:Nat->Nat->Rat) (i:Nat),w.foldl (fun M c=>qhx t c M) M i=qff t w (M i)
 |[],M,i=>rfl
 |c::w,M,i=>qd6 t w (qhx t c M) i
theorem qfD (t:Rat): ∀(w:List Int) (n:Nat) (a:Nat->Rat) (V:Nat->Nat->Rat),qff t w (qfJ n a V)=qfJ n a fun j=>qff t w (V j)
 |[],n,a,V=>rfl
 |c::w,n,a,V=>by
  show qff t w (qcj _ t _ (qfJ n a V))=_;rw[qlk,qfD t w];rfl
theorem qeU {n:Nat} (t:Rat): ∀(w:List Int),(∀c∈w,c≠0/\ -(n:Int)<c/\c<n)-> ∀(v v':Nat->Rat),(∀k<n,v k=v' k)-> ∀k<n,qff t w v k=qff t w v' k
 |[],_,v,v',h=>h
 |c::w,hw,v,v',h=>by
  show∀k<n,qff t w (qcj _ t _ v) k=qff t w (qcj _ t _ v') k;have hc:=hw c (List.mem_cons_self ..);refine qeU t w (fun d hd=>hw d (List.mem_cons_of_mem _ hd)) _ _ (fun k hk=>?_);have e1:=h (c.natAbs-1) (by omega);have e2:=h (c.natAbs-1+1) (by omega);have e3:=h k hk;unfold qcj;unfold qdu;split<;>simp only[e1,e2,e3]
theorem qqI {n:Nat} (t:Rat) {a b:List Int} (hb: ∀c∈b,c≠0/\ -(n:Int)<c/\c<n) (i:Nat): ∀k<n,vD t (a++b) i k=qa8 n fun j=>vD t a i j*vD t b j k:=by
 intro k hk
 have h:vD t (a++b) i=qff t b (vD t a i):=by
  unfold vD;rw[List.foldl_append,qd6]
 have h2: ∀k<n,vD t a i k=qfJ n (vD t a i) idM k:=fun k hk=>by
  unfold qfJ;rw[qgL,if_pos hk]
 rw[h,qeU t b hb _ _ h2 k hk,qfD];unfold qfJ
 refine qde n fun j _=>?_
 rw[show vD t b j=qff t b (idM j)from qd6 t b idM j]
theorem qeH (a:Int):0<=a*a:=by
 rcases Int.le_total 0 a with h|h
 ·exact Yv h h
 exact Int.mul_nonneg_of_nonpos_of_nonpos h h
def SW (t:Int) (z:Nat->Int):Int:=t*(t*(t*(t*(z 0*z 0)+z 1*z 1)+z 2*z 2)+z 3*z 3)+z 4*z 4
theorem qrk {t:Int} (ht:1<=t) {k:Nat} (hk:k<4) {z z':Nat->Int} (h1:z' k=z k*(1-t)+z (k+1)) (h2:z' (k+1)=z k*t) (h3: ∀j,j≠k->j≠k+1->z' j=z j):SW t z'<=t*t*SW t z:=by
 have t1:0<=t-1:=by omega
 have t2:0<=t:=by omega
 have t3:0<=t*t-1:=by have:=Int.mul_le_mul ht ht (by omega) t2;omega
 rcases(show k=0\/k=1\/k=2\/k=3 by omega)with rfl|rfl|rfl|rfl
 ·have a:=h3 2 (by decide) (by decide);have b:=h3 3 (by decide) (by decide);have c:=h3 4 (by decide) (by decide)
  have e:t*t*SW t z-SW t z'=t*t*t*(t*(t-1)*((z 0+z 1)*(z 0+z 1)))+(t*t-1)*(t*(t*(z 2*z 2)+z 3*z 3)+z 4*z 4):=by
   unfold SW;rw[h1,h2,a,b,c];grind
  have:0<=t*t*t*(t*(t-1)*((z 0+z 1)*(z 0+z 1)))+(t*t-1)*(t*(t*(z 2*z 2)+z 3*z 3)+z 4*z 4):=by
   repeat' first|exact qeH _|assumption|apply Int.add_nonneg|apply Yv
  omega
 ·have a:=h3 0 (by decide) (by decide);have b:=h3 3 (by decide) (by decide);have c:=h3 4 (by decide) (by decide)
  have e:t*t*SW t z-SW t z'=t*t*(t*(t-1)*((z 1+z 2)*(z 1+z 2)))+(t*t-1)*(t*(t*(t*(t*(z 0*z 0)))+z 3*z 3)+z 4*z 4):=by
   unfold SW;rw[h1,h2,a,b,c];grind
  have:0<=t*t*(t*(t-1)*((z 1+z 2)*(z 1+z 2)))+(t*t-1)*(t*(t*(t*(t*(z 0*z 0)))+z 3*z 3)+z 4*z 4):=by
   repeat' first|exact qeH _|assumption|apply Int.add_nonneg|apply Yv
  omega
 ·have a:=h3 0 (by decide) (by decide);have b:=h3 1 (by decide) (by decide);have c:=h3 4 (by decide) (by decide)
  have e:t*t*SW t z-SW t z'=t*(t*(t-1)*((z 2+z 3)*(z 2+z 3)))+(t*t-1)*(t*(t*(t*(t*(z 0*z 0)+z 1*z 1)))+z 4*z 4):=by
   unfold SW;rw[h1,h2,a,b,c];grind
  have:0<=t*(t*(t-1)*((z 2+z 3)*(z 2+z 3)))+(t*t-1)*(t*(t*(t*(t*(z 0*z 0)+z 1*z 1)))+z 4*z 4):=by
   repeat' first|exact qeH _|assumption|apply Int.add_nonneg|apply Yv
  omega
 have a:=h3 0 (by decide) (by decide);have b:=h3 1 (by decide) (by decide);have c:=h3 2 (by decide) (by decide)
 have e:t*t*SW t z-SW t z'=t*(t-1)*((z 3+z 4)*(z 3+z 4))+(t*t-1)*(t*(t*(t*(t*(z 0*z 0)+z 1*z 1)+z 2*z 2))):=by
  unfold SW;rw[h1,h2,a,b,c];grind
 have:0<=t*(t-1)*((z 3+z 4)*(z 3+z 4))+(t*t-1)*(t*(t*(t*(t*(z 0*z 0)+z 1*z 1)+z 2*z 2))):=by
  repeat' first|exact qeH _|assumption|apply Int.add_nonneg|apply Yv
 omega
theorem qrB {t:Int} (ht:1<=t) {k:Nat} (hk:k<4) {z z':Nat->Int} (h1:z' k=z (k+1)) (h2:z' (k+1)=z k*t+z (k+1)*(t-1)) (h3: ∀j,j≠k->j≠k+1->z' j=z j*t):SW t z'<=t*t*SW t z:=by
 have t1:0<=t-1:=by omega
 have t2:0<=t:=by omega
 rcases(show k=0\/k=1\/k=2\/k=3 by omega)with rfl|rfl|rfl|rfl
 ·have a:=h3 2 (by decide) (by decide);have b:=h3 3 (by decide) (by decide);have c:=h3 4 (by decide) (by decide)
  have e:t*t*SW t z-SW t z'=t*t*t*((t-1)*((t*z 0-z 1)*(t*z 0-z 1))):=by
   unfold SW;rw[h1,h2,a,b,c];grind
  have:0<=t*t*t*((t-1)*((t*z 0-z 1)*(t*z 0-z 1))):=by
   repeat' first|exact qeH _|assumption|apply Int.add_nonneg|apply Yv
  omega
 ·have a:=h3 0 (by decide) (by decide);have b:=h3 3 (by decide) (by decide);have c:=h3 4 (by decide) (by decide)
  have e:t*t*SW t z-SW t z'=t*t*((t-1)*((t*z 1-z 2)*(t*z 1-z 2))):=by
   unfold SW;rw[h1,h2,a,b,c];grind
  have:0<=t*t*((t-1)*((t*z 1-z 2)*(t*z 1-z 2))):=by
   repeat' first|exact qeH _|assumption|apply Int.add_nonneg|apply Yv
  omega
 ·have a:=h3 0 (by decide) (by decide);have b:=h3 1 (by decide) (by decide);have c:=h3 4 (by decide) (by decide)
  have e:t*t*SW t z-SW t z'=t*((t-1)*((t*z 2-z 3)*(t*z 2-z 3))):=by
   unfold SW;rw[h1,h2,a,b,c];grind
  have:0<=t*((t-1)*((t*z 2-z 3)*(t*z 2-z 3))):=by
   repeat' first|exact qeH _|assumption|apply Int.add_nonneg|apply Yv
  omega
 have a:=h3 0 (by decide) (by decide);have b:=h3 1 (by decide) (by decide);have c:=h3 2 (by decide) (by decide)
 have e:t*t*SW t z-SW t z'=(t-1)*((t*z 3-z 4)*(t*z 3-z 4)):=by
  unfold SW;rw[h1,h2,a,b,c];grind
 have:0<=(t-1)*((t*z 3-z 4)*(t*z 3-z 4)):=by
  repeat' first|exact qeH _|assumption|apply Int.add_nonneg|apply Yv
 omega
theorem SW_at {t:Int} (ht:1<=t) {z:Nat->Int} {j:Nat} (hj:j<5):z j*z j<=SW t z:=by
 have up: ∀{x:Int},0<=x->x<=t*x:=fun {x} h=>by have:=Int.mul_le_mul_of_nonneg_right ht h;omega
 have q0:=qeH (z 0);have q1:=qeH (z 1);have q2:=qeH (z 2);have q3:=qeH (z 3);have q4:=qeH (z 4);have u0:=up q0;have u1:=up (show 0<=t*(z 0*z 0)+z 1*z 1 by omega);have u2:=up (show 0<=t*(t*(z 0*z 0)+z 1*z 1)+z 2*z 2 by omega);have u3:=up (show 0<=t*(t*(t*(z 0*z 0)+z 1*z 1)+z 2*z 2)+z 3*z 3 by omega);unfold SW;rcases(show j=0\/j=1\/j=2\/j=3\/j=4 by omega)with rfl|rfl|rfl|rfl|rfl<;>omega
theorem qqD {t:Int} (ht:1<=t) {z z':Nat->Int} (h: ∀j,z' j=z j\/z' j=0):SW t z'<=SW t z:=by
 have q: ∀j,z' j*z' j<=z j*z j:=fun j=>by
  rcases h j with e|e
  ·rw[e];exact Int.le_refl _
  rw[e];exact qeH _
 have q0:=q 0;have q1:=q 1;have q2:=q 2;have q3:=q 3;have q4:=q 4
 have m: ∀{x y:Int},x<=y->t*x<=t*y:=fun h=>Yc h (by omega)
 have u0:=m q0;have u1:=m (show t*(z' 0*z' 0)+z' 1*z' 1<=t*(z 0*z 0)+z 1*z 1 by omega);have u2:=m (show t*(t*(z' 0*z' 0)+z' 1*z' 1)+z' 2*z' 2<=t*(t*(z 0*z 0)+z 1*z 1)+z 2*z 2 by omega);have u3:=m (show t*(t*(t*(z' 0*z' 0)+z' 1*z' 1)+z' 2*z' 2)+z' 3*z' 3<=t*(t*(t*(z 0*z 0)+z 1*z 1)+z 2*z 2)+z 3*z 3 by omega);unfold SW;omega
def Wt (t:Int) (v:Nat->Rat) (m L:Nat):Prop:= ∃z:Nat->Int,(∀j,v j*((t:Rat)^m)=((z j:Int):Rat))/\(∀j,5<=j->z j=0)/\SW t z<=t^(L+2)*t^(L+2)
def Rw (t:Int) (v:Nat->Rat) (L:Nat):Prop:= ∃m,m<=L/\Wt t v m L
theorem qeh {t:Int} (ht:1<=t):(t:Rat)≠0:=by
 intro h
 have:t=0:=by exact_mod_cast h
 omega
theorem Rw.step {t:Int} (ht:1<=t) {v:Nat->Rat} {L:Nat} (h:Rw t v L) (p:Bool) {k:Nat} (hk:k<4):Rw t (qcj p t k v) (L+1):=by
 obtain⟨m,hm,z,h1,h2,h3⟩:=h;have ne:=qeh ht
 have hB:t*t*(t^(L+2)*t^(L+2))=t^(L+1+2)*t^(L+1+2):=by
  rw[show L+1+2=L+2+1 by omega,Int.pow_succ];generalize t^(L+2)=P;grind
 have mono:t*t*SW t z<=t*t*(t^(L+2)*t^(L+2)):=Yc h3 (qeH t);cases p
 ·refine⟨m+1,by omega,fun j=>if j=k+1 then z k*t+z (k+1)*(t-1)else if j=k then z (k+1)else z j*t,?_,?_,?_⟩
  ·intro j;unfold qcj;rw[if_neg (by decide)];unfold qdu;rw[Rat.pow_succ];dsimp only;by_cases a:j=k+1
   ·rw[if_pos a,if_pos a,Rat.intCast_add,Rat.intCast_mul,Rat.intCast_mul,Rat.intCast_sub,<-h1,<-h1];have:(t:Rat)⁻¹*(t:Rat)=1:=Rat.inv_mul_cancel _ ne;generalize (t:Rat)^m=P at*;generalize (t:Rat)⁻¹=I at*;have e1:((1:Int):Rat)=1:=rfl;grind
   rw[if_neg a,if_neg a];by_cases b:j=k
   ·rw[if_pos b,if_pos b,<-h1];have:(t:Rat)⁻¹*(t:Rat)=1:=Rat.inv_mul_cancel _ ne;generalize (t:Rat)^m=P at*;generalize (t:Rat)⁻¹=I at*;grind
   rw[if_neg b,if_neg b,Rat.intCast_mul,<-h1,Rat.mul_assoc]
  ·intro j hj;dsimp only;rw[if_neg (by omega),if_neg (by omega),h2 j hj,Int.zero_mul]
  rw[<-hB];refine Int.le_trans (qrB ht hk (z:=z) ?_ ?_ ?_) mono
  ·rw[if_neg (by omega),if_pos rfl]
  ·rw[if_pos rfl]
  intro j a b;rw[if_neg b,if_neg a]
 refine⟨m,by omega,fun j=>if j=k+1 then z k*t else if j=k then z k*(1-t)+z (k+1)else z j,?_,?_,?_⟩
 ·intro j;unfold qcj;rw[if_pos rfl];unfold qdu;dsimp only;by_cases a:j=k+1
  ·rw[if_pos a,if_pos a,Rat.intCast_mul,<-h1];generalize (t:Rat)^m=P at*;grind
  rw[if_neg a,if_neg a];by_cases b:j=k
  ·rw[if_pos b,if_pos b,Rat.intCast_add,Rat.intCast_mul,Rat.intCast_sub,<-h1,<-h1];have e1:((1:Int):Rat)=1:=rfl;generalize (t:Rat)^m=P at*;grind
  rw[if_neg b,if_neg b,<-h1]
 ·intro j hj;dsimp only;rw[if_neg (by omega),if_neg (by omega),h2 j hj]
 rw[<-hB];refine Int.le_trans (qrk ht hk (z:=z) ?_ ?_ ?_) mono
 ·rw[if_neg (by omega),if_pos rfl]
 ·rw[if_pos rfl]
 intro j a b;rw[if_neg b,if_neg a]
theorem Rw.part {t:Int} (ht:1<=t) {v v':Nat->Rat} {L:Nat} (h:Rw t v L) (hv: ∀j,v' j=v j\/v' j=0):Rw t v' L:=by
 obtain⟨m,hm,z,h1,h2,h3⟩:=h
 have c: ∀j,∃y:Int,v' j*((t:Rat)^m)=(y:Rat)/\(y=z j\/y=0):=fun j=>by
  rcases hv j with e|e
  ·exact⟨z j,by rw[e];exact h1 j,.inl rfl⟩
  exact⟨0,by rw[e,Rat.zero_mul];rfl,.inr rfl⟩
 refine⟨m,hm,fun j=>(c j).choose,fun j=>(c j).choose_spec.1,fun j hj=>?_,Int.le_trans (qqD ht (z:=z) fun j=>(c j).choose_spec.2) h3⟩;have:=(c j).choose_spec.2;have h5:=h2 j hj;rcases this with e|e
 ·exact e.trans h5
 exact e
theorem qoV {t:Int} (ht:1<=t) (i:Nat):i<5->Rw t (idM i) 0:=by
 intro hi;refine⟨0,by omega,fun j=>if j=i then 1 else 0,fun j=>?_,fun j hj=>if_neg (by omega),?_⟩
 ·unfold idM qdu;rw[Rat.pow_zero,Rat.mul_one];dsimp only;split<;>rfl
 have t2:0<=t:=by omega
 have e:t^(0+2)*t^(0+2)=t*(t*(t*t)):=by rw[show 0+2=1+1 from rfl,Int.pow_succ,Int.pow_one];grind
 have up: ∀{x:Int},1<=x->x<=t*x/\1<=t*x:=fun {x} h=>by have:=Int.mul_le_mul_of_nonneg_right ht (show 0<=x by omega);omega
 have u1:=up ht;have u2:=up u1.2;have u3:=up u2.2;rw[e];unfold SW;dsimp only;rcases(show i=0\/i=1\/i=2\/i=3\/i=4 by omega)with rfl|rfl|rfl|rfl|rfl<;>simp<;>omega
theorem qiG {t:Int} (ht:1<=t) {n:Nat} (hn:n<=5): ∀(w:List Int),(∀c∈w,c≠0/\ -(n:Int)<c/\c<n)-> ∀(v:Nat->Rat) (L:Nat),Rw t v L->Rw t (qff t w v) (L+w.length)
 |[],_,v,L,h=>h
 |c::w,hw,v,L,h=>by
  have hc:=hw c (List.mem_cons_self ..);have:=qiG ht hn w (fun d hd=>hw d (List.mem_cons_of_mem _ hd)) _ (L+1) (h.step ht (decide (c>0)) (k:=c.natAbs-1) (by omega));rw[Yr,show L+(w.length+1)=L+1+w.length by omega];exact this
def Bz (D B:Int) (x:Rat):Prop:= ∃z:Int,x*(D:Rat)=(z:Rat)/\z.natAbs<=B.toNat
theorem Bz.q9 {D B:Int} {x:Rat} (h:Bz D B x) (hD:0<D) (hD9:D<1000000000) (hB:B<1000000000):Q9 x:=by
 obtain⟨z,h1,h2⟩:=h
 have hp':(D:Rat)≠0:=by
  intro h
  have:(D:Int)=0:=by exact_mod_cast h
  omega
 have e:x=Rat.divInt z D:=by rw[Rat.divInt_eq_div,<-h1,Rat.mul_div_cancel hp']
 have hg:0<Int.gcd D z:=Int.gcd_pos_of_ne_zero_left _ (by omega);have n1:=qdd (D.sign*z) (show(0:Int)<(Int.gcd D z:Int)by omega)
 have n2:(D.sign*z).natAbs=z.natAbs:=by rw[Int.natAbs_mul,Int.natAbs_sign_of_ne_zero (by omega),Nat.one_mul]
 have n3:=Nat.div_le_self D.natAbs (Int.gcd D z);rw[e];refine⟨?_,?_⟩
 ·rw[Rat.num_divInt];omega
 rw[Rat.den_divInt,if_neg (by omega)];omega
theorem Rw.bz {t:Int} (ht:1<=t) {v:Nat->Rat} {L:Nat} (h:Rw t v L): ∃m,m<=L/\ ∀j,Bz (t^m) (t^(L+2)) (v j):=by
 obtain⟨m,hm,z,h1,h2,h3⟩:=h;have hB:0<t^(L+2):=Int.pow_pos (by omega);refine⟨m,hm,fun j=>⟨z j,by rw[Rat.intCast_pow];exact h1 j,?_⟩⟩;by_cases hj:j<5
 ·have a:=Int.le_trans (SW_at ht hj) h3;generalize t^(L+2)=P at*;generalize z j=y at*
  have:((y.natAbs:Nat):Int)<=P:=by
   rcases Int.lt_or_le P (y.natAbs:Int)with c|c
   ·exfalso;have e:y*y=(y.natAbs:Int)*(y.natAbs:Int):=(Int.natAbs_mul_self' y).symm;have:=Int.mul_lt_mul c (Int.le_of_lt c) hB (by omega);omega
   exact c
  omega
 rw[h2 j (by omega)];simp
def Cz (t:Int) (c:Rat):Prop:= ∃e y:Int,(e=1\/e=t)/\c*(e:Rat)=(y:Rat)/\y.natAbs<=t.toNat
theorem Bz.mul {t D B:Int} (ht:1<=t) (hB:0<=B) {x c:Rat} (h:Bz D B x) (hc:Cz t c): ∃e:Int,(e=1\/e=t)/\Bz (D*e) (B*t) (x*c):=by
 obtain⟨z,h1,h2⟩:=h;obtain⟨e,y,he,k1,k2⟩:=hc;refine⟨e,he,z*y,?_,?_⟩
 ·rw[Rat.intCast_mul,Rat.intCast_mul,<-h1,<-k1];grind
 rw[Int.natAbs_mul,Int.toNat_mul hB (by omega)];exact Nat.mul_le_mul h2 k2
theorem Rw.q9 {t:Int} (ht:1<=t) {v:Nat->Rat} {L:Nat} (h:Rw t v L) (hL:t^(L+2)<1000000000) (j:Nat):Q9 (v j):=by
 obtain⟨m,hm,hb⟩:=h.bz ht;have:=ym ht (show m<=L+2 by omega);exact(hb j).q9 (Int.pow_pos (by omega)) (by omega) hL
theorem Rw.q9c {t:Int} (ht:1<=t) {v:Nat->Rat} {L:Nat} (h:Rw t v L) (hL:t^(L+3)<1000000000) (j:Nat) {c:Rat} (hc:Cz t c):Q9 (v j*c):=by
 obtain⟨m,hm,hb⟩:=h.bz ht;have hP:0<t^(L+2):=Int.pow_pos (by omega);have hM:0<t^m:=Int.pow_pos (by omega);obtain⟨e,he,k⟩:=(hb j).mul ht (Int.le_of_lt hP) hc;rw[show L+3=L+2+1 by omega,Int.pow_succ]at hL;have p1:=ym ht (show m+1<=L+2 by omega);rw[Int.pow_succ]at p1;have p2:t^m*1<=t^m*t:=Yc ht (Int.le_of_lt hM);have p3:t^(L+2)*1<=t^(L+2)*t:=Yc ht (Int.le_of_lt hP);rcases he with rfl|rfl
 ·exact k.q9 (by omega) (by omega) hL
 exact k.q9 (by omega) (by omega) hL
end Go.Av
end
section
namespace Go.Av
def qaO (n c:Int):Bool:=decide (c≠0)&&decide (-n<c)&&decide (c<n)
def qga (n:Int) (w:List Int):Int:=if n<1\/12<n then 3 else if 200<w.length then 5 else if w.all (qaO n)=true then 0 else 3
theorem letter_eq {n:Int} (h1:1<=n) (h2:n<=12) (c:Int):qaP n c=some (qaO n c):=by
 unfold qaP qaO
 have hw:w64 (0-n)= -n:=by rw[qz (by omega) (by omega)];omega
 rw[hw];by_cases a:c=0
 ·simp[a]
 by_cases b: -n<c
 ·simp[a,b]
 simp[a,b]
theorem qkB {n:Int} (h1:1<=n) (h2:n<=12) (c:Int):qae n c=some (!qaO n c):=by
 unfold qae qaO
 have hw:w64 (0-n)= -n:=by rw[qz (by omega) (by omega)];omega
 rw[hw];by_cases a:c=0
 ·simp[a]
 by_cases b: -n<c
 ·rw[if_neg a,if_neg (by omega)];by_cases d:c<n
  ·simp[a,b,d]
  simp[a,b,d];omega
 rw[if_neg a,if_pos (by omega)];simp[a,b]
theorem qjB {n:Int} {w:List Int} {i:Nat} (h:i<w.length):(w.drop i).all (qaO n)=(qaO n w[i]&&(w.drop (i+1)).all (qaO n)):=by
 rw[YG h,List.all_cons]
theorem qpp {n:Int} (h1:1<=n) (h2:n<=12) {w:List Int} (hl:w.length<=300): ∀(K i:Nat),i<=w.length->w.length<K+i->zR n w K (i:Int)=some (if(w.drop i).all (qaO n)=true then .inl ()else .inr 3)
 |0,i,h,hK=>by omega
 |K+1,i,h,hK=>by
  unfold zR;by_cases hi:i<w.length
  ·rw[if_pos (by omega),qp,Ya hi,ZB,letter_eq h1 h2,ZB,qjB hi]
   cases c:qaO n w[i]with
   |false=>rfl
   |true=>
    rw[if_neg (by decide),qV (by omega),qpp h1 h2 hl K (i+1) (by omega) (by omega),Bool.true_and]
  rw[if_neg (by omega),List.drop_eq_nil_of_le (by omega)];rfl
theorem qk0 {N:Nat} (hN:2000<N) {n:Int} {w:List Int} (hl:w.length<=300):yZ N n w=some (qga n w):=by
 unfold yZ qga;by_cases a:n<1
 ·rw[if_pos a,ZB,if_pos rfl,if_pos (.inl a)]
 by_cases b:12<n
 ·rw[if_neg a,decide_eq_true (by omega),ZB,if_pos rfl,if_pos (.inr b)]
 rw[if_neg a,decide_eq_false (by omega),ZB,if_neg (by decide),if_neg (show¬(n<1\/12<n)by omega)];by_cases c:200<w.length
 ·rw[if_pos (by omega),if_pos c]
 rw[if_neg (by omega),if_neg c,show(0:Int)=((0:Nat):Int)from rfl,qpp (by omega) (by omega) hl N 0 (by omega) (by omega),YR];cases w.all (qaO n)<;>rfl
theorem qpt {n:Int} (h1:1<=n) (h2:n<=12) {w:List Int} (hl:w.length<=300): ∀(K i:Nat),i<=w.length->w.length<K+i->((w.drop i).all (qaO n)=true/\qF w n K (i:Int)=some (.inl ()))\/((w.drop i).all (qaO n)=false/\ ∃j:Nat,qF w n K (i:Int)=some (.inr (j:Int)))
 |0,i,h,hK=>by omega
 |K+1,i,h,hK=>by
  unfold qF vR;by_cases hi:i<w.length
  ·rw[if_pos (by omega),qp,Ya hi,ZB,qkB h1 h2,ZB,ZB,qjB hi]
   cases c:qaO n w[i]with
   |false=>exact .inr ⟨rfl,i,rfl⟩
   |true=>
    rw[if_neg (by decide),qV (by omega),Bool.true_and];exact qpt h1 h2 hl K (i+1) (by omega) (by omega)
  rw[if_neg (by omega),List.drop_eq_nil_of_le (by omega)];exact .inl ⟨rfl,rfl⟩
theorem qmv {N:Nat} (hN:10<N) (a b:Int):vE N [a,b]=some (if a=0 then b else a):=by
 obtain⟨K,rfl⟩: ∃K,N=K+1+1+1:=⟨N-3,by omega⟩;have w1:w64 1=1:=rfl;have w2:w64 2=2:=rfl
 have i0: ∀a b:Int,idx [a,b] 0=some a:=fun _ _=>rfl
 have i1: ∀a b:Int,idx [a,b] 1=some b:=fun _ _=>rfl
 unfold vE;by_cases ha:a=0
 ·by_cases hb:b=0
  ·simp[zL,i0,i1,ha,hb,w1,w2]
  simp[zL,i0,i1,ha,hb,w1,w2]
 simp[zL,i0,ha]
theorem qeW (b:Bool) (e:Int):jE b e=some (if b=true then e else 0):=by
 unfold jE;cases b<;>rfl
theorem xY {N:Nat} (hN:2000<N) {n:Int} {w:List Int} (hl:w.length<=300):qY N n w=some (qga n w):=by
 unfold qY yO qga;by_cases a:n<1\/12<n
 ·have:(Option.bind (if n<1 then(jE true 3).bind fun r2=>some r2 else(jE (decide (n>12)) 3).bind fun r3=>some r3:Option Int) fun n4=>some n4)=some 3:=by
   by_cases b:n<1
   ·rw[if_pos b];rfl
   rw[if_neg b,decide_eq_true (by omega)];rfl
  rw[this,ZB,qeW,ZB,qmv (by omega),if_neg (by decide),ZB,if_pos (by decide),if_pos a]
 have:(Option.bind (if n<1 then(jE true 3).bind fun r2=>some r2 else(jE (decide (n>12)) 3).bind fun r3=>some r3:Option Int) fun n4=>some n4)=some 0:=by
  rw[if_neg (by omega),decide_eq_false (by omega)];rfl
 rw[this,ZB,qeW,ZB,qmv (by omega),if_pos rfl,ZB,if_neg a];by_cases c:200<w.length
 ·rw[decide_eq_true (show(w.length:Int)>200 by omega),if_pos rfl,if_pos (by decide),if_pos c]
 rw[decide_eq_false (show¬(w.length:Int)>200 by omega),if_neg Bool.false_ne_true,if_neg (show¬(!decide ((0:Int)=0))=true by decide),if_neg c];unfold jd j3;rcases qpt (n:=n) (by omega) (by omega) hl N 0 (by omega) (by omega)with⟨g1,g2⟩|⟨g1,j,g2⟩<;>rw[show((0:Nat):Int)=0 from rfl]at g2
 ·rw[g2,<-YR (l:=w),g1];rfl
 rw[g2,<-YR (l:=w),g1];simp only[ZB];rw[decide_eq_true (show(j:Int)>=0 by omega),qeW];rfl
structure zb (n:Nat) (w:List Int):Prop where
 n1:1<=n
 n2:n<=12
 len:w.length<=200
 let_: ∀c∈w,c≠0/\ -(n:Int)<c/\c<n
theorem qmp {n:Int} {w:List Int} (h:qga n w=0): ∃k:Nat,n=k/\zb k w:=by
 unfold qga at h;split at h
 ·omega
 rename_i a;split at h
 ·omega
 rename_i b;split at h
 ·rename_i c;refine⟨n.toNat,by omega,by omega,by omega,by omega,fun x hx=>?_⟩;have:=Yp.1 c x hx;simp only[qaO,Bool.and_eq_true,decide_eq_true_eq]at this;omega
 omega
theorem qqU {w:List Int} (hl:w.length<=300): ∀(K i:Nat),i<=w.length->w.length<K+i->zf w K ((w.take i).map fun x=>w64 (0-x)) (i:Int)=some (w.map fun x=>w64 (0-x))
 |0,i,h,hK=>by omega
 |K+1,i,h,hK=>by
  unfold zf qbe;by_cases hi:i<w.length
  ·rw[if_pos (by omega),qp,Ya hi,ZB,ZB,qct (by simp;omega) (by simp;omega),ZB,qV (by omega)]
   have e:(w.take i).map (fun x=>w64 (0-x))++[w64 (0-w[i])]=(w.take (i+1)).map fun x=>w64 (0-x):=by
    rw[List.take_succ_eq_append_getElem hi,List.map_append];rfl
   rw[e];exact qqU hl K (i+1) (by omega) (by omega)
  rw[if_neg (by omega),List.take_of_length_le (by omega)]
theorem qin {N:Nat} (hN:2000<N) {w:List Int} (hl:w.length<=300):ji N w=some (w.map fun x=>w64 (0-x)):=by
 unfold ji;have:=qqU hl N 0 (by omega) (by omega);rw[List.take_zero,List.map_nil]at this;rw[show(0:Int)=((0:Nat):Int)from rfl,this];rfl
theorem qqS {l0:List Int} {n:Nat} (hn:l0.length=n) (hb:n<=100000): ∀(K i:Nat) (l:List Int),l.length=n->2*i<=n+1->n+1<K+2*i->(∀k:Nat,k<n->l[k]? =if k<i\/n<=k+i then l0[n-1-k]? else l0[k]?)->ku K l (i:Int) ((n:Int)-1-i)=some l0.reverse
 |0,i,l,hl,h2,hK,hk=>by omega
 |K+1,i,l,hl,h2,hK,hk=>by
  unfold ku;by_cases hi:(i:Int)<(n:Int)-1-i
  ·have e1:(n:Int)-1-i=((n-1-i:Nat):Int):=by omega
   have e2:w64 (((n-1-i:Nat):Int)-1)=(n:Int)-1-((i+1:Nat):Int):=by rw[qz (by omega) (by omega)];omega
   have q1:=hk (n-1-i) (by omega);have q2:=hk i (by omega);rw[if_neg (by omega)]at q1 q2;have g1:l0[n-1-i]? =some l0[n-1-i]:=Ya (by omega);have g2:l0[i]? =some l0[i]:=Ya (by omega);rw[g1]at q1;rw[g2]at q2;rw[if_pos hi,e1,qp,q1,ZB,qp,q2,ZB,yh (by omega),ZB,qp,Yw (by omega),q1,ZB,yh (by simp;omega),ZB,qV (by omega),e2];refine qqS hn hb K (i+1) _ (by simp;omega) (by omega) (by omega) (fun k hkn=>?_);by_cases c1:k=n-1-i
   ·subst c1;rw[List.getElem?_set_self (by simp;omega),if_pos (by omega),show n-1-(n-1-i)=i by omega,g2]
   rw[Yw (fun e=>c1 e.symm)];by_cases c2:k=i
   ·subst c2;rw[List.getElem?_set_self (by omega),if_pos (by omega),g1]
   rw[Yw (fun e=>c2 e.symm),hk k hkn];by_cases c3:k<i\/n<=k+i
   ·rw[if_pos c3,if_pos (by omega)]
   rw[if_neg c3,if_neg (by omega)]
  rw[if_neg hi];congr 1;apply List.ext_getElem?;intro k;by_cases hkn:k<n
  ·rw[hk k hkn,List.getElem?_reverse (by omega),hn];by_cases c3:k<i\/n<=k+i
   ·rw[if_pos c3]
   rw[if_neg c3,show n-1-k=k by omega]
  rw[Yg (by omega),Yg (by simp;omega)]
theorem qk4 {N:Nat} {l:List Int} (hN:l.length+1<N) (hb:l.length<=100000):jy N l=some l.reverse:=by
 unfold jy;have:=qqS (l0:=l) rfl hb N 0 l rfl (by omega) (by omega) (fun k hk=>by rw[if_neg (by omega)]);rw[qz (by omega) (by omega),show((l.length:Int)-1)=(l.length:Int)-1-((0:Nat):Int)by omega,show(0:Int)=((0:Nat):Int)from rfl];rw[this];rfl
theorem qkx {N:Nat} (hN:2000<N) {w:List Int} (hl:w.length<=300):yF N w=some ((w.map fun x=>w64 (0-x)).reverse):=by
 unfold yF;rw[qin hN hl,ZB,qk4 (by simp;omega) (by simp;omega),ZB,if_pos (by simp),ZB]
end Go.Av
end
section
namespace Go.Av
def qhu (n:Nat):List Int:=(List.range n).map fun k:Nat=>(k:Int)
theorem qmy (n:Nat):(qhu n).length=n:=by simp[qhu]
theorem qmO {n k:Nat} (h:k<n):(qhu n)[k]? =some (k:Int):=by
 simp[qhu,List.getElem?_map,List.getElem?_range h]
theorem qjd {c:Int} (h: -1000<c/\c<1000):xc c=some ((c.natAbs:Nat):Int):=by
 unfold xc;rw[qz (by omega) (by omega)];by_cases a:0-c>c
 ·rw[if_pos a];congr 1;omega
 rw[if_neg a];congr 1;omega
theorem qlQ {n:Nat} (hn:n<=1000) {l2:List Int} (h2:l2.length=n): ∀(K i:Nat) (l:List Int),l.length=n->i<=n->n<K+i->(∀k,k<i->l[k]? =some (k:Int))->zx l2 K l (i:Int)=some (qhu n)
 |0,i,l,hl,h,hK,hk=>by omega
 |K+1,i,l,hl,h,hK,hk=>by
  unfold zx;by_cases hi:i<n
  ·rw[if_pos (by omega),qp,Ya (by omega),ZB,yh (by omega),ZB,qV (by omega)];refine qlQ hn h2 K (i+1) _ (by simpa using hl) (by omega) (by omega) (fun k hki=>?_);by_cases e:k=i
   ·subst e;rw[List.getElem?_set_self (by omega)]
   rw[Yw (fun c=>e c.symm)];exact hk k (by omega)
  rw[if_neg (by omega)];congr 1;apply List.ext_getElem?;intro k;by_cases hkn:k<n
  ·rw[hk k (by omega),qmO hkn]
  rw[Yg (by omega),Yg (by rw[qmy];omega)]
theorem qoP {n:Nat} (hn:n<=1000):mk 8 (n:Int) (0:Int)=some (List.replicate n 0):=by
 unfold mk;rw[if_pos (by omega)];simp
theorem qjL {N n:Nat} (hN:2000<N) (hn:n<=1000):jc N (n:Int)=some (qhu n):=by
 unfold jc;rw[qoP hn,ZB,show(0:Int)=((0:Nat):Int)from rfl,qlQ hn (by simp) N 0 _ (by simp) (by omega) (by omega) (fun k hk=>by omega),ZB]
structure PInv (n:Nat) (row p:List Int):Prop where
 rl:row.length=n
 pl:p.length=n
 at_: ∀k,k<n-> ∃v:Nat,v<n/\row[k]? =some (v:Int)/\p[v]? =some (k:Int)
 all: ∀v,v<n-> ∃k,k<n/\row[k]? =some (v:Int)
theorem PInv.back {n:Nat} {row p:List Int} (h:PInv n row p) {k v:Nat} (hk:k<n) (e:row[k]? =some (v:Int)):v<n/\p[v]? =some (k:Int):=by
 obtain⟨u,hu,e1,e2⟩:=h.at_ k hk;rw[e]at e1
 have:v=u:=by have:=Ye e1;omega
 subst this;exact⟨hu,e2⟩
theorem PInv.inj {n:Nat} {row p:List Int} (h:PInv n row p) {k k' v:Nat} (hk:k<n) (hk':k'<n) (e:row[k]? =some (v:Int)) (e':row[k']? =some (v:Int)):k=k':=by
 have h1:=(h.back hk e).2;have h2:=(h.back hk' e').2;rw[h1]at h2;have:=Ye h2;omega
end Go.Av
end
section
namespace Go.Av
theorem bwu (n:Int):wrap .u64 n=n%18446744073709551616:=rfl
theorem qiB {n:Int} (h0:0<=n) (h:n<18446744073709551616):wrap .u64 n=n:=by rw[bwu];exact Int.emod_eq_of_lt h0 h
theorem qnR {n:Int} (h0:0<=n) (h:n<18446744073709551616):(BitVec.ofInt 64 n).toNat=n.toNat:=by
 rw[BitVec.toNat_ofInt];have:n%((2:Nat)^64:Nat)=n:=Int.emod_eq_of_lt h0 (by simpa using h);rw[this]
theorem band {x:Int} (h0:0<=x) (h:x<4294967296):zo .u64 x 4294967295=x:=by
 show wrap .u64 _=_
 have e:(BitVec.ofInt IntKind.u64.bits x&&&BitVec.ofInt IntKind.u64.bits 4294967295).toNat=x.toNat%4294967296:=by
  rw[BitVec.toNat_and];show(BitVec.ofInt 64 x).toNat&&&(BitVec.ofInt 64 4294967295).toNat=_;rw[qnR h0 (by omega),qnR (by omega) (by omega)];exact Nat.and_two_pow_sub_one_eq_mod x.toNat 32
 rw[e,bwu];omega
theorem bshr {x:Int} (h0:0<=x) (h:x<4294967296):qW .u64 x 32=0:=by
 show x.fdiv 4294967296=0;rw[Int.fdiv_eq_ediv_of_nonneg _ (by omega)];omega
theorem bmul {x y:Int} (hx:0<=x/\x<=1000) (hy:0<=y/\y<=1000):bits_Mul x y=some (0,x*y):=by
 have h0:0<=x*y:=Yv hx.1 hy.1;have h1:x*y<=1000*1000:=Int.mul_le_mul hx.2 hy.2 hy.1 (by omega);unfold bits_Mul bits_Mul64;rw[band hx.1 (by omega),band hy.1 (by omega),bshr hx.1 (by omega),bshr hy.1 (by omega),Int.zero_mul,Int.zero_mul,Int.mul_zero,qiB (n:=0) (by omega) (by omega),qiB h0 (by omega),bshr h0 (by omega)];have z:wrap .u64 (0+0)=0:=rfl;have s:qW .u64 0 32=0:=rfl;have a:zo .u64 0 4294967295=0:=rfl;rw[z,a,s,z,s,z,ZB]
theorem nmin (a b:Nat):Nat.min a b=min a b:=rfl
def Rep (w l:List Int) (n:Nat):Prop:= ∀i,i<n->l[i]? =w[i%w.length]?
theorem qnz {w l:List Int} {n L:Nat} (hL:l.length=L) (hn:n<=L) (hd:w.length∣n) (h:Rep w l n):(qcm l n (l.take n)).length=L/\Rep w (qcm l n (l.take n)) (n+Nat.min n (L-n)):=by
 have e1:(l.take n).length=n:=by rw[Ym];omega
 have e2:(l.drop n).length=L-n:=by rw[YJ,hL]
 have hlen:(qcm l n (l.take n)).length=L:=by
  unfold qcm cpy;simp only[Yq,Ym,YJ,nmin];omega
 refine⟨hlen,fun i hi=>?_⟩;have hm:Nat.min n (L-n)=min n (L-n):=rfl;rw[hm]at hi;unfold qcm cpy;by_cases c:i<n
 ·rw[Yf (by omega),List.getElem?_take_of_lt c];exact h i c
 rw[Yo (by omega),e1,Yf (by simp only[Ym,YJ,nmin];omega),List.getElem?_take_of_lt (by simp only[Ym,YJ,nmin];omega),List.getElem?_take_of_lt (by omega),h (i-n) (by omega)];obtain⟨q,rfl⟩:=hd;rw[show i=i-w.length*q+w.length*q by omega,Nat.add_mul_mod_self_left,Nat.add_sub_cancel]
theorem qq5 {w:List Int} {L:Nat} (hb:L<=40000): ∀(K n:Nat) (l:List Int),l.length=L->n<=L->(n=L\/(0<n/\w.length∣n))->Rep w l n->L<K+n-> ∃r,ky K l (n:Int)=some r/\r.length=L/\Rep w r L
 |0,n,l,hl,hn,hd,h,hK=>by omega
 |K+1,n,l,hl,hn,hd,h,hK=>by
  unfold ky;by_cases c:n<L
  ·rcases hd with e|⟨hp,hd⟩
   ·omega
   obtain⟨s1,s2⟩:=qnz hl hn hd h
   have e1:(l.take n).length=n:=by rw[Ym];omega
   rw[if_pos (by omega),qry (by omega),ZB,ZB,e1,hl];have hm:Nat.min n (L-n)=min n (L-n):=rfl;rw[show w64 ((n:Int)+((Nat.min n (L-n):Nat):Int))=((n+Nat.min n (L-n):Nat):Int)by rw[hm];rw[qz (by omega) (by omega)];rfl];refine qq5 hb K _ _ s1 (by rw[hm];omega) ?_ s2 (by rw[hm];omega);rw[hm];by_cases g:n<=L-n
   ·right;rw[Nat.min_eq_left g];exact⟨by omega,Nat.dvd_add hd hd⟩
   left;omega
  rw[if_neg (by omega)]
  have:n=L:=by omega
  subst this;exact⟨l,rfl,hl,h⟩
theorem qmT {N:Nat} (hN:50000<N) {w:List Int} {k:Nat} (h0:0<w.length) (hl:w.length<=200) (hk:k<=200): ∃r,zZ N w (k:Int)=some r/\r.length=w.length*k/\Rep w r (w.length*k):=by
 have hb:w.length*k<=200*200:=Nat.mul_le_mul hl hk
 have hp:((w.length:Int)*(k:Int))=((w.length*k:Nat):Int):=by simp
 unfold zZ;rw[if_neg (by omega),ZB,qiB (by omega) (by omega),qiB (by omega) (by omega),bmul (by omega) (by omega),ZB,if_neg (show¬((0:Int),(w.length:Int)*(k:Int)).1>0 by simp),decide_eq_false (show¬((0:Int),(w.length:Int)*(k:Int)).2>9223372036854775807 by simp only;omega),ZB,if_neg (by decide),ZB,hp,qz (by omega) (by omega)]
 have hm:mk 8 ((w.length*k:Nat):Int) (0:Int)=some (List.replicate (w.length*k) 0):=by
  unfold mk;rw[if_pos (by omega),Int.toNat_natCast]
 rw[hm,ZB,ZB,List.length_replicate]
 have hc:(cpy (List.replicate (w.length*k) 0) w).length=w.length*k:=by
  unfold cpy;simp only[Yq,Ym,YJ,List.length_replicate,nmin];omega
 have hmn:Nat.min w.length (w.length*k)=min w.length (w.length*k):=rfl
 have hk1:k=0\/w.length<=w.length*k:=by
  rcases Nat.eq_zero_or_pos k with h|h
  ·exact .inl h
  exact .inr (Nat.le_mul_of_pos_right _ h)
 obtain⟨r,r1,r2,r3⟩:=qq5 (w:=w) (L:=w.length*k) (by omega) N (Nat.min w.length (w.length*k)) (cpy (List.replicate (w.length*k) 0) w) hc (by rw[hmn];omega) (by
  rcases hk1 with e|e
  ·left;subst e;rw[hmn];simp
  ·right;rw[hmn,Nat.min_eq_left e];exact⟨h0,Nat.dvd_refl _⟩) (fun i hi=>by
  rw[hmn]at hi;unfold cpy
  rw[List.length_replicate,Yf (by simp only[Ym];omega),List.getElem?_take_of_lt (by omega),Nat.mod_eq_of_lt (by omega)]) (by omega)
 exact⟨r,by rw[r1];rfl,r2,r3⟩
theorem qoO {w a b:List Int} {L:Nat} (ha:a.length=L) (hb:b.length=L) (ra:Rep w a L) (rb:Rep w b L):a=b:=by
 apply List.ext_getElem?;intro i;by_cases c:i<L
 ·rw[ra i c,rb i c]
 rw[Yg (by omega),Yg (by omega)]
theorem qgT (w:List Int):yn w=some (if 200<w.length then([],5)else(w,0)):=by
 unfold yn;by_cases c:200<w.length
 ·rw[if_pos (by omega),if_pos c]
 rw[if_neg (by omega),if_neg c]
theorem qnc {N:Nat} (hN:2000<N) {a b:List Int} (ha:a.length<=300) (hb:b.length<=300):yf N [a,b]=some (a++b):=by
 obtain⟨K,rfl⟩: ∃K,N=K+1+1+1:=⟨N-3,by omega⟩;have w1:w64 (0+1)=1:=rfl;have w2:w64 (1+1)=2:=rfl;have i0:idx [a,b] 0=some a:=rfl;have i1:idx [a,b] 1=some b:=rfl
 have s1:w64 (0+(a.length:Int))=(a.length:Int):=by rw[qz (by omega) (by omega)];omega
 have s2:w64 ((a.length:Int)+(b.length:Int))=((a.length+b.length:Nat):Int):=by rw[qz (by omega) (by omega)];omega
 have len:(([a,b]:List (List Int)).length:Int)=2:=rfl
 have L0:kg [a,b] (K+1+1+1) 0 0=some ((a.length+b.length:Nat):Int):=by
  rw[kg,len,if_pos (by decide),i0,ZB,s1,if_neg (by omega),ZB,w1,kg,len,if_pos (by decide),i1,ZB,s2,if_neg (by omega),ZB,w2,kg,len,if_neg (by decide)]
 have G: ∀m:Nat,m<=600-> ∃o:Option (List Int),vJ (m:Int)=some o/\((m=0/\o=none)\/o=some []):=by
  intro m hm;unfold vJ;rw[if_neg (by omega),ZB]
  have e:w64 ((m:Int)-w64 (0-0))=(m:Int):=by
   rw[show w64 (0-0)=0 from rfl,qz (by omega) (by omega)];omega
  rw[e];by_cases h:(m:Int)>0
  ·rw[if_pos h,show cut ([]:List Int) 0 0=some []from rfl,ZB]
   have z:qjr 8 (m:Int) (0:Int)=some (List.replicate m 0):=by
    unfold qjr;rw[if_pos (by omega)];simp
   have hct:cut (List.replicate m (0:Int)) 0 0=some []:=by
    have:=qca (l:=List.replicate m (0:Int)) (k:=0) (Nat.zero_le _);rw[List.take_zero]at this;exact this
   rw[z,ZB,hct,ZB,ZB];exact⟨some [],rfl,.inr rfl⟩
  rw[if_neg h];exact⟨none,rfl,.inl ⟨by omega,rfl⟩⟩
 unfold yf;rw[L0,ZB];obtain⟨o,g1,g2⟩:=G (a.length+b.length) (by omega);rw[g1,ZB];rcases g2 with⟨h0,rfl⟩|rfl
 ·have ea:a=[]:=YL.1 (by omega);have eb:b=[]:=YL.1 (by omega);subst ea eb;rw[qG,len,if_pos (by decide),i0,ZB];simp only[ZB];rw[w1,qG,len,if_pos (by decide),i1,ZB];simp only[ZB];rw[w2,qG,len,if_neg (by decide)];rfl
 rw[qG,len,if_pos (by decide),i0,ZB];simp only;rw[qct (by simp;omega) (by simp;omega)];simp only[ZB,List.nil_append];rw[w1,qG,len,if_pos (by decide),i1,ZB];simp only;rw[qct (by omega) (by omega)];simp only[ZB];rw[w2,qG,len,if_neg (by decide)];rfl
end Go.Av
end
section
namespace Go.Av
def qiw (l:List Int):Int:=(l.find? fun x=>!decide (x=0)).getD 0
theorem qks {l:List Int} (hl:l.length<=100): ∀(K i:Nat),i<=l.length->l.length<K+i->zL l K (i:Int)=some (match(l.drop i).find? (fun x=>!decide (x=0))with|some x=> .inr x|none=> .inl ())
 |0,i,h,hK=>by omega
 |K+1,i,h,hK=>by
  unfold zL;by_cases hi:i<l.length
  ·rw[if_pos (by omega),qp,Ya hi,ZB,YG hi,List.find?_cons];by_cases c:l[i]=0
   ·rw[if_neg (by simp[c]),qV (by omega),qks hl K (i+1) (by omega) (by omega)];simp[c]
   rw[if_pos (by simp[c])];simp[c]
  rw[if_neg (by omega),List.drop_eq_nil_of_le (by omega)];rfl
theorem qh1 {N:Nat} {l:List Int} (hl:l.length<=100) (hN:l.length<N):vE N l=some (qiw l):=by
 unfold vE qiw;have:=qks hl N 0 (by omega) (by omega);rw[YR,show((0:Nat):Int)=0 from rfl]at this;rw[this];cases l.find? (fun x=>!decide (x=0))<;>rfl
theorem qrP (l:List Int):qiw (0::l)=qiw l:=by simp[qiw]
theorem qrQ {x:Int} (h:x≠0) (l:List Int):qiw (x::l)=x:=by simp[qiw,h]
theorem qri (x:Int):qiw [x]=x:=by
 by_cases h:x=0
 ·subst h;rfl
 exact qrQ h []
theorem qmE {n c:Int}:qaO n c=true↔c≠0/\ -n<c/\c<n:=by
 unfold qaO;simp only[Bool.and_eq_true,decide_eq_true_eq];constructor
 ·rintro⟨⟨a,b⟩,c⟩;exact⟨a,b,c⟩
 rintro⟨a,b,c⟩;exact⟨⟨a,b⟩,c⟩
def MvOK (n:Int) (w:List Int) (r:List Int×Int):Prop:=(r.2≠0->r.1=[])/\(r.2=0->r.1.length<=w.length+2/\ ∀c∈r.1,qaO n c=true)
theorem MvOK.bad {n:Int} {w:List Int} {e:Int} (h:e≠0):MvOK n w ([],e):=⟨fun _=>rfl,fun g=>absurd g h⟩
section
end
end Go.Av
end
section
namespace Go.Av
def tr5 (i k:Nat):Nat:=if k=i then i+1 else if k=i+1 then i else k
theorem qgl (i k:Nat):tr5 i (tr5 i k)=k:=by
 unfold tr5;by_cases a:k=i
 ·subst a;simp
 by_cases b:k=i+1
 ·subst b;simp
 simp[a,b]
theorem qbn (i:Nat):tr5 i i=i+1:=by simp[tr5]
theorem qbo (i:Nat):tr5 i (i+1)=i:=by simp[tr5]
theorem j5 {i k:Nat} (a:k≠i) (b:k≠i+1):tr5 i k=k:=by simp[tr5,a,b]
theorem vY (i k:Nat):(k=i/\tr5 i k=i+1)\/(k=i+1/\tr5 i k=i)\/(k≠i/\k≠i+1/\tr5 i k=k):=by
 by_cases a:k=i
 ·subst a;exact .inl ⟨rfl,qbn k⟩
 by_cases b:k=i+1
 ·subst b;exact .inr (.inl ⟨rfl,qbo i⟩)
 exact .inr (.inr ⟨a,b,j5 a b⟩)
theorem qj3 {i j:Nat} (h:i+1<j\/j+1<i) (k:Nat):tr5 i (tr5 j k)=tr5 j (tr5 i k):=by
 by_cases a:k=i
 ·subst a;rw[j5 (i:=j) (k:=k) (by omega) (by omega),qbn,j5 (i:=j) (k:=k+1) (by omega) (by omega)]
 by_cases b:k=i+1
 ·subst b;rw[j5 (i:=j) (k:=i+1) (by omega) (by omega),qbo,j5 (i:=j) (k:=i) (by omega) (by omega)]
 rw[j5 (i:=i) (k:=k) a b];rcases vY j k with⟨c,e⟩|⟨c,e⟩|⟨c,c',e⟩<;>rw[e]
 ·exact j5 (by omega) (by omega)
 ·exact j5 (by omega) (by omega)
 exact j5 a b
theorem qis (i k:Nat):tr5 i (tr5 (i+1) (tr5 i k))=tr5 (i+1) (tr5 i (tr5 (i+1) k)):=by
 have a1:=qbn i;have a2:=qbo i;have a3:tr5 i (i+1+1)=i+1+1:=j5 (by omega) (by omega);have b1:=qbn (i+1);have b2:=qbo (i+1);have b3:tr5 (i+1) i=i:=j5 (by omega) (by omega);by_cases a:k=i
 ·subst a;rw[a1,b1,a3,b3,a1,b1]
 by_cases b:k=i+1
 ·subst b;rw[a2,b3,a1,b1,a3,b2]
 by_cases c:k=i+1+1
 ·subst c;rw[a3,b2,a2,b3]
 rw[j5 (i:=i) (k:=k) a b,j5 (i:=i+1) (k:=k) b c,j5 (i:=i) (k:=k) a b,j5 (i:=i+1) (k:=k) b c]
structure SB where
 f:Nat->Nat
 g:Nat->Nat
 gf: ∀k,g (f k)=k
 fg: ∀k,f (g k)=k
theorem SB.ext {s t:SB} (h: ∀k,s.f k=t.f k):s=t:=by
 obtain⟨f,g,a,b⟩:=s;obtain⟨f',g',a',b'⟩:=t;have e:f=f':=funext h;subst e
 have e:g=g':=funext fun k=>by
  have:=a (g' k)
  rwa [b']at this
 subst e;rfl
theorem SB.finj (s:SB) {a b:Nat} (h:s.f a=s.f b):a=b:=by
 have:=congrArg s.g h
 rwa [s.gf,s.gf]at this
theorem SB.ginj (s:SB) {a b:Nat} (h:s.g a=s.g b):a=b:=by
 have:=congrArg s.f h
 rwa [s.fg,s.fg]at this
def SB.fr (s:SB) (i:Nat):SB:=⟨fun k=>s.f (tr5 i k),fun k=>tr5 i (s.g k),fun k=>by rw[s.gf,qgl],fun k=>by rw[qgl,s.fg]⟩
def SB.bk (s:SB) (i:Nat):SB:=⟨fun k=>tr5 i (s.f k),fun k=>s.g (tr5 i k),fun k=>by rw[qgl,s.gf],fun k=>by rw[s.fg,qgl]⟩
def SB.Begs (s:SB) (i:Nat):Prop:=s.f (i+1)<s.f i
def SB.Ends (s:SB) (i:Nat):Prop:=s.g (i+1)<s.g i
theorem SB.nEnds {s:SB} {i:Nat} (h: ¬s.Ends i):s.g i<s.g (i+1):=by
 unfold SB.Ends at h
 have:s.g i≠s.g (i+1):=fun e=>by have:=s.ginj e;omega
 omega
def psh (L:Nat->SB) (k i:Nat):Nat->SB:=fun q=>if q=k then(L k).bk i else if q=k+1 then(L (k+1)).fr i else L q
theorem vO (L:Nat->SB) (k i:Nat):psh L k i k=(L k).bk i:=by simp[psh]
theorem zT (L:Nat->SB) (k i:Nat):psh L k i (k+1)=(L (k+1)).fr i:=by simp[psh]
theorem zF (L:Nat->SB) {k i q:Nat} (a:q≠k) (b:q≠k+1):psh L k i q=L q:=by simp[psh,a,b]
structure qav (n m:Nat) (L:Nat->SB) (k i:Nat):Prop where
 k_:k+1<m
 i_:i+1<n
 b_:(L (k+1)).Begs i
 e_: ¬(L k).Ends i
inductive Psh (n m:Nat):(Nat->SB)->(Nat->SB)->Prop
 |mk {L:Nat->SB} {k i:Nat} (h:qav n m L k i):Psh n m L (psh L k i)
inductive Pst (n m:Nat):(Nat->SB)->(Nat->SB)->Prop
 |refl {L:Nat->SB}:Pst n m L L
 |head {L L1 A:Nat->SB} (h:Psh n m L L1) (t:Pst n m L1 A):Pst n m L A
theorem Pst.trans {n m:Nat} {L A B:Nat->SB} (h:Pst n m L A) (k:Pst n m A B):Pst n m L B:=by
 induction h with
 |refl=>exact k
 |head h _ ih=>exact .head h (ih k)
theorem Pst.one {n m:Nat} {L A:Nat->SB} (h:Psh n m L A):Pst n m L A:= .head h .refl
def Nf (n m:Nat) (L:Nat->SB):Prop:= ∀k i,¬qav n m L k i
def qho:List Nat->Nat
 |[]=>0
 |x::r=>r.countP (fun y=>decide (y<x))+qho r
theorem qil {x y:Nat} (h:y<x) (b:List Nat): ∀a:List Nat,qho (a++y::x::b)+1=qho (a++x::y::b)
 |[]=>by
  simp only[List.nil_append,qho,List.countP_cons];rw[decide_eq_true h,decide_eq_false (show¬x<y by omega)];simp only[if_true,ZF,if_false];omega
 |z::a=>by
  simp only[List.cons_append,qho];have:=qil h b a;simp only[List.countP_append,List.countP_cons];omega
theorem qqW {i:Nat}: ∀r:List Nat,r.Nodup->i∉r->r.countP (fun y=>decide (tr5 i y<i+1))<=r.countP (fun y=>decide (y<i))+(if i+1∈r then 1 else 0)
 |[],_,_=>by simp
 |y::r,hn,hi=>by
  have hn2:=(List.nodup_cons.1 hn)
  have hi2:i∉r:=fun h=>hi (List.mem_cons_of_mem _ h)
  have hy:y≠i:=fun e=>hi (e▸List.mem_cons_self)
  have ih:=qqW r hn2.2 hi2;rw[List.countP_cons,List.countP_cons];by_cases c:y=i+1
  ·subst c;rw[qbo,decide_eq_true (by omega),decide_eq_false (by omega),if_pos rfl,if_neg (by decide),if_pos List.mem_cons_self];rw[if_neg hn2.1]at ih;omega
  rw[j5 hy c]
  have e1:decide (y<i+1)=decide (y<i):=by
   by_cases d:y<i
   ·rw[decide_eq_true d,decide_eq_true (by omega)]
   rw[decide_eq_false d,decide_eq_false (by omega)]
  rw[e1]
  have e2:(if i+1∈y::r then 1 else 0)=(if i+1∈r then 1 else 0:Nat):=by
   by_cases d:i+1∈r
   ·rw[if_pos d,if_pos (List.mem_cons_of_mem _ d)]
   rw[if_neg d,if_neg (fun h=>by rcases List.mem_cons.1 h with h|h;exact c h.symm;exact d h)]
  rw[e2];omega
theorem qjn {i:Nat}: ∀p:List Nat,p.Nodup->qho (p.map (tr5 i))<=qho p+(if i∈p then 1 else 0)
 |[],_=>by simp[qho]
 |x::r,hn=>by
  have hn2:=(List.nodup_cons.1 hn);have ih:=qjn (i:=i) r hn2.2;simp only[List.map_cons,qho,List.countP_map]
  have e:(fun y=>decide (y<tr5 i x))∘tr5 i=fun y=>decide (tr5 i y<tr5 i x):=rfl
  rw[e];by_cases c:x=i
  ·subst c;have hc:=qqW r hn2.2 hn2.1;rw[qbn,if_pos List.mem_cons_self];rw[if_neg hn2.1]at ih
   have:(if x+1∈r then 1 else 0:Nat)<=1:=by split<;>omega
   omega
  have h1:r.countP (fun y=>decide (tr5 i y<tr5 i x))<=r.countP (fun y=>decide (y<x)):=by
   refine List.countP_mono_left fun y hy h=>?_
   have hyx:y≠x:=fun e=>hn2.1 (e▸hy)
   simp only[decide_eq_true_eq]at h⊢;rcases vY i x with⟨a,ea⟩|⟨a,ea⟩|⟨a,a',ea⟩<;>rcases vY i y with⟨b,eb⟩|⟨b,eb⟩|⟨b,b',eb⟩<;>rw[ea,eb]at h<;>omega
  have e2:(if i∈x::r then 1 else 0)=(if i∈r then 1 else 0:Nat):=by
   by_cases d:i∈r
   ·rw[if_pos d,if_pos (List.mem_cons_of_mem _ d)]
   rw[if_neg d,if_neg (fun h=>by rcases List.mem_cons.1 h with h|h;exact c h.symm;exact d h)]
  rw[e2];omega
def SB.row (n:Nat) (s:SB):List Nat:=(List.range n).map s.f
theorem Uf (n:Nat) (s:SB):(s.row n).length=n:=by simp[SB.row]
theorem Ug {n k:Nat} (s:SB) (h:k<n):(s.row n)[k]? =some (s.f k):=by simp[SB.row,List.getElem?_range h]
theorem qgD {f:Nat->Nat} (hf: ∀a b,f a=f b->a=b): ∀l:List Nat,l.Nodup->(l.map f).Nodup
 |[],_=>List.nodup_nil
 |x::l,h=>by
  have h2:=List.nodup_cons.1 h;rw[List.map_cons,List.nodup_cons];refine⟨fun hx=>?_,qgD hf l h2.2⟩;obtain⟨y,hy,e⟩:=List.mem_map.1 hx;exact h2.1 (hf _ _ e▸hy)
theorem SB.row_nodup (n:Nat) (s:SB):(s.row n).Nodup:=qgD (fun _ _ h=>s.finj h) _ List.nodup_range
def SB.inv (n:Nat) (s:SB):Nat:=qho (s.row n)
theorem qod {l:List Nat} {i:Nat} (h:i+1<l.length):l=l.take i++l[i]::l[i+1]::l.drop (i+2):=by
 rw[<-YG h,<-YG (by omega),List.take_append_drop]
theorem SB.inv_fr {n i:Nat} {s:SB} (hi:i+1<n) (h:s.Begs i):(s.fr i).inv n+1=s.inv n:=by
 unfold SB.inv;have e1:=qod (l:=s.row n) (i:=i) (by rw[Uf];omega);have e2:=qod (l:=(s.fr i).row n) (i:=i) (by rw[Uf];omega)
 have g: ∀(t:SB) (k:Nat) (hk:k<(t.row n).length),(t.row n)[k]=t.f k:=fun t k hk=>by simp[SB.row]
 have t1:((s.fr i).row n).take i=(s.row n).take i:=by
  apply List.ext_getElem?;intro k;by_cases hk:k<i
  ·rw[List.getElem?_take_of_lt hk,List.getElem?_take_of_lt hk,Ug _ (by omega),Ug _ (by omega)];show some (s.f (tr5 i k))=_;rw[j5 (by omega) (by omega)]
  rw[Yg (by simp;omega),Yg (by simp;omega)]
 have t2:((s.fr i).row n).drop (i+2)=(s.row n).drop (i+2):=by
  apply List.ext_getElem?;intro k;rw[YI,YI];by_cases hk:i+2+k<n
  ·rw[Ug _ hk,Ug _ hk];show some (s.f (tr5 i _))=_;rw[j5 (by omega) (by omega)]
  rw[Yg (by rw[Uf];omega),Yg (by rw[Uf];omega)]
 rw[e1,e2,t1,t2,g,g,g,g];show qho (_++s.f (tr5 i i)::s.f (tr5 i (i+1))::_)+1=_;rw[qbn,qbo];exact qil h _ _
theorem SB.inv_bk (n i:Nat) (s:SB):(s.bk i).inv n<=s.inv n+1:=by
 unfold SB.inv
 have e:(s.bk i).row n=(s.row n).map (tr5 i):=by
  unfold SB.row;rw[List.map_map];rfl
 rw[e];have:=qjn (i:=i) (s.row n) (s.row_nodup n)
 have h2:(if i∈s.row n then 1 else 0:Nat)<=1:=by split<;>omega
 omega
def mu5 (n:Nat) (L:Nat->SB):Nat->Nat
 |0=>0
 |m+1=>mu5 n L m+m*(L m).inv n
theorem qoI {n k:Nat} {L L':Nat->SB} (h: ∀q,q<k->L' q=L q): ∀m,m<=k->mu5 n L' m=mu5 n L m
 |0,_=>rfl
 |m+1,hm=>by simp only[mu5];rw[qoI h m (by omega),h m (by omega)]
theorem qgq {n m k i:Nat} {L:Nat->SB} (h:qav n m L k i):mu5 n (psh L k i) m<mu5 n L m:=by
 have base:mu5 n (psh L k i) (k+2)+1<=mu5 n L (k+2):=by
  simp only[mu5];rw[qoI (L':=psh L k i) (L:=L) (k:=k) (fun q hq=>zF L (by omega) (by omega)) k (Nat.le_refl _),vO,zT];have a:=SB.inv_fr h.i_ h.b_;have b:=Nat.mul_le_mul_left k (SB.inv_bk n i (L k));rw[<-a,Nat.mul_add,Nat.mul_one];rw[Nat.mul_add,Nat.mul_one]at b;omega
 have up: ∀d,mu5 n (psh L k i) (k+2+d)+1<=mu5 n L (k+2+d):=by
  intro d
  induction d with
  |zero=>exact base
  |succ d ih=>
   show mu5 n (psh L k i) (k+2+d)+(k+2+d)*(psh L k i (k+2+d)).inv n+1<=mu5 n L (k+2+d)+(k+2+d)*(L (k+2+d)).inv n;rw[zF L (q:=k+2+d) (by omega) (by omega)];omega
 have hk:=h.k_;have:=up (m-(k+2));rw[show k+2+(m-(k+2))=m by omega]at this;omega
theorem Psh.lt {n m:Nat} {L A:Nat->SB} (h:Psh n m L A):mu5 n A m<mu5 n L m:=by
 cases h with
 |mk h=>exact qgq h
theorem qlE {n m:Nat}: ∀(M:Nat) (L:Nat->SB),mu5 n L m<=M-> ∃A,Pst n m L A/\Nf n m A
 |M,L,hM=>by
  by_cases h: ∃k i,qav n m L k i
  ·obtain⟨k,i,h⟩:=h;have:=qgq h
   cases M with
   |zero=>omega
   |succ M=>
    obtain⟨A,h1,h2⟩:=qlE (n:=n) (m:=m) M (psh L k i) (by omega);exact⟨A,.head (.mk h) h1,h2⟩
  exact⟨L,.refl,fun k i c=>h ⟨k,i,c⟩⟩
theorem qkq {s:SB} {i j:Nat} (h:i+1<j\/j+1<i):(s.fr i).Begs j↔s.Begs j:=by
 show s.f (tr5 i (j+1))<s.f (tr5 i j)↔_;rw[j5 (by omega) (by omega),j5 (by omega) (by omega)];rfl
theorem qjI {s:SB} {i j:Nat} (h:i+1<j\/j+1<i):(s.bk i).Ends j↔s.Ends j:=by
 show s.g (tr5 i (j+1))<s.g (tr5 i j)↔_;rw[j5 (by omega) (by omega),j5 (by omega) (by omega)];rfl
theorem pst3 {n m k i j l:Nat} {L:Nat->SB} (h1:qav n m L k i) (h2:qav n m (psh L k i) k j) (h3:qav n m (psh (psh L k i) k j) k l):Pst n m (psh L k i) (psh (psh (psh L k i) k j) k l):=
 .head (.mk h2) (.one (.mk h3))
theorem qqi {L:Nat->SB} {k i:Nat}:psh (psh (psh L k i) k (i+1)) k i=psh (psh (psh L k (i+1)) k i) k (i+1):=by
 funext q;by_cases a:q=k
 ·subst a;simp only[vO]
  exact SB.ext fun x=>qis i _
 by_cases b:q=k+1
 ·subst b;simp only[zT]
  exact SB.ext fun x=>congrArg (L (k+1)).f (qis i x)
 simp only[zF _ a b]
theorem qia {n m k i:Nat} {L:Nat->SB} (h:qav n m L k i) (h':qav n m L k (i+1)): ∃D,Pst n m (psh L k i) D/\Pst n m (psh L k (i+1)) D:=by
 have b1:(L (k+1)).f (i+1)<(L (k+1)).f i:=h.b_;have b2:(L (k+1)).f (i+2)<(L (k+1)).f (i+1):=h'.b_;have e1:=SB.nEnds h.e_;have e2:(L k).g (i+1)<(L k).g (i+2):=SB.nEnds h'.e_;have ki:=h.k_;have ii:=h.i_;have ii':=h'.i_;have t1:tr5 i (i+2)=i+2:=j5 (by omega) (by omega);have t2:tr5 (i+1) i=i:=j5 (by omega) (by omega);have t3:tr5 (i+1) (i+2)=i+1:=qbo (i+1);have t4:tr5 (i+1) (i+1)=i+2:=qbn (i+1)
 have p1:qav n m (psh L k i) k (i+1):=by
  refine⟨ki,ii',?_,?_⟩
  ·rw[zT];show(L (k+1)).f (tr5 i (i+2))<(L (k+1)).f (tr5 i (i+1));rw[t1,qbo];omega
  rw[vO];show¬(L k).g (tr5 i (i+2))<(L k).g (tr5 i (i+1));rw[t1,qbo];omega
 have p2:qav n m (psh (psh L k i) k (i+1)) k i:=by
  refine⟨ki,ii,?_,?_⟩
  ·rw[zT,zT];show(L (k+1)).f (tr5 i (tr5 (i+1) (i+1)))<(L (k+1)).f (tr5 i (tr5 (i+1) i));rw[qbn,t1,t2,qbn];omega
  rw[vO,vO];show¬(L k).g (tr5 i (tr5 (i+1) (i+1)))<(L k).g (tr5 i (tr5 (i+1) i));rw[qbn,t1,t2,qbn];omega
 have q1:qav n m (psh L k (i+1)) k i:=by
  refine⟨ki,ii,?_,?_⟩
  ·rw[zT];show(L (k+1)).f (tr5 (i+1) (i+1))<(L (k+1)).f (tr5 (i+1) i);rw[t4,t2];omega
  rw[vO];show¬(L k).g (tr5 (i+1) (i+1))<(L k).g (tr5 (i+1) i);rw[t4,t2];omega
 have q2:qav n m (psh (psh L k (i+1)) k i) k (i+1):=by
  refine⟨ki,ii',?_,?_⟩
  ·rw[zT,zT];show(L (k+1)).f (tr5 (i+1) (tr5 i (i+2)))<(L (k+1)).f (tr5 (i+1) (tr5 i (i+1)));rw[t1,t3,qbo,t2];omega
  rw[vO,vO];show¬(L k).g (tr5 (i+1) (tr5 i (i+2)))<(L k).g (tr5 (i+1) (tr5 i (i+1)));rw[t1,t3,qbo,t2];omega
 exact⟨_,pst3 h p1 p2,qqi▸pst3 h' q1 q2⟩
theorem qni {n m k i j:Nat} {L:Nat->SB} (hd:i+1<j\/j+1<i) (h:qav n m L k i) (h':qav n m L k j): ∃D,Pst n m (psh L k i) D/\Pst n m (psh L k j) D:=by
 have p1:qav n m (psh L k i) k j:=⟨h.k_,h'.i_,by rw[zT,qkq hd];exact h'.b_,by rw[vO,qjI hd];exact h'.e_⟩;have p2:qav n m (psh L k j) k i:=⟨h.k_,h.i_,by rw[zT,qkq (i:=j) (j:=i) (by omega)];exact h.b_,by rw[vO,qjI (i:=j) (j:=i) (by omega)];exact h.e_⟩
 have e:psh (psh L k i) k j=psh (psh L k j) k i:=by
  funext q;by_cases a:q=k
  ·subst a;simp only[vO]
   exact SB.ext fun x=>qj3 (i:=j) (j:=i) (by omega) _
  by_cases b:q=k+1
  ·subst b;simp only[zT]
   exact SB.ext fun x=>congrArg (L (k+1)).f (qj3 (i:=i) (j:=j) (by omega) x)
  simp only[zF _ a b]
 exact⟨_,.one (.mk p1),e▸ .one (.mk p2)⟩
theorem qig {n m k i j:Nat} {L:Nat->SB} (h:qav n m L k i) (h':qav n m L (k+1) j): ∃D,Pst n m (psh L k i) D/\Pst n m (psh L (k+1) j) D:=by
 have b1:(L (k+1)).f (i+1)<(L (k+1)).f i:=h.b_;have e2:(L (k+1)).g j<(L (k+1)).g (j+1):=SB.nEnds h'.e_;have gf:=(L (k+1)).gf;have fg:=(L (k+1)).fg
 have p1:qav n m (psh L k i) (k+1) j:=by
  refine⟨h'.k_,h'.i_,?_,?_⟩
  ·rw[zF L (q:=k+1+1) (by omega) (by omega)];exact h'.b_
  rw[zT];show¬tr5 i ((L (k+1)).g (j+1))<tr5 i ((L (k+1)).g j);rcases vY i ((L (k+1)).g (j+1))with⟨a,ea⟩|⟨a,ea⟩|⟨a,a',ea⟩<;>rcases vY i ((L (k+1)).g j)with⟨b,eb⟩|⟨b,eb⟩|⟨b,b',eb⟩<;>rw[ea,eb]<;>try omega
  have x1:=fg (j+1);have x2:=fg j;rw[a]at x1;rw[b]at x2;omega
 have p2:qav n m (psh L (k+1) j) k i:=by
  refine⟨h.k_,h.i_,?_,?_⟩
  ·rw[vO];show tr5 j ((L (k+1)).f (i+1))<tr5 j ((L (k+1)).f i);rcases vY j ((L (k+1)).f (i+1))with⟨a,ea⟩|⟨a,ea⟩|⟨a,a',ea⟩<;>rcases vY j ((L (k+1)).f i)with⟨b,eb⟩|⟨b,eb⟩|⟨b,b',eb⟩<;>rw[ea,eb]<;>try omega
   have x1:=gf (i+1);have x2:=gf i;rw[a]at x1;rw[b]at x2;omega
  rw[zF L (q:=k) (by omega) (by omega)];exact h.e_
 have e:psh (psh L k i) (k+1) j=psh (psh L (k+1) j) k i:=by
  funext q;by_cases a:q=k
  ·subst a;rw[zF _ (q:=q) (by omega) (by omega),vO,vO,zF _ (q:=q) (by omega) (by omega)]
  by_cases b:q=k+1
  ·subst b;rw[vO,zT,zT,vO];rfl
  by_cases c:q=k+1+1
  ·subst c;rw[zT,zF _ (q:=k+1+1) (by omega) (by omega),zF _ (q:=k+1+1) (by omega) (by omega),zT]
  rw[zF _ b c,zF _ a b,zF _ a b,zF _ b c]
 exact⟨_,.one (.mk p1),e▸ .one (.mk p2)⟩
theorem qht {n m k k' i j:Nat} {L:Nat->SB} (hk:k+1<k') (h:qav n m L k i) (h':qav n m L k' j): ∃D,Pst n m (psh L k i) D/\Pst n m (psh L k' j) D:=by
 have p1:qav n m (psh L k i) k' j:=⟨h'.k_,h'.i_,by rw[zF L (q:=k'+1) (by omega) (by omega)];exact h'.b_,by rw[zF L (q:=k') (by omega) (by omega)];exact h'.e_⟩;have p2:qav n m (psh L k' j) k i:=⟨h.k_,h.i_,by rw[zF L (q:=k+1) (by omega) (by omega)];exact h.b_,by rw[zF L (q:=k) (by omega) (by omega)];exact h.e_⟩
 have e:psh (psh L k i) k' j=psh (psh L k' j) k i:=by
  funext q;by_cases a:q=k
  ·subst a;rw[zF _ (q:=q) (by omega) (by omega),vO,vO,zF _ (q:=q) (by omega) (by omega)]
  by_cases b:q=k+1
  ·subst b;rw[zF _ (q:=k+1) (by omega) (by omega),zT,zT,zF _ (q:=k+1) (by omega) (by omega)]
  by_cases c:q=k'
  ·subst c;rw[vO,zF _ a b,zF _ a b,vO]
  by_cases d:q=k'+1
  ·subst d;rw[zT,zF _ a b,zF _ a b,zT]
  rw[zF _ c d,zF _ a b,zF _ a b,zF _ c d]
 exact⟨_,.one (.mk p1),e▸ .one (.mk p2)⟩
theorem meet5 {n m k k' i j:Nat} {L:Nat->SB} (h:qav n m L k i) (h':qav n m L k' j): ∃D,Pst n m (psh L k i) D/\Pst n m (psh L k' j) D:=by
 have sw: ∀{A B:Nat->SB},(∃D,Pst n m A D/\Pst n m B D)-> ∃D,Pst n m B D/\Pst n m A D:=fun⟨D,a,b⟩=>⟨D,b,a⟩
 by_cases e:k=k'
 ·subst e;by_cases c:i=j
  ·subst c;exact⟨_,.refl,.refl⟩
  by_cases c1:j=i+1
  ·subst c1;exact qia h h'
  by_cases c2:i=j+1
  ·subst c2;exact sw (qia h' h)
  exact qni (by omega) h h'
 by_cases e1:k'=k+1
 ·subst e1;exact qig h h'
 by_cases e2:k=k'+1
 ·subst e2;exact sw (qig h' h)
 by_cases e3:k<k'
 ·exact qht (by omega) h h'
 exact sw (qht (by omega) h' h)
theorem qiO {n m:Nat}: ∀(M:Nat) {L A B:Nat->SB},mu5 n L m<=M->Pst n m L A->Pst n m L B->Nf n m A->Nf n m B->A=B
 |M,L,A,B,hM,hA,hB,nA,nB=>by
  cases hA with
  |refl=>
   cases hB with
   |refl=>rfl
   |head h _=>cases h with|mk h=>exact absurd h (nA _ _)
  |head h tA=>
   cases hB with
   |refl=>cases h with|mk h=>exact absurd h (nB _ _)
   |head h' tB=>
    cases h with
    |mk h=>
     cases h' with
     |mk h'=>
      obtain⟨D,d1,d2⟩:=meet5 h h';obtain⟨E,e1,e2⟩:=qlE _ D (Nat.le_refl _);have l1:=qgq h;have l2:=qgq h'
      cases M with
      |zero=>omega
      |succ M=>rw[qiO M (by omega) tA (d1.trans e1) nA e2,qiO M (by omega) tB (d2.trans e1) nB e2]
end Go.Av
end
section
namespace Go.Av
structure IsP (p:List Int):Prop where
 few:p.length<=256
 at_: ∀k,k<p.length-> ∃v:Nat,v<p.length/\p[k]? =some (v:Int)
 inj: ∀(k k':Nat) (v:Int),p[k]? =some v->p[k']? =some v->k=k'
structure SB.Ok (n:Nat) (s:SB):Prop where
 f_: ∀k,k<n->s.f k<n
 g_: ∀k,k<n->s.g k<n
def SB.li (n:Nat) (s:SB):List Int:=(List.range n).map fun k=>(s.f k:Int)
theorem Ud (n:Nat) (s:SB):(s.li n).length=n:=by simp[SB.li]
theorem Uj {n k:Nat} (s:SB) (h:k<n):(s.li n)[k]? =some (s.f k:Int):=by simp[SB.li,List.getElem?_range h]
theorem SB.li_eq {n:Nat} {s:SB} {p:List Int} (hl:p.length=n) (h: ∀k,k<n->p[k]? =some (s.f k:Int)):p=s.li n:=by
 apply List.ext_getElem?;intro k;by_cases hk:k<n
 ·rw[h k hk,Uj s hk]
 rw[Yg (by omega),Yg (by rw[Ud];omega)]
theorem qgQ {n i k:Nat} (hi:i+1<n) (h:k<n):tr5 i k<n:=by
 rcases vY i k with⟨a,e⟩|⟨a,e⟩|⟨a,a',e⟩<;>omega
theorem SB.Ok.fr {n i:Nat} {s:SB} (h:s.Ok n) (hi:i+1<n):(s.fr i).Ok n:=⟨fun k hk=>h.f_ _ (qgQ hi hk),fun k hk=>qgQ hi (h.g_ k hk)⟩
theorem SB.Ok.bk {n i:Nat} {s:SB} (h:s.Ok n) (hi:i+1<n):(s.bk i).Ok n:=⟨fun k hk=>qgQ hi (h.f_ k hk),fun k hk=>h.g_ _ (qgQ hi hk)⟩
def SB.rev (s:SB):SB:=⟨s.g,s.f,s.fg,s.gf⟩
theorem SB.Ok.rev {n:Nat} {s:SB} (h:s.Ok n):s.rev.Ok n:=⟨h.g_,h.f_⟩
def Ue:SB:=⟨fun k=>k,fun k=>k,fun _=>rfl,fun _=>rfl⟩
theorem Ut (n:Nat):Ue.Ok n:=⟨fun _ h=>h,fun _ h=>h⟩
theorem SB.id_li (n:Nat):Ue.li n=qhu n:=rfl
def rv5 (n k:Nat):Nat:=if k<n then n-1-k else k
theorem qbF (n k:Nat):rv5 n (rv5 n k)=k:=by
 unfold rv5;by_cases h:k<n
 ·rw[if_pos h,if_pos (by omega)];omega
 rw[if_neg h,if_neg h]
theorem qfI {n k:Nat} (h:k<n):rv5 n k<n:=by unfold rv5;rw[if_pos h];omega
def Uz (n:Nat):SB:=⟨rv5 n,rv5 n,qbF n,qbF n⟩
theorem SB.half_ok (n:Nat):(Uz n).Ok n:=⟨fun _ h=>qfI h,fun _ h=>qfI h⟩
def SB.flip (n:Nat) (s:SB):SB:=⟨fun k=>rv5 n (s.f (rv5 n k)),fun k=>rv5 n (s.g (rv5 n k)),fun k=>by rw[qbF,s.gf,qbF],fun k=>by rw[qbF,s.fg,qbF]⟩
theorem SB.Ok.flip {n:Nat} {s:SB} (h:s.Ok n):(s.flip n).Ok n:=⟨fun k hk=>qfI (h.f_ _ (qfI hk)),fun k hk=>qfI (h.g_ _ (qfI hk))⟩
end Go.Av
end
section
namespace Go.Av
theorem Uk {n k:Nat} {s:SB} (h:k<n):idx (s.li n) (k:Int)=some (s.f k:Int):=by rw[qp,Uj s h]
section
variable {n:Nat} (hn:n<=300)
include hn
end
end Go.Av
end
section
namespace Go.Av
def SB.comp (s t:SB):SB:=⟨fun k=>t.f (s.f k),fun k=>s.g (t.g k),fun k=>by rw[t.gf,s.gf],fun k=>by rw[s.fg,t.fg]⟩
theorem SB.Ok.comp {n:Nat} {s t:SB} (hs:s.Ok n) (ht:t.Ok n):(s.comp t).Ok n:=⟨fun k hk=>ht.f_ _ (hs.f_ k hk),fun k hk=>hs.g_ _ (ht.g_ k hk)⟩
section
variable {n:Nat} (hn:n<=300)
include hn
theorem qoM {s t:SB} (hs:s.Ok n) (ht:t.Ok n): ∀(K i:Nat) (l:List Int),l.length=i->i<=n->n<K+i->(∀k,k<i->l[k]? =some ((t.f (s.f k):Nat):Int))->jG (s.li n) (t.li n) K l (i:Int)=some ((s.comp t).li n)
 |0,i,l,hl,h,hK,hk=>by omega
 |K+1,i,l,hl,h,hK,hk=>by
  unfold jG;rw[Ud];by_cases hi:i<n
  ·have hf:=hs.f_ i hi;rw[if_pos (by omega),Uk hi,ZB,Uk hf,ZB,qct (by simp only[Yr,List.length_nil];omega) (by simp only[Yr,List.length_nil];omega),ZB,qV (by omega)];refine qoM hs ht K (i+1) _ (by simp[hl]) (by omega) (by omega) (fun k hki=>?_);by_cases c:k<i
   ·rw[Yf (by omega)];exact hk k c
   rw[Yo (by omega),show k-l.length=0 by omega,show k=i by omega];rfl
  rw[if_neg (by omega)];congr 1
  exact SB.li_eq (by omega) fun k hkn=>hk k (by omega)
theorem qp7 {N:Nat} (hN:2000<N) {s t:SB} (hs:s.Ok n) (ht:t.Ok n):qac N (s.li n) (t.li n)=some ((s.comp t).li n):=by
 unfold qac;have:=qoM hn hs ht N 0 [] rfl (by omega) (by omega) (fun k hk=>by omega);rw[show((0:Nat):Int)=0 from rfl]at this;rw[this,ZB]
end
section
variable {n:Nat} (hn:n<=12) {N:Nat} (hN:2000<N)
include hn hN
end
end Go.Av
end
section
namespace Go.Av
structure MdOK (n:Int) (k:Nat) (r:List Int×Int):Prop where
 bad:r.2≠0->r.1=[]
 len:r.2=0->r.1.length<=k
 let_:r.2=0-> ∀c∈r.1,qaO n c=true
theorem ql1 {a b:List Int} (hl:a.length<=100000) (hab:a.length=b.length): ∀(K i:Nat),i<=a.length->a.length<K+i->jb a b K (i:Int)=some (if a.drop i=b.drop i then .inl ()else .inr false)
 |0,i,h,hK=>by omega
 |K+1,i,h,hK=>by
  unfold jb;by_cases hi:i<a.length
  ·have hb:i<b.length:=by omega
   rw[if_pos (by omega),qp,Ya hi,qp,Ya hb,ZB,ZB,YG hi,YG hb];by_cases c:a[i]=b[i]
   ·rw[decide_eq_true c,if_neg (by decide),qV (by omega),ql1 hl hab K (i+1) (by omega) (by omega),c];simp only[List.cons.injEq,true_and]
   rw[decide_eq_false c,if_pos (by decide),if_neg (fun h=>c (List.cons.inj h).1)]
  rw[if_neg (by omega),List.drop_eq_nil_of_le (by omega),List.drop_eq_nil_of_le (by omega),if_pos rfl]
theorem qpM {N:Nat} {a b:List Int} (hl:a.length<=100000) (hN:a.length<N):yJ N a b=some (decide (a=b)):=by
 unfold yJ;by_cases c:(a.length:Int)=(b.length:Int)
 ·have:=ql1 hl (b:=b) (by omega) N 0 (by omega) (by omega);rw[show((0:Nat):Int)=0 from rfl,YR,YR]at this;rw[decide_eq_true c,if_neg (by decide),this];by_cases e:a=b
  ·rw[if_pos e,decide_eq_true e];rfl
  rw[if_neg e,decide_eq_false e];rfl
 rw[decide_eq_false c,if_pos (by decide),decide_eq_false (fun e=>c (by rw[e]))]
end Go.Av
end
section
namespace Go.Av
inductive WdB (n:Nat):SB->List Int->Prop
 |nil {s:SB} (h: ∀q,q+1<n-> ¬s.Begs q):WdB n s []
 |cons {s:SB} {i:Nat} {W:List Int} (hi:i+1<n) (hb:s.Begs i) (hm: ∀q,q<i-> ¬s.Begs q) (h:WdB n (s.fr i) W):WdB n s (((i+1:Nat):Int)::W)
section
variable {n:Nat} (hn:n<=12) (n1:1<=n)
include hn n1
end
end Go.Av
end
section
namespace Go.Av
def OkM (n m:Nat) (L:Nat->SB):Prop:= ∀q,q<m->(L q).Ok n
theorem OkM.psh {n m k i:Nat} {L:Nat->SB} (h:OkM n m L) (hk:k+1<m) (hi:i+1<n):OkM n m (psh L k i):=fun q hq=>by
 by_cases a:q=k
 ·subst a;rw[vO];exact(h q hq).bk hi
 by_cases b:q=k+1
 ·subst b;rw[zT];exact(h (k+1) hq).fr hi
 rw[zF L a b];exact h q hq
section
variable {n m:Nat} (hn:n<=12) (n1:1<=n) (hm:m<=300) {N:Nat} (hN:2000<N)
include hn n1 hm hN
end
end Go.Av
end
section
namespace Go.Av
def qbk (i:Nat) (p:List Nat):List Nat:=p.map (tr5 i)
def qfr:Nat->List Nat->List Nat
 |0,a::b::l=>b::a::l
 |i+1,a::l=>a::qfr i l
 |_,l=>l
def qkE:List Nat->Nat->Nat
 |[],_=>0
 |a::_,0=>a
 |_::l,k+1=>qkE l k
def qkF (v:Nat):List Nat->Nat
 |[]=>0
 |a::l=>bif Nat.beq a v then 0 else qkF v l+1
def qjo (i:Nat) (p:List Nat):Bool:=Nat.blt (qkE p (i+1)) (qkE p i)
def qkj (i:Nat) (p:List Nat):Bool:=Nat.blt (qkF (i+1) p) (qkF i p)
def qjO (s t:List Nat):Nat->Option Nat
 |0=>none
 |i+1=>bif qjo i t&&!qkj i s then some i else qjO s t i
def qlx (n:Nat):Nat->List Nat->List Nat->List Nat×List Nat
 |0,s,t=>(s,t)
 |K+1,s,t=>match qjO s t (n-1)with
  |none=>(s,t)
  |some i=>qlx n K (qbk i s) (qfr i t)
def qh8 (n:Nat):List Nat->List (List Nat)->List (List Nat)
 |x,[]=>[x]
 |x,s::r=>match qlx n (n*n) s x with
  |(s',x')=>x'::qh8 n s' r
theorem qlO: ∀(l:List Nat) (k:Nat),qkE l k=l.getD k 0
 |[],k=>by simp[qkE]
 |a::l,0=>rfl
 |a::l,k+1=>by rw[qkE,qlO l k];rfl
theorem qlT: ∀(i:Nat) (l:List Nat) (k:Nat),i+1<l.length->(qfr i l)[k]? =l[tr5 i k]?
 |0,[],k,h=>by simp at h
 |0,[a],k,h=>by simp at h
 |0,a::b::l,0,h=>by simp[qfr,tr5]
 |0,a::b::l,1,h=>by simp[qfr,tr5]
 |0,a::b::l,k+2,h=>by simp[qfr,tr5]
 |i+1,[],k,h=>by simp at h
 |i+1,a::l,0,h=>by simp[qfr,tr5]
 |i+1,a::l,k+1,h=>by
  rw[qfr,List.getElem?_cons_succ,qlT i l k (by simp at h;omega)];rcases vY i k with⟨c,e⟩|⟨c,e⟩|⟨c,c',e⟩<;>rw[e]
  ·subst c;rw[qbn,List.getElem?_cons_succ]
  ·subst c;rw[qbo,List.getElem?_cons_succ]
  rw[j5 (by omega) (by omega),List.getElem?_cons_succ]
theorem qnW (n i:Nat) (s:SB):(s.bk i).row n=qbk i (s.row n):=by
 unfold SB.row qbk;rw[List.map_map];rfl
theorem qpb {n i:Nat} (hi:i+1<n) (s:SB):(s.fr i).row n=qfr i (s.row n):=by
 apply List.ext_getElem?;intro k;rw[qlT i _ k (by rw[Uf];exact hi)];by_cases hk:k<n
 ·rw[Ug _ hk,Ug _ (qgQ hi hk)];rfl
 rw[j5 (by omega) (by omega),Yg (by rw[Uf];omega),Yg (by rw[Uf];omega)]
theorem qjR {n k:Nat} (s:SB) (h:k<n):qkE (s.row n) k=s.f k:=by
 rw[qlO,Yy,Ug s h];rfl
theorem qlz: ∀(l:List Nat) (k v:Nat),l[k]? =some v->(∀j,j<k->l[j]? ≠some v)->qkF v l=k
 |[],k,v,h,hj=>by simp at h
 |a::l,0,v,h,hj=>by
  simp at h;subst h;simp[qkF]
 |a::l,k+1,v,h,hj=>by
  have:=hj 0 (by omega)
  have ne:a≠v:=fun e=>this (by simp[e])
  have hb:Nat.beq a v=false:=by
   cases c:Nat.beq a v with
   |false=>rfl
   |true=>exact absurd (Nat.eq_of_beq_eq_true c) ne
  rw[qkF,hb,cond_false,qlz l k v (by simpa using h) (fun j hjk=>by have:=hj (j+1) (by omega);simpa using this)]
theorem qkg {n v:Nat} {s:SB} (hs:s.Ok n) (h:v<n):qkF v (s.row n)=s.g v:=by
 refine qlz _ _ _ (by rw[Ug s (hs.g_ v h),s.fg]) (fun j hj=>?_);rw[Ug s (by have:=hs.g_ v h;omega)];intro e;have:=Ye e
 have e2:j=s.g v:=by rw[<-this,s.gf]
 omega
theorem qne {n i:Nat} (hi:i+1<n) (s:SB):qjo i (s.row n)=true↔s.Begs i:=by
 unfold qjo SB.Begs;rw[qjR s hi,qjR s (by omega)];simp[Nat.blt_eq]
theorem qmJ {n i:Nat} (hi:i+1<n) {s:SB} (hs:s.Ok n):qkj i (s.row n)=true↔s.Ends i:=by
 unfold qkj SB.Ends;rw[qkg hs hi,qkg hs (by omega)];simp[Nat.blt_eq]
theorem qhE {s t:List Nat}: ∀{j i:Nat},qjO s t j=some i->i<j/\qjo i t=true/\qkj i s=false
 |0,i,h=>by cases h
 |j+1,i,h=>by
  unfold qjO at h
  cases c:(qjo j t&&!qkj j s)with
  |false=>
   rw[c,cond_false]at h;have:=qhE h;exact⟨by omega,this.2⟩
  |true=>
   rw[c,cond_true]at h;have:=Ye h;subst this;simp only[Bool.and_eq_true,Bool.not_eq_true']at c;exact⟨by omega,c⟩
theorem qkr {n m k:Nat} (hk:k+1<m): ∀(K:Nat) (L:Nat->SB),OkM n m L-> ∃A,Pst n m L A/\qlx n K ((L k).row n) ((L (k+1)).row n)=((A k).row n,(A (k+1)).row n)/\(∀q,q≠k->q≠k+1->A q=L q)/\OkM n m A
 |0,L,hL=>⟨L,.refl,rfl,fun _ _ _=>rfl,hL⟩
 |K+1,L,hL=>by
  unfold qlx
  cases c:qjO ((L k).row n) ((L (k+1)).row n) (n-1)with
  |none=>exact⟨L,.refl,rfl,fun _ _ _=>rfl,hL⟩
  |some i=>
   obtain⟨h1,h2,h3⟩:=qhE c
   have hi:i+1<n:=by omega
   have can:qav n m L k i:=⟨hk,hi,(qne hi _).1 h2,fun e=>by
    have:=(qmJ hi (hL k (by omega))).2 e;rw[h3]at this
    cases this⟩
   obtain⟨A,a1,a2,a3,a4⟩:=qkr hk K (psh L k i) (hL.psh hk hi);refine⟨A,.head (.mk can) a1,?_,fun q q1 q2=>by rw[a3 q q1 q2,zF L q1 q2],a4⟩;dsimp only;rw[vO,zT,qnW,qpb hi]at a2;exact a2
def qck (n:Nat) (L:Nat->SB):Nat->List (List Nat)
 |0=>[]
 |k+1=>(L k).row n::qck n L k
theorem qhl {n:Nat} {L A:Nat->SB}: ∀{k:Nat},(∀q,q<k->A q=L q)->qck n A k=qck n L k
 |0,h=>rfl
 |k+1,h=>by rw[qck,qck,h k (by omega),qhl fun q hq=>h q (by omega)]
theorem qjN {n m:Nat}: ∀(k:Nat) (L:Nat->SB),k<m->OkM n m L-> ∃A,Pst n m L A/\qh8 n ((L k).row n) (qck n L k)=qck n A (k+1)/\(∀q,k<q->A q=L q)/\OkM n m A
 |0,L,hk,hL=>⟨L,.refl,rfl,fun _ _=>rfl,hL⟩
 |k+1,L,hk,hL=>by
  obtain⟨B,b1,b2,b3,b4⟩:=qkr (n:=n) (m:=m) (k:=k) hk (n*n) L hL;obtain⟨A,a1,a2,a3,a4⟩:=qjN k B (by omega) b4;refine⟨A,b1.trans a1,?_,fun q hq=>by rw[a3 q (by omega),b3 q (by omega) (by omega)],a4⟩;rw[qck,qh8,b2];dsimp only;rw[qhl (A:=L) (L:=B) fun q hq=>(b3 q (by omega) (by omega)).symm,a2,<-a3 (k+1) (by omega)];rfl
end Go.Av
end
