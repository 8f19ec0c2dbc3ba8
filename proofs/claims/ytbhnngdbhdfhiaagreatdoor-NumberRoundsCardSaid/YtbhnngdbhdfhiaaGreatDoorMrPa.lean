/-
  The nearest fraction with a bounded denominator: what it is, and that neighbours have it.
-/
import Derived.Test.YtbhnngdbhdfhiaaGreatDoorAvPt
import Derived.Test.YtbhnngdbhdfhiaaGreatDoorQGenRd
noncomputable section
set_option linter.unusedVariables false
set_option linter.unusedSimpArgs false
set_option maxRecDepth 100000
section
namespace Go.Av
def le3 (x u v:Rat):Prop:=(x-u).abs<(x-v).abs\/((x-u).abs=(x-v).abs/\(u.den<v.den\/(u.den=v.den/\u<=v)))
theorem ql1 {a b c:Rat} (h:a<b) (k:b<c):a<c:=by
 have:=Rat.le_of_lt k
 rcases Rat.le_iff_lt_or_eq.1 (Rat.le_trans (Rat.le_of_lt h) this)with e|e
 ·exact e
 rw[e]at h
 exact absurd k (Rat.not_lt.2 (Rat.le_of_lt h))
theorem qfx {x u v:Rat} (h:le3 x u v) (k:le3 x v u):u=v:=by
 rcases h with h|⟨h1,h2⟩
 ·rcases k with k|⟨k1,_⟩
  ·exact absurd (ql1 h k) Rat.lt_irrefl
  rw[k1]at h
  exact absurd h Rat.lt_irrefl
 rcases k with k|⟨_,k2⟩
 ·rw[h1]at k
  exact absurd k Rat.lt_irrefl
 rcases h2 with h2|⟨h2,h3⟩<;>rcases k2 with k2|⟨k2,k3⟩
 ·omega
 ·omega
 ·omega
 exact Rat.le_antisymm h3 k3
def qiu (x:Rat) (m:Nat) (r:Rat):Prop:=r.den<=m/\ ∀y:Rat,y.den<=m->le3 x r y
theorem qiu.uniq {x r s:Rat} {m:Nat} (h:qiu x m r) (k:qiu x m s):r=s:=qfx (h.2 s k.1) (k.2 r h.1)
theorem qb2 (q:Rat):q*((q.den:Int):Rat)=(q.num:Rat):=by
 have h:((q.den:Int):Rat)≠0:=by
  rw[Ne,Rat.intCast_eq_zero_iff]
  have:=q.den_pos
  omega
 conv=>lhs;lhs;rw[<-Rat.num_divInt_den q,Rat.divInt_eq_div]
 exact Rat.div_mul_cancel h
theorem qgz {d a b:Int} (h:d∣a*b) (g:Int.gcd d a=1):d∣b:=by
 have h':d.natAbs∣a.natAbs*b.natAbs:=by
  rw[<-Int.natAbs_mul]
  exact Int.natAbs_dvd_natAbs.2 h
 exact Int.natAbs_dvd_natAbs.1 (Nat.Coprime.dvd_of_dvd_mul_left g h')
end Go.Av
end
section
namespace Go.Av
def dv (B:Int):List Int->Int
 |[]=>0
 |x::l=>x+B*dv B l
def Dg (B:Int) (l:List Int):Prop:= ∀x∈l,0<=x/\x<B
theorem Dg.nil {B:Int}:Dg B []:=fun x h=>by cases h
theorem Dg.cons {B x:Int} {l:List Int} (h:0<=x/\x<B) (k:Dg B l):Dg B (x::l):=fun y hy=>by
 rcases List.mem_cons.1 hy with rfl|hy
 ·exact h
 exact k y hy
theorem Dg.head {B x:Int} {l:List Int} (h:Dg B (x::l)):0<=x/\x<B:=h x (List.mem_cons_self ..)
theorem Dg.tail {B x:Int} {l:List Int} (h:Dg B (x::l)):Dg B l:=fun y hy=>h y (List.mem_cons_of_mem _ hy)
theorem Dg.take {B:Int} {l:List Int} (h:Dg B l) (n:Nat):Dg B (l.take n):=fun y hy=>h y (List.mem_of_mem_take hy)
theorem Dg.drop {B:Int} {l:List Int} (h:Dg B l) (n:Nat):Dg B (l.drop n):=fun y hy=>h y (List.mem_of_mem_drop hy)
theorem Dg.append {B:Int} {l r:List Int} (h:Dg B l) (k:Dg B r):Dg B (l++r):=fun y hy=>by
 rcases List.mem_append.1 hy with hy|hy
 ·exact h y hy
 exact k y hy
theorem Dg.set {B:Int} {l:List Int} (h:Dg B l) {i:Nat} {v:Int} (hv:0<=v/\v<B):Dg B (l.set i v):=fun y hy=>by
 rcases List.mem_or_eq_of_mem_set hy with hy|rfl
 ·exact h y hy
 exact hv
theorem Dg.at {B:Int} {l:List Int} (h:Dg B l) {i:Nat} (hi:i<l.length):0<=l[i]/\l[i]<B:=h _ (List.getElem_mem hi)
theorem Up {B:Int} (hB:0<B) (n:Nat):Dg B (List.replicate n 0):=fun y hy=>by
 rw[(List.mem_replicate.1 hy).2];omega
theorem jw (B:Int):dv B []=0:=rfl
theorem zP (B x:Int) (l:List Int):dv B (x::l)=x+B*dv B l:=rfl
theorem qac (B:Int): ∀(l r:List Int),dv B (l++r)=dv B l+B^l.length*dv B r
 |[],r=>by simp[dv]
 |x::l,r=>by
  rw[List.cons_append,zP,zP,qac B l r,Yr,Int.pow_succ]
  grind
theorem xC (B:Int): ∀n,dv B (List.replicate n 0)=0
 |0=>rfl
 |n+1=>by rw[List.replicate_succ,zP,xC B n];simp
theorem zf {B:Int} (hB:0<B): ∀{l:List Int},Dg B l->0<=dv B l
 |[],_=>Int.le_refl _
 |x::l,h=>by
  have h1:=h.head
  have h2:=Yv (Int.le_of_lt hB) (zf hB h.tail)
  rw[zP]
  omega
theorem pow_pos {B:Int} (hB:0<B): ∀n:Nat,0<B^n
 |0=>by simp
 |n+1=>by rw[Int.pow_succ];exact Int.mul_pos (pow_pos hB n) hB
theorem xL {B:Int} (hB:0<B): ∀{l:List Int},Dg B l->dv B l<B^l.length
 |[],_=>by simp[dv]
 |x::l,h=>by
  have h1:=h.head
  have h2:=xL hB h.tail
  have h3:B*(dv B l+1)<=B*B^l.length:=Yc (by omega) (Int.le_of_lt hB)
  rw[zP,Yr,Int.pow_succ,Int.mul_comm (B^l.length)]
  rw[Int.mul_add,Int.mul_one]at h3
  omega
theorem qaD (B:Int): ∀(l:List Int) (i:Nat) (v:Int) (h:i<l.length),dv B (l.set i v)=dv B l+B^i*(v-l[i])
 |[],i,v,h=>by simp at h
 |x::l,0,v,h=>by
  rw[List.set_cons_zero,zP,zP]
  simp only[Int.pow_zero,List.getElem_cons_zero]
  omega
 |x::l,i+1,v,h=>by
  have:=qaD B l i v (by simpa using h)
  rw[List.set_cons_succ,zP,zP,this,Int.pow_succ]
  simp only[List.getElem_cons_succ]
  grind
theorem qG (B:Int) (l:List Int) (i:Nat) (h:i<l.length):dv B (l.take (i+1))=dv B (l.take i)+B^i*l[i]:=by
 rw[List.take_succ_eq_append_getElem h,qac,Ym,Nat.min_eq_left (Nat.le_of_lt h),zP,jw]
 simp
theorem qae (B:Int) (l:List Int) (k:Nat) (h:k<=l.length):dv B l=dv B (l.take k)+B^k*dv B (l.drop k):=by
 have:=qac B (l.take k) (l.drop k)
 rw[List.take_append_drop,Ym,Nat.min_eq_left h]at this
 exact this
def Can (B:Int) (l:List Int):Prop:=Dg B l/\ ∀x,l.getLast? =some x->x≠0
theorem Can.nil {B:Int}:Can B []:=⟨Dg.nil,fun x h=>by simp at h⟩
theorem Can.tail {B x:Int} {l:List Int} (h:Can B (x::l)):Can B l:=⟨h.1.tail,fun y hy=>h.2 y (by
 cases l with
 |nil=>simp at hy
 |cons a l=>rw[List.getLast?_cons_cons];exact hy)⟩
theorem Can.pos {B:Int} (hB:1<B): ∀{l:List Int},Can B l->l≠[]->0<dv B l
 |[],_,h=>absurd rfl h
 |x::l,h,_=>by
  have h1:=h.1.head
  rw[zP]
  cases l with
  |nil=>
   have:=h.2 x (by simp)
   rw[jw]
   omega
  |cons y l=>
   have h2:=h.tail.pos hB (by simp)
   have h3:0<B*dv B (y::l):=Int.mul_pos (by omega) h2
   omega
theorem Can.uniq {B:Int} (hB:1<B): ∀{l r:List Int},Can B l->Can B r->dv B l=dv B r->l=r
 |[],[],_,_,_=>rfl
 |[],y::r,_,k,e=>by have:=k.pos hB (by simp);rw[<-e,jw]at this;omega
 |x::l,[],h,_,e=>by have:=h.pos hB (by simp);rw[e,jw]at this;omega
 |x::l,y::r,h,k,e=>by
  rw[zP,zP]at e
  have h1:=h.1.head
  have k1:=k.1.head
  have e1:x=y:=by
   have a:(x+B*dv B l)%B=x:=by rw[Int.add_mul_emod_self_left];exact Int.emod_eq_of_lt h1.1 h1.2
   have b:(y+B*dv B r)%B=y:=by rw[Int.add_mul_emod_self_left];exact Int.emod_eq_of_lt k1.1 k1.2
   rw[<-a,<-b,e]
  have e2:dv B l=dv B r:=Int.eq_of_mul_eq_mul_left (by omega) (show B*dv B l=B*dv B r by omega)
  rw[e1,h.tail.uniq hB k.tail e2]
theorem Can.low {B:Int} (hB:1<B): ∀{l:List Int} {n:Nat},Can B l->l.length=n+1->B^n<=dv B l
 |[],n,_,h=>by simp at h
 |x::l,0,h,hn=>by
  have:=h.pos hB (by simp)
  simp only[Int.pow_zero]
  omega
 |x::l,n+1,h,hn=>by
  have h1:=h.1.head
  have h2:=h.tail.low hB (n:=n) (by simpa using hn)
  have h3:B*B^n<=B*dv B l:=Yc h2 (by omega)
  rw[zP,Int.pow_succ,Int.mul_comm (B^n)]
  omega
def dgF (B:Int):Nat->Int->List Int
 |0,_=>[]
 |t+1,z=>if z<=0 then[]else z%B::dgF B t (z/B)
def dg (B z:Int):List Int:=dgF B z.toNat z
theorem qdl {B:Int} (hB:1<B): ∀(t:Nat) (z:Int),0<=z->z<=t->Can B (dgF B t z)/\dv B (dgF B t z)=z
 |0,z,h1,h2=>⟨Can.nil,by rw[dgF,jw];omega⟩
 |t+1,z,h1,h2=>by
  rw[dgF]
  split
  ·exact⟨Can.nil,by rw[jw];omega⟩
  rename_i hz
  have hd:=Int.mul_ediv_add_emod z B
  have hm:=Int.emod_nonneg z (show B≠0 by omega)
  have hm2:=Int.emod_lt_of_pos z (show 0<B by omega)
  have hq:0<=z/B:=Int.ediv_nonneg h1 (by omega)
  have hq2:z/B<z:=Int.ediv_lt_self_of_pos_of_ne_one (by omega) (by omega)
  obtain⟨c,e⟩:=qdl hB t (z/B) hq (by omega)
  refine⟨⟨Dg.cons ⟨hm,hm2⟩ c.1,fun x hx=>?_⟩,by rw[zP,e];omega⟩
  cases hl:dgF B t (z/B)with
  |nil=>
   rw[hl]at hx e
   rw[jw]at e
   rw[<-e,Int.mul_zero]at hd
   simp only[List.getLast?_singleton,ZI]at hx
   omega
  |cons a l=>
   rw[hl,List.getLast?_cons_cons]at hx
   exact c.2 x (by rw[hl];exact hx)
theorem yw {B:Int} (hB:1<B) {z:Int} (h:0<=z):Can B (dg B z):=(qdl hB _ z h (by omega)).1
theorem xO {B:Int} (hB:1<B) {z:Int} (h:0<=z):dv B (dg B z)=z:=(qdl hB _ z h (by omega)).2
theorem qlW {B:Int} (hB:1<B) {l:List Int} (h:Can B l):dg B (dv B l)=l:=
 (yw hB (zf (by omega) h.1)).uniq hB h (xO hB (zf (by omega) h.1))
theorem qdK (B:Int):dg B 0=[]:=rfl
theorem qhD {B:Int} (hB:1<B) {z:Int} (h:0<=z):dg B z=[]↔z=0:=by
 constructor
 ·intro e
  have:=xO hB h
  rw[e,jw]at this
  exact this.symm
 rintro rfl;rfl
theorem jT {B:Int} (hB:1<=B) {m n:Nat} (h:m<=n):B^m<=B^n:=by
 obtain⟨k,rfl⟩:=Nat.exists_eq_add_of_le h
 rw[Int.pow_add]
 have h1:1<=B^k:=by have:=pow_pos (show 0<B by omega) k;omega
 have h2:=Yc h1 (Int.le_of_lt (pow_pos (show 0<B by omega) m))
 omega
theorem qfC {B:Int} (hB:1<B) {z:Int} (h:0<=z) {n:Nat}:(dg B z).length<=n↔z<B^n:=by
 constructor
 ·intro hl
  have h1:=xL (show 0<B by omega) (yw hB h).1
  have h2:=jT (show 1<=B by omega) hl
  rw[xO hB h]at h1
  omega
 intro hz
 cases e:(dg B z).length with
 |zero=>omega
 |succ m=>
  have h1:=(yw hB h).low hB e
  rw[xO hB h]at h1
  rcases Nat.lt_or_ge m n with h2|h2
  ·exact h2
  have:=jT (show 1<=B by omega) h2
  omega
theorem qhn {B:Int} {z:Int} (h0:0<z) (h:z<B):dg B z=[z]:=by
 have hB:1<B:=by omega
 refine(yw hB (by omega)).uniq hB ⟨Dg.cons ⟨by omega,h⟩ Dg.nil,fun x hx=>?_⟩ ?_
 ·simp only[List.getLast?_singleton,ZI]at hx
  omega
 rw[xO hB (by omega),zP,jw]
 omega
theorem qh5 {B:Int} (hB:1<B) {w:List Int} (h:Dg B w) {m:Nat} (hm:m<=w.length) (h0: ∀x,0<m->w[m-1]? =some x->x≠0) (hz: ∀(i:Nat) x,m<=i->w[i]? =some x->x=0):w.take m=dg B (dv B w):=by
 have hc:Can B (w.take m):=⟨h.take m,fun x hx=>by
  rw[List.getLast?_eq_getElem?,Ym,Nat.min_eq_left hm]at hx
  cases m with
  |zero=>simp at hx
  |succ m=>
   refine h0 x (by omega) ?_
   rw[Yt]at hx
   split at hx
   ·exact hx
   cases hx⟩
 have e:dv B w=dv B (w.take m):=by
  rw[qae B w m hm]
  have:w.drop m=List.replicate (w.length-m) 0:=by
   refine List.ext_getElem? fun i=>?_
   rw[YI,List.getElem?_replicate]
   by_cases hi:i<w.length-m
   ·rw[if_pos hi]
    cases hx:w[m+i]? with
    |none=>rw[List.getElem?_eq_none_iff]at hx;omega
    |some x=>rw[hz (m+i) x (by omega) hx]
   rw[if_neg hi]
   exact Yg (by omega)
  rw[this,xC,Int.mul_zero,Int.add_zero]
 rw[e,qlW hB hc]
end Go.Av
end
section
namespace Go.Av
abbrev W:Int:=18446744073709551616
theorem wu (n:Int):IntKind.wrap .u64 n=n%18446744073709551616:=rfl
theorem jC {n:Int} (h0:0<=n) (h:n<18446744073709551616):IntKind.wrap .u64 n=n:=by rw[wu];exact Int.emod_eq_of_lt h0 h
theorem qbU {n:Int} (h0:0<=n) (h:n<18446744073709551616):(BitVec.ofInt 64 n).toNat=n.toNat:=by
 rw[BitVec.toNat_ofInt]
 have:n%((2:Nat)^64:Nat)=n:=Int.emod_eq_of_lt h0 (by simpa using h)
 rw[this]
theorem qaF {x:Int} (h0:0<=x) (h:x<18446744073709551616):qo .u64 x 4294967295=x%4294967296:=by
 show IntKind.wrap .u64 _=_
 have e:(BitVec.ofInt IntKind.u64.bits x&&&BitVec.ofInt IntKind.u64.bits 4294967295).toNat=x.toNat%4294967296:=by
  rw[BitVec.toNat_and]
  show(BitVec.ofInt 64 x).toNat&&&(BitVec.ofInt 64 4294967295).toNat=_
  rw[qbU h0 h,qbU (by omega) (by omega)]
  exact Nat.and_two_pow_sub_one_eq_mod x.toNat 32
 rw[e,wu]
 omega
theorem qft (x:Int) (k:Nat):qh .u64 x (k:Int)=x/2^(min k 64):=by
 show x.fdiv (2^(min (k:Int).toNat 64))=_
 rw[Int.toNat_natCast,Int.fdiv_eq_ediv_of_nonneg _ (Int.le_of_lt (pow_pos (by omega) _))]
theorem qbt (x:Int):qh .u64 x 32=x/4294967296:=qft x 32
theorem shr16 (x:Int):qh .u64 x 16=x/65536:=qft x 16
theorem shr8 (x:Int):qh .u64 x 8=x/256:=qft x 8
theorem qaH {a b:Int} (ha:0<=a/\a<4294967296) (hb:0<=b/\b<4294967296):0<=a*b/\a*b<=18446744065119617025:=by
 refine⟨Yv ha.1 hb.1,?_⟩
 have:a*b<=4294967295*4294967295:=Int.mul_le_mul (by omega) (by omega) hb.1 (by omega)
 omega
theorem qcD {x y:Int} (hx:0<=x/\x<18446744073709551616) (hy:0<=y/\y<18446744073709551616):bits_Mul64 x y=some (x*y/18446744073709551616,x*y%18446744073709551616):=by
 unfold bits_Mul64
 rw[qaF hx.1 hx.2,qaF hy.1 hy.2,qbt x,qbt y]
 have x1:0<=x/4294967296/\x/4294967296<4294967296:=by omega
 have x0:0<=x%4294967296/\x%4294967296<4294967296:=by omega
 have y1:0<=y/4294967296/\y/4294967296<4294967296:=by omega
 have y0:0<=y%4294967296/\y%4294967296<4294967296:=by omega
 have ex:x=x/4294967296*4294967296+x%4294967296:=by omega
 have ey:y=y/4294967296*4294967296+y%4294967296:=by omega
 have e:x*y=x/4294967296*(y/4294967296)*18446744073709551616+(x/4294967296*(y%4294967296)+x%4294967296*(y/4294967296))*4294967296+x%4294967296*(y%4294967296):=by
  generalize x/4294967296=a at*
  generalize x%4294967296=b at*
  generalize y/4294967296=c at*
  generalize y%4294967296=d at*
  subst ex ey
  grind
 have b11:=qaH x1 y1
 have b10:=qaH x1 y0
 have b01:=qaH x0 y1
 have b00:=qaH x0 y0
 rw[e]
 generalize x/4294967296*(y/4294967296)=p11 at*
 generalize x/4294967296*(y%4294967296)=p10 at*
 generalize x%4294967296*(y/4294967296)=p01 at*
 generalize x%4294967296*(y%4294967296)=p00 at*
 rw[jC b11.1 (by omega),jC b10.1 (by omega),jC b01.1 (by omega),jC b00.1 (by omega),qbt p00,jC (n:=p10+p00/4294967296) (by omega) (by omega),qbt (p10+_),qaF (by omega) (by omega),jC (n:=_+p01) (by omega) (by omega),qbt,jC (n:=p11+(p10+p00/4294967296)/4294967296) (by omega) (by omega),jC (by omega) (by omega),wu]
 congr 2
 omega
def isLen (x l:Int):Prop:=(x=0/\l=0)\/(1<=l/\l<=64/\2^(l.toNat-1)<=x/\x<2^l.toNat)
def okT (T:List UInt8):Bool:=(List.range 256).all fun n=>match T[n]? with
 |some c=>decide (c.toNat<=8)&&((n==0&&c.toNat==0)||(decide (1<=c.toNat)&&(decide (2^(c.toNat-1)<=n)&&decide (n<2^c.toNat))))
 |none=>false
theorem qmg {T:List UInt8} (h:okT T=true) {n:Int} (h0:0<=n) (h1:n<256): ∃c:UInt8,idx T n=some c/\c.toNat<=8/\isLen n (c.toNat:Int):=by
 obtain⟨n,rfl⟩:=Int.eq_ofNat_of_zero_le h0
 have k1:=Yp.1 h n (List.mem_range.2 (by omega))
 split at k1
 ·rename_i c hc
  simp only[Bool.and_eq_true,Bool.or_eq_true,decide_eq_true_eq,beq_iff_eq]at k1
  refine⟨c,by rw[qj];exact hc,k1.1,?_⟩
  rcases k1.2 with⟨k,k2⟩|⟨k,k2,k3⟩
  ·exact .inl ⟨by omega,by omega⟩
  refine .inr ⟨by omega,by omega,?_,?_⟩
  ·rw[Int.toNat_natCast];exact_mod_cast k2
  rw[Int.toNat_natCast];exact_mod_cast k3
 cases k1
theorem qfV {x c:Int} (h0:0<=x) {k:Nat} (hk:k+c<=64) (h:isLen (x/2^k) c) (h1:1<=x/2^k\/k=0):isLen x (k+c):=by
 rcases h with⟨e,hc⟩|⟨c1,c2,l1,l2⟩
 ·rcases h1 with h1|rfl
  ·omega
  left
  simp only[Int.pow_zero,Int.ediv_one]at e
  omega
 right
 have hp:=pow_pos (show(0:Int)<2 by omega) k
 obtain⟨c,rfl⟩:=Int.eq_ofNat_of_zero_le (show 0<=c by omega)
 rw[Int.toNat_natCast]at l1 l2
 have e1:((k:Int)+(c:Int)).toNat=k+c:=by omega
 rw[e1]
 refine⟨by omega,hk,?_,?_⟩
 ·have:=(Int.le_ediv_iff_mul_le hp).1 l1
  rw[<-Int.pow_add]at this
  rw[show k+c-1=c-1+k by omega]
  exact this
 have:=(Yu hp).1 l2
 rw[<-Int.pow_add]at this
 rw[show k+c=c+k by omega]
 exact this
theorem qky {T:List UInt8} (hT:okT T=true) {x:Int} (h0:0<=x) (h:x<18446744073709551616): ∃l,(((if x>=4294967296 then
 some (qh .u64 x 32,32)
 else
 some (x,0):Option (Int×Int))).bind fun(n1,n2)=>
 ((if n1>=65536 then
 some (qh .u64 n1 16,w64 (n2+16))
 else
 some (n1,n2):Option (Int×Int))).bind fun(n5,n6)=>
 ((if n5>=256 then
 some (qh .u64 n5 8,w64 (n6+8))
 else
 some (n5,n6):Option (Int×Int))).bind fun(n9,n10)=>
 (idx T (IntKind.wrap .u8 n9)).bind fun c13=>
 some (w64 (n10+(w64 (c13.toNat:Int)))))=some l/\isLen x l:=by
 have A: ∃(n k:Nat),(if x>=4294967296 then some (qh .u64 x 32,32)else some (x,0):Option (Int×Int))=some ((n:Int),(k:Int))/\(n:Int)=x/2^k/\k<=32/\(1<=n\/k=0)/\n<4294967296:=by
  by_cases c:x>=4294967296
  ·refine⟨(x/4294967296).toNat,32,?_,?_,by omega,by omega,by omega⟩
   ·rw[if_pos c,qbt]
    congr 2
    omega
   show _=x/4294967296
   omega
  refine⟨x.toNat,0,?_,?_,by omega,by omega,by omega⟩
  ·rw[if_neg c]
   congr 2
   omega
  show _=x/1
  omega
 obtain⟨n,k,e,hn,hk,hp,hl⟩:=A
 rw[e,ZB]
 have B: ∃(m j:Nat),(if(n:Int)>=65536 then some (qh .u64 n 16,w64 (k+16))else some ((n:Int),(k:Int)):Option (Int×Int))=some ((m:Int),(j:Int))/\(m:Int)=x/2^j/\j<=48/\(1<=m\/j=0)/\m<65536:=by
  by_cases c:(n:Int)>=65536
  ·refine⟨n/65536,k+16,?_,?_,by omega,by omega,by omega⟩
   ·rw[if_pos c,shr16,qD (by omega) (by omega)]
    congr 2
   rw[Int.natCast_ediv,hn,Int.pow_add,<-Int.ediv_ediv_of_nonneg (Int.le_of_lt (pow_pos (by omega) _))]
   rfl
  refine⟨n,k,by rw[if_neg c],hn,by omega,hp,by omega⟩
 obtain⟨m,j,e,hm,hj,hp,hl⟩:=B
 simp only
 rw[e,ZB]
 have C: ∃(p i:Nat),(if(m:Int)>=256 then some (qh .u64 m 8,w64 (j+8))else some ((m:Int),(j:Int)):Option (Int×Int))=some ((p:Int),(i:Int))/\(p:Int)=x/2^i/\i<=56/\(1<=p\/i=0)/\p<256:=by
  by_cases c:(m:Int)>=256
  ·refine⟨m/256,j+8,?_,?_,by omega,by omega,by omega⟩
   ·rw[if_pos c,shr8,qD (by omega) (by omega)]
    congr 2
   rw[Int.natCast_ediv,hm,Int.pow_add,<-Int.ediv_ediv_of_nonneg (Int.le_of_lt (pow_pos (by omega) _))]
   rfl
  refine⟨m,j,by rw[if_neg c],hm,by omega,hp,by omega⟩
 obtain⟨p,i,e,hpx,hi,hp,hl⟩:=C
 simp only
 rw[e,ZB]
 simp only
 have w8:IntKind.wrap .u8 (p:Int)=(p:Int):=Int.emod_eq_of_lt (by omega) (show(p:Int)<256 by omega)
 obtain⟨c,hc,c8,hlen⟩:=qmg hT (n:=(p:Int)) (by omega) (by omega)
 rw[w8,hc,ZB,qD (n:=(c.toNat:Int)) (by omega) (by omega),qD (by omega) (by omega)]
 refine⟨_,rfl,qfV h0 (by omega) (hpx▸hlen) ?_⟩
 rcases hp with hp|hp
 ·left;rw[<-hpx];omega
 exact .inr hp
theorem qgt {x:Int} (h0:0<=x) (h:x<18446744073709551616): ∃l,bits_Len64 x=some l/\isLen x l:=by
 unfold bits_Len64
 exact qky (by kernel_rfl) h0 h
theorem qlV {y:Int} (h0:0<y) (h:y<18446744073709551616): ∃s:Nat,s<=63/\bits_LeadingZeros64 y=some (s:Int)/\9223372036854775808<=y*2^s/\y*2^s<18446744073709551616:=by
 obtain⟨l,e,hl⟩:=qgt (by omega) h
 rcases hl with⟨hy,_⟩|⟨l1,l2,g1,g2⟩
 ·omega
 obtain⟨l,rfl⟩:=Int.eq_ofNat_of_zero_le (show 0<=l by omega)
 rw[Int.toNat_natCast]at g1 g2
 have hp:=pow_pos (show(0:Int)<2 by omega) (64-l)
 refine⟨64-l,by omega,?_,?_,?_⟩
 ·unfold bits_LeadingZeros64
  rw[e,ZB,qD (by omega) (by omega)]
  congr 1
  omega
 ·have:=Int.mul_le_mul_of_nonneg_right g1 (Int.le_of_lt hp)
  rw[<-Int.pow_add,show l-1+(64-l)=63 by omega]at this
  exact this
 have:=YH g2 hp
 rw[<-Int.pow_add,show l+(64-l)=64 by omega]at this
 exact this
theorem qf3 {u u1 v1 v0 q r:Int} (hr:r=u-q*v1) (hv:0<v1*4294967296+v0):q*v0>4294967296*r+u1↔(u*4294967296+u1)/(v1*4294967296+v0)<q:=by
 rw[Yu hv,Int.mul_add,<-Int.mul_assoc]
 subst hr
 rw[Int.mul_sub]
 have:4294967296*(q*v1)=q*v1*4294967296:=Int.mul_comm _ _
 omega
structure qcV (u u1 v1 v0 q r:Int):Prop where
 e:r=u-q*v1
 p0:0<=r
 p1:r<4294967296
 q1:q<=4294967297
 le:(u*4294967296+u1)/(v1*4294967296+v0)<=q
theorem qeW {u u1 v1 v0 q r:Int} (hv1:2147483648<=v1/\v1<4294967296) (hv0:0<=v0/\v0<4294967296) (hu1:0<=u1/\u1<4294967296) (h:qcV u u1 v1 v0 q r) (c:(u*4294967296+u1)/(v1*4294967296+v0)<q) (hu:0<=u):
 (r+v1>=4294967296->q-1=(u*4294967296+u1)/(v1*4294967296+v0))/\(r+v1<4294967296->qcV u u1 v1 v0 (q-1) (r+v1)):=by
 have hr:r+v1=u-(q-1)*v1:=by rw[h.e,Int.sub_mul];omega
 have hQ:0<=(u*4294967296+u1)/(v1*4294967296+v0):=Int.ediv_nonneg (by omega) (by omega)
 constructor
 ·intro hb
  have:(q-1)*v0<=4294967296*(r+v1)+u1:=by
   have hq:q-1<=4294967296:=by have:=h.q1;omega
   have e:(q-1)*v0<=4294967296*v0:=Int.mul_le_mul_of_nonneg_right hq hv0.1
   omega
  have: ¬(u*4294967296+u1)/(v1*4294967296+v0)<q-1:=fun c2=>absurd ((qf3 (u1:=u1) (v0:=v0) hr (by omega)).2 c2) (by omega)
  omega
 intro hb
 refine⟨hr,by have:=h.p0;omega,hb,by have:=h.q1;omega,by omega⟩
theorem qe3 {u u1 v1 v0 q r:Int} (hv1:2147483648<=v1/\v1<4294967296) (hv0:0<=v0/\v0<4294967296) (hu1:0<=u1/\u1<4294967296) (hu:0<=u) (hlt:u<v1*4294967296+v0) (h:qcV u u1 v1 v0 q r):
 (if q>=4294967296 then some true else some (decide (IntKind.wrap .u64 (q*v0)>IntKind.wrap .u64 (IntKind.wrap .u64 (4294967296*r)+u1))):Option Bool)=some (decide ((u*4294967296+u1)/(v1*4294967296+v0)<q)):=by
 have hQ:0<=(u*4294967296+u1)/(v1*4294967296+v0):=Int.ediv_nonneg (by omega) (by omega)
 have hQ2:(u*4294967296+u1)/(v1*4294967296+v0)<4294967296:=by
  rw[Yu (by omega)]
  omega
 have hq0:0<=q:=by have:=h.le;omega
 have hr0:=h.p0
 have hr1:=h.p1
 by_cases c:q>=4294967296
 ·rw[if_pos c,decide_eq_true (by omega)]
 rw[if_neg c]
 have b:=qaH (a:=q) (b:=v0) ⟨hq0,by omega⟩ hv0
 rw[jC b.1 (by omega),jC (n:=4294967296*r) (by omega) (by omega),jC (n:=4294967296*r+u1) (by omega) (by omega)]
 congr 1
 exact decide_eq_decide.2 (qf3 h.e (by omega))
theorem qh8 {v x:Int} {u u1 v1 v0:Int} (e1:qh .u64 v 32=v1) (e0:qo .u64 v 4294967295=v0) (ex:qh .u64 x 32=u1) (hv1:2147483648<=v1/\v1<4294967296) (hv0:0<=v0/\v0<4294967296) (hu1:0<=u1/\u1<4294967296) (hu:0<=u) (hlt:u<v1*4294967296+v0): ∀(K:Nat) (q r:Int),qcV u u1 v1 v0 q r->4294967296<=r+K*v1->
 jQ v x K q r=some ((u*4294967296+u1)/(v1*4294967296+v0))
 |0,q,r,h,hK=>by have:=h.p1;simp at hK;omega
 |K+1,q,r,h,hK=>by
  have hQ:0<=(u*4294967296+u1)/(v1*4294967296+v0):=Int.ediv_nonneg (by omega) (by omega)
  have hq1:=h.q1
  have hr0:=h.p0
  have hr1:=h.p1
  have hle:=h.le
  rw[jQ,e1,e0,ex,qe3 hv1 hv0 hu1 hu hlt h,ZB]
  by_cases c:(u*4294967296+u1)/(v1*4294967296+v0)<q
  ·obtain⟨n1,n2⟩:=qeW hv1 hv0 hu1 h c hu
   rw[decide_eq_true c,if_pos rfl,jC (n:=r+v1) (by omega) (by omega),jC (n:=q-1) (by omega) (by omega)]
   by_cases d:r+v1>=4294967296
   ·rw[if_pos d,n1 d]
   rw[if_neg d]
   refine qh8 e1 e0 ex hv1 hv0 hu1 hu hlt K _ _ (n2 (by omega)) ?_
   have:((K+1:Nat):Int)*v1=K*v1+v1:=by rw[Int.natCast_add,Int.add_mul];simp
   omega
  rw[decide_eq_false c,if_neg (by simp)]
  congr 1
  omega
theorem qhQ {v x:Int} {u u1 v1 v0:Int} (e1:qh .u64 v 32=v1) (e0:qo .u64 v 4294967295=v0) (ex:qo .u64 x 4294967295=u1) (hv1:2147483648<=v1/\v1<4294967296) (hv0:0<=v0/\v0<4294967296) (hu1:0<=u1/\u1<4294967296) (hu:0<=u) (hlt:u<v1*4294967296+v0): ∀(K:Nat) (q r:Int),qcV u u1 v1 v0 q r->4294967296<=r+K*v1->
 jP v x K r q=some ((u*4294967296+u1)/(v1*4294967296+v0))
 |0,q,r,h,hK=>by have:=h.p1;simp at hK;omega
 |K+1,q,r,h,hK=>by
  have hQ:0<=(u*4294967296+u1)/(v1*4294967296+v0):=Int.ediv_nonneg (by omega) (by omega)
  have hq1:=h.q1
  have hr0:=h.p0
  have hr1:=h.p1
  have hle:=h.le
  rw[jP,e1,e0,ex,qe3 hv1 hv0 hu1 hu hlt h,ZB]
  by_cases c:(u*4294967296+u1)/(v1*4294967296+v0)<q
  ·obtain⟨n1,n2⟩:=qeW hv1 hv0 hu1 h c hu
   rw[decide_eq_true c,if_pos rfl,jC (n:=r+v1) (by omega) (by omega),jC (n:=q-1) (by omega) (by omega)]
   by_cases d:r+v1>=4294967296
   ·rw[if_pos d,n1 d]
   rw[if_neg d]
   refine qhQ e1 e0 ex hv1 hv0 hu1 hu hlt K _ _ (n2 (by omega)) ?_
   have:((K+1:Nat):Int)*v1=K*v1+v1:=by rw[Int.natCast_add,Int.add_mul];simp
   omega
  rw[decide_eq_false c,if_neg (by simp)]
  congr 1
  omega
theorem qd2 {u u1 v1 v0:Int} (hv1:2147483648<=v1/\v1<4294967296) (hv0:0<=v0/\v0<4294967296) (hu1:0<=u1/\u1<4294967296) (hu:0<=u) (hlt:u<v1*4294967296+v0):qcV u u1 v1 v0 (u/v1) (u-u/v1*v1):=by
 have hm:=Int.emod_nonneg u (show v1≠0 by omega)
 have hm2:=Int.emod_lt_of_pos u (show 0<v1 by omega)
 have e:u-u/v1*v1=u%v1:=by have:=Int.mul_ediv_add_emod u v1;rw[Int.mul_comm]at this;omega
 refine⟨rfl,by omega,by omega,?_,?_⟩
 ·have:u/v1<4294967298:=by
   rw[Yu (by omega)]
   omega
  omega
 have h1:(u*4294967296+u1)/(v1*4294967296+v0)<=(u*4294967296+u1)/(v1*4294967296):=by
  refine Int.le_ediv_of_mul_le (by omega) ?_
  have hQ:0<=(u*4294967296+u1)/(v1*4294967296+v0):=Int.ediv_nonneg (by omega) (by omega)
  have h2:=Int.ediv_mul_le (u*4294967296+u1) (show v1*4294967296+v0≠0 by omega)
  rw[Int.mul_add]at h2
  have:=Yv hQ hv0.1
  omega
 have h3:(u*4294967296+u1)/(v1*4294967296)=u/v1:=by
  rw[Int.mul_comm v1,<-Int.ediv_ediv_of_nonneg (by omega)]
  congr 1
  omega
 omega
theorem qfp {u u1 v:Int} (hv:0<v) (hW:v<18446744073709551616) (h0:0<=u*4294967296+u1):IntKind.wrap .u64 (IntKind.wrap .u64 (IntKind.wrap .u64 (u*4294967296)+u1)-IntKind.wrap .u64 ((u*4294967296+u1)/v*v))=(u*4294967296+u1)%v:=by
 simp only[wu]
 rw[Int.emod_add_emod,<-Int.sub_emod,Int.emod_def (u*4294967296+u1) v,Int.mul_comm v]
 have h1:=Int.emod_nonneg (u*4294967296+u1) (show v≠0 by omega)
 have h2:=Int.emod_lt_of_pos (u*4294967296+u1) hv
 rw[Int.emod_def,Int.mul_comm v]at h1 h2
 exact Int.emod_eq_of_lt h1 (by omega)
theorem qij {x:Int} {k:Nat} (hk:k<=64) (h0:0<=x*2^k) (h:x*2^k<18446744073709551616):qee .u64 x (k:Int)=some (x*2^k):=by
 unfold qee
 rw[if_neg (by omega),Int.toNat_natCast,show min k IntKind.u64.bits=k from Nat.min_eq_left hk,jC h0 h]
theorem qez {x:Int} {k:Nat} (hk:k<=64):qee .u64 x (k:Int)=some (x*2^k%18446744073709551616):=by
 unfold qee
 rw[if_neg (by omega),Int.toNat_natCast,show min k IntKind.u64.bits=k from Nat.min_eq_left hk,wu]
theorem qdR {x:Int} {k:Nat} (hk:k<=64):qgB .u64 x (k:Int)=some (x/2^k):=by
 unfold qgB
 rw[if_neg (by omega),Int.toNat_natCast,show min k IntKind.u64.bits=k from Nat.min_eq_left hk,Int.fdiv_eq_ediv_of_nonneg _ (Int.le_of_lt (pow_pos (by omega) _))]
theorem qii {a b:Int} {k:Nat} (ha:0<=a) (hb:0<=b) (hk:b<2^k) (h:a*2^k+b<18446744073709551616):orI .u64 (a*2^k) b=a*2^k+b:=by
 show IntKind.wrap .u64 _=_
 obtain⟨a,rfl⟩:=Int.eq_ofNat_of_zero_le ha
 obtain⟨b,rfl⟩:=Int.eq_ofNat_of_zero_le hb
 have hp:=pow_pos (show(0:Int)<2 by omega) k
 have hm:0<=(a:Int)*2^k:=Yv ha (Int.le_of_lt hp)
 have e:(BitVec.ofInt IntKind.u64.bits ((a:Int)*2^k)|||BitVec.ofInt IntKind.u64.bits (b:Int)).toNat=a*2^k+b:=by
  rw[BitVec.toNat_or]
  show(BitVec.ofInt 64 ((a:Int)*2^k)).toNat|||(BitVec.ofInt 64 (b:Int)).toNat=_
  rw[qbU hm (by omega),qbU hb (by omega)]
  have e1:((a:Int)*2^k).toNat=2^k*a:=by
   rw[show(a:Int)*2^k=((2^k*a:Nat):Int)by rw[Int.natCast_mul,Int.natCast_pow,Int.mul_comm];rfl]
   exact Int.toNat_natCast _
  rw[e1,Int.toNat_natCast,<-Nat.two_pow_add_eq_or_of_lt (by exact_mod_cast hk),Nat.mul_comm]
 rw[e,jC (by omega) (by rw[Int.natCast_add,Int.natCast_mul,Int.natCast_pow];exact h)]
 rw[Int.natCast_add,Int.natCast_mul,Int.natCast_pow]
 rfl
theorem qji {a b:Int} (ha:0<=a) (hb:0<b) (h:a<18446744073709551616):qeN .u64 a b=some (a/b):=by
 unfold qeN
 rw[if_neg (by omega),Int.tdiv_eq_ediv_of_nonneg ha,jC (Int.ediv_nonneg ha (Int.le_of_lt hb))]
 have:=Int.ediv_le_self b ha
 omega
theorem rem_u {a b:Int} (ha:0<=a) (hb:0<b):qaU .u64 a b=some (a%b):=by
 unfold qaU
 rw[if_neg (by omega),Int.tmod_eq_emod_of_nonneg ha]
theorem halves {A x0 v:Int} (hv:0<v):(A*4294967296+x0)/v=A/v*4294967296+(A%v*4294967296+x0)/v/\(A*4294967296+x0)%v=(A%v*4294967296+x0)%v:=by
 have e:A*4294967296+x0=A%v*4294967296+x0+v*(A/v*4294967296):=by
  have h:=Int.mul_ediv_add_emod A v
  rw[<-Int.mul_assoc]
  generalize v*(A/v)=m at*
  generalize A%v=n at*
  omega
 constructor
 ·rw[e,Int.add_mul_ediv_left _ _ (by omega)]
  omega
 rw[e,Int.add_mul_emod_self_left]
theorem qgD {N:Nat} (hN:5<=N) {hi lo y:Int} (h0:0<=hi) (h1:hi<y) (hy:y<18446744073709551616) (hlo:0<=lo/\lo<18446744073709551616):yL N hi lo y=some ((hi*18446744073709551616+lo)/y,(hi*18446744073709551616+lo)%y):=by
 unfold yL
 rw[if_neg (by omega),ZB,if_neg (by omega),ZB]
 by_cases hz:hi=0
 ·subst hz
  rw[if_pos rfl,qji hlo.1 h1 hlo.2,rem_u hlo.1 h1,Int.zero_mul,Int.zero_add]
  rfl
 rw[if_neg hz]
 obtain⟨s,hs,es,g1,g2⟩:=qlV (y:=y) (by omega) hy
 have hp:=pow_pos (show(0:Int)<2 by omega) s
 have hp2:=pow_pos (show(0:Int)<2 by omega) (64-s)
 have hpp:(2:Int)^s*2^(64-s)=18446744073709551616:=by
  rw[<-Int.pow_add,show s+(64-s)=64 by omega]
  rfl
 have ehi:hi*2^s<y*2^s:=YH h1 hp
 have ehi0:0<=hi*2^s:=Yv h0 (Int.le_of_lt hp)
 have e64:IntKind.wrap .u64 (64-IntKind.wrap .u64 (s:Int))=((64-s:Nat):Int):=by
  rw[jC (n:=(s:Int)) (by omega) (by omega),jC (by omega) (by omega)]
  omega
 rw[es,ZB,jC (n:=(s:Int)) (by omega) (by omega),qij (by omega) (by omega) g2,ZB,qij (by omega) ehi0 (by omega),ZB]
 rw[show IntKind.wrap .u64 (64-(s:Int))=((64-s:Nat):Int)by rw[jC (by omega) (by omega)];omega,qdR (by omega),ZB,qez (by omega),ZB]
 have hl0:0<=lo/2^(64-s):=Int.ediv_nonneg hlo.1 (Int.le_of_lt hp2)
 have hl1:lo/2^(64-s)<2^s:=by
  rw[Yu hp2,hpp]
  exact hlo.2
 have eor:orI .u64 (hi*2^s) (lo/2^(64-s))=hi*2^s+lo/2^(64-s):=by
  refine qii h0 hl0 hl1 ?_
  have:(hi+1)*2^s<=y*2^s:=Int.mul_le_mul_of_nonneg_right (by omega) (Int.le_of_lt hp)
  rw[Int.add_mul,Int.one_mul]at this
  omega
 have hUv:hi*2^s+lo/2^(64-s)<y*2^s:=by
  have:(hi+1)*2^s<=y*2^s:=Int.mul_le_mul_of_nonneg_right (by omega) (Int.le_of_lt hp)
  rw[Int.add_mul,Int.one_mul]at this
  omega
 have enum:(hi*18446744073709551616+lo)*2^s=(hi*2^s+lo/2^(64-s))*18446744073709551616+lo*2^s%18446744073709551616:=by
  have e1:lo*2^s/18446744073709551616=lo/2^(64-s):=by
   rw[<-hpp,Int.mul_comm lo,Int.mul_ediv_mul_of_pos _ _ hp]
  have e2:=Int.mul_ediv_add_emod (lo*2^s) 18446744073709551616
  rw[e1]at e2
  rw[Int.add_mul,Int.add_mul]
  have e3:hi*18446744073709551616*2^s=hi*2^s*18446744073709551616:=Int.mul_right_comm _ _ _
  omega
 rw[eor]
 have hx0:0<=lo*2^s%18446744073709551616:=Int.emod_nonneg _ (by omega)
 have hx1:lo*2^s%18446744073709551616<18446744073709551616:=Int.emod_lt_of_pos _ (by omega)
 generalize hU:hi*2^s+lo/2^(64-s)=U at*
 generalize hx:lo*2^s%18446744073709551616=x at*
 generalize hv:y*2^s=v at*
 have hU0:0<=U:=by omega
 have ev:v=v/4294967296*4294967296+v%4294967296:=by omega
 have v1:2147483648<=v/4294967296/\v/4294967296<4294967296:=by omega
 have v0:0<=v%4294967296/\v%4294967296<4294967296:=by omega
 have x1:0<=x/4294967296/\x/4294967296<4294967296:=by omega
 have x0:0<=x%4294967296/\x%4294967296<4294967296:=by omega
 have hNv:(4294967296:Int)<=N*(v/4294967296):=by
  have:(5:Int)*(v/4294967296)<=N*(v/4294967296):=Int.mul_le_mul_of_nonneg_right (by omega) (by omega)
  omega
 have am:qo .u64 v 4294967295=v%4294967296:=qaF (by omega) (by omega)
 have ax:qo .u64 x 4294967295=x%4294967296:=qaF hx0 hx1
 have wr: ∀u:Int,0<=u->u<18446744073709551616->IntKind.wrap .u64 (u-IntKind.wrap .u64 (u/(v/4294967296)*(v/4294967296)))=u-u/(v/4294967296)*(v/4294967296):=by
  intro u hu hu2
  have a:=Yv (Int.ediv_nonneg hu (show 0<=v/4294967296 by omega)) (show 0<=v/4294967296 by omega)
  have b:=Int.ediv_mul_le u (show v/4294967296≠0 by omega)
  rw[jC a (by omega),jC (by omega) (by omega)]
 have hUvv:U<v/4294967296*4294967296+v%4294967296:=by omega
 rw[qbt v,qji hU0 (by omega) (by omega),ZB,wr U hU0 (by omega)]
 have f1:=qd2 v1 v0 x1 hU0 hUvv
 rw[qh8 (qbt v) am (qbt x) v1 v0 x1 hU0 hUvv N _ _ f1 (by have:=f1.p0;omega),ZB,qbt x,<-ev,qfp (by omega) g2 (by omega)]
 have hR0:0<=(U*4294967296+x/4294967296)%v:=Int.emod_nonneg _ (by omega)
 have hR1:(U*4294967296+x/4294967296)%v<v:=Int.emod_lt_of_pos _ (by omega)
 have hQ0:0<=(U*4294967296+x/4294967296)/v:=Int.ediv_nonneg (by omega) (by omega)
 have hQ1:(U*4294967296+x/4294967296)/v<4294967296:=by
  rw[Yu (by omega)]
  omega
 have hh:=halves (A:=U*4294967296+x/4294967296) (x0:=x%4294967296) (v:=v) (by omega)
 have eN:(U*4294967296+x/4294967296)*4294967296+x%4294967296=(hi*18446744073709551616+lo)*2^s:=by rw[enum];omega
 generalize (U*4294967296+x/4294967296)%v=R at*
 generalize (U*4294967296+x/4294967296)/v=Q at*
 have hRvv:R<v/4294967296*4294967296+v%4294967296:=by omega
 rw[qji hR0 (by omega) (by omega),ZB,wr R hR0 (by omega)]
 have f2:=qd2 v1 v0 x0 hR0 hRvv
 rw[qhQ (qbt v) am ax v1 v0 x0 hR0 hRvv N _ _ f2 (by have:=f2.p0;omega),ZB,ax,<-ev,qfp (by omega) g2 (by omega),qdR (by omega),ZB]
 have hP0:0<=(R*4294967296+x%4294967296)/v:=Int.ediv_nonneg (by omega) (by omega)
 have hP1:(R*4294967296+x%4294967296)/v<4294967296:=by
  rw[Yu (by omega)]
  omega
 rw[jC (n:=Q*4294967296) (by omega) (by omega),jC (by omega) (by omega),<-hh.1,<-hh.2,eN,<-hv,Int.mul_ediv_mul_of_pos_left _ _ hp,Int.mul_comm _ (2^s),Int.mul_comm y (2^s),Int.mul_emod_mul_of_pos _ _ hp,Int.mul_ediv_cancel_left _ (by omega)]
end Go.Av
end
section
namespace Go.Av
theorem W1:(1:Int)<W:=by decide
theorem W0:(0:Int)<W:=by decide
theorem qaI {n:Nat} (h:n<=100000):mk 8 (n:Int) (0:Int)=some (List.replicate n 0):=by
 unfold mk
 rw[if_pos (by omega),Int.toNat_natCast]
theorem qh4 {w:List Int} (hl:w.length<=100000): ∀(K m:Nat),m<=w.length->m<K->(∀(i:Nat) x,m<=i->w[i]? =some x->x=0)->
 ∃m':Nat,yc w K (m:Int)=some (m':Int)/\m'<=w.length/\(∀x,0<m'->w[m'-1]? =some x->x≠0)/\ ∀(i:Nat) x,m'<=i->w[i]? =some x->x=0
 |0,m,h,hK,_=>by omega
 |K+1,m,h,hK,hz=>by
  rw[yc]
  by_cases h0:0<m
  ·have hm:m-1<w.length:=by omega
   rw[if_pos (by omega),qfQ (by omega) h0,qj,Ya hm,ZB,ZB]
   by_cases c:w[m-1]=0
   ·rw[decide_eq_true c,if_pos rfl]
    refine qh4 hl K (m-1) (by omega) (by omega) fun i x hi hx=>?_
    rcases Nat.lt_or_ge i m with h1|h1
    ·have e:i=m-1:=by omega
     subst e
     rw[Ya hm]at hx
     injection hx with hx
     omega
    exact hz i x h1 hx
   rw[decide_eq_false c,if_neg (by simp)]
   refine⟨m,rfl,h,fun x _ hx=>?_,hz⟩
   rw[Ya hm]at hx
   injection hx with hx
   omega
  rw[if_neg (by omega),ZB,if_neg (by simp)]
  exact⟨m,rfl,h,fun x h1=>by omega,hz⟩
theorem qat {N:Nat} {w:List Int} (hw:Dg W w) (hl:w.length<=100000) (hN:w.length<N):jX N w=some (dg W (dv W w)):=by
 unfold jX
 obtain⟨m,e,h1,h2,h3⟩:=qh4 hl N w.length (Nat.le_refl _) hN (fun i x hi hx=>by rw[Yg hi]at hx;cases hx)
 rw[e,ZB,qcA h1,ZB,qh5 W1 hw h1 h2 h3]
theorem take_at {l:List Int} {k:Nat}:dv W (l.take (k+1))=dv W (l.take k)+W^k*((l[k]?).getD 0):=by
 by_cases h:k<l.length
 ·rw[qG W l k h,Ya h]
  rfl
 rw[List.take_of_length_le (by omega),List.take_of_length_le (by omega),Yg (by omega)]
 simp
theorem qjV {l:List Int} (h:Dg W l) (k:Nat):0<=(l[k]?).getD 0/\(l[k]?).getD 0<W:=by
 by_cases hk:k<l.length
 ·rw[Ya hk]
  exact h.at hk
 rw[Yg (by omega)]
 exact⟨Int.le_refl _,by decide⟩
theorem qio {l:List Int} (k:Nat):((if(k:Int)<(l.length:Int)then(idx l (k:Int)).bind fun x=>some x else some 0:Option Int))=some ((l[k]?).getD 0):=by
 by_cases h:k<l.length
 ·rw[if_pos (by omega),qj,Ya h]
  rfl
 rw[if_neg (by omega),Yg (by omega)]
 rfl
theorem qev {l:List Int} {k:Nat} {v:Int} (h: ∀(i:Nat) x,k<=i->l[i]? =some x->x=0): ∀(i:Nat) x,k+1<=i->(l.set k v)[i]? =some x->x=0:=by
 intro i x hi hx
 rw[Yw (by omega)]at hx
 exact h i x (by omega) hx
theorem qfH {l:List Int} {k:Nat} {v:Int} (hk:k<l.length) (h: ∀(i:Nat) x,k<=i->l[i]? =some x->x=0):dv W (l.set k v)=dv W l+W^k*v:=by
 rw[qaD W l k v hk,h k l[k] (Nat.le_refl _) (Ya hk),Int.sub_zero]
theorem qjL {x y:List Int} (hx:Dg W x) (hy:Dg W y) (hxl:x.length<=100000) (hyx:y.length<=x.length): ∀(K k:Nat) (l:List Int) (c:Int),k<=x.length->x.length<K+k->l.length=x.length+1->Dg W l->(∀(i:Nat) z,k<=i->l[i]? =some z->z=0)->0<=c->c<=1->dv W l+W^k*c=dv W (x.take k)+dv W (y.take k)->
 ∃l' c',zA x y K l (k:Int) c=some (l',c')/\l'.length=x.length+1/\Dg W l'/\(∀(i:Nat) z,x.length<=i->l'[i]? =some z->z=0)/\0<=c'/\c'<=1/\dv W l'+W^x.length*c'=dv W x+dv W y
 |0,k,l,c,h,hK,_,_,_,_,_,_=>by omega
 |K+1,k,l,c,h,hK,hl,hd,hz,c0,c1,e=>by
  rw[zA]
  by_cases hk:k<x.length
  ·have ax:=hx.at hk
   have ay:=qjV hy k
   have hkl:k<l.length:=by omega
   rw[if_pos (by omega),qio k,ZB,qj,Ya hk,ZB]
   have ea:vP x[k] ((y[k]?).getD 0) c=some ((x[k]+(y[k]?).getD 0+c)%18446744073709551616,(x[k]+(y[k]?).getD 0+c)/18446744073709551616):=by
    unfold vP
    rw[if_pos ⟨ax.1,ay.1,c0,c1⟩]
   rw[ea,ZB,qj,Ya hkl,ZB,jR hkl,ZB,zD (by omega)]
   have b0:=ax.2
   have b1:=ay.2
   unfold W at b0 b1
   have hs:=Int.mul_ediv_add_emod (x[k]+(y[k]?).getD 0+c) 18446744073709551616
   have m0:=Int.emod_nonneg (x[k]+(y[k]?).getD 0+c) (show(18446744073709551616:Int)≠0 by decide)
   have m1:=Int.emod_lt_of_pos (x[k]+(y[k]?).getD 0+c) (show(0:Int)<18446744073709551616 by decide)
   have q0:0<=(x[k]+(y[k]?).getD 0+c)/18446744073709551616:=by omega
   have q1:(x[k]+(y[k]?).getD 0+c)/18446744073709551616<=1:=by omega
   refine qjL hx hy hxl hyx K (k+1) _ _ (by omega) (by omega) (by rw[Yk];exact hl) (hd.set ⟨m0,m1⟩) (qev hz) q0 q1 ?_
   rw[qfH hkl hz,take_at,take_at,Ya hk,YN,Int.pow_succ]
   simp only
   have e2:W^k*(x[k]+(y[k]?).getD 0+c)=W^k*(18446744073709551616*((x[k]+(y[k]?).getD 0+c)/18446744073709551616))+W^k*((x[k]+(y[k]?).getD 0+c)%18446744073709551616):=by rw[<-Int.mul_add,hs]
   rw[Int.mul_assoc]
   show _+W^k*((x[k]+(y[k]?).getD 0+c)%18446744073709551616)+W^k*(18446744073709551616*((x[k]+(y[k]?).getD 0+c)/18446744073709551616))=_
   rw[Int.mul_add,Int.mul_add]at e2
   omega
  rw[if_neg (by omega)]
  have ek:k=x.length:=by omega
  subst ek
  rw[List.take_of_length_le (Nat.le_refl _),List.take_of_length_le hyx]at e
  exact⟨l,c,rfl,hl,hd,hz,c0,c1,e⟩
theorem qh2 {N:Nat} {x y:List Int} (hx:Dg W x) (hy:Dg W y) (hxl:x.length<=10000) (hyx:y.length<=x.length) (hN:x.length+2<N):
 ((mk 8 (w64 ((x.length:Int)+1)) 0).bind fun l5=>
 (zA x y N l5 0 0).bind fun(l9,n10)=>
 (idx l9 (x.length:Int)).bind fun x21=>
 (put l9 (x.length:Int) n10).bind fun l22=>
 (jX N l22).bind fun r23=>
 some r23)=some (dg W (dv W x+dv W y)):=by
 rw[zD (by omega),qaI (by omega),ZB]
 obtain⟨l,c,e,h1,h2,h3,h4,h5,h6⟩:=qjL hx hy (by omega) hyx N 0 (List.replicate (x.length+1) 0) 0 (by omega) (by omega) (by simp) (Up W0 _) (fun i z _ hz=>by
  rw[List.getElem?_replicate]at hz
  split at hz
  ·injection hz with hz;exact hz.symm
  cases hz) (by omega) (by omega) (by rw[xC];simp[dv])
 have e:zA x y N (List.replicate (x.length+1) 0) 0 0=some (l,c):=e
 have hx1:x.length<l.length:=by omega
 rw[e,ZB]
 simp only
 rw[qj,Ya hx1,ZB,jR hx1,ZB,qat (h2.set ⟨h4,by unfold W;omega⟩) (by rw[Yk];omega) (by rw[Yk];omega),ZB,qfH hx1 h3,h6]
theorem qgN {N:Nat} {x y:List Int} (hx:Dg W x) (hy:Dg W y) (hxl:x.length<=10000) (hyl:y.length<=10000) (hN1:x.length+2<N) (hN2:y.length+2<N):yh N x y=some (dg W (dv W x+dv W y)):=by
 unfold yh
 by_cases h:(x.length:Int)<(y.length:Int)
 ·rw[if_pos h,ZB,Int.add_comm]
  exact qh2 hy hx hyl (by omega) hN2
 rw[if_neg h,ZB]
 exact qh2 hx hy hxl (by omega) hN1
theorem qjb {a b:List Int} (ha:Dg W a) (hl:a.length=b.length) (hb:Dg W b) {k:Nat} (hk:k<a.length) (he:a.drop (k+1)=b.drop (k+1)) (h:a[k]<b[k]'(by omega)):dv W a<dv W b:=by
 have e1:=qae W a (k+1) (by omega)
 have e2:=qae W b (k+1) (by omega)
 rw[qG W a k hk]at e1
 rw[qG W b k (by omega)]at e2
 have l1:=xL W0 (ha.take k)
 have l2:=zf W0 (hb.take k)
 rw[Ym,Nat.min_eq_left (by omega)]at l1
 have l3:W^k*(a[k]+1)<=W^k*b[k]:=Yc (by omega) (Int.le_of_lt (pow_pos W0 k))
 rw[Int.mul_add,Int.mul_one]at l3
 rw[he]at e1
 omega
theorem qjJ {a b:List Int} (ha:Dg W a) (hb:Dg W b) (hl:a.length=b.length) (hal:a.length<=100000): ∀(K k:Nat),k<=a.length->k<K->a.drop k=b.drop k->
 ko a b K ((k:Int)-1)=some (if dv W a<dv W b then .inr (-1)else if dv W a=dv W b then .inl ()else .inr 1)
 |0,k,h,hK,_=>by omega
 |K+1,0,h,hK,he=>by
  rw[List.drop_zero,List.drop_zero]at he
  rw[ko,if_neg (by omega),he,if_neg (by omega),if_pos rfl]
 |K+1,k+1,h,hK,he=>by
  have hka:k<a.length:=by omega
  have hkb:k<b.length:=by omega
  have ek:((k+1:Nat):Int)-1=(k:Int):=by omega
  rw[ek,ko,if_pos (by omega),qj,Ya hka,ZB,qj,Ya hkb,ZB]
  by_cases c:a[k]=b[k]
  ·rw[if_neg (by simp[c]),qD (by omega) (by omega)]
   refine qjJ ha hb hl hal K k (by omega) (by omega) ?_
   rw[List.drop_eq_getElem_cons hka,List.drop_eq_getElem_cons hkb,c,he]
  rw[if_pos (by simp[c])]
  by_cases d:a[k]<b[k]
  ·rw[if_pos d,if_pos (qjb ha hl hb hka he d)]
  have:=qjb hb hl.symm ha hkb he.symm (by omega)
  rw[if_neg d,if_neg (by omega),if_neg (by omega)]
theorem qa2 {a b:List Int} (ha:Can W a) (hb:Can W b) (h:a.length<b.length):dv W a<dv W b:=by
 obtain⟨n,hn⟩: ∃n,b.length=n+1:=⟨b.length-1,by omega⟩
 have h1:=xL W0 ha.1
 have h2:=hb.low W1 hn
 have h3:=jT (show(1:Int)<=W by decide) (show a.length<=n by omega)
 omega
theorem qbh {N:Nat} {a b:List Int} (ha:Can W a) (hb:Can W b) (hal:a.length<=10000) (hN:a.length+1<N):zX N a b=some (if dv W a<dv W b then-1 else if dv W a=dv W b then 0 else 1):=by
 unfold zX
 by_cases h:a.length=b.length
 ·have e:=qjJ ha.1 hb.1 h (by omega) N a.length (Nat.le_refl _) (by omega) (by rw[List.drop_of_length_le (Nat.le_refl _),List.drop_of_length_le (by omega)])
  rw[if_neg (by simp[h]),qD (by omega) (by omega),e,ZB]
  by_cases c:dv W a<dv W b
  ·rw[if_pos c,if_pos c]
  rw[if_neg c,if_neg c]
  by_cases d:dv W a=dv W b
  ·rw[if_pos d,if_pos d]
  rw[if_neg d,if_neg d]
 rw[if_pos (by simp;omega)]
 by_cases c:a.length<b.length
 ·rw[if_pos (by omega),if_pos (qa2 ha hb c)]
 have:=qa2 hb ha (by omega)
 rw[if_neg (by omega),if_neg (by omega),if_neg (by omega)]
theorem qjh {x y:List Int} (hx:Dg W x) (hy:Dg W y) (hxl:x.length<=100000) (hyx:y.length<=x.length): ∀(K k:Nat) (l:List Int) (c:Int),k<=x.length->x.length<K+k->l.length=x.length->Dg W l->(∀(i:Nat) z,k<=i->l[i]? =some z->z=0)->0<=c->c<=1->dv W l+dv W (y.take k)=dv W (x.take k)+W^k*c->
 ∃l' c',zV x y K l (k:Int) c=some l'/\l'.length=x.length/\Dg W l'/\0<=c'/\c'<=1/\dv W l'+dv W y=dv W x+W^x.length*c'
 |0,k,l,c,h,hK,_,_,_,_,_,_=>by omega
 |K+1,k,l,c,h,hK,hl,hd,hz,c0,c1,e=>by
  rw[zV]
  by_cases hk:k<x.length
  ·have ax:=hx.at hk
   have ay:=qjV hy k
   have hkl:k<l.length:=by omega
   rw[if_pos (by omega),qio k,ZB,qj,Ya hk,ZB]
   have b0:=ax.2
   have b1:=ay.2
   unfold W at b0 b1
   have ea:qbL x[k] ((y[k]?).getD 0) c=some ((x[k]-(y[k]?).getD 0-c)%18446744073709551616,if x[k]<(y[k]?).getD 0+c then 1 else 0):=by
    unfold qbL
    rw[if_pos ⟨ax.1,ay.1,b1,c0,c1⟩]
   rw[ea,ZB,qj,Ya hkl,ZB,jR hkl,ZB,zD (by omega)]
   have m0:=Int.emod_nonneg (x[k]-(y[k]?).getD 0-c) (show(18446744073709551616:Int)≠0 by decide)
   have m1:=Int.emod_lt_of_pos (x[k]-(y[k]?).getD 0-c) (show(0:Int)<18446744073709551616 by decide)
   have hs:(x[k]-(y[k]?).getD 0-c)%18446744073709551616=x[k]-(y[k]?).getD 0-c+18446744073709551616*(if x[k]<(y[k]?).getD 0+c then 1 else 0):=by
    split<;>omega
   have q:(0:Int)<=(if x[k]<(y[k]?).getD 0+c then 1 else 0)/\(if x[k]<(y[k]?).getD 0+c then(1:Int)else 0)<=1:=by split<;>omega
   refine qjh hx hy hxl hyx K (k+1) _ _ (by omega) (by omega) (by rw[Yk];exact hl) (hd.set ⟨m0,m1⟩) (qev hz) q.1 q.2 ?_
   rw[qfH hkl hz,take_at,take_at,Ya hk,YN,Int.pow_succ]
   simp only
   generalize (if x[k]<(y[k]?).getD 0+c then(1:Int)else 0)=d at*
   have e2:W^k*((x[k]-(y[k]?).getD 0-c)%18446744073709551616)=W^k*x[k]-W^k*(y[k]?).getD 0-W^k*c+W^k*(18446744073709551616*d):=by rw[hs,Int.mul_add,Int.mul_sub,Int.mul_sub]
   rw[Int.mul_assoc]
   show _=_+W^k*(18446744073709551616*d)
   omega
  rw[if_neg (by omega)]
  have ek:k=x.length:=by omega
  subst ek
  rw[List.take_of_length_le (Nat.le_refl _),List.take_of_length_le hyx]at e
  exact⟨l,c,rfl,hl,hd,c0,c1,e⟩
theorem qds {N:Nat} {x y:List Int} (hx:Can W x) (hy:Can W y) (hxl:x.length<=10000) (hN:x.length+2<N) (h:dv W y<=dv W x):jM N x y=some (dg W (dv W x-dv W y)):=by
 have hyx:y.length<=x.length:=by
  rcases Nat.lt_or_ge x.length y.length with c|c
  ·have:=qa2 hx hy c;omega
  exact c
 unfold jM
 rw[qaI (by omega),ZB]
 obtain⟨l,c,e,h1,h2,h4,h5,h6⟩:=qjh hx.1 hy.1 (by omega) hyx N 0 (List.replicate x.length 0) 0 (by omega) (by omega) (by simp) (Up W0 _) (fun i z _ hz=>by
  rw[List.getElem?_replicate]at hz
  split at hz
  ·injection hz with hz;exact hz.symm
  cases hz) (by omega) (by omega) (by rw[xC];simp[dv])
 have e:zV x y N (List.replicate x.length 0) 0 0=some l:=e
 have l1:=xL W0 h2
 rw[h1]at l1
 have hp:=pow_pos W0 x.length
 have hc:c=0:=by
  rcases(show c=0\/c=1 by omega)with c|c
  ·exact c
  subst c;omega
 rw[e,ZB,qat h2 (by omega) (by omega),ZB]
 subst hc
 rw[show dv W l=dv W x-dv W y by omega]
theorem qjy {b:List Int} (hb:Dg W b) (hbl:b.length<=10000) {x:Int} (hx:0<=x/\x<W) {i:Nat} (hi:i<=10000): ∀(K j:Nat) (l:List Int) (c:Int),j<=b.length->b.length<K+j->i+b.length<=l.length->Dg W l->0<=c->c<W->
 ∃l' c',zR b x (i:Int) K l (j:Int) c=some (l',c')/\l'.length=l.length/\Dg W l'/\(∀m,i+b.length<=m->l'[m]? =l[m]?)/\0<=c'/\c'<W/\dv W l'+W^(i+b.length)*c'+W^i*(x*dv W (b.take j))=dv W l+W^(i+j)*c+W^i*(x*dv W b)
 |0,j,l,c,h,hK,_,_,_,_=>by omega
 |K+1,j,l,c,h,hK,hl,hd,c0,c1=>by
  rw[zR]
  by_cases hj:j<b.length
  ·have ab:=hb.at hj
   have hil:i+j<l.length:=by omega
   have al:=hd.at hil
   have b0:=ab.2
   have b1:=al.2
   have b2:=hx.2
   unfold W at b0 b1 b2 c1
   rw[if_pos (by omega),qj,Ya hj,ZB,qcD ⟨hx.1,b2⟩ ⟨ab.1,b0⟩,ZB]
   rw[show(i:Int)+(j:Int)=((i+j:Nat):Int)by omega,qD (by omega) (by omega),qj,Ya hil,ZB]
   have hp0:0<=x*b[j]:=Yv hx.1 ab.1
   have hp1:x*b[j]<=18446744073709551615*18446744073709551615:=Int.mul_le_mul (by omega) (by omega) ab.1 (by omega)
   generalize hp:x*b[j]=p at*
   have ea:vP (p%18446744073709551616) l[i+j] 0=some ((p%18446744073709551616+l[i+j])%18446744073709551616,(p%18446744073709551616+l[i+j])/18446744073709551616):=by
    unfold vP
    rw[if_pos (by omega),Int.add_zero]
   rw[ea,ZB]
   have eb:vP ((p%18446744073709551616+l[i+j])%18446744073709551616) c 0=some (((p%18446744073709551616+l[i+j])%18446744073709551616+c)%18446744073709551616,((p%18446744073709551616+l[i+j])%18446744073709551616+c)/18446744073709551616):=by
    unfold vP
    rw[if_pos (by omega),Int.add_zero]
   simp only
   rw[eb,ZB,jR hil,ZB,zD (by omega)]
   have hc:IntKind.wrap .u64 (IntKind.wrap .u64 (p/18446744073709551616+(p%18446744073709551616+l[i+j])/18446744073709551616)+((p%18446744073709551616+l[i+j])%18446744073709551616+c)/18446744073709551616)=(p+l[i+j]+c)/18446744073709551616:=by
    rw[jC (n:=p/18446744073709551616+_) (by omega) (by omega),jC (by omega) (by omega)]
    omega
   have hv:((p%18446744073709551616+l[i+j])%18446744073709551616+c)%18446744073709551616=(p+l[i+j]+c)%18446744073709551616:=by omega
   simp only
   rw[hc,hv]
   have m0:=Int.emod_nonneg (p+l[i+j]+c) (show(18446744073709551616:Int)≠0 by decide)
   have m1:=Int.emod_lt_of_pos (p+l[i+j]+c) (show(0:Int)<18446744073709551616 by decide)
   have hs:=Int.mul_ediv_add_emod (p+l[i+j]+c) 18446744073709551616
   obtain⟨l',c',e1,e2,e3,e4,e5,e6,e7⟩:=qjy hb hbl hx hi K (j+1) (l.set (i+j) ((p+l[i+j]+c)%18446744073709551616)) ((p+l[i+j]+c)/18446744073709551616) (by omega) (by omega) (by rw[Yk];exact hl) (hd.set ⟨m0,m1⟩) (by omega) (by unfold W;omega)
   refine⟨l',c',e1,by rw[e2,Yk],e3,fun m hm=>by rw[e4 m hm,Yw (by omega)],e5,e6,?_⟩
   rw[qaD W l (i+j) _ hil,qG W b j hj,<-Nat.add_assoc,Int.pow_succ]at e7
   rw[Int.mul_add x,<-Int.mul_assoc x,Int.mul_comm x (W^j),Int.mul_assoc (W^j),hp,Int.mul_add (W^i),<-Int.mul_assoc (W^i) (W^j),<-Int.pow_add]at e7
   have e8:W^(i+j)*(p+l[i+j]+c)=W^(i+j)*(18446744073709551616*((p+l[i+j]+c)/18446744073709551616))+W^(i+j)*((p+l[i+j]+c)%18446744073709551616):=by rw[<-Int.mul_add,hs]
   rw[Int.mul_assoc (W^(i+j))]at e7
   have e7:dv W l'+W^(i+b.length)*c'+(W^i*(x*dv W (List.take j b))+W^(i+j)*p)=dv W l+W^(i+j)*((p+l[i+j]+c)%18446744073709551616-l[i+j])+W^(i+j)*(18446744073709551616*((p+l[i+j]+c)/18446744073709551616))+W^i*(x*dv W b):=e7
   rw[Int.mul_add,Int.mul_add]at e8
   rw[Int.mul_sub]at e7
   omega
  rw[if_neg (by omega)]
  have ej:j=b.length:=by omega
  subst ej
  rw[List.take_of_length_le (Nat.le_refl _)]
  exact⟨l,c,rfl,rfl,hd,fun _ _=>rfl,c0,c1,rfl⟩
theorem qi8 {N:Nat} {a b:List Int} (ha:Dg W a) (hb:Dg W b) (hal:a.length<=10000) (hbl:b.length<=10000) (hN:b.length<N): ∀(K i:Nat) (l:List Int),i<=a.length->a.length<K+i->l.length=a.length+b.length->Dg W l->(∀(m:Nat) z,i+b.length<=m->l[m]? =some z->z=0)->dv W l=dv W (a.take i)*dv W b->
 ∃l',zS N a b K l (i:Int)=some l'/\l'.length=a.length+b.length/\Dg W l'/\dv W l'=dv W a*dv W b
 |0,i,l,h,hK,_,_,_,_=>by omega
 |K+1,i,l,h,hK,hl,hd,hz,e=>by
  rw[zS]
  by_cases hi:i<a.length
  ·obtain⟨l1,c,e1,e2,e3,e4,e5,e6,e7⟩:=qjy hb hbl (ha.at hi) (i:=i) (by omega) N 0 l 0 (by omega) (by omega) (by omega) hd (by omega) (by decide)
   have e1:zR b a[i] (i:Int) N l 0 0=some (l1,c):=e1
   have hib:i+b.length<l1.length:=by omega
   have hz1: ∀(m:Nat) z,i+b.length<=m->l1[m]? =some z->z=0:=fun m z hm hx=>hz m z hm (by rw[<-e4 m hm];exact hx)
   rw[if_pos (by omega),qj,Ya hi,ZB,e1,ZB]
   simp only
   rw[show(i:Int)+(b.length:Int)=((i+b.length:Nat):Int)by omega,qD (by omega) (by omega),qj,Ya hib,ZB,jR hib,ZB,zD (by omega)]
   refine qi8 ha hb hal hbl hN K (i+1) _ (by omega) (by omega) (by rw[Yk,e2,hl]) (e3.set ⟨e5,e6⟩) (fun m z hm hx=>qev hz1 m z (by omega) hx) ?_
   rw[qfH hib hz1,qG W a i hi,Int.add_mul,<-e,Int.mul_assoc]
   rw[List.take_zero,jw,Int.mul_zero,Int.mul_zero]at e7
   omega
  rw[if_neg (by omega)]
  have ei:i=a.length:=by omega
  subst ei
  rw[List.take_of_length_le (Nat.le_refl _)]at e
  exact⟨l,rfl,hl,hd,e⟩
theorem qgL {N:Nat} {a b:List Int} (ha:Dg W a) (hb:Dg W b) (hal:a.length<=10000) (hbl:b.length<=10000) (hN:a.length+b.length<N):yn N a b=some (dg W (dv W a*dv W b)):=by
 unfold yn
 rw[show(a.length:Int)+(b.length:Int)=((a.length+b.length:Nat):Int)by omega,qD (by omega) (by omega),qaI (by omega),ZB]
 obtain⟨l,e,h1,h2,h3⟩:=qi8 ha hb hal hbl (N:=N) (by omega) N 0 (List.replicate (a.length+b.length) 0) (by omega) (by omega) (by simp) (Up W0 _) (fun i z _ hz=>by
  rw[List.getElem?_replicate]at hz
  split at hz
  ·injection hz with hz;exact hz.symm
  cases hz) (by rw[xC];simp[dv])
 have e:zS N a b N (List.replicate (a.length+b.length) 0) 0=some l:=e
 rw[e,ZB,qat h2 (by omega) (by omega),ZB,h3]
theorem qjI {b a:Int} {k:Nat} (ha:0<=a) (hb:0<=b) (hk:b<2^k) (h:a*2^k+b<18446744073709551616):orI .u64 b (a*2^k)=a*2^k+b:=by
 rw[<-qii ha hb hk h]
 show IntKind.wrap .u64 _=IntKind.wrap .u64 _
 rw[BitVec.or_comm]
theorem qex {a:List Int} (ha:Dg W a) (hal:a.length<=10000) {s:Nat} (hs:s<=63): ∀(K i:Nat) (l:List Int),i<=a.length->a.length<K+i->l.length=a.length+1->Dg W l->(∀(m:Nat) z,i+1<=m->l[m]? =some z->z=0)->(∀z,l[i]? =some z->z<2^s)->dv W l=dv W (a.take i)*2^s->
 ∃l',zu a (s:Int) K l (i:Int)=some l'/\l'.length=a.length+1/\Dg W l'/\dv W l'=dv W a*2^s
 |0,i,l,h,hK,_,_,_,_,_=>by omega
 |K+1,i,l,h,hK,hl,hd,hz,hlow,e=>by
  rw[zu]
  by_cases hi:i<a.length
  ·have hil:i<l.length:=by omega
   have hil2:i+1<l.length:=by omega
   have ax:=ha.at hi
   have al:=hd.at hil
   have b0:=ax.2
   unfold W at b0
   have hlo:=hlow l[i] (Ya hil)
   have hp:=pow_pos (show(0:Int)<2 by omega) s
   have hp2:=pow_pos (show(0:Int)<2 by omega) (64-s)
   have hpp:(2:Int)^(64-s)*2^s=18446744073709551616:=by
    rw[<-Int.pow_add,show 64-s+s=64 by omega]
    rfl
   have em:a[i]*2^s%18446744073709551616=a[i]%2^(64-s)*2^s:=by
    rw[<-hpp,Int.mul_comm a[i],Int.mul_comm (2^(64-s)),Int.mul_emod_mul_of_pos _ _ hp,Int.mul_comm]
   have r0:0<=a[i]%2^(64-s):=Int.emod_nonneg _ (by omega)
   have r1:a[i]%2^(64-s)<2^(64-s):=Int.emod_lt_of_pos _ hp2
   have q0:0<=a[i]/2^(64-s):=Int.ediv_nonneg ax.1 (Int.le_of_lt hp2)
   have q1:a[i]/2^(64-s)<2^s:=by
    rw[Yu hp2,Int.mul_comm,hpp]
    exact b0
   have hdm:=Int.mul_ediv_add_emod a[i] (2^(64-s))
   have htop:a[i]%2^(64-s)*2^s+l[i]<18446744073709551616:=by
    have:(a[i]%2^(64-s)+1)*2^s<=2^(64-s)*2^s:=Int.mul_le_mul_of_nonneg_right (by omega) (Int.le_of_lt hp)
    rw[hpp,Int.add_mul,Int.one_mul]at this
    omega
   have hq2:(2:Int)^s<W:=by
    have:(2:Int)^s<=2^63:=jT (by omega) hs
    have e63:(2:Int)^63=9223372036854775808:=rfl
    unfold W
    omega
   rw[if_pos (by omega),qj,Ya hi,ZB,qj,Ya hil,ZB,qez (by omega),ZB,em,qjI r0 al.1 hlo htop,jR hil,ZB]
   have hlow0:0<=a[i]%2^(64-s)*2^s:=Yv r0 (Int.le_of_lt hp)
   have eset:dv W (l.set i (a[i]%2^(64-s)*2^s+l[i]))=dv W l+W^i*(a[i]%2^(64-s)*2^s):=by
    rw[qaD W l i _ hil]
    congr 2
    omega
   have efin:W^i*(a[i]%2^(64-s)*2^s)+W^(i+1)*(a[i]/2^(64-s))=W^i*a[i]*2^s:=by
    rw[Int.pow_succ,Int.mul_assoc,Int.mul_assoc,<-Int.mul_add]
    congr 1
    show _+18446744073709551616*_=_
    rw[<-hpp]
    have e6:a[i]*2^s=(2^(64-s)*(a[i]/2^(64-s))+a[i]%2^(64-s))*2^s:=by rw[hdm]
    rw[Int.add_mul,Int.mul_right_comm]at e6
    omega
   by_cases h0:s=0
   ·subst h0
    rw[if_neg (by omega),ZB,zD (by omega)]
    have hq:a[i]/2^(64-0)=0:=by
     have:a[i]/2^(64-0)<1:=q1
     omega
    refine qex ha hal hs K (i+1) _ (by omega) (by omega) (by rw[Yk];exact hl) (hd.set ⟨by omega,htop⟩) (fun m z hm hx=>?_) (fun z hx=>?_) ?_
    ·rw[Yw (by omega)]at hx
     exact hz m z (by omega) hx
    ·rw[Yw (by omega)]at hx
     have:=hz (i+1) z (by omega) hx
     rw[this,Int.pow_zero]
     omega
    rw[eset,e,qG W a i hi,Int.add_mul,<-efin,hq,Int.mul_zero,Int.add_zero]
   have hil3:i+1<(l.set i (a[i]%2^(64-s)*2^s+l[i])).length:=by rw[Yk];exact hil2
   rw[if_pos (by omega),show(64:Int)-(s:Int)=((64-s:Nat):Int)by omega,qD (by omega) (by omega),qdR (by omega),ZB,zD (by omega),qj,Ya hil3,ZB,jR hil3,ZB,ZB]
   have hget:(l.set i (a[i]%2^(64-s)*2^s+l[i]))[i+1]=0:=by
    rw[List.getElem_set_ne (by omega)]
    exact hz (i+1) _ (by omega) (Ya hil2)
   refine qex ha hal hs K (i+1) _ (by omega) (by omega) (by rw[Yk,Yk];exact hl) ((hd.set ⟨by omega,htop⟩).set ⟨q0,by omega⟩) (fun m z hm hx=>?_) (fun z hx=>?_) ?_
   ·rw[Yw (by omega),Yw (by omega)]at hx
    exact hz m z (by omega) hx
   ·rw[List.getElem?_set_self hil3]at hx
    rw[<-Ye hx]
    exact q1
   rw[qaD W _ (i+1) _ hil3,hget,Int.sub_zero,eset,e,qG W a i hi,Int.add_mul,<-efin]
   omega
  rw[if_neg (by omega)]
  have ei:i=a.length:=by omega
  subst ei
  rw[List.take_of_length_le (Nat.le_refl _)]at e
  exact⟨l,rfl,hl,hd,e⟩
theorem qeG {N:Nat} {a:List Int} (ha:Dg W a) (hal:a.length<=10000) {s:Nat} (hs:s<=63) (hN:a.length<N): ∃l,jZ N a (s:Int)=some l/\l.length=a.length+1/\Dg W l/\dv W l=dv W a*2^s:=by
 unfold jZ
 rw[zD (by omega),qaI (by omega),ZB]
 have hz: ∀(m:Nat) z,(List.replicate (a.length+1) (0:Int))[m]? =some z->z=0:=fun m z hz=>by
  rw[List.getElem?_replicate]at hz
  split at hz
  ·injection hz with hz;exact hz.symm
  cases hz
 obtain⟨l,e,h1,h2,h3⟩:=qex ha hal hs N 0 (List.replicate (a.length+1) 0) (by omega) (by omega) (by simp) (Up W0 _) (fun m z _ h=>hz m z h) (fun z h=>by rw[hz 0 z h];exact pow_pos (by omega) s) (by rw[xC];simp[dv])
 have e:zu a (s:Int) N (List.replicate (a.length+1) 0) 0=some l:=e
 rw[e]
 exact⟨l,rfl,h1,h2,h3⟩
end Go.Av
end
section
namespace Go.Av
abbrev E9:Int:=1000000000
theorem E1:(1:Int)<E9:=by decide
theorem E0:(0:Int)<E9:=by decide
theorem qgP {w:List Int} (hl:w.length<=100000): ∀(K m:Nat),m<=w.length->m<K->(∀(i:Nat) x,m<=i->w[i]? =some x->x=0)->
 ∃m':Nat,jO K (w.take m)=some (w.take m')/\m'<=w.length/\(∀x,0<m'->w[m'-1]? =some x->x≠0)/\ ∀(i:Nat) x,m'<=i->w[i]? =some x->x=0
 |0,m,h,hK,_=>by omega
 |K+1,m,h,hK,hz=>by
  have el:(w.take m).length=m:=by rw[Ym];omega
  rw[jO,el]
  by_cases h0:0<m
  ·have hm:m-1<w.length:=by omega
   have e1:(w.take m)[m-1]? =some w[m-1]:=by rw[Yt,if_pos (by omega),Ya hm]
   rw[if_pos (by omega),qfQ (by omega) h0,qj,e1,ZB,ZB]
   by_cases c:w[m-1]=0
   ·rw[decide_eq_true c,if_pos rfl,qcA (by omega),ZB,List.take_take,Nat.min_eq_left (by omega)]
    refine qgP hl K (m-1) (by omega) (by omega) fun i x hi hx=>?_
    rcases Nat.lt_or_ge i m with h1|h1
    ·have e:i=m-1:=by omega
     subst e
     rw[Ya hm]at hx
     rw[<-Ye hx]
     exact c
    exact hz i x h1 hx
   rw[decide_eq_false c,if_neg (by simp)]
   refine⟨m,rfl,h,fun x _ hx=>?_,hz⟩
   rw[Ya hm]at hx
   rw[<-Ye hx]
   exact c
  rw[if_neg (by omega),ZB,if_neg (by simp)]
  exact⟨m,rfl,h,fun x h1=>by omega,hz⟩
theorem qjR {N:Nat} {w:List Int} (hw:Dg E9 w) (hl:w.length<=100000) (hN:w.length<N):qam N w=some (dg E9 (dv E9 w)):=by
 unfold qam
 obtain⟨m,e,h1,h2,h3⟩:=qgP hl N w.length (Nat.le_refl _) hN (fun i x hi hx=>by rw[Yg hi]at hx;cases hx)
 rw[List.take_of_length_le (Nat.le_refl _)]at e
 rw[e,ZB,qh5 E1 hw h1 h2 h3]
def rI (z:Int):vZ:=⟨decide (z<0),dg E9 z.natAbs⟩
theorem qiE {N:Nat} (neg:Bool) {w:List Int} (hw:Dg E9 w) (hl:w.length<=100000) (hN:w.length<N):yS N neg w=some (rI (if neg=true then-dv E9 w else dv E9 w)):=by
 have h0:=zf E0 hw
 have hn:=qhD E1 h0
 unfold yS
 rw[qjR hw hl hN,ZB]
 have hlen:0<(dg E9 (dv E9 w)).length↔0<dv E9 w:=by
  rw[List.length_pos_iff]
  constructor
  ·intro c
   have:dv E9 w≠0:=fun e=>c (hn.2 e)
   omega
  intro c e
  have:=hn.1 e
  omega
 cases neg with
 |true=>
  rw[if_pos rfl,if_pos rfl,ZB]
  unfold rI
  rw[Int.natAbs_neg,show(dv E9 w).natAbs=dv E9 w by omega]
  congr 2
  exact decide_eq_decide.2 (by omega)
 |false=>
  rw[if_neg (by simp),if_neg (by simp),ZB]
  unfold rI
  rw[show((dv E9 w).natAbs:Int)=dv E9 w by omega,decide_eq_false (by omega)]
theorem qjj (l:List Int) {i:Nat} (h:i<l.length):dv E9 (l.drop i)=l[i]+E9*dv E9 (l.drop (i+1)):=by
 rw[List.drop_eq_getElem_cons h,zP]
end Go.Av
end
section
namespace Go.Av
theorem qa0 {p u t:List Int} {m i:Nat} (hi:i<u.length) (hm:u.length<=m):qcS (p++(u++t)) p.length m (i:Int)=some u[i]:=by
 unfold qcS
 rw[if_pos (by omega),Int.toNat_natCast,qj,Yo (by omega),Nat.add_sub_cancel_left,Yf hi,Ya hi]
theorem qdV {p u t:List Int} {i:Nat} (hi:i<u.length) (x:Int):put (p++(u++t)) ((p.length+((i:Nat):Int).toNat:Nat):Int) x=some (p++(u.set i x++t)):=by
 rw[Int.toNat_natCast,jR (by simp;omega)]
 congr 1
 rw[List.set_append_right _ _ (by omega),Nat.add_sub_cancel_left,List.set_append_left _ _ hi]
theorem qjs {p r x:Int} (hp:0<=p) (hx:0<=x/\x<18446744073709551616):(if p/18446744073709551616<r then some true else if p/18446744073709551616=r then some (decide (p%18446744073709551616<=x))else some false:Option Bool)=some (decide (p<=r*18446744073709551616+x)):=by
 have h1:=Int.mul_ediv_add_emod p 18446744073709551616
 have h2:=Int.emod_nonneg p (show(18446744073709551616:Int)≠0 by decide)
 have h3:=Int.emod_lt_of_pos p (show(0:Int)<18446744073709551616 by decide)
 by_cases a:p/18446744073709551616<r
 ·rw[if_pos a,decide_eq_true (by omega)]
 rw[if_neg a]
 by_cases b:p/18446744073709551616=r
 ·rw[if_pos b]
  congr 1
  exact decide_eq_decide.2 (by omega)
 rw[if_neg b,decide_eq_false (by omega)]
theorem qfU {p u t v:List Int} {k:Nat} (hv:Dg W v) (hvl:v.length=k+2) (hk:k<=10000) (hu:Dg W u) (hul:u.length=k+3) {T v1 v2 u2 Q:Int} (e1:v[k+1]'(by omega)=v1) (e2:v[k]'(by omega)=v2) (e3:u[k]'(by omega)=u2) (hQ:Q*(v1*18446744073709551616+v2)<=T*18446744073709551616+u2) (hQ0:0<=Q) (hn:9223372036854775808<=v1): ∀(K:Nat) (q r o:Int),Q<=q->q<18446744073709551616->0<=r->r<18446744073709551616->(o=0\/o=1)->r+o*18446744073709551616=T-q*v1->18446744073709551616<=r+o*18446744073709551616+K*v1->
 ∃q',jE (p++(u++t)) p.length (k+3) v (K+1) q r o=some q'/\Q<=q'/\q'<18446744073709551616/\q'*(v1*18446744073709551616+v2)<=T*18446744073709551616+u2
 |K,q,r,o,h1,h2,h3,h4,h5,h6,h7=>by
  have a1:=hv.at (show k+1<v.length by omega)
  have a2:=hv.at (show k<v.length by omega)
  have a3:=hu.at (show k<u.length by omega)
  rw[e1]at a1
  rw[e2]at a2
  rw[e3]at a3
  unfold W at a1 a2 a3
  have hq0:0<=q:=by omega
  have hp0:0<=q*v2:=Yv hq0 a2.1
  have hp1:q*v2<=18446744073709551615*18446744073709551615:=Int.mul_le_mul (by omega) (by omega) a2.1 (by omega)
  have ed:q*(v1*18446744073709551616+v2)=q*v1*18446744073709551616+q*v2:=by rw[Int.mul_add,Int.mul_assoc]
  rw[jE]
  rcases h5 with rfl|rfl
  ·have ek:w64 ((v.length:Int)-2)=(k:Int):=by rw[qD (by omega) (by omega)];omega
   have ek1:w64 ((v.length:Int)-1)=((k+1:Nat):Int):=by rw[qD (by omega) (by omega)];omega
   rw[if_pos rfl,ek,qj,Ya (show k<v.length by omega),e2,ZB,qcD ⟨hq0,h2⟩ a2,ZB,qa0 (show k<u.length by omega) (by omega),e3]
   simp only[ZB]
   rw[qjs hp0 a3,ZB]
   by_cases c:q*v2<=r*18446744073709551616+u2
   ·rw[decide_eq_true c,if_pos rfl]
    exact⟨q,rfl,h1,h2,by rw[ed];omega⟩
   rw[decide_eq_false c,if_neg (by simp),ek1,qj,Ya (show k+1<v.length by omega),e1,ZB]
   have ea:vP r v1 0=some ((r+v1)%18446744073709551616,(r+v1)/18446744073709551616):=by
    unfold vP
    rw[if_pos (by omega),Int.add_zero]
   have hlt:Q<=q-1:=by
    rcases Int.lt_or_le Q q with h|h
    ·omega
    have e:q=Q:=by omega
    subst e
    rw[ed]at hQ
    omega
   have hm1:(q-1)*v1=q*v1-v1:=by rw[Int.sub_mul,Int.one_mul]
   rw[ea,ZB,jC (by omega) (by omega)]
   match K,h7 with
   |0,h7=>omega
   |K+1,h7=>
    have eK:((K+1:Nat):Int)*v1=K*v1+v1:=by rw[Int.natCast_add,Int.add_mul];simp
    exact qfU hv hvl hk hu hul e1 e2 e3 hQ hQ0 hn K (q-1) _ _ hlt (by omega) (by omega) (by omega) (by omega) (by rw[hm1];omega) (by omega)
  rw[if_neg (by omega)]
  refine⟨q,rfl,h1,h2,?_⟩
  rw[ed]
  omega
theorem qil {v:List Int} (hv:Dg W v) (hvl:v.length<=10000) {q:Int} (hq:0<=q/\q<18446744073709551616) {p t:List Int} (hpl:p.length<=100000) {m:Nat}: ∀(K i:Nat) (u:List Int) (b c:Int),i<=v.length->v.length<K+i->u.length=v.length+1->u.length<=m->Dg W u->0<=b->b<=1->0<=c->c<18446744073709551616->
 ∃u' b' c',je p.length m v q K (p++(u++t)) (i:Int) b c=some (p++(u'++t),b',c')/\u'.length=v.length+1/\Dg W u'/\u'[v.length]? =u[v.length]? /\0<=b'/\b'<=1/\0<=c'/\c'<18446744073709551616/\dv W u'+q*dv W v=dv W u+q*dv W (v.take i)-W^i*(b+c)+W^v.length*(b'+c')
 |0,i,u,b,c,h,hK,_,_,_,_,_,_,_=>by omega
 |K+1,i,u,b,c,h,hK,hul,hum,hu,b0,b1,c0,c1=>by
  rw[je]
  by_cases hi:i<v.length
  ·have av:=hv.at hi
   have hiu:i<u.length:=by omega
   have au:=hu.at hiu
   unfold W at av au
   have hp0:0<=q*v[i]:=Yv hq.1 av.1
   have hp1:q*v[i]<=18446744073709551615*18446744073709551615:=Int.mul_le_mul (by omega) (by omega) av.1 (by omega)
   rw[if_pos (by omega),qj,Ya hi,ZB,qcD hq av,ZB]
   generalize hp:q*v[i]=x at*
   have ea:vP (x%18446744073709551616) c 0=some ((x%18446744073709551616+c)%18446744073709551616,(x%18446744073709551616+c)/18446744073709551616):=by
    unfold vP
    rw[if_pos (by omega),Int.add_zero]
   rw[ea,ZB,qa0 hiu hum,ZB]
   have es:qbL u[i] ((x%18446744073709551616+c)%18446744073709551616) b=some ((u[i]-(x%18446744073709551616+c)%18446744073709551616-b)%18446744073709551616,if u[i]<(x%18446744073709551616+c)%18446744073709551616+b then 1 else 0):=by
    unfold qbL
    rw[if_pos (by omega)]
   simp only
   rw[es,ZB,qdV hiu,ZB,zD (by omega)]
   have hc:IntKind.wrap .u64 (x/18446744073709551616+(x%18446744073709551616+c)/18446744073709551616)=(x+c)/18446744073709551616:=by
    rw[jC (by omega) (by omega)]
    omega
   have hlo:(x%18446744073709551616+c)%18446744073709551616=(x+c)%18446744073709551616:=by omega
   simp only
   rw[hc,hlo]
   have hxc:=Int.mul_ediv_add_emod (x+c) 18446744073709551616
   have m0:=Int.emod_nonneg (x+c) (show(18446744073709551616:Int)≠0 by decide)
   have m1:=Int.emod_lt_of_pos (x+c) (show(0:Int)<18446744073709551616 by decide)
   have k0:0<=(x+c)/18446744073709551616:=by omega
   have k1:(x+c)/18446744073709551616<18446744073709551616:=by omega
   generalize (x+c)/18446744073709551616=c2 at*
   generalize (x+c)%18446744073709551616=lo at*
   have hs:(u[i]-lo-b)%18446744073709551616=u[i]-lo-b+18446744073709551616*(if u[i]<lo+b then 1 else 0):=by split<;>omega
   have n0:=Int.emod_nonneg (u[i]-lo-b) (show(18446744073709551616:Int)≠0 by decide)
   have n1:=Int.emod_lt_of_pos (u[i]-lo-b) (show(0:Int)<18446744073709551616 by decide)
   have q2:(0:Int)<=(if u[i]<lo+b then 1 else 0)/\(if u[i]<lo+b then(1:Int)else 0)<=1:=by split<;>omega
   generalize (if u[i]<lo+b then(1:Int)else 0)=b2 at*
   generalize (u[i]-lo-b)%18446744073709551616=un at*
   obtain⟨u',b',c',f1,f2,f3,f4,f5,f6,f7,f8,f9⟩:=qil hv hvl hq hpl K (i+1) (u.set i un) b2 c2 (by omega) (by omega) (by rw[Yk];exact hul) (by rw[Yk];exact hum) (hu.set ⟨n0,n1⟩) q2.1 q2.2 k0 k1
   refine⟨u',b',c',f1,f2,f3,by rw[f4,Yw (by omega)],f5,f6,f7,f8,?_⟩
   rw[f9,qaD W u i un hiu,qG W v i hi,Int.mul_add q,<-Int.mul_assoc q,Int.mul_comm q (W^i),Int.mul_assoc (W^i) q,hp,Int.pow_succ,Int.mul_assoc (W^i) W]
   have e5:W^i*(un-u[i])+W^i*x-W^i*(W*(b2+c2))= -(W^i*(b+c)):=by
    rw[<-Int.mul_add,<-Int.mul_sub,<-Int.mul_neg]
    congr 1
    unfold W
    omega
   omega
  rw[if_neg (by omega)]
  have ei:i=v.length:=by omega
  subst ei
  rw[List.take_of_length_le (Nat.le_refl _)]
  exact⟨u,b,c,rfl,hul,hu,rfl,b0,b1,c0,c1,by omega⟩
theorem qh6 {v:List Int} (hv:Dg W v) (hvl:v.length<=10000) {p t:List Int} (hpl:p.length<=100000) {m:Nat}: ∀(K i:Nat) (u:List Int) (c:Int),i<=v.length->v.length<K+i->u.length=v.length+1->u.length<=m->Dg W u->0<=c->c<=1->
 ∃u' c',jk p.length m v K (p++(u++t)) (i:Int) c=some (p++(u'++t),c')/\u'.length=v.length+1/\Dg W u'/\u'[v.length]? =u[v.length]? /\0<=c'/\c'<=1/\dv W u'+W^v.length*c'=dv W u+dv W v-dv W (v.take i)+W^i*c
 |0,i,u,c,h,hK,_,_,_,_,_=>by omega
 |K+1,i,u,c,h,hK,hul,hum,hu,c0,c1=>by
  rw[jk]
  by_cases hi:i<v.length
  ·have av:=hv.at hi
   have hiu:i<u.length:=by omega
   have au:=hu.at hiu
   unfold W at av au
   rw[if_pos (by omega),qa0 hiu hum,ZB,qj,Ya hi,ZB]
   have ea:vP u[i] v[i] c=some ((u[i]+v[i]+c)%18446744073709551616,(u[i]+v[i]+c)/18446744073709551616):=by
    unfold vP
    rw[if_pos (by omega)]
   rw[ea,ZB,qdV hiu,ZB,zD (by omega)]
   have hs:=Int.mul_ediv_add_emod (u[i]+v[i]+c) 18446744073709551616
   have m0:=Int.emod_nonneg (u[i]+v[i]+c) (show(18446744073709551616:Int)≠0 by decide)
   have m1:=Int.emod_lt_of_pos (u[i]+v[i]+c) (show(0:Int)<18446744073709551616 by decide)
   have k0:0<=(u[i]+v[i]+c)/18446744073709551616/\(u[i]+v[i]+c)/18446744073709551616<=1:=by omega
   simp only
   generalize (u[i]+v[i]+c)/18446744073709551616=c2 at*
   generalize (u[i]+v[i]+c)%18446744073709551616=un at*
   obtain⟨u',c',f1,f2,f3,f4,f5,f6,f7⟩:=qh6 hv hvl hpl K (i+1) (u.set i un) c2 (by omega) (by omega) (by rw[Yk];exact hul) (by rw[Yk];exact hum) (hu.set ⟨m0,m1⟩) k0.1 k0.2
   refine⟨u',c',f1,f2,f3,by rw[f4,Yw (by omega)],f5,f6,?_⟩
   rw[f7,qaD W u i un hiu,qG W v i hi,Int.pow_succ,Int.mul_assoc (W^i) W]
   have e5:W^i*(un-u[i])-W^i*v[i]+W^i*(W*c2)=W^i*c:=by
    rw[<-Int.mul_sub,<-Int.mul_add]
    congr 1
    unfold W
    omega
   omega
  rw[if_neg (by omega)]
  have ei:i=v.length:=by omega
  subst ei
  rw[List.take_of_length_le (Nat.le_refl _)]
  exact⟨u,c,rfl,hul,hu,rfl,c0,c1,by omega⟩
theorem qgU {P ulo vlo T3 V2 U V Q q v1 v2:Int} (hP:0<P) (eU:U=ulo+P*T3) (eV:V=vlo+P*V2) (hu:0<=ulo/\ulo<P) (hv:0<=vlo/\vlo<P) (e2:V2=v1*18446744073709551616+v2) (h1:1<=v1) (h2:0<=v2) (hU:0<=U) (eQ:Q=U/V):0<V/\Q*V2<=T3/\(0<=q->q<18446744073709551616->q*V2<=T3->q<=Q+1):=by
 have hPW:P*18446744073709551616<=P*V2:=Yc (by omega) (by omega)
 have hV:0<V:=by omega
 have q0:0<=Q:=by rw[eQ];exact Int.ediv_nonneg hU (by omega)
 have q1:Q*V<=U:=by rw[eQ];exact Int.ediv_mul_le U (by omega)
 have q2:U<(Q+1)*V:=by
  rw[eQ]
  exact Int.lt_ediv_add_one_mul_self U hV
 refine⟨hV,?_,fun a b c=>?_⟩
 ·rcases Int.lt_or_le T3 (Q*V2)with h|h
  ·exfalso
   have a1:P*(T3+1)<=P*(Q*V2):=Yc (by omega) (by omega)
   have a2:P*(Q*V2)<=Q*V:=by
    rw[eV,Int.mul_add]
    have:P*(Q*V2)=Q*(P*V2):=by rw[<-Int.mul_assoc,Int.mul_comm P Q,Int.mul_assoc]
    have:=Yv q0 hv.1
    omega
   rw[Int.mul_add,Int.mul_one]at a1
   omega
  exact h
 have a1:q*V=q*vlo+P*(q*V2):=by
  rw[eV,Int.mul_add]
  congr 1
  rw[<-Int.mul_assoc,Int.mul_comm q P,Int.mul_assoc]
 have a2:P*(q*V2)<=P*T3:=Yc c (by omega)
 have a3:q*vlo<=18446744073709551615*P:=Int.mul_le_mul (by omega) (by omega) hv.1 (by omega)
 have a4:q*V<(Q+2)*V:=by
  rw[Int.add_mul]
  rw[Int.add_mul]at q2
  omega
 have:=Int.lt_of_mul_lt_mul_right a4 (by omega)
 omega
theorem qlb {N:Nat} (hN:11000<N) {p u t v:List Int} {k c:Nat} (hv:Dg W v) (hvl:v.length=k+2) (hk:k<=9000) (hu:Dg W u) (hul:u.length=k+3) (hpl:p.length<=100000) (hn:9223372036854775808<=v[k+1]'(by omega)) (hlt:dv W u<18446744073709551616*dv W v):
 ∃u',xB N (p++(u++t)) p.length (k+3) c v=some (p++(u'++t),dv W u/dv W v)/\u'.length=k+3/\Dg W u'/\dv W u'=dv W u%dv W v:=by
 have a1:=hv.at (show k+1<v.length by omega)
 have a2:=hv.at (show k<v.length by omega)
 have b0:=hu.at (show k+2<u.length by omega)
 have b1:=hu.at (show k+1<u.length by omega)
 have b2:=hu.at (show k<u.length by omega)
 have eV:dv W v=dv W (v.take k)+W^k*(v[k+1]*18446744073709551616+v[k]):=by
  have e1:=qG W v (k+1) (by omega)
  have e2:=qG W v k (by omega)
  rw[List.take_of_length_le (by omega),e2,Int.pow_succ,Int.mul_assoc]at e1
  rw[e1,Int.mul_add,Int.mul_comm v[k+1]]
  show _=_+(W^k*(W*v[k+1])+_)
  omega
 have eU:dv W u=dv W (u.take k)+W^k*((u[k+2]*18446744073709551616+u[k+1])*18446744073709551616+u[k]):=by
  have e0:=qG W u (k+2) (by omega)
  have e1:=qG W u (k+1) (by omega)
  have e2:=qG W u k (by omega)
  have p1:W^(k+1)=W^k*W:=Int.pow_succ _ _
  have p2:W^(k+2)=W^k*W*W:=by rw[<-p1];exact Int.pow_succ _ _
  rw[List.take_of_length_le (by omega),e1,e2,p2,p1]at e0
  have e3:(u[k+2]*18446744073709551616+u[k+1])*18446744073709551616+u[k]=u[k]+W*u[k+1]+W*(W*u[k+2]):=by unfold W;omega
  rw[e0,e3,Int.mul_add,Int.mul_add]
  simp only[Int.mul_assoc]
  omega
 have vlo0:=zf W0 (hv.take k)
 have vlo1:=xL W0 (hv.take k)
 have ulo0:=zf W0 (hu.take k)
 have ulo1:=xL W0 (hu.take k)
 rw[Ym,Nat.min_eq_left (by omega)]at vlo1 ulo1
 have U0:=zf W0 hu
 have hP:=pow_pos W0 k
 have DF:=fun q=>qgU (q:=q) hP eU eV ⟨ulo0,ulo1⟩ ⟨vlo0,vlo1⟩ rfl (by omega) a2.1 U0 rfl
 have V0:=(DF 0).1
 have hQ0:0<=dv W u/dv W v:=Int.ediv_nonneg U0 (by omega)
 have hQ1:dv W u/dv W v<18446744073709551616:=by rw[Yu V0];exact hlt
 have hQ2:=(DF 0).2.1
 generalize hQ:dv W u/dv W v=Q at*
 unfold W at a1 a2 b0 b1 b2
 have ek:w64 ((v.length:Int)-1)=((k+1:Nat):Int):=by rw[qD (by omega) (by omega)];omega
 have el:(v.length:Int)=((k+2:Nat):Int):=by rw[hvl]
 unfold xB
 rw[ek,el,qa0 (show k+2<u.length by omega) (by omega),ZB,qj,Ya (show k+1<v.length by omega),ZB,qa0 (show k+1<u.length by omega) (by omega)]
 simp only[ZB]
 have G: ∃q r o:Int,(if u[k+2]>=v[k+1]then(vP u[k+1] v[k+1] 0).bind fun r11=>some (18446744073709551615,r11.1,r11.2)else(yL N u[k+2] u[k+1] v[k+1]).bind fun r14=>some (r14.1,r14.2,0):Option (Int×Int×Int))=some (q,r,o)/\Q<=q/\q<18446744073709551616/\0<=r/\r<18446744073709551616/\(o=0\/o=1)/\r+o*18446744073709551616=(u[k+2]*18446744073709551616+u[k+1])-q*v[k+1]:=by
  by_cases h:u[k+2]>=v[k+1]
  ·have he:u[k+2]=v[k+1]:=by
    rcases Int.lt_or_le v[k+1] u[k+2]with g|g
    ·exfalso
     have g1:W^k*((v[k+1]*18446744073709551616+v[k]+1)*18446744073709551616)<=W^k*((u[k+2]*18446744073709551616+u[k+1])*18446744073709551616+u[k]):=Yc (by omega) (by omega)
     rw[<-Int.mul_assoc,Int.mul_add (W^k) _ 1]at g1
     omega
    omega
   have ea:vP u[k+1] v[k+1] 0=some ((u[k+1]+v[k+1])%18446744073709551616,(u[k+1]+v[k+1])/18446744073709551616):=by
    unfold vP
    rw[if_pos (by omega),Int.add_zero]
   rw[if_pos h,ea,ZB]
   exact⟨_,_,_,rfl,by omega,by omega,by omega,by omega,by omega,by omega⟩
  rw[if_neg h,qgD (by omega) b0.1 (by omega) a1.2 b1,ZB]
  have d1:=Int.mul_ediv_add_emod (u[k+2]*18446744073709551616+u[k+1]) v[k+1]
  have d2:=Int.emod_nonneg (u[k+2]*18446744073709551616+u[k+1]) (show v[k+1]≠0 by omega)
  have d3:=Int.emod_lt_of_pos (u[k+2]*18446744073709551616+u[k+1]) (show 0<v[k+1]by omega)
  have d4:(u[k+2]*18446744073709551616+u[k+1])/v[k+1]<18446744073709551616:=by
   rw[Yu (by omega)]
   omega
  refine⟨_,_,_,rfl,?_,d4,d2,by omega,.inl rfl,by rw[Int.mul_comm (_/_)];omega⟩
  rw[Int.le_ediv_iff_mul_le (by omega)]
  have e:Q*(v[k+1]*18446744073709551616+v[k])=Q*v[k+1]*18446744073709551616+Q*v[k]:=by rw[Int.mul_add,Int.mul_assoc]
  have:=Yv hQ0 a2.1
  omega
 obtain⟨q,r,o,e,g1,g2,g3,g4,g5,g6⟩:=G
 rw[e,ZB]
 simp only
 obtain⟨K,rfl⟩: ∃K,N=K+1:=⟨N-1,by omega⟩
 have hKv:(18446744073709551616:Int)<=r+o*18446744073709551616+K*v[k+1]:=by
  have:(2:Int)*v[k+1]<=K*v[k+1]:=Int.mul_le_mul_of_nonneg_right (by omega) (by omega)
  omega
 obtain⟨q',f1,f2,f3,f4⟩:=qfU (p:=p) (t:=t) hv hvl (by omega) hu hul rfl rfl rfl hQ2 hQ0 hn K q r o g1 g2 g3 g4 g5 g6 hKv
 rw[f1,ZB]
 have hle:=(DF q').2.2 (by omega) f3 f4
 obtain⟨u',b',c',m1,m2,m3,m4,m5,m6,m7,m8,m9⟩:=qil hv (by omega) (q:=q') ⟨by omega,f3⟩ (p:=p) (t:=t) hpl (m:=k+3) (K+1) 0 u 0 0 (by omega) (by omega) (by omega) (by omega) hu (by omega) (by omega) (by omega) (by omega)
 have m1:je p.length (k+3) v q' (K+1) (p++(u++t)) 0 0 0=some (p++(u'++t),b',c'):=m1
 rw[m1,ZB]
 simp only
 have hku':k+2<u'.length:=by omega
 have eu:u'[k+2]=u[k+2]:=by
  rw[hvl,Ya hku',Ya (show k+2<u.length by omega)]at m4
  injection m4
 have es:qbL u'[k+2] c' b'=some ((u'[k+2]-c'-b')%18446744073709551616,if u'[k+2]<c'+b' then 1 else 0):=by
  unfold qbL
  rw[if_pos (by omega)]
 rw[qa0 hku' (by omega),ZB,es,ZB,qdV hku',ZB]
 simp only
 have n0:=Int.emod_nonneg (u'[k+2]-c'-b') (show(18446744073709551616:Int)≠0 by decide)
 have n1:=Int.emod_lt_of_pos (u'[k+2]-c'-b') (show(0:Int)<18446744073709551616 by decide)
 have hs:(u'[k+2]-c'-b')%18446744073709551616=u'[k+2]-c'-b'+18446744073709551616*(if u'[k+2]<c'+b' then 1 else 0):=by split<;>omega
 have hset:=qaD W u' (k+2) ((u'[k+2]-c'-b')%18446744073709551616) hku'
 have dset:Dg W (u'.set (k+2) ((u'[k+2]-c'-b')%18446744073709551616)):=m3.set ⟨n0,n1⟩
 have lset:(u'.set (k+2) ((u'[k+2]-c'-b')%18446744073709551616)).length=k+3:=by rw[Yk];omega
 have bset:=xL W0 dset
 have bset0:=zf W0 dset
 rw[lset]at bset
 rw[List.take_zero,jw,Int.mul_zero,hvl]at m9
 simp only[Int.pow_zero]at m9
 have hWk:W^(k+3)=W^(k+2)*18446744073709551616:=Int.pow_succ _ _
 have tot:dv W (u'.set (k+2) ((u'[k+2]-c'-b')%18446744073709551616))=dv W u-q'*dv W v+W^(k+3)*(if u'[k+2]<c'+b' then 1 else 0):=by
  rw[hset,hs,hWk,Int.mul_assoc]
  have e5:W^(k+2)*(u'[k+2]-c'-b'+18446744073709551616*(if u'[k+2]<c'+b' then 1 else 0)-u'[k+2])=W^(k+2)*(18446744073709551616*(if u'[k+2]<c'+b' then 1 else 0))-W^(k+2)*(b'+c'):=by
   rw[<-Int.mul_sub]
   congr 1
   omega
  rw[e5]
  omega
 generalize u'.set (k+2) ((u'[k+2]-c'-b')%18446744073709551616)=u2 at*
 have hmod:dv W u%dv W v=dv W u-Q*dv W v:=by rw[<-hQ,Int.emod_def,Int.mul_comm]
 have hm0:=Int.emod_nonneg (dv W u) (show dv W v≠0 by omega)
 have hm1:=Int.emod_lt_of_pos (dv W u) V0
 have hVk:dv W v<W^(k+2):=by have:=xL W0 hv;rw[hvl]at this;exact this
 have hPk:=pow_pos W0 (k+2)
 by_cases hq:q'=Q
 ·subst hq
  have hb: ¬u'[k+2]<c'+b':=by
   intro h
   rw[if_pos h,Int.mul_one]at tot
   omega
  rw[if_neg hb]at tot
  rw[if_neg hb,if_pos rfl]
  exact⟨u2,rfl,lset,dset,by omega⟩
 have hq1:q'=Q+1:=by omega
 have hqm:q'*dv W v=Q*dv W v+dv W v:=by rw[hq1,Int.add_mul,Int.one_mul]
 have hb:u'[k+2]<c'+b':=by
  rcases Int.lt_or_le u'[k+2] (c'+b')with h|h
  ·exact h
  rw[if_neg (by omega)]at tot
  omega
 rw[if_pos hb]at tot
 rw[if_pos hb,if_neg (by omega)]
 obtain⟨u3,c3,a1',a2',a3',a4',a5',a6',a7'⟩:=qh6 hv (by omega) (p:=p) (t:=t) hpl (m:=k+3) (K+1) 0 u2 0 (by omega) (by omega) (by omega) (by omega) dset (by omega) (by omega)
 have a1':jk p.length (k+3) v (K+1) (p++(u2++t)) 0 0=some (p++(u3++t),c3):=a1'
 have hk3:k+2<u3.length:=by omega
 rw[a1',ZB]
 simp only
 rw[qa0 hk3 (by omega),ZB,qdV hk3,ZB,wu,jC (n:=q'-1) (by omega) (by omega)]
 have au:=a3'.at hk3
 unfold W at au
 have r0:=Int.emod_nonneg (u3[k+2]+c3) (show(18446744073709551616:Int)≠0 by decide)
 have r1:=Int.emod_lt_of_pos (u3[k+2]+c3) (show(0:Int)<18446744073709551616 by decide)
 refine⟨_,by rw[hq1,Int.add_sub_cancel],by rw[Yk];omega,a3'.set ⟨r0,r1⟩,?_⟩
 have dfin:=qaD W u3 (k+2) ((u3[k+2]+c3)%18446744073709551616) hk3
 have dd:Dg W (u3.set (k+2) ((u3[k+2]+c3)%18446744073709551616)):=a3'.set ⟨r0,r1⟩
 have l1:=xL W0 dd
 have l0:=zf W0 dd
 rw[Yk,a2',hvl]at l1
 have l1:_<W^(k+3):=l1
 rw[List.take_zero,jw,hvl]at a7'
 simp only[Int.pow_zero]at a7'
 have hd:(u3[k+2]+c3)%18446744073709551616=u3[k+2]+c3-18446744073709551616*((u3[k+2]+c3)/18446744073709551616):=by omega
 have hd1:0<=(u3[k+2]+c3)/18446744073709551616/\(u3[k+2]+c3)/18446744073709551616<=1:=by omega
 have e6:W^(k+2)*((u3[k+2]+c3)%18446744073709551616-u3[k+2])=W^(k+2)*c3-W^(k+3)*((u3[k+2]+c3)/18446744073709551616):=by
  rw[hWk,Int.mul_assoc,<-Int.mul_sub]
  congr 1
  omega
 rw[dfin]at l0 l1⊢
 rw[e6]at l0 l1⊢
 generalize (u3[k+2]+c3)/18446744073709551616=z at*
 rcases(show z=0\/z=1 by omega)with rfl|rfl<;>omega
end Go.Av
end
section
namespace Go.Av
end Go.Av
end
section
namespace Go.Av
theorem rep0 {n m:Nat} {z:Int} (h:(List.replicate n (0:Int))[m]? =some z):z=0:=List.eq_of_mem_replicate (Yn h)
theorem qdU (l:List Int) {i:Nat} (h:i<l.length):dv W (l.drop i)=l[i]+W*dv W (l.drop (i+1)):=by
 rw[List.drop_eq_getElem_cons h,zP]
theorem qh1 {l:List Int} {k:Nat} {v:Int} (hk:k<l.length) (h: ∀(i:Nat) x,i<=k->l[i]? =some x->x=0):dv W (l.set k v)=dv W l+W^k*v:=by
 rw[qaD W l k v hk,h k l[k] (Nat.le_refl _) (Ya hk),Int.sub_zero]
theorem qjv {N:Nat} (hN:5<=N) {a b:List Int} (ha:Dg W a) (hal:a.length<=10000) {d:Int} (hb:b[0]? =some d) (d0:0<d) (d1:d<18446744073709551616): ∀(K i:Nat) (l:List Int) (r:Int),i<=a.length->i<K->l.length=a.length->Dg W l->(∀(m:Nat) x,m<i->l[m]? =some x->x=0)->dv W l=W^i*(dv W (a.drop i)/d)->r=dv W (a.drop i)%d->
 ∃l',jA N a b K l r ((i:Int)-1)=some (l',dv W a%d)/\l'.length=a.length/\Dg W l'/\dv W l'=dv W a/d
 |0,i,l,r,h,hK,_,_,_,_,_=>by omega
 |K+1,0,l,r,h,hK,hl,hd,hz,e,er=>by
  rw[List.drop_zero]at e er
  rw[jA,if_neg (by omega),er]
  exact⟨l,rfl,hl,hd,by rw[e];simp⟩
 |K+1,i+1,l,r,h,hK,hl,hd,hz,e,er=>by
  have hi:i<a.length:=by omega
  have hil:i<l.length:=by omega
  have ax:=ha.at hi
  unfold W at ax
  have r0:0<=r:=by rw[er];exact Int.emod_nonneg _ (by omega)
  have r1:r<d:=by rw[er];exact Int.emod_lt_of_pos _ d0
  have ei:((i+1:Nat):Int)-1=(i:Int):=by omega
  rw[jA,ei,if_pos (by omega),qj,Ya hi,ZB,qlZ,hb,ZB,qgD hN r0 r1 d1 ax,ZB,qj,Ya hil,ZB,jR hil,ZB]
  simp only
  rw[qD (by omega) (by omega)]
  have ed:dv W (a.drop i)=r*18446744073709551616+a[i]+d*(dv W (a.drop (i+1))/d*18446744073709551616):=by
   have h1:=Int.mul_ediv_add_emod (dv W (a.drop (i+1))) d
   rw[<-er]at h1
   rw[qdU a hi,<-Int.mul_assoc,show W*dv W (a.drop (i+1))=18446744073709551616*dv W (a.drop (i+1))from rfl]
   generalize d*(dv W (a.drop (i+1))/d)=m at*
   omega
  have q0:0<=(r*18446744073709551616+a[i])/d:=Int.ediv_nonneg (by omega) (by omega)
  have q1:(r*18446744073709551616+a[i])/d<18446744073709551616:=by
   rw[Yu d0]
   have:(r+1)*18446744073709551616<=d*18446744073709551616:=Int.mul_le_mul_of_nonneg_right (by omega) (by omega)
   rw[Int.mul_comm 18446744073709551616]
   omega
  refine qjv hN ha hal hb d0 d1 K i _ _ (by omega) (by omega) (by rw[Yk];exact hl) (hd.set ⟨q0,q1⟩) (fun m x hm hx=>?_) ?_ ?_
  ·rw[Yw (by omega)]at hx
   exact hz m x (by omega) hx
  ·rw[qh1 hil (fun m x hm hx=>hz m x (by omega) hx),e,ed,Int.add_mul_ediv_left _ _ (by omega),Int.pow_succ,Int.mul_assoc,<-Int.mul_add]
   congr 1
   show 18446744073709551616*_+_=_
   omega
  rw[ed,Int.add_mul_emod_self_left]
theorem qbD {l:List Int} (h:Dg W l) {n:Nat} (hl:dv W l<W^n):dv W (l.drop n)=0:=by
 by_cases hn:n<=l.length
 ·have e:=qae W l n hn
  have h1:=zf W0 (h.take n)
  have h2:=zf W0 (h.drop n)
  rcases Int.lt_or_le 0 (dv W (l.drop n))with c|c
  ·have:=Yc (show 1<=dv W (l.drop n)by omega) (Int.le_of_lt (pow_pos W0 n))
   omega
  omega
 rw[List.drop_of_length_le (by omega),jw]
theorem qhJ {N:Nat} (hN:11000<N) {v:List Int} {k:Nat} (hv:Dg W v) (hvl:v.length=k+2) (hk:k<=9000) (hn:9223372036854775808<=v[k+1]'(by omega)) {A:Int} {m:Nat} (hm:m<=9000): ∀(K i:Nat) (l qs:List Int),i<=m+1->i<K->l.length=m+k+3->qs.length=m+1->Dg W l->Dg W qs->(∀(j:Nat) x,j<i->qs[j]? =some x->x=0)->dv W (l.drop i)<dv W v->dv W l+dv W v*dv W qs=A->
 ∃l' qs',jD N v K l qs ((i:Int)-1)=some (l',qs')/\l'.length=m+k+3/\qs'.length=m+1/\Dg W l'/\Dg W qs'/\dv W l'<dv W v/\dv W l'+dv W v*dv W qs'=A
 |0,i,l,qs,h,hK,_,_,_,_,_,_,_=>by omega
 |K+1,0,l,qs,h,hK,hl,hql,hd,hqd,hz,hlt,e=>by
  rw[jD,if_neg (by omega)]
  exact⟨l,qs,rfl,hl,hql,hd,hqd,hlt,e⟩
 |K+1,i+1,l,qs,h,hK,hl,hql,hd,hqd,hz,hlt,e=>by
  have hil:i<l.length:=by omega
  have hiq:i<qs.length:=by omega
  have ei:((i+1:Nat):Int)-1=(i:Int):=by omega
  have V1:=xL W0 hv
  rw[hvl]at V1
  have V0:0<dv W v:=by
   have:=zf W0 (hd.drop (i+1))
   omega
  have lp:(l.take i).length=i:=by rw[Ym];omega
  have lu:((l.drop i).take (k+3)).length=k+3:=by rw[Ym,List.length_drop];omega
  have el:l=l.take i++((l.drop i).take (k+3)++(l.drop i).drop (k+3)):=by rw[List.take_append_drop,List.take_append_drop]
  have hu:=(hd.drop i).take (k+3)
  have ht:dv W ((l.drop i).drop (k+3))=0:=by
   have:=qbD (hd.drop (i+1)) (n:=k+2) (by omega)
   rw[List.drop_drop]at this⊢
   rw[show i+(k+3)=i+1+(k+2)by omega]
   exact this
  have eu:dv W ((l.drop i).take (k+3))=dv W (l.drop i):=by
   have:=qac W ((l.drop i).take (k+3)) ((l.drop i).drop (k+3))
   rw[List.take_append_drop,ht,Int.mul_zero,Int.add_zero]at this
   exact this.symm
  have hUlt:dv W ((l.drop i).take (k+3))<18446744073709551616*dv W v:=by
   rw[eu,qdU l hil]
   have:=(hd.at hil).2
   have:W*(dv W (l.drop (i+1))+1)<=W*dv W v:=Yc (by omega) (by decide)
   rw[Int.mul_add,Int.mul_one]at this
   show _<W*dv W v
   omega
  have ew:win l (i:Int) (w64 (w64 ((i:Int)+(v.length:Int))+1))=some (i,k+3):=by
   rw[qD (n:=(i:Int)+(v.length:Int)) (by omega) (by omega),qD (by omega) (by omega)]
   unfold win
   rw[if_pos (by omega)]
   congr 2
   omega
  obtain⟨u',s1,s2,s3,s4⟩:=qlb hN (p:=l.take i) (t:=(l.drop i).drop (k+3)) (c:=l.length-i) hv hvl hk hu lu (by omega) hn hUlt
  rw[lp,<-el]at s1
  rw[jD,ei,if_pos (by omega),ew,ZB]
  simp only
  rw[s1,ZB]
  simp only
  have hlen:l.length=(l.take i++(u'++(l.drop i).drop (k+3))).length:=by
   simp only[Yq,Ym,List.length_drop]
   omega
  rw[if_pos hlen,ZB,qj,Ya hiq,ZB,jR hiq,ZB,qD (by omega) (by omega)]
  have hU0:=zf W0 hu
  have Q0:0<=dv W ((l.drop i).take (k+3))/dv W v:=Int.ediv_nonneg hU0 (by omega)
  have Q1:dv W ((l.drop i).take (k+3))/dv W v<W:=by rw[Yu V0];exact hUlt
  have hR:=Int.emod_lt_of_pos (dv W ((l.drop i).take (k+3))) V0
  have hdm:=Int.mul_ediv_add_emod (dv W ((l.drop i).take (k+3))) (dv W v)
  have hdrop:(l.take i++(u'++(l.drop i).drop (k+3))).drop i=u'++(l.drop i).drop (k+3):=by
   rw[List.drop_append_of_le_length (by omega),List.drop_of_length_le (by omega),List.nil_append]
  have hdn:dv W (u'++(l.drop i).drop (k+3))=dv W u':=by rw[qac,ht,Int.mul_zero,Int.add_zero]
  refine qhJ hN hv hvl hk hn hm K i _ _ (by omega) (by omega) ?_ (by rw[Yk];exact hql) ((hd.take i).append (s3.append ((hd.drop i).drop _))) (hqd.set ⟨Q0,Q1⟩) (fun j x hj hx=>?_) ?_ ?_
  ·rw[Yq,Yq,lp,s2,List.length_drop,List.length_drop]
   omega
  ·rw[Yw (by omega)]at hx
   exact hz j x (by omega) hx
  ·rw[hdrop,hdn,s4]
   exact hR
  rw[qh1 hiq (fun j x hj hx=>hz j x (by omega) hx),qac,lp,hdn,s4,Int.mul_add]
  have e1:=qae W l i (by omega)
  rw[<-eu]at e1
  have e2:W^i*dv W ((l.drop i).take (k+3))=W^i*(dv W v*(dv W ((l.drop i).take (k+3))/dv W v))+W^i*(dv W ((l.drop i).take (k+3))%dv W v):=by rw[<-Int.mul_add,hdm]
  have e3:dv W v*(W^i*(dv W ((l.drop i).take (k+3))/dv W v))=W^i*(dv W v*(dv W ((l.drop i).take (k+3))/dv W v)):=Int.mul_left_comm _ _ _
  rw[e3]
  omega
theorem qhW {o v:List Int} (ho:Dg W o) {s:Nat} (hs:s<=63) (hvo:v.length<o.length) (hol:o.length<=100000) {z:Int} (hz:z=(o[0]'(by omega))%2^s): ∀(K i:Nat) (l:List Int),i<=v.length->v.length<K+i->l.length=o.length->Dg W l->(∀(m:Nat),i<=m->l[m]? =o[m]?)->dv W (l.take i)*2^s=dv W (o.take i)-z+W^i*((o[i]?.getD 0)%2^s)->
 ∃l',jd (s:Int) v K l (i:Int)=some l'/\l'.length=o.length/\Dg W l'/\dv W (l'.take v.length)*2^s=dv W (o.take v.length)-z+W^v.length*((o[v.length]?.getD 0)%2^s)
 |0,i,l,h,hK,_,_,_,_=>by omega
 |K+1,i,l,h,hK,hl,hd,hsame,e=>by
  rw[jd]
  by_cases hi:i<v.length
  ·have hil:i<l.length:=by omega
   have hil1:i+1<l.length:=by omega
   have hio:i<o.length:=by omega
   have hio1:i+1<o.length:=by omega
   have ax:=ho.at hio
   have ay:=ho.at hio1
   unfold W at ax ay
   have el0:l[i]=o[i]:=by
    have:=hsame i (Nat.le_refl _)
    rw[Ya hil,Ya hio]at this
    injection this
   have el1:l[i+1]=o[i+1]:=by
    have:=hsame (i+1) (by omega)
    rw[Ya hil1,Ya hio1]at this
    injection this
   have hp:=pow_pos (show(0:Int)<2 by omega) s
   have hp2:=pow_pos (show(0:Int)<2 by omega) (64-s)
   have hpp:(2:Int)^s*2^(64-s)=18446744073709551616:=by
    rw[<-Int.pow_add,show s+(64-s)=64 by omega]
    rfl
   have q0:0<=o[i]/2^s:=Int.ediv_nonneg ax.1 (Int.le_of_lt hp)
   have q1:o[i]/2^s<2^(64-s):=by
    rw[Yu hp,Int.mul_comm,hpp]
    exact ax.2
   have r0:0<=o[i+1]%2^s:=Int.emod_nonneg _ (by omega)
   have r1:o[i+1]%2^s<2^s:=Int.emod_lt_of_pos _ hp
   have hdm:=Int.mul_ediv_add_emod o[i] (2^s)
   have htop:o[i+1]%2^s*2^(64-s)+o[i]/2^s<18446744073709551616:=by
    have:(o[i+1]%2^s+1)*2^(64-s)<=2^s*2^(64-s):=Int.mul_le_mul_of_nonneg_right (by omega) (Int.le_of_lt hp2)
    rw[hpp,Int.add_mul,Int.one_mul]at this
    omega
   have hlow0:0<=o[i+1]%2^s*2^(64-s):=Yv r0 (Int.le_of_lt hp2)
   have efin:(o[i+1]%2^s*2^(64-s)+o[i]/2^s)*2^s=18446744073709551616*(o[i+1]%2^s)+o[i]-o[i]%2^s:=by
    rw[Int.add_mul,Int.mul_assoc,Int.mul_comm (2^(64-s)),hpp,Int.mul_comm (o[i]/2^s)]
    omega
   have fin: ∀l2:List Int,l2=l.set i (o[i+1]%2^s*2^(64-s)+o[i]/2^s)-> ∃l',jd (s:Int) v K l2 ((i+1:Nat):Int)=some l'/\l'.length=o.length/\Dg W l'/\dv W (l'.take v.length)*2^s=dv W (o.take v.length)-z+W^v.length*((o[v.length]?.getD 0)%2^s):=by
    rintro l2 rfl
    refine qhW ho hs hvo hol hz K (i+1) _ (by omega) (by omega) (by rw[Yk];exact hl) (hd.set ⟨by omega,htop⟩) (fun m hm=>?_) ?_
    ·rw[Yw (by omega)]
     exact hsame m (by omega)
    have hls:i<(l.set i (o[i+1]%2^s*2^(64-s)+o[i]/2^s)).length:=by rw[Yk];exact hil
    rw[qG W _ i hls,List.getElem_set_self,List.take_set_of_le (Nat.le_refl _),Int.add_mul,Int.mul_assoc,efin,e,qG W o i hio,Ya hio,Ya hio1,YN,YN,Int.pow_succ,Int.mul_assoc (W^i) W]
    have e5:W^i*(18446744073709551616*(o[i+1]%2^s)+o[i]-o[i]%2^s)=W^i*(W*(o[i+1]%2^s))+W^i*o[i]-W^i*(o[i]%2^s):=by
     rw[<-Int.mul_add,<-Int.mul_sub]
    omega
   rw[if_pos (by omega),qj,Ya hil,el0,ZB,qdR (by omega),ZB,jR hil,ZB,zD (by omega)]
   by_cases h0:s=0
   ·subst h0
    rw[if_neg (by omega),ZB,if_neg (by simp),ZB]
    refine fin _ ?_
    congr 1
    have:o[i+1]%2^0=0:=by simp[Int.emod_one]
    rw[this]
    omega
   have hls0:i<(l.set i (o[i]/2^s)).length:=by rw[Yk];exact hil
   have hls1:i+1<(l.set i (o[i]/2^s)).length:=by rw[Yk];exact hil1
   have em:o[i+1]*2^(64-s)%18446744073709551616=o[i+1]%2^s*2^(64-s):=by
    rw[<-hpp,Int.mul_comm o[i+1],Int.mul_comm (2^s),Int.mul_emod_mul_of_pos _ _ hp2,Int.mul_comm]
   rw[if_pos (by omega),ZB,if_pos (decide_eq_true (by omega)),qj,Ya hls0,List.getElem_set_self,ZB,qj,Ya hls1,List.getElem_set_ne (by omega),el1,ZB,show(64:Int)-(s:Int)=((64-s:Nat):Int)by omega,qD (by omega) (by omega),qez (by omega),ZB,em,qjI r0 q0 q1 htop,jR hls0,ZB,ZB]
   refine fin _ ?_
   rw[List.set_set]
  rw[if_neg (by omega)]
  have ei:i=v.length:=by omega
  subst ei
  exact⟨l,rfl,hl,hd,e⟩
theorem qe0 {N:Nat} (hN:11000<N) {a b:List Int} (ha:Can W a) (hb:Can W b) (hal:a.length<=4000) (hb0:0<dv W b):yI N a b=some (dg W (dv W a/dv W b),dg W (dv W a%dv W b)):=by
 have A0:=zf W0 ha.1
 unfold yI
 rw[qbh ha hb (by omega) (by omega),ZB]
 by_cases h:dv W a<dv W b
 ·rw[if_pos h,if_pos (by omega),Int.ediv_eq_zero_of_lt A0 h,Int.emod_eq_of_lt A0 h,qdK,qlW W1 ha]
 have hlen:b.length<=a.length:=by
  rcases Nat.lt_or_ge a.length b.length with c|c
  ·have:=qa2 ha hb c;omega
  exact c
 have hb1:0<b.length:=by
  rcases Nat.eq_zero_or_pos b.length with c|c
  ·rw[YL.1 c,jw]at hb0;omega
  exact c
 have hge: ¬((if dv W a<dv W b then-1 else if dv W a=dv W b then(0:Int)else 1)<0):=by
  rw[if_neg h]
  split<;>omega
 rw[if_neg hge]
 by_cases hone:b.length=1
 ·obtain⟨d,rfl⟩:=List.length_eq_one_iff.1 hone
  have ed:dv W [d]=d:=by rw[zP,jw];omega
  rw[ed]at hb0⊢
  have hd:=hb.1.head
  unfold W at hd
  rw[if_pos (by simp),qaI (by omega),ZB,qD (by omega) (by omega)]
  obtain⟨l,e,h1,h2,h3⟩:=qjv (N:=N) (by omega) ha.1 (by omega) (b:=[d]) rfl hb0 hd.2 N a.length (List.replicate a.length 0) 0 (Nat.le_refl _) (by omega) (by simp) (Up W0 _) (fun m x _ hx=>rep0 hx) (by rw[xC,List.drop_of_length_le (Nat.le_refl _),jw];simp) (by rw[List.drop_of_length_le (Nat.le_refl _),jw];simp)
  have m0:=Int.emod_nonneg (dv W a) (show d≠0 by omega)
  have m1:=Int.emod_lt_of_pos (dv W a) hb0
  rw[e,ZB]
  simp only
  rw[qat h2 (by omega) (by omega),ZB,qat (Dg.cons ⟨m0,show _<(18446744073709551616:Int)by omega⟩ Dg.nil) (by simp) (by simp;omega),ZB,h3,zP,jw,Int.mul_zero,Int.add_zero]
 obtain⟨k,hk⟩: ∃k,b.length=k+2:=⟨b.length-2,by omega⟩
 obtain⟨m,hm⟩: ∃m,a.length=m+k+2:=⟨a.length-(k+2),by omega⟩
 have hkb:k+1<b.length:=by omega
 have at1:=hb.1.at hkb
 have at0:b[k+1]≠0:=hb.2 _ (by rw[List.getLast?_eq_getElem?,hk];exact Ya hkb)
 unfold W at at1
 obtain⟨s,hs,es,g1,g2⟩:=qlV (y:=b[k+1]) (by omega) at1.2
 have hp:=pow_pos (show(0:Int)<2 by omega) s
 have hPk:=pow_pos W0 (k+1)
 rw[if_neg (by omega),show w64 ((b.length:Int)-1)=((k+1:Nat):Int)by rw[qD (by omega) (by omega)];omega,qj,Ya hkb,ZB,es,ZB]
 obtain⟨vb,e1,l1,d1,x1⟩:=qeG (N:=N) hb.1 (by omega) hs (by omega)
 obtain⟨ua,e2,l2,d2,x2⟩:=qeG (N:=N) ha.1 (by omega) hs (by omega)
 rw[e1,ZB,qat d1 (by omega) (by omega),ZB,e2,ZB]
 have V0:0<dv W b*2^s:=Int.mul_pos hb0 hp
 have ebs:dv W b=dv W (b.take (k+1))+W^(k+1)*b[k+1]:=by
  have:=qG W b (k+1) hkb
  rw[List.take_of_length_le (by omega)]at this
  exact this
 have blo0:=zf W0 (hb.1.take (k+1))
 have blo1:=xL W0 (hb.1.take (k+1))
 rw[Ym,Nat.min_eq_left (by omega)]at blo1
 have Vlow:W^(k+1)*9223372036854775808<=dv W b*2^s:=by
  have h1:=Yc g1 (Int.le_of_lt hPk)
  rw[ebs,Int.add_mul,Int.mul_assoc]
  have:=Yv blo0 (Int.le_of_lt hp)
  omega
 have Vhigh:dv W b*2^s<W^(k+2):=by
  have h1:(dv W b)*2^s<W^(k+1)*((b[k+1]+1)*2^s):=by
   rw[<-Int.mul_assoc]
   refine YH ?_ hp
   rw[ebs,Int.mul_add,Int.mul_one]
   omega
  have h2:(b[k+1]+1)*2^s<=18446744073709551616:=by
   have hpp:(2:Int)^(64-s)*2^s=18446744073709551616:=by
    rw[<-Int.pow_add,show 64-s+s=64 by omega]
    rfl
   have:b[k+1]<2^(64-s):=by
    rw[<-hpp]at g2
    exact Int.lt_of_mul_lt_mul_right g2 (Int.le_of_lt hp)
   rw[<-hpp]
   exact Int.mul_le_mul_of_nonneg_right (by omega) (Int.le_of_lt hp)
  have h3:=Yc h2 (Int.le_of_lt hPk)
  rw[Int.pow_succ]
  show _<W^(k+1)*18446744073709551616
  omega
 rw[x1]
 have cv:=yw W1 (Int.le_of_lt V0)
 have evv:=xO W1 (Int.le_of_lt V0)
 have lv:(dg W (dv W b*2^s)).length=k+2:=by
  have h1:=(qfC W1 (Int.le_of_lt V0) (n:=k+2)).2 Vhigh
  have h2:=(not_congr (qfC W1 (Int.le_of_lt V0) (n:=k+1))).2 (by
   have:W^(k+1)*1<=W^(k+1)*9223372036854775808:=Yc (by omega) (Int.le_of_lt hPk)
   omega)
  omega
 generalize hvv:dg W (dv W b*2^s)=v at*
 have hkv:k+1<v.length:=by omega
 have hn:9223372036854775808<=v[k+1]:=by
  have e:=qG W v (k+1) hkv
  rw[List.take_of_length_le (by omega),evv]at e
  have h1:=xL W0 (cv.1.take (k+1))
  rw[Ym,Nat.min_eq_left (by omega)]at h1
  have h2:W^(k+1)*9223372036854775808<W^(k+1)*(v[k+1]+1):=by rw[Int.mul_add,Int.mul_one];omega
  have:=Int.lt_of_mul_lt_mul_left h2 (Int.le_of_lt hPk)
  omega
 have htop:dv W (ua.drop (m+1))<dv W v:=by
  rw[evv]
  have e:=qae W ua (m+1) (by omega)
  have h1:=zf W0 (d2.take (m+1))
  have hA:=xL W0 ha.1
  have h2:dv W ua<W^(m+1)*(W^(k+1)*2^s):=by
   rw[x2,<-Int.mul_assoc,<-Int.pow_add,show m+1+(k+1)=a.length by omega]
   exact YH hA hp
  have hPm:=pow_pos W0 (m+1)
  have h3:W^(m+1)*dv W (ua.drop (m+1))<W^(m+1)*(W^(k+1)*2^s):=by omega
  have h4:=Int.lt_of_mul_lt_mul_left h3 (Int.le_of_lt hPm)
  have h5:W^(k+1)*2^s<=W^(k+1)*9223372036854775808:=Yc (jT (by omega) hs) (Int.le_of_lt hPk)
  omega
 rw[show w64 (w64 ((a.length:Int)-(v.length:Int))+1)=((m+1:Nat):Int)by rw[qD (n:=(a.length:Int)-(v.length:Int)) (by omega) (by omega),qD (by omega) (by omega)];omega,qaI (by omega),ZB,show w64 ((a.length:Int)-(v.length:Int))=((m+1:Nat):Int)-1 by rw[qD (by omega) (by omega)];omega]
 obtain⟨l,qs,f1,f2,f3,f4,f5,f6,f7⟩:=qhJ hN cv.1 lv (by omega) hn (A:=dv W ua) (m:=m) (by omega) N (m+1) ua (List.replicate (m+1) 0) (Nat.le_refl _) (by omega) (by omega) (by simp) d2 (Up W0 _) (fun j x _ hx=>rep0 hx) htop (by rw[xC,Int.mul_zero,Int.add_zero])
 rw[f1,ZB]
 simp only
 rw[x2]at f7
 rw[evv]at f6 f7
 have hl0:=zf W0 f4
 have eq:dv W qs=dv W a/dv W b:=by
  rw[<-Int.mul_ediv_mul_of_pos_left (dv W a) (dv W b) hp,<-f7,Int.add_mul_ediv_left _ _ (by omega),Int.ediv_eq_zero_of_lt hl0 f6,Int.zero_add]
 have er:dv W l=dv W a%dv W b*2^s:=by
  have:(dv W a*2^s)%(dv W b*2^s)=dv W l:=by rw[<-f7,Int.add_mul_emod_self_left,Int.emod_eq_of_lt hl0 f6]
  rw[<-this,Int.mul_comm (dv W a),Int.mul_comm (dv W b),Int.mul_emod_mul_of_pos _ _ hp,Int.mul_comm]
 have hzl:dv W (l.drop (k+2))=0:=qbD f4 (by omega)
 have etk:dv W (l.take (k+2))=dv W l:=by
  have:=qae W l (k+2) (by omega)
  rw[hzl,Int.mul_zero,Int.add_zero]at this
  exact this.symm
 have hkl:k+2<l.length:=by omega
 have hl2:l[k+2]%2^s=0:=by
  have h1:=qdU l hkl
  have h2:=zf W0 (f4.drop (k+2+1))
  have h3:=f4.at hkl
  have h4:=Yv (Int.le_of_lt W0) h2
  have:l[k+2]=0:=by omega
  rw[this]
  exact Int.zero_emod _
 have h0l:0<l.length:=by omega
 have hl0m:l[0]%2^s=0:=by
  have h1:=qdU l h0l
  rw[List.drop_zero,er]at h1
  have e63:W=2^(64-s)*2^s:=by
   rw[<-Int.pow_add,show 64-s+s=64 by omega]
   rfl
  have h2:l[0]=0+2^s*(dv W a%dv W b-2^(64-s)*dv W (l.drop (0+1))):=by
   rw[Int.mul_sub,<-Int.mul_assoc,Int.mul_comm (2^s) (2^(64-s)),<-e63,Int.mul_comm (2^s)]
   omega
  rw[h2,Int.add_mul_emod_self_left]
  exact Int.zero_emod _
 obtain⟨l4,j1,j2,j3,j4⟩:=qhW (o:=l) (v:=v) f4 hs (by omega) (by omega) (z:=0) hl0m.symm N 0 l (by omega) (by omega) rfl f4 (fun _ _=>rfl) (by
  rw[List.take_zero,jw,Ya h0l,YN,hl0m]
  simp)
 have j1:jd (s:Int) v N l 0=some l4:=j1
 rw[lv,etk,Ya hkl,YN,hl2,Int.mul_zero,Int.add_zero,Int.sub_zero,er]at j4
 have j5:=Int.eq_of_mul_eq_mul_right (by omega) j4
 rw[j1,ZB,qat f5 (by omega) (by omega),ZB,qcA (by omega),ZB,lv,qat (j3.take _) (by rw[Ym];omega) (by rw[Ym];omega),ZB,j5,eq]
end Go.Av
end
section
namespace Go.Av
def IsZ (x:qm) (z:Int):Prop:=(x.w=[]/\x.s=z/\ -9223372036854775808<=z/\z<=9223372036854775807)\/(x.w=dg W z.natAbs/\x.w≠[]/\9223372036854775808<=(z.natAbs:Int)/\x.s=if z<0 then-1 else 1)
abbrev Fit (z:Int) (n:Nat):Prop:=(z.natAbs:Int)<W^n
theorem Ud {z:Int} (h1: -9223372036854775808<=z) (h2:z<=9223372036854775807):IsZ ⟨z,[]⟩ z:= .inl ⟨rfl,rfl,h1,h2⟩
theorem Fit.len {z:Int} {n:Nat} (h:Fit z n):(dg W z.natAbs).length<=n:=(qfC W1 (by omega)).2 h
theorem Fit.mono {z:Int} {m n:Nat} (h:Fit z m) (hn:m<=n):Fit z n:=Int.lt_of_lt_of_le h (jT (by decide) hn)
theorem IsZ.sgn {x:qm} {z:Int} (h:IsZ x z):(x.s<0↔z<0)/\(0<x.s↔0<z)/\(x.s=0↔z=0):=by
 rcases h with⟨_,h,_,_⟩|⟨_,_,h1,h2⟩
 ·subst h;exact⟨Iff.rfl,Iff.rfl,Iff.rfl⟩
 split at h2<;>omega
theorem IsZ.emp {x:qm} {z:Int} (h:IsZ x z) (he:x.w.isEmpty=true):x.s=z/\ -9223372036854775808<=z/\z<=9223372036854775807:=by
 rcases h with⟨_,h⟩|⟨_,h,_⟩
 ·exact h
 exact absurd (List.isEmpty_iff.1 he) h
theorem qkl (n:Int):qcp n=some ⟨n,[]⟩:=rfl
theorem size_eq {n:Int} (h1: -9223372036854775808<=n) (h2:n<=9223372036854775807):qad n=some (n.natAbs:Int):=by
 unfold qad
 by_cases h:n<0
 ·rw[if_pos h]
  congr 1
  have e:w64 (0-n)=(if n= -9223372036854775808 then-9223372036854775808 else-n):=by
   split
   ·rename_i e;subst e;rfl
   rw[qD (by omega) (by omega)];omega
  rw[e,wu]
  split<;>omega
 rw[if_neg h,jC (by omega) (by omega)]
 congr 1
 omega
theorem parts_eq {x:qm} {z:Int} (h:IsZ x z):qx x=some (decide (z<0),dg W z.natAbs):=by
 unfold qx
 have hs:=h.sgn
 rcases h with⟨hw,hz,h1,h2⟩|⟨hw,hne,h1,h2⟩
 ·rw[hw,if_neg (by simp)]
  by_cases h0:x.s=0
  ·rw[if_pos h0]
   have:z=0:=by omega
   subst this
   rfl
  rw[if_neg h0,hz,size_eq h1 h2,ZB,qhn (by omega) (by unfold W;omega)]
 rw[if_pos (by cases e:x.w with|nil=>exact absurd e hne|cons a l=>rfl),<-hw]
 congr 2
 exact decide_eq_decide.2 hs.1
theorem qic {m:Int} (h0:0<=m) (h:m<=9223372036854775807):w64 (0-w64 m)= -m:=by
 rw[qD (n:=m) (by omega) (by omega),qD (by omega) (by omega)]
 omega
theorem qaW (neg:Bool) {m:Int} (h:0<=m): ∃r,ji neg (dg W m)=some r/\IsZ r (if neg=true then-m else m):=by
 have hc:=yw W1 h
 have hv:=xO W1 h
 unfold ji
 cases hl:dg W m with
 |nil=>
  rw[hl,jw]at hv
  subst hv
  refine⟨⟨0,[]⟩,rfl,?_⟩
  have:(if neg=true then-(0:Int)else 0)=0:=by cases neg<;>rfl
  rw[this]
  exact Ud (by omega) (by omega)
 |cons a l=>
  rw[hl]at hc hv
  have ha:=hc.1.head
  rw[if_neg (by simp;omega)]
  have hm0:0<m:=by have:=hc.pos W1 (by simp);omega
  have big:9223372036854775808<=m-> ∀s:Int,s=(if(if neg=true then-m else m)<0 then-1 else 1)->IsZ ⟨s,a::l⟩ (if neg=true then-m else m):=by
   intro hm s hs
   have e:((if neg=true then-m else m).natAbs:Int)=m:=by split<;>omega
   exact .inr ⟨by rw[e];exact hl.symm,by simp,by omega,hs⟩
  cases l with
  |nil=>
   rw[zP,jw]at hv
   have hma:a=m:=by omega
   subst hma
   have e0:idx [a] 0=some a:=rfl
   by_cases hs:a<=9223372036854775807
   ·cases neg with
    |true=>
     simp only[Yr,List.length_nil,e0,ZB,if_pos hs]
     refine⟨⟨w64 (0-w64 a),[]⟩,by simp,?_⟩
     rw[qic (by omega) hs]
     have q:=Ud (z:= -a) (by omega) (by omega)
     simpa using q
    |false=>
     simp only[Yr,List.length_nil,e0,ZB,if_pos hs,decide_eq_true hs]
     refine⟨⟨w64 a,[]⟩,by simp,?_⟩
     rw[qD (by omega) (by omega)]
     have q:=Ud (z:=a) (by omega) (by omega)
     simpa using q
   simp only[Yr,List.length_nil,e0,ZB,if_neg hs,decide_eq_false hs]
   cases neg with
   |true=>exact⟨⟨-1,[a]⟩,by simp,big (by omega) _ (by simp;omega)⟩
   |false=>exact⟨⟨1,[a]⟩,by simp,big (by omega) _ (by simp;omega)⟩
  |cons b l=>
   have hm:9223372036854775808<=m:=by
    have:=hc.low W1 (n:=l.length+1) (by simp)
    have h2:=jT (show(1:Int)<=W by decide) (show 1<=l.length+1 by omega)
    rw[Int.pow_one]at h2
    rw[hv]at this
    unfold W at h2 this
    omega
   have hl1: ¬(((a::b::l).length:Int)=1):=by simp;omega
   simp only[if_neg hl1,ZB,ZF,if_false]
   cases neg with
   |true=>exact⟨⟨-1,a::b::l⟩,by simp,big hm _ (by simp;omega)⟩
   |false=>exact⟨⟨1,a::b::l⟩,by simp,big hm _ (by simp;omega)⟩
theorem qfL {x:qm} {z:Int} (h:IsZ x z): ∃r,zU x=some r/\IsZ r (-z):=by
 have hp:=parts_eq h
 obtain⟨r,e,hr⟩:=qaW (!decide (z<0)) (m:=(z.natAbs:Int)) (by omega)
 have ez:(if(!decide (z<0))=true then-(z.natAbs:Int)else(z.natAbs:Int))= -z:=by
  by_cases hz:z<0
  ·rw[decide_eq_true hz,if_neg (by simp)];omega
  rw[decide_eq_false hz,if_pos (by simp)];omega
 rw[ez]at hr
 unfold zU
 cases he:x.w.isEmpty with
 |true=>
  obtain⟨h1,h2,h3⟩:=h.emp he
  rw[if_pos rfl,ZB]
  by_cases hm:x.s= -9223372036854775808
  ·rw[if_neg (by simp[hm]),hp,ZB,e,ZB]
   exact⟨r,rfl,hr⟩
  rw[if_pos (by simp[hm]),qD (by omega) (by omega),show 0-x.s= -z by omega]
  exact⟨_,rfl,Ud (by omega) (by omega)⟩
 |false=>
  rw[if_neg (by simp),ZB,if_neg (by simp),hp,ZB,e,ZB]
  exact⟨r,rfl,hr⟩
theorem qjZ {x:qm} {z:Int} (h:IsZ x z): ∃r,yN x=some r/\IsZ r (z.natAbs:Int):=by
 unfold yN
 by_cases hz:z<0
 ·obtain⟨r,e,hr⟩:=qfL h
  rw[if_pos (h.sgn.1.2 hz),e,ZB]
  refine⟨r,rfl,?_⟩
  rw[show(z.natAbs:Int)= -z by omega]
  exact hr
 rw[if_neg (fun c=>hz (h.sgn.1.1 c))]
 refine⟨x,rfl,?_⟩
 rw[show(z.natAbs:Int)=z by omega]
 exact h
theorem qcM {x:qm} {z:Int} (h:IsZ x z):zl x=some (if z<0 then-1 else if z=0 then 0 else 1):=by
 have hs:=h.sgn
 unfold zl
 congr 1
 repeat' split
 all_goals omega
theorem qjN {N:Nat} (hN:11000<N) {x y:qm} {a b:Int} (hx:IsZ x a) (hy:IsZ y b) (ha:Fit a 4000) (hb:Fit b 4000): ∃r,vU N x y=some r/\IsZ r (a+b):=by
 have px:=parts_eq hx
 have py:=parts_eq hy
 have la:=ha.len
 have lb:=hb.len
 have ca:=yw W1 (show 0<=(a.natAbs:Int)by omega)
 have cb:=yw W1 (show 0<=(b.natAbs:Int)by omega)
 have va:=xO W1 (show 0<=(a.natAbs:Int)by omega)
 have vb:=xO W1 (show 0<=(b.natAbs:Int)by omega)
 have long: ∃r,((qx x).bind fun r8=>
  (qx y).bind fun r9=>
  if(r8.1==r9.1)=true then
  (yh N r8.2 r9.2).bind fun r11=>
  (ji r8.1 r11).bind fun r12=>
  some r12
  else
  (zX N r8.2 r9.2).bind fun r13=>
  if r13>=0 then
  (jM N r8.2 r9.2).bind fun r15=>
  (ji r8.1 r15).bind fun r16=>
  some r16
  else
  (jM N r9.2 r8.2).bind fun r17=>
  (ji r9.1 r17).bind fun r18=>
  some r18)=some r/\IsZ r (a+b):=by
  rw[px,ZB,py,ZB]
  by_cases hs:(a<0↔b<0)
  ·rw[if_pos (by rw[beq_iff_eq];exact decide_eq_decide.2 hs),qgN ca.1 cb.1 (by omega) (by omega) (by omega) (by omega),ZB,va,vb]
   obtain⟨r,e,hr⟩:=qaW (decide (a<0)) (m:=(a.natAbs:Int)+(b.natAbs:Int)) (by omega)
   rw[e,ZB]
   refine⟨r,rfl,?_⟩
   have:(if decide (a<0)=true then-((a.natAbs:Int)+(b.natAbs:Int))else(a.natAbs:Int)+(b.natAbs:Int))=a+b:=by
    simp only[decide_eq_true_eq]
    split<;>omega
   rw[this]at hr
   exact hr
  rw[if_neg (by rw[beq_iff_eq];exact fun c=>hs (decide_eq_decide.1 c)),qbh ca cb (by omega) (by omega),ZB,va,vb]
  by_cases hc:(a.natAbs:Int)<(b.natAbs:Int)
  ·rw[if_pos hc,if_neg (by omega),qds cb ca (by omega) (by omega) (by omega),ZB,va,vb]
   obtain⟨r,e,hr⟩:=qaW (decide (b<0)) (m:=(b.natAbs:Int)-(a.natAbs:Int)) (by omega)
   rw[e,ZB]
   refine⟨r,rfl,?_⟩
   have:(if decide (b<0)=true then-((b.natAbs:Int)-(a.natAbs:Int))else(b.natAbs:Int)-(a.natAbs:Int))=a+b:=by
    simp only[decide_eq_true_eq]
    split<;>omega
   rw[this]at hr
   exact hr
  rw[if_neg hc,if_pos (by split<;>omega),qds ca cb (by omega) (by omega) (by omega),ZB,va,vb]
  obtain⟨r,e,hr⟩:=qaW (decide (a<0)) (m:=(a.natAbs:Int)-(b.natAbs:Int)) (by omega)
  rw[e,ZB]
  refine⟨r,rfl,?_⟩
  have:(if decide (a<0)=true then-((a.natAbs:Int)-(b.natAbs:Int))else(a.natAbs:Int)-(b.natAbs:Int))=a+b:=by
   simp only[decide_eq_true_eq]
   split<;>omega
  rw[this]at hr
  exact hr
 unfold vU
 cases ex:x.w.isEmpty with
 |false=>
  rw[if_neg (by simp),ZB,if_neg (by simp),ZB]
  exact long
 |true=>
  rw[if_pos rfl,ZB]
  cases ey:y.w.isEmpty with
  |false=>
   rw[if_neg (by simp),ZB]
   exact long
  |true=>
   obtain⟨h1,h2,h3⟩:=hx.emp ex
   obtain⟨k1,k2,k3⟩:=hy.emp ey
   rw[if_pos rfl,h1,k1]
   by_cases hi: -9223372036854775808<=a+b/\a+b<=9223372036854775807
   ·have e:w64 (a+b)=a+b:=qD hi.1 hi.2
    rw[e,if_pos (by rw[beq_iff_eq];exact decide_eq_decide.2 (by omega)),ZB]
    exact⟨_,rfl,Ud hi.1 hi.2⟩
   have e:w64 (a+b)=a+b-18446744073709551616\/w64 (a+b)=a+b+18446744073709551616:=by
    unfold w64 at*
    simp only[IntKind.wrap,IntKind.bits,IntKind.signed]
    simp
    split<;>omega
   have hne: ¬((decide (w64 (a+b)>a)==decide (b>0))=true):=by
    rw[beq_iff_eq]
    intro c
    have c:=decide_eq_decide.1 c
    have hw: -9223372036854775808<=w64 (a+b)/\w64 (a+b)<=9223372036854775807:=by
     simp only[IntKind.wrap,IntKind.bits,IntKind.signed]
     simp
     split<;>omega
    omega
   rw[if_neg hne,ZB]
   exact long
theorem qmE {N:Nat} (hN:11000<N) {x y:qm} {a b:Int} (hx:IsZ x a) (hy:IsZ y b) (ha:Fit a 4000) (hb:Fit b 4000): ∃r,yM N x y=some r/\IsZ r (a-b):=by
 obtain⟨n,e,hn⟩:=qfL hy
 obtain⟨r,e2,hr⟩:=qjN hN hx hn ha (by unfold Fit;rw[Int.natAbs_neg];exact hb)
 unfold yM
 rw[e,ZB,e2,ZB]
 exact⟨r,rfl,by rw[Int.sub_eq_add_neg];exact hr⟩
theorem qkT {N:Nat} (hN:11000<N) {x y:qm} {a b:Int} (hx:IsZ x a) (hy:IsZ y b) (ha:Fit a 4000) (hb:Fit b 4000): ∃r,yO N x y=some r/\IsZ r (a*b):=by
 have px:=parts_eq hx
 have py:=parts_eq hy
 have la:=ha.len
 have lb:=hb.len
 have ca:=yw W1 (show 0<=(a.natAbs:Int)by omega)
 have cb:=yw W1 (show 0<=(b.natAbs:Int)by omega)
 have va:=xO W1 (show 0<=(a.natAbs:Int)by omega)
 have vb:=xO W1 (show 0<=(b.natAbs:Int)by omega)
 have hab:(a.natAbs:Int)*(b.natAbs:Int)=((a*b).natAbs:Int):=by rw[Int.natAbs_mul,Int.natCast_mul]
 have sg:(if(!((decide (a<0))==(decide (b<0))))=true then-((a*b).natAbs:Int)else((a*b).natAbs:Int))=a*b:=by
  by_cases h1:a<0
  ·by_cases h2:b<0
   ·have:=Int.mul_pos_of_neg_of_neg h1 h2
    rw[decide_eq_true h1,decide_eq_true h2,if_neg (by simp)]
    omega
   have:=Int.mul_nonpos_of_nonpos_of_nonneg (show a<=0 by omega) (show 0<=b by omega)
   rw[decide_eq_true h1,decide_eq_false h2,if_pos (by simp)]
   omega
  by_cases h2:b<0
  ·have:=Int.mul_nonpos_of_nonneg_of_nonpos (show 0<=a by omega) (show b<=0 by omega)
   rw[decide_eq_false h1,decide_eq_true h2,if_pos (by simp)]
   omega
  have:=Yv (show 0<=a by omega) (show 0<=b by omega)
  rw[decide_eq_false h1,decide_eq_false h2,if_neg (by simp)]
  omega
 have long: ∃r,((qx x).bind fun r15=>
  (qx y).bind fun r16=>
  (yn N r15.2 r16.2).bind fun r17=>
  (ji (!(r15.1==r16.1)) r17).bind fun r18=>
  some r18)=some r/\IsZ r (a*b):=by
  rw[px,ZB,py,ZB,qgL ca.1 cb.1 (by omega) (by omega) (by omega),ZB,va,vb,hab]
  obtain⟨r,e,hr⟩:=qaW (!((decide (a<0))==(decide (b<0)))) (m:=((a*b).natAbs:Int)) (by omega)
  rw[sg]at hr
  rw[e,ZB]
  exact⟨r,rfl,hr⟩
 unfold yO
 cases ex:x.w.isEmpty with
 |false=>
  rw[if_neg (by simp),ZB,if_neg (by simp),ZB]
  exact long
 |true=>
  rw[if_pos rfl,ZB]
  cases ey:y.w.isEmpty with
  |false=>
   rw[if_neg (by simp),ZB]
   exact long
  |true=>
   obtain⟨h1,h2,h3⟩:=hx.emp ex
   obtain⟨k1,k2,k3⟩:=hy.emp ey
   rw[if_pos rfl,h1,k1,size_eq h2 h3,ZB,size_eq k2 k3,ZB,qcD (by omega) (by omega),ZB,hab]
   by_cases hi:((a*b).natAbs:Int)/18446744073709551616=0
   ·rw[if_pos hi,ZB]
    by_cases hj:((a*b).natAbs:Int)%18446744073709551616<=9223372036854775807
    ·have em:((a*b).natAbs:Int)%18446744073709551616=((a*b).natAbs:Int):=by omega
     rw[decide_eq_true hj,if_pos rfl,em]
     by_cases hs:(!((decide (a<0))==(decide (b<0))))=true
     ·rw[if_pos hs]at sg
      rw[if_pos hs,ZB,qic (by omega) (by omega),sg]
      exact⟨_,rfl,Ud (by omega) (by omega)⟩
     rw[if_neg hs]at sg
     rw[if_neg hs,ZB,qD (by omega) (by omega),sg]
     exact⟨_,rfl,Ud (by omega) (by omega)⟩
    rw[decide_eq_false hj,if_neg (by simp),ZB]
    exact long
   rw[if_neg hi,ZB,if_neg (by simp),ZB]
   exact long
theorem qdj {N:Nat} (hN:11000<N) {x y:qm} {a b:Int} (hx:IsZ x a) (hy:IsZ y b) (ha:Fit a 3900) (hb:Fit b 3900) (hb0:0<b): ∃q r,zH N x y=some (q,r)/\IsZ q (a/b)/\IsZ r (a%b):=by
 have px:=parts_eq hx
 have py:=parts_eq hy
 have la:=ha.len
 have lb:=hb.len
 have ca:=yw W1 (show 0<=(a.natAbs:Int)by omega)
 have cb:=yw W1 (show 0<=(b.natAbs:Int)by omega)
 have va:=xO W1 (show 0<=(a.natAbs:Int)by omega)
 have vb:=xO W1 (show 0<=(b.natAbs:Int)by omega)
 have eb:(b.natAbs:Int)=b:=by omega
 have m0:=Int.emod_nonneg (a.natAbs:Int) (show b≠0 by omega)
 have m1:=Int.emod_lt_of_pos (a.natAbs:Int) hb0
 have q0:0<=(a.natAbs:Int)/b:=Int.ediv_nonneg (by omega) (by omega)
 have q1:(a.natAbs:Int)/b<=(a.natAbs:Int):=Int.ediv_le_self _ (by omega)
 have dm:=Int.mul_ediv_add_emod (a.natAbs:Int) b
 have long: ∃q r,((qx x).bind fun r12=>
  (qx y).bind fun r13=>
  (yI N r12.2 r13.2).bind fun r14=>
  (ji r12.1 r14.1).bind fun r15=>
  (ji r12.1 r14.2).bind fun r16=>
  (zl r16).bind fun r17=>
  ((if r17<0 then
  (qcp 1).bind fun r24=>
  (yM N r15 r24).bind fun r25=>
  (vU N r16 y).bind fun r26=>
  some (r25.s,r25.w,r26.s,r26.w)
  else
  some (r15.s,r15.w,r16.s,r16.w):Option (Int×(List Int)×Int×(List Int)))).bind fun(n18,l19,n20,l21)=>
  some ((⟨n18,l19⟩:qm),(⟨n20,l21⟩:qm)))=some (q,r)/\IsZ q (a/b)/\IsZ r (a%b):=by
  rw[px,ZB,py,ZB,qe0 hN ca cb (by omega) (by rw[vb,eb];exact hb0),ZB,va,vb,eb]
  obtain⟨q,e1,hq⟩:=qaW (decide (a<0)) q0
  obtain⟨r,e2,hr⟩:=qaW (decide (a<0)) m0
  simp only
  rw[e1,ZB,e2,ZB,qcM hr,ZB]
  by_cases hz:a<0
  ·rw[decide_eq_true hz,if_pos rfl]at hq hr
   by_cases hm:(a.natAbs:Int)%b=0
   ·rw[hm]at hr dm
    have:=Int.ediv_emod_unique (a:=a) (b:=b) (r:=0) (q:= -((a.natAbs:Int)/b)) hb0
    have u:=this.2 ⟨by rw[Int.mul_neg];omega,by omega,hb0⟩
    rw[u.1,u.2,decide_eq_true hz,if_pos rfl,hm]
    simp only[Int.neg_zero,Int.lt_irrefl,if_false,if_true,ZB]
    exact⟨q,r,rfl,hq,hr⟩
   have u:=(Int.ediv_emod_unique (a:=a) (b:=b) (r:=b-(a.natAbs:Int)%b) (q:= -((a.natAbs:Int)/b)-1) hb0).2 ⟨by rw[Int.mul_sub,Int.mul_neg,Int.mul_one];omega,by omega,by omega⟩
   rw[u.1,u.2,decide_eq_true hz,if_pos rfl,if_pos (by omega),qkl,ZB]
   have f1:Fit (-((a.natAbs:Int)/b)) 4000:=by
    refine Fit.mono (m:=3900) ?_ (by omega)
    unfold Fit at ha⊢
    omega
   have f2:Fit (-((a.natAbs:Int)%b)) 4000:=by
    refine Fit.mono (m:=3900) ?_ (by omega)
    unfold Fit at hb⊢
    omega
   have f0:Fit 1 4000:=by
    have:=jT (show(1:Int)<=W by decide) (show 1<=4000 by omega)
    rw[Int.pow_one]at this
    have hw:(1:Int)<=W-1:=by decide
    have hw2: -W< -(1:Int):=by decide
    unfold Fit
    omega
   obtain⟨q2,g1,hq2⟩:=qmE hN hq (Ud (z:=1) (by omega) (by omega)) f1 f0
   obtain⟨r2,g2,hr2⟩:=qjN hN hr hy f2 (hb.mono (by omega))
   rw[g1,ZB,g2,ZB,ZB]
   refine⟨q2,r2,rfl,hq2,?_⟩
   rw[show b-(a.natAbs:Int)%b= -((a.natAbs:Int)%b)+b by omega]
   exact hr2
  rw[decide_eq_false hz,if_neg (by simp)]at hq hr
  have ea:(a.natAbs:Int)=a:=by omega
  rw[ea]at hq hr m0
  have hm': ¬((a.natAbs:Int)%b<0):=by rw[ea];omega
  rw[decide_eq_false hz,if_neg (by rw[if_neg (show¬(false=true)by simp),if_neg hm'];split<;>omega),ZB]
  exact⟨q,r,rfl,hq,hr⟩
 unfold zH
 cases ex:x.w.isEmpty with
 |false=>
  rw[if_neg (by simp),ZB,if_neg (by simp)]
  exact long
 |true=>
  rw[if_pos rfl]
  cases ey:y.w.isEmpty with
  |false=>
   rw[if_neg (by simp),ZB,if_neg (by simp)]
   exact long
  |true=>
   obtain⟨h1,h2,h3⟩:=hx.emp ex
   obtain⟨k1,k2,k3⟩:=hy.emp ey
   rw[if_pos rfl,ZB]
   by_cases hm:x.s= -9223372036854775808
   ·rw[if_neg (by simp[hm])]
    exact long
   rw[if_pos (by simp[hm]),h1,k1]
   have b1: -9223372036854775807<=a:=by omega
   have d1:=Int.mul_ediv_add_emod a b
   have d2:=Int.emod_nonneg a (show b≠0 by omega)
   have d3:=Int.emod_lt_of_pos a hb0
   have t1:=Int.mul_tdiv_add_tmod a b
   have hq:qeN .i64 a b=some (a.tdiv b):=by
    unfold qeN
    have h4:=Int.natAbs_tdiv_le_natAbs a b
    rw[if_neg (by omega)]
    show some (w64 _)=_
    rw[qD (by omega) (by omega)]
   have hr:qaU .i64 a b=some (a.tmod b):=by
    unfold qaU
    rw[if_neg (by omega)]
   have h4:=Int.natAbs_tdiv_le_natAbs a b
   rw[hq,ZB,hr,ZB]
   have t2:a.tmod b=if 0<=a\/b∣a then a%b else a%b-b:=by
    rw[Int.tmod_eq_emod]
    have:(b.natAbs:Int)=b:=eb
    split<;>omega
   have t3:a.tdiv b=if 0<=a\/b∣a then a/b else a/b+1:=by
    rw[Int.tdiv_eq_ediv]
    have:b.sign=1:=Int.sign_eq_one_of_pos hb0
    split<;>omega
   by_cases hc:0<=a\/b∣a
   ·rw[if_pos hc]at t2 t3
    rw[t2,t3,if_neg (by omega),ZB]
    rw[t3]at h4
    exact⟨_,_,rfl,Ud (by omega) (by omega),Ud (by omega) (by omega)⟩
   rw[if_neg hc]at t2 t3
   rw[t3]at h4
   have e1:w64 (a/b+1-1)=a/b:=by rw[qD (by omega) (by omega)];omega
   have e2:w64 (a%b-b+b)=a%b:=by rw[qD (by omega) (by omega)];omega
   rw[t2,t3,if_pos (by omega),ZB,e1,e2]
   have h5: -9223372036854775808<=a/b/\a/b<=9223372036854775807:=by
    constructor
    ·omega
    omega
   exact⟨_,_,rfl,Ud h5.1 h5.2,Ud (by omega) (by omega)⟩
end Go.Av
end
section
namespace Go.Av
theorem qgn {a b:Int} (ha:0<=a) (hb:0<=b):Int.gcd a b=Int.gcd b (a%b):=by
 obtain⟨m,rfl⟩:=Int.eq_ofNat_of_zero_le ha
 obtain⟨n,rfl⟩:=Int.eq_ofNat_of_zero_le hb
 show Nat.gcd m n=Nat.gcd n (m%n)
 rw[Nat.gcd_comm m n,Nat.gcd_rec n m,Nat.gcd_comm]
theorem xI {a b:Int} {n:Nat} (h:(a.natAbs:Int)<=(b.natAbs:Int)) (k:Fit b n):Fit a n:=Int.lt_of_le_of_lt h k
theorem qkK {N:Nat} (hN:11000<N) (B:Nat) (hB:B<=3900): ∀(k K:Nat) (x y:qm) (a b:Int),IsZ x a->IsZ y b->0<=a->0<=b->b<2^k->2*k+2<=K->Fit a B->Fit b B->
 ∃g:qm,jL N K x.s x.w y.s y.w=some (g.s,g.w)/\IsZ g (Int.gcd a b:Int)
 |k,0,x,y,a,b,_,_,_,_,_,hK,_,_=>by omega
 |k,K+1,x,y,a,b,hx,hy,ha,hb,hk,hK,fa,fb=>by
  have sg:=qcM hy
  have done:b=0-> ∃g:qm,jL N (K+1) x.s x.w y.s y.w=some (g.s,g.w)/\IsZ g (Int.gcd a b:Int):=by
   intro h0
   rw[h0,if_neg (by omega),if_pos rfl]at sg
   have sg:zl ⟨y.s,y.w⟩=some 0:=sg
   rw[jL,sg,ZB,if_neg (by simp)]
   refine⟨x,rfl,?_⟩
   rw[h0,Int.gcd_zero,show(a.natAbs:Int)=a by omega]
   exact hx
  rcases(show b=0\/0<b by omega)with h0|h0
  ·exact done h0
  match k,hk,hK with
  |0,hk,hK=>simp at hk;omega
  |k+1,hk,hK=>
   rw[if_neg (by omega),if_neg (by omega)]at sg
   have sg:zl ⟨y.s,y.w⟩=some 1:=sg
   have m0:=Int.emod_nonneg a (show b≠0 by omega)
   have m1:=Int.emod_lt_of_pos a h0
   obtain⟨q,r,e,hq,hr⟩:=qdj hN hx hy (fa.mono hB) (fb.mono hB) h0
   have e:zH N ⟨x.s,x.w⟩ ⟨y.s,y.w⟩=some (q,r):=e
   rw[jL,sg,ZB,if_pos (by simp),e,ZB]
   have fr:Fit (a%b) B:=xI (by omega) fb
   simp only
   rw[qgn ha hb]
   match K,hK with
   |0,hK=>omega
   |K+1,hK=>
    have sr:=qcM hr
    rcases(show a%b=0\/0<a%b by omega)with g0|g0
    ·rw[g0,if_neg (by omega),if_pos rfl]at sr
     have sr:zl ⟨r.s,r.w⟩=some 0:=sr
     rw[jL,sr,ZB,if_neg (by simp)]
     refine⟨y,rfl,?_⟩
     rw[g0,Int.gcd_zero,show(b.natAbs:Int)=b by omega]
     exact hy
    rw[if_neg (by omega),if_neg (by omega)]at sr
    have sr:zl ⟨r.s,r.w⟩=some 1:=sr
    obtain⟨q2,r2,e2,hq2,hr2⟩:=qdj hN hy hr (fb.mono hB) (fr.mono hB) g0
    have e2:zH N ⟨y.s,y.w⟩ ⟨r.s,r.w⟩=some (q2,r2):=e2
    rw[jL,sr,ZB,if_pos (by simp),e2,ZB]
    have n0:=Int.emod_nonneg b (show a%b≠0 by omega)
    have n1:=Int.emod_lt_of_pos b g0
    have hhalf:b%(a%b)<2^k:=by
     have d1:=Int.mul_ediv_add_emod b (a%b)
     have d2:1<=b/(a%b):=by
      rw[Int.le_ediv_iff_mul_le g0]
      omega
     have d3:a%b*1<=a%b*(b/(a%b)):=Yc d2 (by omega)
     rw[Int.pow_succ]at hk
     omega
    simp only
    rw[qgn hb m0]
    exact qkK hN B hB k K r r2 (a%b) (b%(a%b)) hr hr2 m0 n0 hhalf (by omega) fr (xI (by omega) fr)
theorem qmx {N:Nat} (hN:600000<N) {x y:qm} {a b:Int} (hx:IsZ x a) (hy:IsZ y b) (fa:Fit a 3900) (fb:Fit b 3900): ∃g,qa4 N x y=some g/\IsZ g (Int.gcd a b:Int):=by
 obtain⟨x',e1,hx'⟩:=qjZ hx
 obtain⟨y',e2,hy'⟩:=qjZ hy
 have hb:(b.natAbs:Int)<2^(64*3900):=by
  have e:W^3900=2^(64*3900):=by
   rw[Int.pow_mul]
   rfl
  unfold Fit at fb
  rw[<-e]
  exact fb
 obtain⟨g,e3,hg⟩:=qkK (N:=N) (by omega) 3900 (Nat.le_refl _) (64*3900) N x' y' _ _ hx' hy' (by omega) (by omega) hb (by omega) (by unfold Fit;rw[Int.natAbs_natCast];exact fa) (by unfold Fit;rw[Int.natAbs_natCast];exact fb)
 unfold qa4
 rw[e1,ZB,e2,ZB,e3,ZB]
 refine⟨g,rfl,?_⟩
 rw[show Int.gcd a b=Int.gcd (a.natAbs:Int) (b.natAbs:Int)from rfl]
 exact hg
theorem qko {N:Nat} (hN:11000<N) {x y:qm} {a b:Int} (hx:IsZ x a) (hy:IsZ y b) (fa:Fit a 3900) (fb:Fit b 3900) (hb:0<b): ∃q,jy N x y=some q/\IsZ q (a/b):=by
 obtain⟨q,r,e,hq,_⟩:=qdj hN hx hy fa fb hb
 have e:zH N ⟨x.s,x.w⟩ ⟨y.s,y.w⟩=some (q,r):=e
 unfold jy
 rw[qcM hy,ZB,if_neg (by split<;>omega),ZB]
 simp only
 rw[e,ZB]
 exact⟨q,rfl,hq⟩
def IsF (f:qP) (q:Rat):Prop:=IsZ f.Num q.num/\IsZ f.Den (q.den:Int)
abbrev qaw (q:Rat) (n:Nat):Prop:=Fit q.num n/\Fit (q.den:Int) n
theorem qaw.mono {q:Rat} {m n:Nat} (h:qaw q m) (hn:m<=n):qaw q n:=⟨h.1.mono hn,h.2.mono hn⟩
theorem qhC (a:Int) {g:Int} (hg:0<g):((a/g).natAbs:Int)<=(a.natAbs:Int):=by
 have:=Int.natAbs_ediv_le_natAbs a g
 omega
theorem qhh {a b:Int} {n:Nat} (hb:b≠0) (fa:Fit a n) (fb:Fit b n):qaw (Rat.divInt a b) n:=by
 have hg:0<Int.gcd b a:=Int.gcd_pos_of_ne_zero_left _ hb
 constructor
 ·rw[Rat.num_divInt]
  refine xI (Int.le_trans (qhC _ (by omega)) ?_) fa
  rw[Int.natAbs_mul,Int.natAbs_sign_of_ne_zero hb,Nat.one_mul]
  exact Int.le_refl _
 rw[Rat.den_divInt,if_neg hb]
 have:=Nat.div_le_self b.natAbs (Int.gcd b a)
 refine xI ?_ fb
 rw[Int.natAbs_natCast]
 omega
theorem qhN {N:Nat} (hN:600000<N) {x y:qm} {a b:Int} (hx:IsZ x a) (hy:IsZ y b) (fa:Fit a 3900) (fb:Fit b 3900) (hb:b≠0): ∃f,qaG N x y=some f/\IsF f (Rat.divInt a b):=by
 have hg:0<Int.gcd b a:=Int.gcd_pos_of_ne_zero_left _ hb
 have S: ∃n d:qm,(if(if b<0 then-1 else if b=0 then 0 else(1:Int))<0 then
  (zU x).bind fun r8=>(zU y).bind fun r9=>some (r8.s,r8.w,r9.s,r9.w)
  else some (x.s,x.w,y.s,y.w):Option (Int×(List Int)×Int×(List Int)))=some (n.s,n.w,d.s,d.w)/\IsZ n (b.sign*a)/\IsZ d (b.natAbs:Int):=by
  by_cases h:b<0
  ·obtain⟨n,e1,h1⟩:=qfL hx
   obtain⟨d,e2,h2⟩:=qfL hy
   rw[if_pos h,if_pos (by omega),e1,ZB,e2,ZB]
   refine⟨n,d,rfl,?_,?_⟩
   ·rw[Int.sign_eq_neg_one_of_neg h,Int.neg_mul,Int.one_mul];exact h1
   rw[show(b.natAbs:Int)= -b by omega];exact h2
  rw[if_neg h,if_neg (by split<;>omega)]
  refine⟨x,y,rfl,?_,?_⟩
  ·rw[Int.sign_eq_one_of_pos (by omega),Int.one_mul];exact hx
  rw[show(b.natAbs:Int)=b by omega];exact hy
 obtain⟨n,d,e,hn,hd⟩:=S
 unfold qaG
 rw[qcM hy,ZB,e,ZB]
 simp only
 have ha:((b.sign*a).natAbs:Int)=(a.natAbs:Int):=by rw[Int.natAbs_mul,Int.natAbs_sign_of_ne_zero hb,Nat.one_mul]
 have fn:Fit (b.sign*a) 3900:=xI (by omega) fa
 have fd:Fit (b.natAbs:Int) 3900:=xI (by omega) fb
 have long: ∃f,((qa4 N (⟨n.s,n.w⟩:qm) (⟨d.s,d.w⟩:qm)).bind fun r14=>
  (jy N (⟨n.s,n.w⟩:qm) r14).bind fun r15=>
  (jy N (⟨d.s,d.w⟩:qm) r14).bind fun r16=>
  some (⟨r15,r16⟩:qP))=some f/\IsF f (Rat.divInt a b):=by
  obtain⟨g,e1,h1⟩:=qmx hN hn hd fn fd
  have eg:Int.gcd (b.sign*a) (b.natAbs:Int)=Int.gcd b a:=by
   rw[Int.gcd_comm]
   show Nat.gcd (b.natAbs:Int).natAbs (b.sign*a).natAbs=Nat.gcd b.natAbs a.natAbs
   rw[show(b.sign*a).natAbs=a.natAbs by omega]
   rfl
  rw[eg]at h1
  have fg:Fit (Int.gcd b a:Int) 3900:=by
   have:Int.gcd b a<=b.natAbs:=Nat.le_of_dvd (by omega) (Int.gcd_dvd_natAbs_left b a)
   exact xI (by rw[Int.natAbs_natCast];omega) fb
  obtain⟨p,e2,h2⟩:=qko (N:=N) (by omega) hn h1 fn fg (by omega)
  obtain⟨q,e3,h3⟩:=qko (N:=N) (by omega) hd h1 fd fg (by omega)
  have e1:qa4 N (⟨n.s,n.w⟩:qm) (⟨d.s,d.w⟩:qm)=some g:=e1
  have e2:jy N (⟨n.s,n.w⟩:qm) g=some p:=e2
  have e3:jy N (⟨d.s,d.w⟩:qm) g=some q:=e3
  rw[e1,ZB,e2,ZB,e3,ZB]
  refine⟨⟨p,q⟩,rfl,?_,?_⟩
  ·rw[Rat.num_divInt];exact h2
  rw[Rat.den_divInt,if_neg hb,Int.natCast_ediv];exact h3
 have hs:=hd.sgn
 cases ed:d.w.isEmpty with
 |false=>
  rw[if_neg (by simp),ZB,if_neg (by simp)]
  exact long
 |true=>
  obtain⟨h1,h2,h3⟩:=hd.emp ed
  rw[if_pos rfl,ZB]
  by_cases h:d.s=1
  ·rw[if_pos (by simp[h])]
   have hb1:b.natAbs=1:=by omega
   have eg:Int.gcd b a=1:=by
    show Nat.gcd b.natAbs a.natAbs=1
    rw[hb1,Nat.gcd_one_left]
   refine⟨⟨⟨n.s,n.w⟩,⟨d.s,d.w⟩⟩,rfl,?_,?_⟩
   ·rw[Rat.num_divInt,eg,Int.natCast_one,Int.ediv_one];exact hn
   rw[Rat.den_divInt,if_neg hb,eg,Nat.div_one];exact hd
  rw[if_neg (by simp[h])]
  exact long
theorem F1 {n:Nat} (h:1<=n):Fit 1 n:=by
 have:=jT (show(1:Int)<=W by decide) h
 rw[Int.pow_one]at this
 have hw:(1:Int)<=W-1:=by decide
 have hw2: -W< -(1:Int):=by decide
 unfold Fit
 omega
theorem qgJ {x:qm} {z:Int} (h:IsZ x z): ∃f,xZ x=some f/\IsF f (z:Rat):=by
 unfold xZ
 rw[qkl,ZB]
 exact⟨_,rfl,h,Ud (by decide) (by decide)⟩
theorem qgY {f:qP} {q:Rat} (h:IsF f q):jW f=some (decide (q.den=1)):=by
 have hs:=h.2.sgn
 have hd:=q.den_pos
 unfold jW
 cases ed:f.Den.w.isEmpty with
 |true=>
  obtain⟨h1,_,_⟩:=h.2.emp ed
  rw[if_pos rfl,ZB]
  congr 1
  exact decide_eq_decide.2 (by omega)
 |false=>
  rw[if_neg (by simp),ZB]
  rcases h.2 with⟨hw,_⟩|⟨_,_,h1,_⟩
  ·rw[hw]at ed;simp at ed
  rw[decide_eq_false (by omega)]
theorem qid {a b:Int} {m n:Nat} (ha:Fit a m) (hb:Fit b n):Fit (a*b) (m+n):=by
 unfold Fit at*
 rw[Int.natAbs_mul,Int.natCast_mul,Int.pow_add]
 have h1:(a.natAbs:Int)*(b.natAbs:Int)<=(a.natAbs:Int)*W^n:=Yc (Int.le_of_lt hb) (by omega)
 have h2:(a.natAbs:Int)*W^n<W^m*W^n:=YH ha (pow_pos W0 n)
 omega
theorem qhv (p q:Rat):p*q=Rat.divInt (p.num*q.num) ((p.den:Int)*q.den):=by
 rw[Rat.mul_def',<-Rat.divInt_ofNat,Int.natCast_mul]
theorem qmd (p q:Rat):(p.den:Int)*q.den≠0:=Int.mul_ne_zero (by have:=p.den_pos;omega) (by have:=q.den_pos;omega)
theorem qgu {p:Rat} {n:Nat} (hp:qaw p n) (hn:1<=n):qaw p⁻¹ n:=by
 by_cases h:p.num=0
 ·constructor
  ·rw[Rat.num_inv,h]
   refine xI ?_ (F1 hn)
   simp
  rw[Rat.den_inv,if_pos h]
  exact F1 hn
 constructor
 ·rw[Rat.num_inv]
  refine xI ?_ hp.2
  rw[Int.natAbs_mul,Int.natAbs_sign_of_ne_zero h,Nat.one_mul]
  exact Int.le_refl _
 rw[Rat.den_inv,if_neg h]
 exact xI (by omega) hp.1
theorem qie {N:Nat} (hN:600000<N) {f g:qP} {p q:Rat} (hf:IsF f p) (hg:IsF g q) {n:Nat} (hn:n<=1900) (fp:qaw p n) (fq:qaw q n): ∃r,yj N f g=some r/\IsF r (p*q):=by
 have fp':=fp.mono hn
 have fq':=fq.mono hn
 obtain⟨a,e1,h1⟩:=qkT (N:=N) (by omega) hf.1 hg.1 (fp'.1.mono (by omega)) (fq'.1.mono (by omega))
 obtain⟨b,e2,h2⟩:=qkT (N:=N) (by omega) hf.2 hg.2 (fp'.2.mono (by omega)) (fq'.2.mono (by omega))
 obtain⟨m,e3,h3⟩:=qhN hN h1 h2 ((qid fp'.1 fq'.1).mono (by omega)) ((qid fp'.2 fq'.2).mono (by omega)) (qmd p q)
 unfold yj
 rw[e1,ZB,e2,ZB,e3,ZB]
 exact⟨m,rfl,by rw[qhv];exact h3⟩
theorem qlK {N:Nat} (hN:600000<N) {f:qP} {p:Rat} (hf:IsF f p) (fp:qaw p 3900) (h0:p≠0): ∃r,y7 N f=some r/\IsF r p⁻¹:=by
 obtain⟨m,e,h⟩:=qhN hN hf.2 hf.1 fp.2 fp.1 (fun c=>h0 (Rat.num_eq_zero.1 c))
 unfold y7
 rw[e,ZB]
 exact⟨m,rfl,by rw[Rat.inv_def];exact h⟩
theorem qlq {N:Nat} (hN:600000<N) {f g:qP} {p q:Rat} (hf:IsF f p) (hg:IsF g q) {n:Nat} (hn:n<=1900) (hn1:1<=n) (fp:qaw p n) (fq:qaw q n) (h0:q≠0): ∃r,yX N f g=some r/\IsF r (p/q):=by
 obtain⟨m,e1,h1⟩:=qlK hN hg (fq.mono (by omega)) h0
 obtain⟨r,e2,h2⟩:=qie hN hf h1 hn fp (qgu fq hn1)
 unfold yX
 rw[e1,ZB,e2,ZB]
 exact⟨r,rfl,by rw[Rat.div_def];exact h2⟩
end Go.Av
end
section
namespace Go.Av
abbrev qb4 (z:Int) (n:Nat):Prop:=(z.natAbs:Int)<E9^n
theorem qb4.len {z:Int} {n:Nat} (h:qb4 z n):(dg E9 z.natAbs).length<=n:=(qfC E1 (by omega)).2 h
theorem qb4.mono {z:Int} {m n:Nat} (h:qb4 z m) (hn:m<=n):qb4 z n:=Int.lt_of_lt_of_le h (jT (by decide) hn)
theorem qmv (z:Int):Can E9 (rI z).w/\dv E9 (rI z).w=(z.natAbs:Int):=⟨yw E1 (by omega),xO E1 (by omega)⟩
theorem qcy {x y:Int} (hx:0<=x) (h:x<=y): ∀n:Nat,0<=x^n/\x^n<=y^n
 |0=>by simp
 |n+1=>by
  have ih:=qcy hx h n
  rw[Int.pow_succ,Int.pow_succ]
  exact⟨Yv ih.1 hx,Int.mul_le_mul ih.2 h hx (Int.le_trans ih.1 ih.2)⟩
end Go.Av
end
section
namespace Go.Av
def qfJ (c:UInt8):Bool:=decide (48<=c.toNat)&&decide (c.toNat<=57)
def xn (n:Nat) (s:List UInt8):Nat:=s.foldl (fun a c=>a*10+(c.toNat-48)) n
theorem qaT (n:Nat):xn n []=n:=List.foldl_nil
theorem qaa (n:Nat) (c:UInt8) (s:List UInt8):xn n (c::s)=xn (n*10+(c.toNat-48)) s:=by
 unfold xn
 rw[List.foldl_cons]
theorem qlk (s:List UInt8): ∀n:Nat,s.all qfJ=true->xn n s<(n+1)*10^s.length:=by
 induction s with
 |nil=>
  intro n _
  rw[List.length_nil,Nat.pow_zero,Nat.mul_one,qaT]
  exact Nat.lt_succ_self n
 |cons c s ih=>
  intro n h
  rw[List.all_cons,Bool.and_eq_true]at h
  have h1:=ih (n*10+(c.toNat-48)) h.2
  have hd:c.toNat-48<=9:=by
   have:=h.1
   simp[qfJ]at this
   omega
  have h2:n*10+(c.toNat-48)+1<=(n+1)*10:=by omega
  rw[qaa,Yr,Nat.pow_succ,Nat.mul_comm (10^s.length) 10,<-Nat.mul_assoc]
  exact Nat.lt_of_lt_of_le h1 (Nat.mul_le_mul_right _ h2)
theorem qkU (s:List UInt8): ∀n:Nat,xn n s=n*10^s.length+xn 0 s:=by
 induction s with
 |nil=>intro n;rw[qaT,qaT];simp
 |cons c s ih=>
  intro n
  rw[qaa,qaa,ih,ih (0*10+_),Yr,Nat.pow_succ,Nat.zero_mul,Nat.zero_add,Nat.add_mul]
  rw[Nat.mul_assoc,Nat.mul_comm 10,<-Nat.add_assoc]
theorem qgh (s t:List UInt8):xn 0 (s++t)=xn 0 s*10^t.length+xn 0 t:=by
 have:xn 0 (s++t)=xn (xn 0 s) t:=by unfold xn;rw[List.foldl_append]
 rw[this,qkU]
theorem qfo (s:List UInt8) (c:UInt8):xn 0 (s++[c])=xn 0 s*10+(c.toNat-48):=by
 rw[qgh]
 simp[qaa,qaT]
def dch (n:Nat):UInt8:=UInt8.ofNat (48+n)
theorem qdI {n:Nat} (h:n<10):(dch n).toNat=48+n:=by
 unfold dch
 rw[UInt8.toNat_ofNat']
 omega
theorem qih {n:Nat} (h:n<10):qfJ (dch n)=true:=by
 unfold qfJ
 rw[qdI h,Bool.and_eq_true,decide_eq_true_eq,decide_eq_true_eq]
 omega
theorem qlo {c:UInt8} (h:qfJ c=true):c=dch (c.toNat-48)/\c.toNat-48<10:=by
 unfold qfJ at h
 rw[Bool.and_eq_true,decide_eq_true_eq,decide_eq_true_eq]at h
 refine⟨?_,by omega⟩
 rw[<-UInt8.toNat_inj,qdI (by omega)]
 omega
def qbl:Nat->Nat->Str
 |0,_=>[]
 |k+1,n=>qbl k (n/10)++[dch (n%10)]
theorem qey: ∀k n,(qbl k n).length=k
 |0,n=>rfl
 |k+1,n=>by rw[qbl,Yq,qey];rfl
theorem yD {n:Nat} (h:n<10):Lib.decDigits n=[dch n]:=by rw[Lib.decDigits,dif_pos h];rfl
theorem qdh {n:Nat} (h: ¬n<10):Lib.decDigits n=Lib.decDigits (n/10)++[dch (n%10)]:=by rw[Lib.decDigits,dif_neg h];rfl
theorem qd4: ∀(k n:Nat),0<n/10^k->Lib.decDigits n=Lib.decDigits (n/10^k)++qbl k (n%10^k)
 |0,n,_=>by simp[qbl]
 |k+1,n,h=>by
  have e1:n/10^(k+1)=n/10/10^k:=by rw[Nat.pow_succ,Nat.mul_comm,Nat.div_div_eq_div_mul]
  have hp:0<10^k:=Nat.pow_pos (by decide)
  have h10: ¬n<10:=fun c=>by
   rw[e1,Nat.div_eq_of_lt c,Nat.zero_div]at h
   omega
  have e2:n%10^(k+1)/10=n/10%10^k:=by rw[Nat.pow_succ,Nat.mul_comm,Nat.mod_mul_right_div_self]
  have e3:n%10^(k+1)%10=n%10:=Nat.mod_mod_of_dvd _ ⟨10^k,by rw[Nat.pow_succ,Nat.mul_comm]⟩
  rw[qdh h10,qd4 k (n/10) (by rw[<-e1];exact h),qbl,e2,e3,e1,Yz]
theorem qfr (n:Nat):(Lib.decDigits n).all qfJ=true:=by
 induction n using Nat.strongRecOn with
 |_ n ih=>
  by_cases h:n<10
  ·rw[yD h,List.all_cons,qih h];rfl
  rw[qdh h,List.all_append,ih _ (by omega),List.all_cons,qih (by omega)];rfl
theorem qfI (n:Nat):xn 0 (Lib.decDigits n)=n:=by
 induction n using Nat.strongRecOn with
 |_ n ih=>
  by_cases h:n<10
  ·rw[yD h,qaa,qaT,qdI h];omega
  rw[qdh h,qfo,ih _ (by omega),qdI (by omega)];omega
theorem qjt (n:Nat):0<(Lib.decDigits n).length:=by rw[Lib.decDigits_length];exact Lib.nDigits_pos n
theorem qmQ {m n:Nat} (h:Lib.decDigits m=Lib.decDigits n):m=n:=by rw[<-qfI m,h,qfI]
theorem qav {n k:Nat} (hk:0<k):(Lib.decDigits n).length<=k↔n<10^k:=by
 constructor
 ·intro h
  have:=qlk (Lib.decDigits n) 0 (qfr n)
  rw[qfI]at this
  have h2:(10:Nat)^(Lib.decDigits n).length<=10^k:=Nat.pow_le_pow_right (by omega) h
  omega
 intro h
 rcases Nat.lt_or_ge k (Lib.decDigits n).length with c|c
 ·exfalso
  rw[Lib.decDigits_length]at c
  obtain⟨m,hm⟩: ∃m,Lib.nDigits n=m+2:=⟨Lib.nDigits n-2,by omega⟩
  have hlow: ∀(n m:Nat),Lib.nDigits n=m+2->10^(m+1)<=n:=by
   intro n
   induction n using Nat.strongRecOn with
   |_ n ih=>
    intro m hm
    by_cases h:n<10
    ·rw[Lib.nDigits_small h]at hm;omega
    rw[Lib.nDigits_big h]at hm
    cases m with
    |zero=>simp;omega
    |succ m=>
     have:=ih (n/10) (by omega) m (by omega)
     rw[Nat.pow_succ]
     omega
  have:=hlow n m hm
  have h2:(10:Nat)^k<=10^(m+1):=Nat.pow_le_pow_right (by omega) (by omega)
  omega
 exact c
def Dec (s:Str):Prop:=0<s.length/\s.all qfJ=true/\(s[0]? =some 48->s=[48])
instance (s:Str):Decidable (Dec s):=by unfold Dec;infer_instance
theorem qk5: ∀(k:Nat) (s:Str),s.length<=k->Dec s->s=Lib.decDigits (xn 0 s)
 |0,s,h,hd=>by have:=hd.1;omega
 |k+1,s,h,hd=>by
  rcases List.eq_nil_or_concat s with e|⟨t,c,e⟩
  ·rw[e]at hd;exact absurd hd.1 (by simp)
  rw[List.concat_eq_append]at e
  subst e
  have ha:=hd.2.1
  rw[List.all_append,Bool.and_eq_true,List.all_cons,List.all_nil,Bool.and_true]at ha
  obtain⟨ec,hc⟩:=qlo ha.2
  by_cases ht:t=[]
  ·subst ht
   rw[List.nil_append,qaa,qaT,Nat.zero_mul,Nat.zero_add,yD hc,<-ec]
  have htl:0<t.length:=List.length_pos_iff.2 ht
  have h0:t[0]? ≠some 48:=fun e=>by
   have:=hd.2.2 (by rw[Yf htl];exact e)
   have:=congrArg List.length this
   rw[Yq,List.length_singleton,List.length_singleton]at this
   omega
  have hD:Dec t:=⟨htl,ha.1,fun e=>absurd e h0⟩
  have ih:=qk5 k t (by simp at h;omega) hD
  have hv:xn 0 t≠0:=fun e=>by
   rw[e]at ih
   exact h0 (by rw[ih,yD (by decide)];rfl)
  rw[qfo,qdh (by omega),show(xn 0 t*10+(c.toNat-48))/10=xn 0 t by omega,show(xn 0 t*10+(c.toNat-48))%10=c.toNat-48 by omega,<-ih,<-ec]
theorem Dec.eq {s:Str} (h:Dec s):s=Lib.decDigits (xn 0 s):=qk5 s.length s (Nat.le_refl _) h
end Go.Av
end
section
namespace Go.Av
theorem qcX {a b:Str} (h:a.length+b.length<=1000000000):cat a b=some (a++b):=by
 unfold cat
 rw[if_pos (by omega)]
theorem dcut {d:Nat} (h:d<10):cut ([48,49,50,51,52,53,54,55,56,57]:Str) (d:Int) (w64 ((d:Int)+1))=some [dch d]:=by
 rw[zD (by omega)]
 rcases(show d=0\/d=1\/d=2\/d=3\/d=4\/d=5\/d=6\/d=7\/d=8\/d=9 by omega)with e|e|e|e|e|e|e|e|e|e<;>subst e<;>decide
theorem tm10 (n:Nat):(n:Int).tmod 10=((n%10:Nat):Int):=by rw[Int.tmod_eq_emod_of_nonneg (by omega)];omega
theorem td10 (n:Nat):(n:Int).tdiv 10=((n/10:Nat):Int):=by rw[Int.tdiv_eq_ediv_of_nonneg (by omega)];omega
theorem qcW {least:Int} {K n:Nat} {s:Str} (hn:n<9223372036854775808) (hs:s.length<=1000) (h:0<n\/(s.length:Int)<least):qI least (K+1) (n:Int) s=qI least K ((n/10:Nat):Int) (dch (n%10)::s):=by
 have cond:(if(n:Int)>0 then some true else some (decide ((s.length:Int)<least)):Option Bool)=some true:=by
  by_cases c:(n:Int)>0
  ·rw[if_pos c]
  rw[if_neg c,decide_eq_true (by omega)]
 rw[qI,cond,ZB,if_pos rfl,tm10,td10,dcut (by omega),ZB,qcX (by simp;omega),ZB,qD (by omega) (by omega)]
 rfl
theorem qde {least:Int} {K:Nat} {s:Str} (h: ¬(s.length:Int)<least):qI least (K+1) 0 s=some s:=by
 rw[qI,if_neg (by omega),decide_eq_false h,ZB,if_neg (by simp)]
theorem qgr: ∀(k K n:Nat) (s:Str),n<10^k->s.length+k=9->k<K->qI 9 K (n:Int) s=some (qbl k n++s)
 |k,0,n,s,_,_,h=>by omega
 |0,K+1,n,s,hn,hs,h=>by
  simp at hn
  subst hn
  exact qde (by omega)
 |k+1,K+1,n,s,hn,hs,h=>by
  have h9:(10:Nat)^(k+1)<=10^9:=Nat.pow_le_pow_right (by omega) (by omega)
  rw[Nat.pow_succ]at hn
  rw[qcW (by rw[Nat.pow_succ]at h9;omega) (by omega) (.inr (by omega)),qgr k K (n/10) _ (by omega) (by simp;omega) (by omega),qbl,Yz]
  rfl
theorem qgj: ∀(k K n:Nat) (s:Str),0<n->n<10^k->n<9223372036854775808->s.length+k<=900->k<K->qI 1 K (n:Int) s=some (Lib.decDigits n++s)
 |k,0,n,s,_,_,_,_,h=>by omega
 |0,K+1,n,s,h0,hn,_,hs,h=>by simp at hn;omega
 |k+1,K+1,n,s,h0,hn,h63,hs,h=>by
  rw[Nat.pow_succ]at hn
  rw[qcW h63 (by omega) (.inl h0)]
  by_cases c:n<10
  ·obtain⟨K2,rfl⟩: ∃K2,K=K2+1:=⟨K-1,by omega⟩
   rw[show n/10=0 by omega,yD c,show n%10=n by omega]
   exact qde (by simp;omega)
  rw[qgj k K (n/10) _ (by omega) (by omega) (by omega) (by simp;omega) (by omega),qdh c,Yz]
  rfl
theorem qkO {N n:Nat} (hN:100<N) (h:n<1000000000):zG N (n:Int) 9=some (qbl 9 n):=by
 unfold zG
 rw[qgr 9 N n [] h rfl (by omega),ZB,YQ]
theorem qi1 {N n:Nat} (hN:100<N) (h:n<9223372036854775808):zG N (n:Int) 1=some (Lib.decDigits n):=by
 unfold zG
 rcases Nat.eq_zero_or_pos n with e|e
 ·subst e
  obtain⟨K,rfl⟩: ∃K,N=K+1+1:=⟨N-2,by omega⟩
  have h1:=qcW (least:=1) (K:=K+1) (n:=0) (s:=[]) (by omega) (by simp) (.inr (by simp))
  rw[h1,Nat.zero_div]
  have h2:=qde (least:=1) (K:=K) (s:=[dch (0%10)]) (by simp)
  have h2:qI 1 (K+1) ((0:Nat):Int) [dch (0%10)]=_:=h2
  rw[h2,ZB,yD (by decide)]
 rw[qgj 19 N n [] e (by omega) h (by simp) (by omega),ZB,YQ]
theorem qha: ∀k:Nat,E9^k=((10^(9*k):Nat):Int)
 |0=>rfl
 |k+1=>by
  rw[Int.pow_succ,qha k,Nat.mul_succ,Nat.pow_add,Int.natCast_mul]
  rfl
def nv (w:List Int):Nat:=(dv E9 w).toNat
theorem qfv {w:List Int} (h:Dg E9 w):(nv w:Int)=dv E9 w:=by
 have:=zf E0 h
 unfold nv
 omega
theorem nv_lt {w:List Int} (h:Dg E9 w):nv w<10^(9*w.length):=by
 have h1:=xL E0 h
 rw[qha,<-qfv h]at h1
 omega
theorem qfd {w:List Int} (h:Dg E9 w):(Lib.decDigits (nv w)).length<=9*w.length+1:=by
 refine(qav (by omega)).2 ?_
 have:=nv_lt h
 rw[Nat.pow_succ]
 omega
theorem qia {w:List Int} (h:Dg E9 w) {i:Nat} (hi:i<w.length):nv (w.drop i)=w[i].toNat+1000000000*nv (w.drop (i+1)):=by
 have h1:=qfv (h.drop i)
 have h2:=qfv (h.drop (i+1))
 have h3:=(h.at hi).1
 rw[qjj w hi]at h1
 have h4:E9*dv E9 (w.drop (i+1))=1000000000*dv E9 (w.drop (i+1)):=rfl
 omega
theorem qgd {N:Nat} (hN:100<N) {a:vZ} (ha:Dg E9 a.w) (hal:a.w.length<=100000): ∀(K i:Nat),i<=a.w.length->i<K->0<nv (a.w.drop i)->jB N a K (Lib.decDigits (nv (a.w.drop i))) ((i:Int)-1)=some (Lib.decDigits (nv a.w))
 |0,i,_,h,_=>by omega
 |K+1,0,_,_,_=>by
  rw[jB,if_neg (by omega),List.drop_zero]
 |K+1,i+1,hi,h,hp=>by
  have hil:i<a.w.length:=by omega
  have ax:=ha.at hil
  have ax2:a.w[i]<1000000000:=ax.2
  have ei:((i+1:Nat):Int)-1=(i:Int):=by omega
  have ed:a.w[i]=(a.w[i].toNat:Int):=by omega
  have el:=qia ha hil
  have ll:=qfd (ha.drop (i+1))
  rw[List.length_drop]at ll
  rw[jB,ei,if_pos (by omega),qj,Ya hil,ZB]
  have e9:zG N a.w[i] 9=some (qbl 9 a.w[i].toNat):=by
   conv=>lhs;rw[ed]
   exact qkO hN (by omega)
  rw[e9,ZB,qcX (by rw[qey];omega),ZB,qD (by omega) (by omega)]
  have e10:Lib.decDigits (nv (a.w.drop (i+1)))++qbl 9 a.w[i].toNat=Lib.decDigits (nv (a.w.drop i)):=by
   have h9:(10:Nat)^9=1000000000:=rfl
   have q:nv (a.w.drop i)/10^9=nv (a.w.drop (i+1)):=by rw[h9];omega
   have r:nv (a.w.drop i)%10^9=a.w[i].toNat:=by rw[h9];omega
   rw[qd4 9 (nv (a.w.drop i)) (by rw[q];exact hp),q,r]
  rw[e10]
  exact qgd hN ha hal K i (by omega) (by omega) (by omega)
theorem xh {z:Int} (h:z<0):Lib.itoa z=45::Lib.decDigits z.natAbs:=by unfold Lib.itoa;rw[if_pos h]
theorem yl {z:Int} (h: ¬z<0):Lib.itoa z=Lib.decDigits z.natAbs:=by
 unfold Lib.itoa
 rw[if_neg h,show z.toNat=z.natAbs by omega]
theorem qlP {N:Nat} (hN:60000<N) {z:Int} (h:qb4 z 50000):qao N (rI z)=some (Lib.itoa z):=by
 obtain⟨c,e⟩:=qmv z
 have l:(rI z).w.length<=50000:=h.len
 have en:nv (rI z).w=z.natAbs:=by unfold nv;rw[e];omega
 have ng:(rI z).neg=decide (z<0):=rfl
 unfold qao
 by_cases h0:(rI z).w.length=0
 ·have hz:z=0:=by
   rw[YL.1 h0,jw]at e
   omega
  rw[if_pos (by omega),hz]
  have:Lib.itoa 0=[48]:=by rw[yl (by decide)];exact yD (by decide)
  rw[this]
 have hk:(rI z).w.length-1<(rI z).w.length:=by omega
 have ax:=c.1.at hk
 have ax2:(rI z).w[(rI z).w.length-1]<1000000000:=ax.2
 have an:(rI z).w[(rI z).w.length-1]≠0:=c.2 _ (by rw[List.getLast?_eq_getElem?];exact Ya hk)
 have ed:(rI z).w[(rI z).w.length-1]=((rI z).w[(rI z).w.length-1].toNat:Int):=by omega
 have e1:nv ((rI z).w.drop ((rI z).w.length-1))=(rI z).w[(rI z).w.length-1].toNat:=by
  rw[qia c.1 hk,List.drop_of_length_le (by omega)]
  rfl
 have e2:zG N (rI z).w[(rI z).w.length-1] 1=some (Lib.decDigits (nv ((rI z).w.drop ((rI z).w.length-1)))):=by
  conv=>lhs;rw[ed]
  rw[e1]
  exact qi1 (by omega) (by omega)
 have e3:=qgd (N:=N) (by omega) c.1 (by omega) N ((rI z).w.length-1) (by omega) (by omega) (by rw[e1];omega)
 have ll:=qfd c.1
 rw[if_neg (by omega),qfQ (by omega) (by omega),qj,Ya hk,ZB,e2,ZB,show w64 (((rI z).w.length:Int)-2)=(((rI z).w.length-1:Nat):Int)-1 by rw[qD (by omega) (by omega)];omega,e3,ZB,ng]
 by_cases hz:z<0
 ·rw[decide_eq_true hz,if_pos rfl,qcX (by simp;omega),ZB,xh hz,en]
  rfl
 rw[decide_eq_false hz,if_neg (by simp),yl hz,en]
def sgn (s:Str):Bool:=decide (s[0]? =some 45)
def bdy (s:Str):Str:=if sgn s=true then s.drop 1 else s
def sval (s:Str):Int:=if sgn s=true then-((xn 0 (bdy s):Nat):Int)else((xn 0 (bdy s):Nat):Int)
theorem qfX (z:Int):sgn (Lib.itoa z)=decide (z<0):=by
 unfold sgn
 by_cases h:z<0
 ·rw[xh h,decide_eq_true h];rfl
 rw[yl h,decide_eq_false h]
 refine decide_eq_false fun e=>?_
 have hm:(45:UInt8)∈Lib.decDigits z.natAbs:=Yn e
 have:=Yp.1 (qfr z.natAbs) _ hm
 exact absurd this (by decide)
theorem qgo (z:Int):bdy (Lib.itoa z)=Lib.decDigits z.natAbs:=by
 unfold bdy
 rw[qfX]
 by_cases h:z<0
 ·rw[decide_eq_true h,if_pos rfl,xh h];rfl
 rw[decide_eq_false h,if_neg (by simp),yl h]
theorem qe8 (z:Int):sval (Lib.itoa z)=z:=by
 unfold sval
 rw[qfX,qgo,qfI]
 by_cases h:z<0
 ·rw[decide_eq_true h,if_pos rfl];omega
 rw[decide_eq_false h,if_neg (by simp)];omega
def slA:Str->Nat
 |[]=>0
 |c::s=>if c=47 then 0 else slA s+1
theorem qfE: ∀(s t:Str),(∀c∈s,c≠47)->slA (s++47::t)=s.length/\slA s=s.length
 |[],t,_=>⟨by simp[slA],rfl⟩
 |c::s,t,h=>by
  have h1:=qfE s t fun x hx=>h x (List.mem_cons_of_mem _ hx)
  rw[List.cons_append,slA,slA,if_neg (h c (List.mem_cons_self ..)),if_neg (h c (List.mem_cons_self ..)),h1.1,h1.2]
  exact⟨rfl,rfl⟩
end Go.Av
end
section
namespace Go.Av
theorem ql4 {z:Int} {p n:Nat} (h:(z.natAbs:Int)<((10^p:Nat):Int)) (hp:p<=19*n):Fit z n:=by
 have h1:(10:Nat)^p<=10^(19*n):=Nat.pow_le_pow_right (by omega) hp
 have h2:((10^(19*n):Nat):Int)<=W^n:=by
  rw[Nat.pow_mul]
  have:=(qcy (x:=10000000000000000000) (y:=W) (by decide) (by decide) n).2
  rw[Int.natCast_pow]
  exact this
 unfold Fit
 omega
theorem qew (s:Str):strings_HasPrefix s [45]=some (sgn s):=by
 unfold strings_HasPrefix stringslite_HasPrefix sgn
 cases s with
 |nil=>rfl
 |cons c t=>
  rw[if_pos (by simp;omega)]
  have e:cut (c::t) 0 (([45]:Str).length:Int)=some [c]:=qcA (l:=c::t) (k:=1) (by simp)
  rw[e]
  simp only[ZB,Yj]
  congr 1
  rw[Bool.eq_iff_iff,beq_iff_eq,decide_eq_true_eq]
  constructor
  ·intro h;injection h with h;rw[h]
  intro h;rw[Ye h]
theorem qli {s:Str} (h:sgn s=true):1<=s.length:=by
 cases s with
 |nil=>simp[sgn]at h
 |cons=>simp
theorem qeS (s:Str):strings_TrimPrefix s [45]=some (bdy s):=by
 unfold strings_TrimPrefix stringslite_TrimPrefix
 have e:stringslite_HasPrefix s [45]=some (sgn s):=by
  have:=qew s
  unfold strings_HasPrefix at this
  cases h:stringslite_HasPrefix s [45]with
  |none=>rw[h]at this;cases this
  |some b=>rw[h]at this;exact this
 rw[e,ZB]
 unfold bdy
 cases h:sgn s with
 |false=>rw[if_neg (by simp),if_neg (by simp),ZB]
 |true=>
  have e2:cut s (([45]:Str).length:Int) (s.length:Int)=some (s.drop 1):=qkg (qli h)
  rw[if_pos rfl,if_pos rfl,e2,ZB,ZB]
end Go.Av
end
section
namespace Go.Av
theorem qim: ∀n:Nat,Lib.repeatL [48] n=List.replicate n 48
 |0=>rfl
 |n+1=>by rw[Lib.repeatL,qim,List.replicate_succ];rfl
theorem qe2: ∀k:Nat,qbl k 0=List.replicate k 48
 |0=>rfl
 |k+1=>by
  rw[qbl,Nat.zero_div,qe2 k,List.replicate_succ']
  rfl
theorem qgp: ∀(k n:Nat),n<10^(k+1)->qbl (k+1) n=List.replicate (k+1-(Lib.decDigits n).length) 48++Lib.decDigits n
 |0,n,h=>by
  have h:n<10:=by simpa using h
  rw[yD h,qbl,qbl,Nat.mod_eq_of_lt h]
  rfl
 |k+1,n,h=>by
  rw[qbl]
  by_cases c:n<10
  ·rw[yD c,Nat.div_eq_of_lt c,qe2,Nat.mod_eq_of_lt c]
   rfl
  rw[Nat.pow_succ]at h
  rw[qgp k (n/10) (by omega),qdh c,Yz,Yq,List.length_singleton,show k+1+1-((Lib.decDigits (n/10)).length+1)=k+1-(Lib.decDigits (n/10)).length by omega]
theorem qfm (n:Nat):Lib.itoa (n:Int)=Lib.decDigits n:=by rw[yl (by omega),Int.natAbs_natCast]
theorem qkv {r:Nat} (h:r<1000000000000000000) (c: ¬r=0):dg W (r:Int)=[(r:Int)]:=by
 rw[qhn (by omega) (by unfold W;omega)]
theorem qj3 {r:Nat} (h:r<1000000000000000000):qd8 (r:Int) 10=some (Lib.decDigits r):=by
 unfold qd8
 rw[if_pos ⟨by omega,by omega,rfl⟩,qfm]
theorem qju:(if((dg W ((0:Nat):Int)).length:Int)>0 then(idx (dg W ((0:Nat):Int)) 0).bind fun x13=>(qd8 x13 10).bind fun r14=>some r14 else some [48]:Option Str)=some (Lib.decDigits 0):=by
 rw[show((0:Nat):Int)=0 from rfl,qdK,if_neg (by simp),yD (by decide)]
 rfl
theorem qlf {r:Nat} (h:r<1000000000000000000):(if((dg W (r:Int)).length:Int)>0 then(idx (dg W (r:Int)) 0).bind fun x13=>(qd8 x13 10).bind fun r14=>some r14 else some [48]:Option Str)=some (Lib.decDigits r):=by
 by_cases c:r=0
 ·rw[c]
  exact qju
 rw[qkv h c,if_pos (show((([(r:Int)]:List Int).length:Nat):Int)>0 from by rw[List.length_singleton];decide),qlZ,Yj,ZB,qj3 h]
 rfl
theorem p18:(10:Nat)^18=1000000000000000000:=rfl
theorem qlG {q r:Nat} (h:r<1000000000000000000): ∃t:Str,(if((dg W (q:Int)).length:Int)>0 then(qb0 [48] (w64 (18-((Lib.decDigits r).length:Int)))).bind fun r18=>(cat r18 (Lib.decDigits r)).bind fun s19=>some s19 else some (Lib.decDigits r):Option Str)=some t/\0<t.length/\Lib.decDigits (1000000000000000000*q+r)=(if q=0 then[]else Lib.decDigits q)++t:=by
 have hr:r<10^18:=by rw[p18];exact h
 have lD:(Lib.decDigits r).length<=18:=(qav (by decide)).2 hr
 have lD0:=qjt r
 by_cases c:q=0
 ·subst c
  rw[show((0:Nat):Int)=0 from rfl,qdK,if_neg (by simp),if_pos rfl,Nat.mul_zero,Nat.zero_add]
  exact⟨_,rfl,lD0,rfl⟩
 have hne:dg W (q:Int)≠[]:=fun e=>by have:=(qhD W1 (by omega)).1 e;omega
 have hlen:0<(dg W (q:Int)).length:=List.length_pos_iff.2 hne
 have et:qb0 [48] (w64 (18-((Lib.decDigits r).length:Int)))=some (List.replicate (18-(Lib.decDigits r).length) 48):=by
  rw[qD (by omega) (by omega)]
  unfold qb0
  rw[if_pos ⟨by omega,by omega,by simp;omega⟩,qim]
  congr 2
  omega
 have hp:=qgp 17 r hr
 have hl:(qbl (17+1) r).length=18:=qey _ _
 have hs:=qd4 18 (1000000000000000000*q+r)
 rw[p18,Nat.mul_add_div (by omega),Nat.div_eq_of_lt h,Nat.add_zero,Nat.mul_add_mod,Nat.mod_eq_of_lt h]at hs
 rw[if_pos (by omega),et,ZB,qcX (by simp;omega),ZB,<-hp,if_neg c]
 exact⟨_,rfl,by omega,hs (by omega)⟩
theorem qmO {N:Nat} (hN:600000<N) (B:Nat) (hB:B<=3900) (K:Nat): ∀(k m:Nat) (l:List Str),m<10^(18*k)->k<K->k+l.length<=100000->Fit (m:Int) B->(∀t∈l,0<t.length)->
 ∃l',zL N K l (dg W (m:Int))=some l'/\(∀t∈l',0<t.length)/\l'.length<=k+l.length/\l'.reverse.flatten=(if m=0 then[]else Lib.decDigits m)++l.reverse.flatten:=by
 induction K with
 |zero=>intro k m l _ h;omega
 |succ K ih=>
  intro k m l hm hK hl fm hp
  rw[zL]
  by_cases h0:m=0
  ·subst h0
   rw[show((0:Nat):Int)=0 from rfl,qdK,if_neg (by simp),if_pos rfl]
   exact⟨l,rfl,hp,by omega,rfl⟩
  obtain⟨j,hj⟩: ∃j,k=j+1:=⟨k-1,by
   rcases Nat.eq_zero_or_pos k with e|e
   ·subst e;simp at hm;omega
   omega⟩
  rw[hj]at hm hK hl
  have hm0:(0:Int)<=(m:Int):=by omega
  have hne:dg W (m:Int)≠[]:=fun e=>by have:=(qhD W1 hm0).1 e;omega
  have hlen:0<(dg W (m:Int)).length:=List.length_pos_iff.2 hne
  have ln:(dg W (m:Int)).length<=3900:=Nat.le_trans fm.len hB
  have cB:Can W [1000000000000000000]:=by
   have:=yw W1 (show(0:Int)<=1000000000000000000 by decide)
   rw[qhn (by decide) (by decide)]at this
   exact this
  have vB:dv W [1000000000000000000]=1000000000000000000:=by rw[zP,jw,Int.mul_zero,Int.add_zero]
  have ed:=qe0 (N:=N) (by omega) (yw W1 hm0) cB (by omega) (by rw[vB];decide)
  rw[vB,xO W1 hm0]at ed
  obtain⟨q,r,hq,hr⟩: ∃q r,m=1000000000000000000*q+r/\r<1000000000000000000:=⟨m/1000000000000000000,m%1000000000000000000,by omega,by omega⟩
  have eq:(m:Int)/1000000000000000000=(q:Int):=by omega
  have er:(m:Int)%1000000000000000000=(r:Int):=by omega
  rw[eq,er]at ed
  obtain⟨t,et,t0,eD⟩:=qlG (q:=q) hr
  rw[<-hq]at eD
  rw[if_pos (by omega),ed,ZB]
  simp only
  rw[qlf hr,ZB,et,ZB,qcj (by simp;omega) (by simp;omega),ZB]
  have hk:q<10^(18*j):=by
   rw[Nat.mul_succ,Nat.pow_add,p18,Nat.mul_comm]at hm
   refine Nat.lt_of_mul_lt_mul_left (a:=1000000000000000000) ?_
   omega
  obtain⟨l',f1,f2,f3,f4⟩:=ih j q (l++[t]) hk (by omega) (by simp;omega) (xI (by omega) fm) (fun u hu=>by
   rcases List.mem_append.1 hu with hu|hu
   ·exact hp u hu
   rw[List.mem_singleton.1 hu];exact t0)
  refine⟨l',f1,f2,by simp at f3;omega,?_⟩
  rw[f4,if_neg h0,eD,List.reverse_append,List.flatten_append,Yz]
  simp
def byN (s:Str):List Int:=s.map fun x=>(x.toNat:Int)
theorem qdQ (s:Str):(byN s).length=s.length:=by unfold byN;rw[List.length_map]
theorem qk6 {l:List Str} (hp: ∀t∈l,0<t.length) (hl:l.length<=100000): ∀(K i:Nat) (o:Option (List Int)),i<=l.length->i<K->(hof o).length+(l.take i).flatten.length<=1000000000->
 ∃o',ky l K o.isSome o ((i:Int)-1)=some (o'.isSome,o')/\hof o'=hof o++byN (l.take i).reverse.flatten
 |0,i,o,_,h,_=>by omega
 |K+1,0,o,hi,h,hb=>by
  rw[ky,if_neg (by omega)]
  exact⟨o,rfl,by simp[byN]⟩
 |K+1,i+1,o,hi,h,hb=>by
  have hil:i<l.length:=by omega
  have ei:((i+1:Nat):Int)-1=(i:Int):=by omega
  have ht:l.take (i+1)=l.take i++[l[i]]:=List.take_succ_eq_append_getElem hil
  have h1:=hp l[i] (List.getElem_mem hil)
  rw[ht,List.flatten_append,Yq]at hb
  simp only[List.flatten_cons,List.flatten_nil,YQ]at hb
  have ew:bWr o.isSome o l[i]=some (hof o++byN l[i]):=by
   unfold bWr
   rw[if_pos ⟨rfl,by omega,h1⟩]
   rfl
  rw[ky,ei,if_pos (by omega),qj,Ya hil,ZB,ew,ZB,qD (by omega) (by omega)]
  obtain⟨o',f1,f2⟩:=qk6 hp hl K i (some (hof o++byN l[i])) (by omega) (by omega) (by
   show(hof o++byN l[i]).length+_<=_
   rw[Yq,qdQ];omega)
  refine⟨o',f1,?_⟩
  rw[f2,ht,List.reverse_append,List.flatten_append]
  show hof o++byN l[i]++_=_
  rw[Yz]
  unfold byN
  simp
theorem qkH (s:Str):(byN s).map (fun n=>UInt8.ofNat n.toNat)=s:=by
 unfold byN
 rw[List.map_map]
 conv=>rhs;rw[<-List.map_id s]
 refine List.map_congr_left fun x _=>?_
 show UInt8.ofNat ((x.toNat:Int)).toNat=x
 rw[Int.toNat_natCast,UInt8.ofNat_toNat]
theorem qlg (s:Str):(byN s).all (fun n=>decide (0<=n)&&decide (n<256))=true:=by
 unfold byN
 rw[List.all_map,Yp]
 intro x _
 have:x.toNat<256:=x.toNat_lt
 simp
 omega
theorem qfK: ∀l:List Str,l.reverse.flatten.length=l.flatten.length:=fun l=>by
 rw[List.length_flatten,List.length_flatten,List.map_reverse,List.sum_reverse]
theorem qb3 {N:Nat} (hN:600000<N) {x:qm} {z:Int} (h:IsZ x z) (fz:Fit z 3900):jg N x=some (Lib.itoa z):=by
 unfold jg
 cases e:x.w.isEmpty with
 |true=>
  obtain⟨h1,h2,h3⟩:=h.emp e
  rw[if_pos rfl,h1]
  unfold qhX
  rw[if_pos ⟨h2,h3⟩,ZB]
 |false=>
  have hz:z.natAbs≠0:=by
   rcases h with⟨hw,_⟩|⟨_,_,h1,_⟩
   ·rw[hw]at e;cases e
   omega
  obtain⟨B8,hB8⟩: ∃B8:Nat,B8=8000:=⟨_,rfl⟩
  have pw:((10^(18*B8):Nat):Int)=(1000000000000000000:Int)^B8:=by
   rw[Nat.pow_mul,Int.natCast_pow]
   rfl
  have hm:z.natAbs<10^(18*B8):=by
   have h1:W^3900<=(1000000000000000000:Int)^B8:=by
    have a1:(1000000000000000000:Int)^B8=((1000000000000000000:Int)^2)^4000:=by rw[<-Int.pow_mul,hB8]
    have a2:W^4000<=((1000000000000000000:Int)^2)^4000:=(qcy (by decide) (by decide) 4000).2
    have a3:W^3900<=W^4000:=jT (by decide) (by decide)
    rw[a1]
    exact Int.le_trans a3 a2
   rw[<-pw]at h1
   unfold Fit at fz
   omega
  obtain⟨l,f1,f2,f3,f4⟩:=qmO hN 3900 (Nat.le_refl _) N B8 z.natAbs [] hm (by omega) (by simp;omega) (by unfold Fit;rw[Int.natAbs_natCast];exact fz) (fun t ht=>by cases ht)
  rw[if_neg hz]at f4
  simp only[List.reverse_nil,List.flatten_nil,YQ,List.length_nil,Nat.add_zero]at f3 f4
  have lD:(Lib.decDigits z.natAbs).length<=18*B8:=(qav (by omega)).2 hm
  have lf:l.flatten.length<=18*B8:=by rw[<-qfK,f4];exact lD
  have lpos:=qjt z.natAbs
  rw[if_neg (by simp),parts_eq h,ZB]
  simp only
  rw[f1,ZB]
  have el:w64 ((l.length:Int)-1)=(l.length:Int)-1:=qD (by omega) (by omega)
  have fin: ∀(o:Option (List Int)) (pre:Str),hof o=byN pre->pre.length<=10->((ky l N o.isSome o (w64 ((l.length:Int)-1))).bind fun(ok30,o31)=>(qiY ok30 o31).bind fun t38=>some t38)=some (pre++Lib.decDigits z.natAbs):=by
   intro o pre ho hpre
   obtain⟨o',g1,g2⟩:=qk6 f2 (by omega) N l.length o (Nat.le_refl _) (by omega) (by rw[ho,qdQ,List.take_of_length_le (Nat.le_refl _)];omega)
   rw[List.take_of_length_le (Nat.le_refl _),f4,ho]at g2
   have g3:hof o'=byN (pre++Lib.decDigits z.natAbs):=by
    rw[g2]
    unfold byN
    rw[List.map_append]
   have hs:o'.isSome=true:=by
    cases o' with
    |none=>
     have:=congrArg List.length g3
     rw[qdQ,Yq]at this
     simp at this
     omega
    |some q=>rfl
   rw[el,g1,ZB]
   simp only
   unfold qiY
   rw[if_pos ⟨hs,by rw[g3,qdQ,Yq];omega,by rw[g3];exact qlg _⟩,g3,qkH,ZB]
  by_cases c:z<0
  ·have eb:bWr false (none:Option (List Int)) [45]=some [45]:=rfl
   rw[decide_eq_true c,if_pos rfl,eb,ZB,ZB]
   simp only
   have:=fin (some [45]) [45] rfl (by simp)
   rw[xh c]
   exact this
  rw[decide_eq_false c,if_neg (by simp),ZB]
  simp only
  have:=fin none [] rfl (by simp)
  rw[yl c]
  exact this
end Go.Av
end
section
namespace Go.Av
theorem qlA {x:qm} {z:Int} (h:IsZ x z) (fz:Fit z 3900): ∃b:Nat,yZ x=some (b:Int)/\(z.natAbs:Int)<2^b:=by
 unfold yZ
 rw[parts_eq h,ZB]
 simp only
 have hz:(0:Int)<=(z.natAbs:Int):=by omega
 have cc:=yw W1 hz
 have vv:=xO W1 hz
 have ll:=fz.len
 generalize dg W (z.natAbs:Int)=w at*
 by_cases h0:w.length=0
 ·rw[if_pos (by omega)]
  rw[YL.1 h0,jw]at vv
  exact⟨0,rfl,by rw[<-vv];decide⟩
 have hk:w.length-1<w.length:=by omega
 have ax:=cc.1.at hk
 obtain⟨l,e,hl⟩:=qgt ax.1 ax.2
 have hl0:0<=l/\l<=64:=by
  rcases hl with⟨_,h⟩|⟨h1,h2,_⟩<;>omega
 have hl2:w[w.length-1]<2^l.toNat:=by
  rcases hl with⟨h1,h2⟩|⟨_,_,_,h⟩
  ·rw[h1,h2];decide
  exact h
 rw[if_neg (by omega),qfQ (by omega) (by omega),qj,Ya hk,ZB,e,ZB,qD (n:=64*((w.length-1:Nat):Int)) (by omega) (by omega),qD (by omega) (by omega)]
 refine⟨64*(w.length-1)+l.toNat,by congr 1;omega,?_⟩
 have e1:=qG W w (w.length-1) hk
 rw[List.take_of_length_le (by omega),vv]at e1
 have h1:=xL W0 (cc.1.take (w.length-1))
 rw[Ym,Nat.min_eq_left (by omega)]at h1
 have e2:(2:Int)^(64*(w.length-1)+l.toNat)=W^(w.length-1)*2^l.toNat:=by
  rw[Int.pow_add,Int.pow_mul]
  rfl
 have h2:W^(w.length-1)*(w[w.length-1]+1)<=W^(w.length-1)*2^l.toNat:=Yc (by omega) (Int.le_of_lt (pow_pos W0 _))
 rw[Int.mul_add,Int.mul_one]at h2
 rw[e2]
 omega
theorem pow8: ∀n:Nat,(8:Int)^(n+1)<((10^(n+1):Nat):Int)
 |0=>by decide
 |n+1=>by
  have ih:=pow8 n
  have a1:=pow_pos (show(0:Int)<8 by decide) (n+1)
  rw[Int.pow_succ,Nat.pow_succ,Int.natCast_mul]
  omega
theorem qmN (n:Nat):(2:Int)^(3*n)=(8:Int)^n:=by
 rw[Int.pow_mul]
 rfl
theorem qlJ {n m:Nat} (hm:m=3*(n+1)):(2:Int)^m<((10^(n+1):Nat):Int):=by
 rw[hm,qmN]
 exact pow8 n
def lng (z:Int):Bool:=decide (600<(Lib.decDigits z.natAbs).length)
theorem qh3 {N:Nat} (hN:600000<N) {x:qm} {z:Int} (h:IsZ x z) (fz:Fit z 3900):qaQ N x=some (lng z):=by
 obtain⟨b,e,hb⟩:=qlA h fz
 unfold qaQ
 rw[e,ZB]
 by_cases c:(b:Int)>1800
 ·rw[if_pos c,qb3 hN h fz,ZB,qeS,qgo,ZB,ZB]
  congr 1
  exact decide_eq_decide.2 (by omega)
 rw[if_neg c,ZB]
 congr 1
 obtain⟨m,hm⟩: ∃m:Nat,m=3*(599+1):=⟨_,rfl⟩
 have h1:(2:Int)^b<=2^m:=jT (by decide) (by omega)
 have h2:=qlJ hm
 have h3:z.natAbs<10^(599+1):=by omega
 have:=(qav (n:=z.natAbs) (k:=599+1) (by decide)).2 h3
 unfold lng
 rw[decide_eq_false (by omega)]
def qhb (q:Rat):Bool:=lng q.num||lng q.den
theorem qi7 {N:Nat} (hN:600000<N) {f:qP} {q:Rat} (h:IsF f q) (fq:qaw q 3900):vW N f=some (qhb q):=by
 unfold vW qhb
 rw[qh3 hN h.1 fq.1,ZB]
 cases lng q.num with
 |true=>rw[if_pos rfl,ZB,Bool.true_or]
 |false=>rw[if_neg (by simp),qh3 hN h.2 fq.2,ZB,ZB,Bool.false_or]
def T (q:Rat):Str:=Lib.itoa q.num++(if q.den=1 then[]else 47::Lib.decDigits q.den)
theorem Fit.itoaLen {z:Int} (h:Fit z 3900):(Lib.itoa z).length<=200001:=by
 have h1:(Lib.decDigits z.natAbs).length<=20*10000:=by
  refine(qav (by decide)).2 ?_
  obtain⟨B,hB⟩: ∃B:Nat,B=10000:=⟨_,rfl⟩
  rw[<-hB]
  have h2:W^3900<=W^B:=jT (by decide) (by omega)
  have h3:W^B<=(100000000000000000000:Int)^B:=(qcy (by decide) (by decide) B).2
  have h4:((10^(20*B):Nat):Int)=(100000000000000000000:Int)^B:=by
   rw[Nat.pow_mul,Int.natCast_pow]
   rfl
  unfold Fit at h
  generalize W^3900=p at*
  omega
 by_cases c:z<0
 ·rw[xh c,Yr];omega
 rw[yl c];omega
theorem qlN {N:Nat} (hN:600000<N) {f:qP} {q:Rat} (h:IsF f q) (fq:qaw q 3900):yB N f=some (T q):=by
 unfold yB T
 rw[qgY h,ZB]
 by_cases c:q.den=1
 ·rw[decide_eq_true c,if_pos rfl,qb3 hN h.1 fq.1,ZB,if_pos c,YQ]
 have l1:=Fit.itoaLen fq.1
 have l2:=Fit.itoaLen fq.2
 rw[decide_eq_false c,if_neg (by simp),qb3 hN h.1 fq.1,ZB,qcX (by simp;omega),ZB,qb3 hN h.2 fq.2,ZB,qcX (by simp;omega),ZB,if_neg c,qfm,Yz]
 rfl
theorem qiv {N:Nat} (hN:600000<N) {f:qP} {q:Rat} (h:IsF f q) (fq:qaw q 3900):vM N f=some (if qhb q=true then([],4)else(T q,0)):=by
 unfold vM
 rw[qi7 hN h fq,ZB]
 cases qhb q with
 |true=>rfl
 |false=>rw[if_neg (by simp),qlN hN h fq,ZB,if_neg (by simp)]
end Go.Av
end
section
namespace Go.Av
def okF (s:Str):Bool:=decide (Dec ((bdy s).take (slA (bdy s)))/\ ¬(sgn s=true/\(bdy s).take (slA (bdy s))=[48]))
def badD (s:Str):Bool:=decide (slA (bdy s)<(bdy s).length/\ ¬(Dec ((bdy s).drop (slA (bdy s)+1))/\(bdy s).drop (slA (bdy s)+1)≠[48]/\(bdy s).drop (slA (bdy s)+1)≠[49]))
def chk (s:Str):Int:=
 if okF s=false\/badD s=true then 1
 else if 600<((bdy s).take (slA (bdy s))).length\/600<((bdy s).drop (slA (bdy s)+1)).length then 4
 else if slA (bdy s)<(bdy s).length/\Nat.gcd (xn 0 ((bdy s).take (slA (bdy s)))) (xn 0 ((bdy s).drop (slA (bdy s)+1)))≠1 then 1
 else 0
end Go.Av
end
section
namespace Go.Av
end Go.Av
end
section
namespace Go.Av
def tl (q:Rat):Str:=if q.den=1 then[]else 47::Lib.decDigits q.den
theorem T_eq (q:Rat):T q=Lib.itoa q.num++tl q:=rfl
theorem no47 {s:Str} (h:s.all qfJ=true): ∀c∈s,c≠47:=fun c hc e=>by
 have:=Yp.1 h c hc
 rw[e]at this
 exact absurd this (by decide)
theorem qjk: ∀{s:Str},(∀c∈s,c≠47)->slA s=s.length:=fun {s} h=>(qfE s [] h).2
theorem qjE {s:Str} (h: ∀c∈s,c≠47) (q:Rat):slA (s++tl q)=s.length:=by
 unfold tl
 by_cases c:q.den=1
 ·rw[if_pos c,YQ]
  exact qjk h
 rw[if_neg c]
 exact(qfE s _ h).1
theorem qff (z:Int): ∀c∈Lib.itoa z,c≠47:=by
 by_cases h:z<0
 ·rw[xh h]
  intro c hc
  rcases List.mem_cons.1 hc with e|e
  ·rw[e];decide
  exact no47 (qfr _) c e
 rw[yl h]
 exact no47 (qfr _)
theorem T_inj {p q:Rat} (h:T p=T q):p=q:=by
 have h1:=congrArg slA h
 have e1:slA (T p)=(Lib.itoa p.num).length:=qjE (qff _) p
 have e2:slA (T q)=(Lib.itoa q.num).length:=qjE (qff _) q
 rw[e1,e2]at h1
 rw[T_eq,T_eq]at h
 obtain⟨h2,h3⟩:=List.append_inj h h1
 have n1:p.num=q.num:=by rw[<-qe8 p.num,h2,qe8]
 have n2:p.den=q.den:=by
  unfold tl at h3
  by_cases c:p.den=1
  ·by_cases d:q.den=1
   ·rw[c,d]
   rw[if_pos c,if_neg d]at h3;cases h3
  by_cases d:q.den=1
  ·rw[if_neg c,if_pos d]at h3;cases h3
  rw[if_neg c,if_neg d]at h3
  injection h3 with _ h3
  exact qmQ h3
 exact Rat.ext n1 n2
end Go.Av
end
section
namespace Go.Av
def Sml (q:Rat) (k:Nat):Prop:=(Lib.decDigits q.num.natAbs).length<=k/\(Lib.decDigits q.den).length<=k
theorem qly (z:Int):(Lib.itoa z).length<=(Lib.decDigits z.natAbs).length+1:=by
 by_cases h:z<0
 ·rw[xh h];simp
 rw[yl h];omega
end Go.Av
end
section
namespace Go.Av
theorem qb4.abs {z:Int} {n:Nat} (h:qb4 z n):qb4 (z.natAbs:Int) n:=by
 unfold qb4 at h⊢
 rw[Int.natAbs_natCast]
 exact h
theorem qb4.le {a b:Int} {n:Nat} (h:(a.natAbs:Int)<=(b.natAbs:Int)) (k:qb4 b n):qb4 a n:=Int.lt_of_le_of_lt h k
theorem qb4.itoaLen {z:Int} {n:Nat} (h:qb4 z n) (hn:0<n):(Lib.itoa z).length<=9*n+1:=by
 have h2:z.natAbs<10^(9*n):=by
  have h:(z.natAbs:Int)<E9^n:=h
  rw[qha]at h
  exact Int.ofNat_lt.1 h
 have h3:=(qav (show 0<9*n by omega)).2 h2
 have h4:=qly z
 omega
theorem den_pos (q:Rat):0<q.den:=Nat.pos_of_ne_zero q.den_nz
end Go.Av
end
section
namespace Go.Av
theorem Sml.mono {q:Rat} {m n:Nat} (h:Sml q m) (hn:m<=n):Sml q n:=⟨Nat.le_trans h.1 hn,Nat.le_trans h.2 hn⟩
theorem qbq {q:Rat} {k n:Nat} (h:Sml q k) (hk:0<k) (hn:k<=19*n):qaw q n:=⟨ql4 (p:=k) (Int.ofNat_lt.2 ((qav hk).1 h.1)) hn,ql4 (p:=k) (by rw[Int.natAbs_natCast];exact Int.ofNat_lt.2 ((qav hk).1 h.2)) hn⟩
theorem qjm {q:Rat} (h:Sml q 600):qhb q=false:=by
 have h1:=h.1
 have h2:=h.2
 unfold qhb lng
 rw[Int.natAbs_natCast,decide_eq_false (by omega),decide_eq_false (by omega)]
 rfl
end Go.Av
end
section
namespace Go.Av
def res (q:Rat):Str×Int:=if qhb q=true then([],4)else(T q,0)
section ops
variable {N:Nat} (hN:600000<N)
include hN
variable {p q:Rat} (hp:Sml p 600) (hq:Sml q 600) (cp:chk (T p)=0) (cq:chk (T q)=0)
include hp hq cp cq
end ops
end Go.Av
end
section
namespace Go.Av
end Go.Av
end
section
namespace Go.Av
end Go.Av
end
section
namespace Go.Av
open Classical
theorem qdk {p q:Rat}:((if p<q then-1 else if p=q then 0 else 1:Int)>0)↔q<p:=by
 by_cases h:p<q
 ·rw[if_pos h]
  exact⟨fun c=>absurd c (by decide),fun c=>absurd c (Rat.not_lt.2 (Rat.le_of_lt h))⟩
 rw[if_neg h]
 by_cases e:p=q
 ·rw[if_pos e]
  exact⟨fun c=>absurd c (by decide),fun c=>absurd (e▸c) Rat.lt_irrefl⟩
 rw[if_neg e]
 refine⟨fun _=>?_,fun _=>by decide⟩
 exact Rat.lt_of_le_of_ne (Rat.not_lt.1 h) (Ne.symm e)
def IsL:List qP->List Rat->Prop
 |[],[]=>True
 |f::l,q::r=>IsF f q/\IsL l r
 |_,_=>False
theorem IsL.get: ∀{l:List qP} {r:List Rat},IsL l r->l.length=r.length/\ ∀(i:Nat) (q:Rat),r[i]? =some q-> ∃f,l[i]? =some f/\IsF f q
 |[],[],_=>⟨rfl,fun i q h=>by simp at h⟩
 |f::l,q::r,h=>by
  obtain⟨h1,h2⟩:=h
  obtain⟨a,b⟩:=IsL.get h2
  refine⟨by simp[a],fun i x hx=>?_⟩
  match i,hx with
  |0,hx=>
   simp at hx
   exact⟨f,rfl,hx▸h1⟩
  |i+1,hx=>
   rw[List.getElem?_cons_succ]at hx⊢
   exact b i x hx
 |[],_::_,h=>h.elim
 |_::_,[],h=>h.elim
end Go.Av
end
section
namespace Go.Av
theorem qkE {q:Rat}:0<q.num↔0<q:=by
 have h1:=Rat.num_nonneg (q:=q)
 have h2:=Rat.num_eq_zero (q:=q)
 constructor
 ·intro h
  exact Rat.lt_of_le_of_ne (h1.1 (by omega)) (fun e=>by have:=h2.2 e.symm;omega)
 intro h
 have h3:=h1.2 (Rat.le_of_lt h)
 have h4:q.num≠0:=fun e=>Rat.ne_of_gt h (h2.1 e)
 omega
section ops
variable {N:Nat} (hN:600000<N)
include hN
variable {p p' q q':Rat} (hp:Sml p 60) (hp':Sml p' 60) (hq:Sml q 60) (hq':Sml q' 60) (cp:chk (T p)=0) (cp':chk (T p')=0) (cq:chk (T q)=0) (cq':chk (T q')=0) (hpp:p<=p') (hqq:q<=q')
include hp hp' hq hq' cp cp' cq cq' hpp hqq
end ops
end Go.Av
end
section
namespace Go.Av
theorem tdm {n:Int}:((n.tdiv 1000000000).natAbs:Int)=(n.natAbs:Int)/1000000000/\((n.tmod 1000000000).natAbs:Int)=(n.natAbs:Int)%1000000000/\(n.tmod 1000000000<0->n<0):=by
 rcases Int.lt_or_le n 0 with h|h
 ·obtain⟨m,rfl⟩: ∃m,n= -m:=⟨-n,by omega⟩
  rw[Int.neg_tdiv,Int.neg_tmod,Int.tdiv_eq_ediv_of_nonneg (by omega),Int.tmod_eq_emod_of_nonneg (by omega)]
  omega
 rw[Int.tdiv_eq_ediv_of_nonneg h,Int.tmod_eq_emod_of_nonneg h]
 omega
theorem qga: ∀(k K:Nat) (l:List Int) (n:Int),(n.natAbs:Int)<E9^k->k<=3->k<K-> -9223372036854775808<=n->n<=9223372036854775807->l.length+k<=1000-> ∃w,jK K l n=some (l++w)/\Dg E9 w/\dv E9 w=(n.natAbs:Int)/\w.length<=k
 |k,0,l,n,_,_,hK,_,_,_=>by omega
 |k,K+1,l,n,hn,hk,hK,h1,h2,hl=>by
  rw[jK]
  by_cases h0:n=0
  ·rw[if_neg (by simp[h0]),h0]
   exact⟨[],by simp,Dg.nil,rfl,by simp⟩
  match k,hn,hk,hK with
  |0,hn,hk,hK=>
   rw[Int.pow_zero]at hn
   omega
  |k+1,hn,hk,hK=>
   obtain⟨t1,t2,t3⟩:=tdm (n:=n)
   have ed:(if n.tmod 1000000000<0 then some (w64 (0-n.tmod 1000000000))else some (n.tmod 1000000000):Option Int)=some ((n.natAbs:Int)%1000000000):=by
    by_cases c:n.tmod 1000000000<0
    ·rw[if_pos c,qD (by omega) (by omega)]
     congr 1
     omega
    rw[if_neg c]
    congr 1
    omega
   have e9:E9^(k+1)=E9^k*E9:=Int.pow_succ ..
   have hq:((n.tdiv 1000000000).natAbs:Int)<E9^k:=by
    rw[t1]
    exact Int.ediv_lt_of_lt_mul (by decide) (by rw[<-e9];exact hn)
   rw[if_pos (by simp[h0]),ed,ZB,qcj (by simp;omega) (by simp;omega),ZB,qD (by omega) (by omega)]
   obtain⟨w,e,d1,d2,d3⟩:=qga k K (l++[(n.natAbs:Int)%1000000000]) (n.tdiv 1000000000) hq (by omega) (by omega) (by omega) (by omega) (by simp;omega)
   refine⟨(n.natAbs:Int)%1000000000::w,by rw[e,Yz];rfl,Dg.cons ⟨by omega,by show _<(1000000000:Int);omega⟩ d1,?_,by simp;omega⟩
   rw[zP,d2,t1]
   show(n.natAbs:Int)%1000000000+1000000000*((n.natAbs:Int)/1000000000)=_
   omega
theorem qkx {N:Nat} (hN:100<N) {n:Int} (h1: -9223372036854775808<=n) (h2:n<=9223372036854775807):xy N n=some (rI n):=by
 obtain⟨w,e,d1,d2,d3⟩:=qga 3 N [] n (by show _<(1000000000:Int)^3;omega) (by omega) (by omega) h1 h2 (by simp)
 unfold xy
 rw[e,ZB,List.nil_append,qiE _ d1 (by omega) (by omega),ZB,d2]
 congr 2
 by_cases c:n<0
 ·rw[if_pos (decide_eq_true c)]
  omega
 rw[if_neg (fun h=>c (of_decide_eq_true h))]
 omega
theorem T_int (n:Int):T (n:Rat)=Lib.itoa n:=by
 unfold T
 rw[Rat.num_intCast,Rat.den_intCast,if_pos rfl,YQ]
theorem fitE3 {n:Int} (h1: -9223372036854775808<=n) (h2:n<=9223372036854775807):qb4 n 3:=by
 show(n.natAbs:Int)<(1000000000:Int)^3
 omega
theorem qhi {N:Nat} (hN:60000<N) {n:Int} (h1: -9223372036854775808<=n) (h2:n<=9223372036854775807):vO N n=some (T (n:Rat)):=by
 unfold vO
 rw[qkx (by omega) h1 h2,ZB,qlP hN ((fitE3 h1 h2).mono (by omega)),ZB,T_int]
def bst (x b y:Rat):Rat:=if(x-y).abs<(x-b).abs then y else b
def cnd (x:Rat) (i:Nat):Rat:=Rat.divInt ((x*((i/2:Nat):Rat)).floor+((i%2:Nat):Int)) ((i/2:Nat):Int)
def Fst (x b:Rat) (n:Nat):Prop:= ∃i,2<=i/\i<n/\b=cnd x i/\ ∀j,2<=j->j<n->(x-b).abs<(x-cnd x j).abs\/((x-b).abs=(x-cnd x j).abs/\i<=j)
theorem Fst.step {x b:Rat} {n:Nat} (h:Fst x b n):Fst x (bst x b (cnd x n)) (n+1):=by
 obtain⟨i,h1,h2,h3,h4⟩:=h
 unfold bst
 by_cases c:(x-cnd x n).abs<(x-b).abs
 ·rw[if_pos c]
  refine⟨n,by omega,by omega,rfl,fun j j1 j2=>?_⟩
  by_cases e:j=n
  ·exact .inr ⟨by rw[e],by omega⟩
  rcases h4 j j1 (by omega)with k|⟨k,_⟩
  ·exact .inl (ql1 c k)
  exact .inl (k▸c)
 rw[if_neg c]
 refine⟨i,h1,by omega,h3,fun j j1 j2=>?_⟩
 by_cases e:j=n
 ·rw[e]
  rcases Rat.le_iff_lt_or_eq.1 (Rat.not_lt.1 c)with k|k
  ·exact .inl k
  exact .inr ⟨k,by omega⟩
 exact h4 j j1 (by omega)
end Go.Av
end
section
namespace Go.Av
end Go.Av
end
