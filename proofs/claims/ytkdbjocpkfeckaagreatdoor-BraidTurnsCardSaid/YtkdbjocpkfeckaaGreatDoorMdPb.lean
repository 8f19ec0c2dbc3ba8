/-
  Linking numbers, in the program and in the reference.
-/
import Derived.Test.YtkdbjocpkfeckaaGreatDoorMdPa
import Derived.Test.YtkdbjocpkfeckaaGreatDoorAvPt
import Derived.Test.YtkdbjocpkfeckaaGreatDoorQGenTu
set_option linter.unusedVariables false
set_option linter.unusedSimpArgs false
set_option linter.unusedSectionVars false
set_option maxRecDepth 100000
section
namespace Go.Av
def qg4 (n:Nat) (g:Nat->Int):List Int:=(List.range n).map g
def qcT (n:Nat) (f:Nat->Nat->Int):List (List Int):=(List.range n).map fun i=>qg4 n (f i)
theorem qbW (n:Nat) (g:Nat->Int):(qg4 n g).length=n:=by simp[qg4]
theorem qdB (n:Nat) (f:Nat->Nat->Int):(qcT n f).length=n:=by simp[qcT]
theorem qdg {n k:Nat} {g:Nat->Int} (h:k<n):(qg4 n g)[k]? =some (g k):=by simp[qg4,List.getElem?_range h]
theorem qb5 {n k:Nat} {f:Nat->Nat->Int} (h:k<n):(qcT n f)[k]? =some (qg4 n (f k)):=by simp[qcT,List.getElem?_range h]
theorem qm5 {n b:Nat} {g:Nat->Int} (h:b<n) (v:Int):(qg4 n g).set b v=qg4 n (fun k=>if k=b then v else g k):=by
 apply List.ext_getElem?;intro k;by_cases hk:k<n
 ·rw[qdg hk];by_cases e:k=b
  ·subst e;rw[List.getElem?_set_self (by rw[qbW];exact h),if_pos rfl]
  rw[Yw (fun c=>e c.symm),qdg hk,if_neg e]
 rw[Yg (by simp[qbW];omega),Yg (by rw[qbW];omega)]
theorem qm2 {n a:Nat} {f:Nat->Nat->Int} (h:a<n) (g:Nat->Int):(qcT n f).set a (qg4 n g)=qcT n (fun i=>if i=a then g else f i):=by
 apply List.ext_getElem?;intro k;by_cases hk:k<n
 ·rw[qb5 hk];by_cases e:k=a
  ·subst e;rw[List.getElem?_set_self (by rw[qdB];exact h),if_pos rfl]
  rw[Yw (fun c=>e c.symm),qb5 hk,if_neg e]
 rw[Yg (by simp[qdB];omega),Yg (by rw[qdB];omega)]
theorem qfy {α:Type} (l:List α) (a:Nat) (x:α):qh l (a:Int) x=l.set a x:=by
 unfold qh;rw[Int.toNat_natCast]
theorem qje {n:Nat} {f g:Nat->Nat->Int} (h: ∀i k,f i k=g i k):qcT n f=qcT n g:=by
 have:f=g:=by funext i k;exact h i k
 rw[this]
def qld (f:Nat->Nat->Int) (a b:Nat) (s:Int):Nat->Nat->Int:=fun i k=>if(i=a/\k=b)\/(i=b/\k=a)then f i k+s else f i k
theorem qlW {n a b:Nat} {f:Nat->Nat->Int} (ha:a<n) (hb:b<n) (ne:a≠b) (s:Int):
 ((qcT n f).set a ((qg4 n (f a)).set b (f a b+s))).set b ((qg4 n (f b)).set a (f b a+s))=qcT n (qld f a b s):=by
 rw[qm5 hb,qm2 ha,qm5 ha,qm2 hb]
 refine qje fun i k=>?_
 unfold qld;by_cases h1:i=b
 ·subst h1;rw[if_pos rfl];by_cases h2:k=a
  ·subst h2;rw[if_pos rfl,if_pos (.inr ⟨rfl,rfl⟩)]
  rw[if_neg h2,if_neg (fun h=>by rcases h with h|h<;>omega)]
 rw[if_neg h1];by_cases h3:i=a
 ·subst h3;rw[if_pos rfl];by_cases h2:k=b
  ·subst h2;rw[if_pos rfl,if_pos (.inl ⟨rfl,rfl⟩)]
  rw[if_neg h2,if_neg (fun h=>by rcases h with h|h<;>omega)]
 rw[if_neg h3,if_neg (fun h=>by rcases h with h|h<;>omega)]
def lkF (s:SB) (f:Nat->Nat->Int):List Int->Nat->Nat->Int
 |[]=>f
 |c::w=>lkF (s.bk (c.natAbs-1)) (qld f (s.g (c.natAbs-1)) (s.g c.natAbs) (if 0<c then 1 else-1)) w
theorem qpS {c:Int} (h:c≠0):zi c=some (if 0<c then 1 else-1):=by
 unfold zi;by_cases p:0<c
 ·rw[if_neg (show¬c<1 by omega),if_pos (by decide),if_pos p]
 rw[if_pos (show c<1 by omega),if_neg p];by_cases q:c> -1
 ·omega
 rw[if_neg q]
theorem qns {n a b:Nat} (hn:n<=1000) {f:Nat->Nat->Int} {B:Nat} (hB:B<=10000) (hf: ∀i k,-(B:Int)<=f i k/\f i k<=B) (ha:a<n) (hb:b<n) (ne:a≠b) {c:Int} (hc:c≠0):
 qbn (qcT n f) c (a:Int) (b:Int)=some (qcT n (qld f a b (if 0<c then 1 else-1))):=by
 unfold qbn
 have w1: ∀i k,w64 (f i k+(if 0<c then(1:Int)else-1))=f i k+(if 0<c then(1:Int)else-1):=fun i k=>by
  have:=hf i k;exact qE (by split<;>omega) (by split<;>omega)
 rw[qp,qb5 ha,ZB,qp,qdg hb,ZB,qpS hc,ZB,w1,kg (by rw[qbW];exact hb),ZB,qfy,qp,Yw ne,qb5 hb,ZB,qp,qdg ha,ZB,ZB,w1,kg (by rw[qbW];exact ha),ZB,qfy,qlW ha hb ne]
theorem qoX {f:Nat->Nat->Int} {a b:Nat} {s:Int} {B:Nat} (hf: ∀i k,-(B:Int)<=f i k/\f i k<=B) (hs: -1<=s/\s<=1): ∀i k,-((B+1:Nat):Int)<=qld f a b s i k/\qld f a b s i k<=((B+1:Nat):Int):=fun i k=>by
 have:=hf i k;unfold qld;split<;>omega
section
variable {n:Nat} (hn:n<=12) {N:Nat} (hN:2000<N)
include hn hN
theorem qme {s:SB} {m:Nat} (hm2:m+1<n):((s.rev.li n).set m ((s.g (m+1):Nat):Int)).set (m+1) ((s.g m:Nat):Int)=(s.bk m).rev.li n:=U0 (by simp[Ug]) fun k hk=>by
 show _=some ((s.g (tr5 m k):Nat):Int);by_cases a:k=m+1
 ·subst a;rw[List.getElem?_set_self (by simp[Ug];omega),qcM]
 rw[Yw (fun e=>a e.symm)];by_cases b:k=m
 ·subst b;rw[List.getElem?_set_self (by rw[Ug];omega),qcO]
 rw[Yw (fun e=>b e.symm),Up s.rev hk,vS b a];rfl
theorem qmY {w:List Int} (W:vW n w): ∀(K i:Nat) (s:SB) (f:Nat->Nat->Int),s.Ok n->(∀j k,-(i:Int)<=f j k/\f j k<=i)->i<=w.length->w.length<K+i->ze w K (qcT n f) (s.rev.li n) (i:Int)=some (qcT n (lkF s f (w.drop i)))
 |0,i,s,f,hs,hf,h,hK=>by omega
 |K+1,i,s,f,hs,hf,hiw,hK=>by
  have wl:=W.len;unfold ze;by_cases hi:i<w.length
  ·have hx:w[i]? =some w[i]:=Ya hi;have hc:=W.let_ _ (List.getElem_mem hi);rw[YG hi,lkF];generalize w[i]=c at*;obtain⟨m,hm⟩: ∃m:Nat,c.natAbs=m+1:=⟨c.natAbs-1,by omega⟩
   have hm2:m+1<n:=by omega
   have q1:w64 (((m+1:Nat):Int)-1)=(m:Int):=by rw[qE (by omega) (by omega)];omega
   have q2:w64 ((m:Int)+1)=((m+1:Nat):Int):=qH (by omega);have g0:=hs.g_ m (by omega);have g1:=hs.g_ (m+1) hm2;have r0:idx (s.rev.li n) (m:Int)=some ((s.g m:Nat):Int):=Un (by omega);have r1:idx (s.rev.li n) ((m+1:Nat):Int)=some ((s.g (m+1):Nat):Int):=Un hm2
   have ne:s.g m≠s.g (m+1):=fun e=>by have:=s.ginj e;omega
   rw[if_pos (by omega),qp,hx];simp only[ZB,qb2 (show-1000<c/\c<1000 by omega),hm,q1,q2,r0,r1];rw[qns (by omega) (B:=i) (by omega) hf g0 g1 ne hc.1];simp only[ZB];rw[kg (by rw[Ug];omega)];simp only[ZB]
   have e17:idx ((s.rev.li n).set m ((s.g (m+1):Nat):Int)) ((m+1:Nat):Int)=some ((s.g (m+1):Nat):Int):=by
    rw[qp,Yw (by omega),Up s.rev hm2];rfl
   rw[e17];simp only[ZB];rw[kg (by simp[Ug];omega)];simp only[ZB];rw[qme hn hN hm2,qH (by omega),show(m+1-1:Nat)=m by omega];exact qmY W K (i+1) _ _ (hs.bk hm2) (qoX hf (by split<;>omega)) (by omega) (by omega)
  rw[if_neg (by omega),List.drop_eq_nil_of_le (by omega)];rfl
theorem qqn:mk 8 (n:Int) (0:Int)=some (qg4 n fun _=>0):=by
 rw[qjF (by omega)];congr 1;apply List.ext_getElem?;intro k;by_cases hk:k<n
 ·rw[qdg hk];simp[hk]
 rw[Yg (by simp;omega),Yg (by rw[qbW];omega)]
theorem qo6: ∀(K i:Nat) (l1 l:List (List Int)),l1.length=n->l.length=n->i<=n->n<K+i->(∀k,k<i->l[k]? =some (qg4 n fun _=>0))->xe (n:Int) l1 K l (i:Int)=some (qcT n fun _ _=>0)
 |0,i,l1,l,h1,h2,hi,hK,hk=>by omega
 |K+1,i,l1,l,h1,h2,hin,hK,hk=>by
  unfold xe;rw[h1];by_cases hi:i<n
  ·have hs:idx l (i:Int)=some (l[i]'(by omega)):=by rw[qp];exact Ya _
   rw[if_pos (by omega),qqn hn hN];simp only[ZB];rw[hs,ZB,qfy,qH (by omega)];refine qo6 K (i+1) l1 _ h1 (by simpa using h2) (by omega) (by omega) (fun k hk1=>?_);by_cases e:k=i
   ·subst e;rw[List.getElem?_set_self (by omega)]
   rw[Yw (fun c=>e c.symm),hk k (by omega)]
  rw[if_neg (by omega)];congr 1;apply List.ext_getElem?;intro k;by_cases hkn:k<n
  ·rw[hk k (by omega),qb5 hkn]
  rw[Yg (by omega),Yg (by rw[qdB];omega)]
theorem qt1:mk 24 (n:Int) ([]:List Int)=some (List.replicate n []):=by
 unfold mk;rw[if_pos (by omega)];simp
theorem qox {w:List Int} (W:vW n w):qck N (n:Int) w=some (qcT n (lkF Uh (fun _ _=>0) w)):=by
 have wl:=W.len;unfold qck yM jZ;have a:=qo6 hn hN N 0 (List.replicate n []) (List.replicate n []) (by simp) (by simp) (Nat.zero_le _) (by omega) (fun k hk=>by omega);have b:=qmY hn hN W N 0 Uh (fun _ _=>0) (Uv n) (fun _ _=>by simp) (Nat.zero_le _) (by omega);rw[show((0:Nat):Int)=0 from rfl]at a b;rw[YR,show Uh.rev=Uh from rfl,SB.id_li]at b;rw[qt1 hn hN,ZB,a,ZB,ZB,qfT hN (by omega),ZB,b];rfl
end
end Go.Av
end
section
namespace Go.Av
def qbR (c:Int):Int:=if 0<c then 1 else-1
def lkP:List Int->Nat->Nat->Int
 |[],_,_=>0
 |c::w,x,y=>(if(x=c.natAbs-1/\y=c.natAbs-1+1)\/(x=c.natAbs-1+1/\y=c.natAbs-1)then qbR c else 0)+lkP w (tr5 (c.natAbs-1) x) (tr5 (c.natAbs-1) y)
def pfP:List Int->Nat->Nat
 |[],x=>x
 |c::w,x=>pfP w (tr5 (c.natAbs-1) x)
theorem qnB: ∀(w:List Int) (s:SB) (k:Nat),(pmF s w).f k=pfP w (s.f k)
 |[],s,k=>rfl
 |c::w,s,k=>by
  show(pmF (s.bk (c.natAbs-1)) w).f k=_;rw[qnB w];rfl
theorem qrX: ∀(w:List Int),(∀c∈w,c≠0)-> ∀(s:SB) (f:Nat->Nat->Int) (i k:Nat),lkF s f w i k=f i k+lkP w (s.f i) (s.f k)
 |[],_,s,f,i,k=>(Int.add_zero _).symm
 |c::w,h,s,f,i,k=>by
  have hc:=h c (List.mem_cons_self ..);obtain⟨m,hm⟩: ∃m,c.natAbs=m+1:=⟨c.natAbs-1,by omega⟩;rw[lkF,qrX w (fun d hd=>h d (List.mem_cons_of_mem _ hd)),lkP];simp only[hm,Nat.add_sub_cancel]
  have e: ∀a b:Nat,a=s.g b↔s.f a=b:=fun a b=>⟨fun h=>by rw[h,s.fg],fun h=>by rw[<-h,s.gf]⟩
  have hu:qld f (s.g m) (s.g (m+1)) (if 0<c then 1 else-1) i k=f i k+(if(s.f i=m/\s.f k=m+1)\/(s.f i=m+1/\s.f k=m)then qbR c else 0):=by
   unfold qld qbR;simp only[e];split<;>simp
  rw[hu];show _+_+lkP w (tr5 m (s.f i)) (tr5 m (s.f k))=_;omega
theorem qgV: ∀(u v:List Int) (x y:Nat),lkP (u++v) x y=lkP u x y+lkP v (pfP u x) (pfP u y)
 |[],v,x,y=>(Int.zero_add _).symm
 |c::u,v,x,y=>by
  rw[List.cons_append,lkP,qgV u v,lkP,pfP,pfP];omega
theorem yF (c:Int) (w:List Int):exS (c::w)=qbR c+exS w:=by
 rw[show c::w=[c]++w from rfl,qah];congr 1;unfold exS ngs qbR;by_cases h:0<c
 ·simp[h]
 simp[h]
end Go.Av
end
section
namespace Go.Av
def dv (B:Int):List Int->Int
 |[]=>0
 |x::l=>x+B*dv B l
theorem pow_pos {B:Int} (hB:0<B): ∀n:Nat,0<B^n
 |0=>by simp
 |n+1=>by rw[Int.pow_succ];exact Int.mul_pos (pow_pos hB n) hB
theorem qdx {B:Int} (hB:1<=B) {m n:Nat} (h:m<=n):B^m<=B^n:=by
 obtain⟨k,rfl⟩:=Nat.exists_eq_add_of_le h;rw[Int.pow_add]
 have h1:1<=B^k:=by have:=pow_pos (show 0<B by omega) k;omega
 have h2:=Yc h1 (Int.le_of_lt (pow_pos (show 0<B by omega) m));omega
end Go.Av
end
section
namespace Go.Av
abbrev W:Int:=18446744073709551616
theorem wu (n:Int):IntKind.wrap .u64 n=n%18446744073709551616:=rfl
theorem qgq {n:Int} (h0:0<=n) (h:n<18446744073709551616):IntKind.wrap .u64 n=n:=by rw[wu];exact Int.emod_eq_of_lt h0 h
theorem qj5 {n:Int} (h0:0<=n) (h:n<18446744073709551616):(BitVec.ofInt 64 n).toNat=n.toNat:=by
 rw[BitVec.toNat_ofInt];have:n%((2:Nat)^64:Nat)=n:=Int.emod_eq_of_lt h0 (by simpa using h);rw[this]
theorem qhZ {x:Int} (h0:0<=x) (h:x<18446744073709551616):zO .u64 x 4294967295=x%4294967296:=by
 show IntKind.wrap .u64 _=_
 have e:(BitVec.ofInt IntKind.u64.bits x&&&BitVec.ofInt IntKind.u64.bits 4294967295).toNat=x.toNat%4294967296:=by
  rw[BitVec.toNat_and];show(BitVec.ofInt 64 x).toNat&&&(BitVec.ofInt 64 4294967295).toNat=_;rw[qj5 h0 h,qj5 (by omega) (by omega)];exact Nat.and_two_pow_sub_one_eq_mod x.toNat 32
 rw[e,wu];omega
theorem qsX (x:Int) (k:Nat):zW .u64 x (k:Int)=x/2^(min k 64):=by
 show x.fdiv (2^(min (k:Int).toNat 64))=_;rw[Int.toNat_natCast,Int.fdiv_eq_ediv_of_nonneg _ (Int.le_of_lt (pow_pos (by omega) _))]
theorem qmH (x:Int):zW .u64 x 32=x/4294967296:=qsX x 32
theorem qf5 {a b:Int} (ha:0<=a/\a<4294967296) (hb:0<=b/\b<4294967296):0<=a*b/\a*b<=18446744065119617025:=by
 refine⟨Yv ha.1 hb.1,?_⟩;have:a*b<=4294967295*4294967295:=Int.mul_le_mul (by omega) (by omega) hb.1 (by omega);omega
theorem qrA {x y:Int} (hx:0<=x/\x<18446744073709551616) (hy:0<=y/\y<18446744073709551616):bits_Mul64 x y=some (x*y/18446744073709551616,x*y%18446744073709551616):=by
 unfold bits_Mul64;rw[qhZ hx.1 hx.2,qhZ hy.1 hy.2,qmH x,qmH y]
 have x1:0<=x/4294967296/\x/4294967296<4294967296:=by omega
 have x0:0<=x%4294967296/\x%4294967296<4294967296:=by omega
 have y1:0<=y/4294967296/\y/4294967296<4294967296:=by omega
 have y0:0<=y%4294967296/\y%4294967296<4294967296:=by omega
 have ex:x=x/4294967296*4294967296+x%4294967296:=by omega
 have ey:y=y/4294967296*4294967296+y%4294967296:=by omega
 have e:x*y=x/4294967296*(y/4294967296)*18446744073709551616+(x/4294967296*(y%4294967296)+x%4294967296*(y/4294967296))*4294967296+x%4294967296*(y%4294967296):=by
  generalize x/4294967296=a at*;generalize x%4294967296=b at*;generalize y/4294967296=c at*;generalize y%4294967296=d at*;subst ex ey;grind
 have b11:=qf5 x1 y1;have b10:=qf5 x1 y0;have b01:=qf5 x0 y1;have b00:=qf5 x0 y0;rw[e];generalize x/4294967296*(y/4294967296)=p11 at*;generalize x/4294967296*(y%4294967296)=p10 at*;generalize x%4294967296*(y/4294967296)=p01 at*;generalize x%4294967296*(y%4294967296)=p00 at*;rw[qgq b11.1 (by omega),qgq b10.1 (by omega),qgq b01.1 (by omega),qgq b00.1 (by omega),qmH p00,qgq (n:=p10+p00/4294967296) (by omega) (by omega),qmH (p10+_),qhZ (by omega) (by omega),qgq (n:=_+p01) (by omega) (by omega),qmH,qgq (n:=p11+(p10+p00/4294967296)/4294967296) (by omega) (by omega),qgq (by omega) (by omega),wu];congr 2;omega
end Go.Av
end
section
namespace Go.Av
theorem W1:(1:Int)<W:=by decide
theorem W0:(0:Int)<W:=by decide
end Go.Av
end
section
namespace Go.Av
abbrev E9:Int:=1000000000
end Go.Av
end
section
namespace Go.Av
end Go.Av
end
section
namespace Go.Av
end Go.Av
end
section
namespace Go.Av
end Go.Av
end
section
namespace Go.Av
end Go.Av
end
section
namespace Go.Av
theorem qg0 {a b:Int} (ha:0<=a) (hb:0<=b):Int.gcd a b=Int.gcd b (a%b):=by
 obtain⟨m,rfl⟩:=Int.eq_ofNat_of_zero_le ha;obtain⟨n,rfl⟩:=Int.eq_ofNat_of_zero_le hb;show Nat.gcd m n=Nat.gcd n (m%n);rw[Nat.gcd_comm m n,Nat.gcd_rec n m,Nat.gcd_comm]
theorem qeU (a:Int) {g:Int} (hg:0<g):((a/g).natAbs:Int)<=(a.natAbs:Int):=by
 have:=Int.natAbs_ediv_le_natAbs a g;omega
theorem qjy (p q:Rat):p+q=Rat.divInt (p.num*q.den+q.num*p.den) ((p.den:Int)*q.den):=by
 rw[Rat.add_def',<-Rat.divInt_ofNat,Int.natCast_mul]
theorem qjm (p q:Rat):p*q=Rat.divInt (p.num*q.num) ((p.den:Int)*q.den):=by
 rw[Rat.mul_def',<-Rat.divInt_ofNat,Int.natCast_mul]
theorem qk2 (p q:Rat):(p.den:Int)*q.den≠0:=Int.mul_ne_zero (by have:=p.den_pos;omega) (by have:=q.den_pos;omega)
end Go.Av
end
section
namespace Go.Av
end Go.Av
end
section
namespace Go.Av
def qh2 (c:UInt8):Bool:=decide (48<=c.toNat)&&decide (c.toNat<=57)
def qcE (n:Nat) (s:List UInt8):Nat:=s.foldl (fun a c=>a*10+(c.toNat-48)) n
theorem qfO (n:Nat):qcE n []=n:=List.foldl_nil
theorem qd8 (n:Nat) (c:UInt8) (s:List UInt8):qcE n (c::s)=qcE (n*10+(c.toNat-48)) s:=by
 unfold qcE;rw[List.foldl_cons]
theorem qoO (s:List UInt8): ∀n:Nat,s.all qh2=true->qcE n s<(n+1)*10^s.length:=by
 induction s with
 |nil=>
  intro n _;rw[List.length_nil,Nat.pow_zero,Nat.mul_one,qfO];exact Nat.lt_succ_self n
 |cons c s ih=>
  intro n h;rw[List.all_cons,Bool.and_eq_true]at h;have h1:=ih (n*10+(c.toNat-48)) h.2
  have hd:c.toNat-48<=9:=by
   have:=h.1;simp[qh2]at this;omega
  have h2:n*10+(c.toNat-48)+1<=(n+1)*10:=by omega
  rw[qd8,Yr,Nat.pow_succ,Nat.mul_comm (10^s.length) 10,<-Nat.mul_assoc];exact Nat.lt_of_lt_of_le h1 (Nat.mul_le_mul_right _ h2)
theorem qr9 (s:List UInt8): ∀n:Nat,qcE n s=n*10^s.length+qcE 0 s:=by
 induction s with
 |nil=>intro n;rw[qfO,qfO];simp
 |cons c s ih=>
  intro n;rw[qd8,qd8,ih,ih (0*10+_),Yr,Nat.pow_succ,Nat.zero_mul,Nat.zero_add,Nat.add_mul];rw[Nat.mul_assoc,Nat.mul_comm 10,<-Nat.add_assoc]
theorem qmf (s t:List UInt8):qcE 0 (s++t)=qcE 0 s*10^t.length+qcE 0 t:=by
 have:qcE 0 (s++t)=qcE (qcE 0 s) t:=by unfold qcE;rw[List.foldl_append]
 rw[this,qr9]
theorem qj7 (s:List UInt8) (c:UInt8):qcE 0 (s++[c])=qcE 0 s*10+(c.toNat-48):=by
 rw[qmf];simp[qd8,qfO]
def dch (n:Nat):UInt8:=UInt8.ofNat (48+n)
theorem qiz {n:Nat} (h:n<10):(dch n).toNat=48+n:=by
 unfold dch;rw[UInt8.toNat_ofNat'];omega
theorem qon {n:Nat} (h:n<10):qh2 (dch n)=true:=by
 unfold qh2;rw[qiz h,Bool.and_eq_true,decide_eq_true_eq,decide_eq_true_eq];omega
theorem qsp {c:UInt8} (h:qh2 c=true):c=dch (c.toNat-48)/\c.toNat-48<10:=by
 unfold qh2 at h;rw[Bool.and_eq_true,decide_eq_true_eq,decide_eq_true_eq]at h;refine⟨?_,by omega⟩;rw[<-UInt8.toNat_inj,qiz (by omega)];omega
theorem qfu {n:Nat} (h:n<10):Lib.decDigits n=[dch n]:=by rw[Lib.decDigits,dif_pos h];rfl
theorem qnu {n:Nat} (h: ¬n<10):Lib.decDigits n=Lib.decDigits (n/10)++[dch (n%10)]:=by rw[Lib.decDigits,dif_neg h];rfl
theorem qeE (n:Nat):(Lib.decDigits n).all qh2=true:=by
 induction n using Nat.strongRecOn with
 |_ n ih=>
  by_cases h:n<10
  ·rw[qfu h,List.all_cons,qon h];rfl
  rw[qnu h,List.all_append,ih _ (by omega),List.all_cons,qon (by omega)];rfl
theorem qgE (n:Nat):qcE 0 (Lib.decDigits n)=n:=by
 induction n using Nat.strongRecOn with
 |_ n ih=>
  by_cases h:n<10
  ·rw[qfu h,qd8,qfO,qiz h];omega
  rw[qnu h,qj7,ih _ (by omega),qiz (by omega)];omega
theorem quj (n:Nat):0<(Lib.decDigits n).length:=by rw[Lib.decDigits_length];exact Lib.nDigits_pos n
theorem qua {m n:Nat} (h:Lib.decDigits m=Lib.decDigits n):m=n:=by rw[<-qgE m,h,qgE]
theorem qjv {n k:Nat} (hk:0<k):(Lib.decDigits n).length<=k↔n<10^k:=by
 constructor
 ·intro h;have:=qoO (Lib.decDigits n) 0 (qeE n);rw[qgE]at this;have h2:(10:Nat)^(Lib.decDigits n).length<=10^k:=Nat.pow_le_pow_right (by omega) h;omega
 intro h;rcases Nat.lt_or_ge k (Lib.decDigits n).length with c|c
 ·exfalso;rw[Lib.decDigits_length]at c;obtain⟨m,hm⟩: ∃m,Lib.nDigits n=m+2:=⟨Lib.nDigits n-2,by omega⟩
  have hlow: ∀(n m:Nat),Lib.nDigits n=m+2->10^(m+1)<=n:=by
   intro n
   induction n using Nat.strongRecOn with
   |_ n ih=>
    intro m hm;by_cases h:n<10
    ·rw[Lib.nDigits_small h]at hm;omega
    rw[Lib.nDigits_big h]at hm
    cases m with
    |zero=>simp;omega
    |succ m=>
     have:=ih (n/10) (by omega) m (by omega);rw[Nat.pow_succ];omega
  have:=hlow n m hm;have h2:(10:Nat)^k<=10^(m+1):=Nat.pow_le_pow_right (by omega) (by omega);omega
 exact c
def Dec (s:Str):Prop:=0<s.length/\s.all qh2=true/\(s[0]? =some 48->s=[48])
instance (s:Str):Decidable (Dec s):=by unfold Dec;infer_instance
end Go.Av
end
section
namespace Go.Av
theorem qjV {a b:Str} (h:a.length+b.length<=1000000000):cat a b=some (a++b):=by
 unfold cat;rw[if_pos (by omega)]
theorem dcut {d:Nat} (h:d<10):cut ([48,49,50,51,52,53,54,55,56,57]:Str) (d:Int) (w64 ((d:Int)+1))=some [dch d]:=by
 rw[qH (by omega)];rcases(show d=0\/d=1\/d=2\/d=3\/d=4\/d=5\/d=6\/d=7\/d=8\/d=9 by omega)with e|e|e|e|e|e|e|e|e|e<;>subst e<;>decide
theorem tm10 (n:Nat):(n:Int).tmod 10=((n%10:Nat):Int):=by rw[Int.tmod_eq_emod_of_nonneg (by omega)];omega
theorem td10 (n:Nat):(n:Int).tdiv 10=((n/10:Nat):Int):=by rw[Int.tdiv_eq_ediv_of_nonneg (by omega)];omega
theorem qkC {least:Int} {K n:Nat} {s:Str} (hn:n<9223372036854775808) (hs:s.length<=1000) (h:0<n\/(s.length:Int)<least):kz least (K+1) (n:Int) s=kz least K ((n/10:Nat):Int) (dch (n%10)::s):=by
 have cond:(if(n:Int)>0 then some true else some (decide ((s.length:Int)<least)):Option Bool)=some true:=by
  by_cases c:(n:Int)>0
  ·rw[if_pos c]
  rw[if_neg c,decide_eq_true (by omega)]
 rw[kz,cond,ZB,if_pos rfl,tm10,td10,dcut (by omega),ZB,qjV (by simp;omega),ZB,qE (by omega) (by omega)];rfl
theorem qks {least:Int} {K:Nat} {s:Str} (h: ¬(s.length:Int)<least):kz least (K+1) 0 s=some s:=by
 rw[kz,if_neg (by omega),decide_eq_false h,ZB,if_neg (by simp)]
theorem qmZ: ∀(k K n:Nat) (s:Str),0<n->n<10^k->n<9223372036854775808->s.length+k<=900->k<K->kz 1 K (n:Int) s=some (Lib.decDigits n++s)
 |k,0,n,s,_,_,_,_,h=>by omega
 |0,K+1,n,s,h0,hn,_,hs,h=>by simp at hn;omega
 |k+1,K+1,n,s,h0,hn,h63,hs,h=>by
  rw[Nat.pow_succ]at hn;rw[qkC h63 (by omega) (.inl h0)];by_cases c:n<10
  ·obtain⟨K2,rfl⟩: ∃K2,K=K2+1:=⟨K-1,by omega⟩;rw[show n/10=0 by omega,qfu c,show n%10=n by omega];exact qks (by simp;omega)
  rw[qmZ k K (n/10) _ (by omega) (by omega) (by omega) (by simp;omega) (by omega),qnu c,Yz];rfl
theorem qmV {N n:Nat} (hN:100<N) (h:n<9223372036854775808):yj N (n:Int) 1=some (Lib.decDigits n):=by
 unfold yj;rcases Nat.eq_zero_or_pos n with e|e
 ·subst e;obtain⟨K,rfl⟩: ∃K,N=K+1+1:=⟨N-2,by omega⟩;have h1:=qkC (least:=1) (K:=K+1) (n:=0) (s:=[]) (by omega) (by simp) (.inr (by simp));rw[h1,Nat.zero_div];have h2:=qks (least:=1) (K:=K) (s:=[dch (0%10)]) (by simp);have h2:kz 1 (K+1) ((0:Nat):Int) [dch (0%10)]=_:=h2;rw[h2,ZB,qfu (by decide)]
 rw[qmZ 19 N n [] e (by omega) h (by simp) (by omega),ZB,YQ]
def nv (w:List Int):Nat:=(dv E9 w).toNat
theorem qcm {z:Int} (h:z<0):Lib.itoa z=45::Lib.decDigits z.natAbs:=by unfold Lib.itoa;rw[if_pos h]
theorem qbM {z:Int} (h: ¬z<0):Lib.itoa z=Lib.decDigits z.natAbs:=by
 unfold Lib.itoa;rw[if_neg h,show z.toNat=z.natAbs by omega]
theorem ql9 {s:Str} (hd:s.all qh2=true) (hl:s.length<=18): ∀(K i:Nat),i<=s.length->s.length<K+i->vL s K ((qcE 0 (s.take i):Nat):Int) (i:Int)=some ((qcE 0 s:Nat):Int)
 |0,i,h,hK=>by omega
 |K+1,i,h,hK=>by
  rw[vL];by_cases hi:i<s.length
  ·have ht:s.take (i+1)=s.take i++[s[i]]:=List.take_succ_eq_append_getElem hi;have hc:qh2 s[i]=true:=Yp.1 hd _ (List.getElem_mem hi);obtain⟨_,hc2⟩:=qsp hc
   have hc1:48<=s[i].toNat:=by
    unfold qh2 at hc;rw[Bool.and_eq_true,decide_eq_true_eq]at hc;exact hc.1
   have hv:=qoO (s.take i) 0 (Yp.2 fun x hx=>Yp.1 hd x (List.mem_of_mem_take hx));have hp:(10:Nat)^(s.take i).length<=10^17:=Nat.pow_le_pow_right (by omega) (by rw[Ym];omega);have hp2:(10:Nat)^17=100000000000000000:=rfl;rw[if_pos (by omega),qp,Ya hi,ZB,qE (n:=10*((qcE 0 (s.take i):Nat):Int)) (by omega) (by omega),qE (n:=(s[i].toNat:Int)) (by omega) (by omega),qE (n:=10*((qcE 0 (s.take i):Nat):Int)+(s[i].toNat:Int)) (by omega) (by omega),qE (by omega) (by omega),qH (by omega)]
   have e:10*((qcE 0 (s.take i):Nat):Int)+(s[i].toNat:Int)-48=((qcE 0 (s.take (i+1)):Nat):Int):=by rw[ht,qj7];omega
   rw[e];exact ql9 hd hl K (i+1) (by omega) (by omega)
  rw[if_neg (by omega),List.take_of_length_le (by omega)]
theorem qjj {N:Nat} (hN:100<N) {s:Str} (hd:s.all qh2=true) (hl:s.length<=18):yZ N s=some ((qcE 0 s:Nat):Int):=by
 have e:=ql9 hd hl N 0 (by omega) (by omega);have e:vL s N 0 0=_:=e;unfold yZ;rw[e,ZB]
def sgn (s:Str):Bool:=decide (s[0]? =some 45)
def bdy (s:Str):Str:=if sgn s=true then s.drop 1 else s
theorem qol (s:Str):(if(s.length:Int)>0 then(idx s 0).bind fun c=>some (decide ((c.toNat:Int)=45))else some false:Option Bool)=some (sgn s):=by
 unfold sgn
 cases s with
 |nil=>rfl
 |cons c t=>
  rw[if_pos (by simp),idx_0];have e:((c.toNat:Int)=45)↔(some c=some (45:UInt8)):=⟨fun h=>congrArg some (UInt8.toNat_inj.1 (show c.toNat=45 by omega)),fun h=>by rw[Ye h];rfl⟩;simp only[Yj,ZB];congr 1;exact decide_eq_decide.2 e
theorem qqU (s:Str):(if sgn s=true then(cut s 1 (s.length:Int)).bind fun x=>some x else some s:Option Str)=some (bdy s):=by
 unfold bdy
 cases h:sgn s with
 |false=>rw[if_neg (by simp),if_neg (by simp)]
 |true=>
  have hl:1<=s.length:=by
   cases s with
   |nil=>simp[sgn]at h
   |cons=>simp
  have:=qiQ hl;have e:cut s 1 (s.length:Int)=some (s.drop 1):=this;rw[if_pos rfl,if_pos rfl,e,ZB]
def sval (s:Str):Int:=if sgn s=true then-((qcE 0 (bdy s):Nat):Int)else((qcE 0 (bdy s):Nat):Int)
theorem qi9 (z:Int):sgn (Lib.itoa z)=decide (z<0):=by
 unfold sgn;by_cases h:z<0
 ·rw[qcm h,decide_eq_true h];rfl
 rw[qbM h,decide_eq_false h]
 refine decide_eq_false fun e=>?_
 have hm:(45:UInt8)∈Lib.decDigits z.natAbs:=Yn e;have:=Yp.1 (qeE z.natAbs) _ hm;exact absurd this (by decide)
theorem qre (z:Int):bdy (Lib.itoa z)=Lib.decDigits z.natAbs:=by
 unfold bdy;rw[qi9];by_cases h:z<0
 ·rw[decide_eq_true h,if_pos rfl,qcm h];rfl
 rw[decide_eq_false h,if_neg (by simp),qbM h]
theorem qkQ (z:Int):sval (Lib.itoa z)=z:=by
 unfold sval;rw[qi9,qre,qgE];by_cases h:z<0
 ·rw[decide_eq_true h,if_pos rfl];omega
 rw[decide_eq_false h,if_neg (by simp)];omega
def slA:Str->Nat
 |[]=>0
 |c::s=>if c=47 then 0 else slA s+1
theorem qrQ: ∀s:Str,slA s<=s.length
 |[]=>Nat.le_refl _
 |c::s=>by
  rw[slA,Yr];have:=qrQ s;split<;>omega
theorem qlH {s:Str} (hl:s.length<=1000000): ∀(K i:Nat),i<=s.length->s.length<K+i->vJ s K (i:Int)=some (if i+slA (s.drop i)<s.length then .inr ((i+slA (s.drop i):Nat):Int)else .inl ())
 |0,i,h,hK=>by omega
 |K+1,i,h,hK=>by
  rw[vJ];by_cases hi:i<s.length
  ·have hd:s.drop i=s[i]::s.drop (i+1):=YG hi;rw[if_pos (by omega),qp,Ya hi,ZB,hd,slA];by_cases c:s[i]=47
   ·rw[if_pos c,if_pos (by rw[c];rfl),Nat.add_zero,if_pos hi]
   rw[if_neg c,if_neg (fun e=>c (UInt8.toNat_inj.1 (show s[i].toNat=47 by omega))),qH (by omega),qlH hl K (i+1) (by omega) (by omega),show i+1+slA (s.drop (i+1))=i+(slA (s.drop (i+1))+1)by omega]
  rw[if_neg (by omega),List.drop_of_length_le (by omega),if_neg (by omega)]
theorem qm4 {N:Nat} {s:Str} (hl:s.length<=1000000) (hN:s.length<N):qbI N s=some (slA s:Int):=by
 have e:=qlH hl N 0 (by omega) (by omega);have e:vJ s N 0=_:=e;have h:=qrQ s;unfold qbI;rw[e,YR,Nat.zero_add];by_cases c:slA s<s.length
 ·rw[if_pos c];rfl
 rw[if_neg c]
 have:slA s=s.length:=by omega
 rw[this];rfl
theorem qli: ∀(s t:Str),(∀c∈s,c≠47)->slA (s++47::t)=s.length/\slA s=s.length
 |[],t,_=>⟨by simp[slA],rfl⟩
 |c::s,t,h=>by
  have h1:=qli s t fun x hx=>h x (List.mem_cons_of_mem _ hx)
  rw[List.cons_append,slA,slA,if_neg (h c (List.mem_cons_self ..)),if_neg (h c (List.mem_cons_self ..)),h1.1,h1.2];exact⟨rfl,rfl⟩
end Go.Av
end
section
namespace Go.Av
end Go.Av
end
section
namespace Go.Av
end Go.Av
end
section
namespace Go.Av
def T (q:Rat):Str:=Lib.itoa q.num++(if q.den=1 then[]else 47::Lib.decDigits q.den)
end Go.Av
end
section
namespace Go.Av
theorem qpc (s:Str):(bdy s).length<=s.length:=by
 unfold bdy;split
 ·rw[YJ];omega
 exact Nat.le_refl _
end Go.Av
end
section
namespace Go.Av
end Go.Av
end
section
namespace Go.Av
def tl (q:Rat):Str:=if q.den=1 then[]else 47::Lib.decDigits q.den
theorem T_eq (q:Rat):T q=Lib.itoa q.num++tl q:=rfl
theorem no47 {s:Str} (h:s.all qh2=true): ∀c∈s,c≠47:=fun c hc e=>by
 have:=Yp.1 h c hc;rw[e]at this;exact absurd this (by decide)
theorem qlE: ∀{s:Str},(∀c∈s,c≠47)->slA s=s.length:=fun {s} h=>(qli s [] h).2
theorem qk3 {s:Str} (h: ∀c∈s,c≠47) (q:Rat):slA (s++tl q)=s.length:=by
 unfold tl;by_cases c:q.den=1
 ·rw[if_pos c,YQ];exact qlE h
 rw[if_neg c];exact(qli s _ h).1
theorem qhE (z:Int): ∀c∈Lib.itoa z,c≠47:=by
 by_cases h:z<0
 ·rw[qcm h];intro c hc;rcases List.mem_cons.1 hc with e|e
  ·rw[e];decide
  exact no47 (qeE _) c e
 rw[qbM h];exact no47 (qeE _)
theorem qsK {s t:Str} (h:0<s.length):sgn (s++t)=sgn s:=by
 unfold sgn;rw[Yf h]
theorem qsb (z:Int):0<(Lib.itoa z).length:=by
 by_cases h:z<0
 ·rw[qcm h];simp
 rw[qbM h];exact quj _
theorem qr2 (q:Rat):sgn (T q)=decide (q.num<0):=by rw[T_eq,qsK (qsb _),qi9]
theorem qtl (q:Rat):bdy (T q)=Lib.decDigits q.num.natAbs++tl q:=by
 unfold bdy;rw[qr2,T_eq];by_cases h:q.num<0
 ·rw[decide_eq_true h,if_pos rfl,qcm h];rfl
 rw[decide_eq_false h,if_neg (by simp),qbM h]
theorem T_inj {p q:Rat} (h:T p=T q):p=q:=by
 have h1:=congrArg slA h;have e1:slA (T p)=(Lib.itoa p.num).length:=qk3 (qhE _) p;have e2:slA (T q)=(Lib.itoa q.num).length:=qk3 (qhE _) q;rw[e1,e2]at h1;rw[T_eq,T_eq]at h;obtain⟨h2,h3⟩:=List.append_inj h h1
 have n1:p.num=q.num:=by rw[<-qkQ p.num,h2,qkQ]
 have n2:p.den=q.den:=by
  unfold tl at h3;by_cases c:p.den=1
  ·by_cases d:q.den=1
   ·rw[c,d]
   rw[if_pos c,if_neg d]at h3;cases h3
  by_cases d:q.den=1
  ·rw[if_neg c,if_pos d]at h3;cases h3
  rw[if_neg c,if_neg d]at h3;injection h3 with _ h3;exact qua h3
 exact Rat.ext n1 n2
theorem qsM (s:Str):s=if sgn s=true then 45::bdy s else bdy s:=by
 unfold bdy
 cases h:sgn s with
 |false=>rw[if_neg (by simp),if_neg (by simp)]
 |true=>
  rw[if_pos rfl,if_pos rfl]
  cases s with
  |nil=>cases h
  |cons c t=>
   have e:=of_decide_eq_true h;simp only[Yj]at e;rw[Ye e];rfl
end Go.Av
end
section
namespace Go.Av
def Sml (q:Rat) (k:Nat):Prop:=(Lib.decDigits q.num.natAbs).length<=k/\(Lib.decDigits q.den).length<=k
theorem qpa (z:Int):(Lib.itoa z).length<=(Lib.decDigits z.natAbs).length+1:=by
 by_cases h:z<0
 ·rw[qcm h];simp
 rw[qbM h];omega
theorem qsl (q:Rat) (h:q.den=1):T q=Lib.itoa q.num/\slA (T q)=(T q).length:=by
 have ht:T q=Lib.itoa q.num:=by unfold T;rw[if_pos h,YQ]
 refine⟨ht,?_⟩;rw[ht];exact qlE (qhE _)
theorem qtw {q:Rat} {k:Nat} (h:Sml q k):(T q).length<=2*k+2:=by
 have h1:=qpa q.num;have h2:=h.1;have h3:=h.2;unfold T;rw[Yq];split
 ·simp;omega
 rw[Yr];omega
end Go.Av
end
section
namespace Go.Av
theorem den_pos (q:Rat):0<q.den:=Nat.pos_of_ne_zero q.den_nz
theorem qqA {a b:Int} (hb:b≠0):(b.sign*a).natAbs=a.natAbs:=by rw[Int.natAbs_mul,Int.natAbs_sign_of_ne_zero hb,Nat.one_mul]
theorem qsE (a b:Int):Int.gcd (a.natAbs:Int) (b.natAbs:Int)=Int.gcd b a:=by
 rw[Int.gcd_comm];rfl
theorem qtC {a b:Int} (ha:0<=a) (hb:0<b):qlr .i64 a b=some (a%b):=by
 unfold qlr;rw[if_neg (by omega),Int.tmod_eq_emod_of_nonneg ha]
theorem qtA {a b:Int} (hb:0<b) (h1: -4000000000000000000<=a) (h2:a<=4000000000000000000) (hd:b∣a):qjz .i64 a b=some (a/b):=by
 have:=qeU a hb;unfold qjz;rw[if_neg (by omega),Int.tdiv_eq_ediv_of_dvd hd];show some (w64 _)=_;rw[qE (by omega) (by omega)]
theorem qoA: ∀(k K:Nat) (a b:Int),0<=a->0<=b->b<2^k->2*k+2<=K->vD K a b=some (Int.gcd a b:Int)
 |k,0,a,b,_,_,_,hK=>by omega
 |k,K+1,a,b,ha,hb,hk,hK=>by
  have na:(a.natAbs:Int)=a:=by omega
  have nb:(b.natAbs:Int)=b:=by omega
  rcases(show b=0\/0<b by omega)with h0|h0
  ·rw[h0,vD,if_neg (by omega),Int.gcd_zero,na]
  match k,hk,hK with
  |0,hk,hK=>simp at hk;omega
  |k+1,hk,hK=>
   have m0:=Int.emod_nonneg a (show b≠0 by omega);have m1:=Int.emod_lt_of_pos a h0;rw[vD,if_pos (by omega),qtC ha h0,ZB,qg0 ha hb]
   match K,hK with
   |0,hK=>omega
   |K+1,hK=>
    rcases(show a%b=0\/0<a%b by omega)with g0|g0
    ·rw[g0,vD,if_neg (by omega),Int.gcd_zero,nb]
    have n0:=Int.emod_nonneg b (show a%b≠0 by omega);have n1:=Int.emod_lt_of_pos b g0
    have hhalf:b%(a%b)<2^k:=by
     have d1:=Int.mul_ediv_add_emod b (a%b)
     have d2:1<=b/(a%b):=by
      rw[Int.le_ediv_iff_mul_le g0];omega
     have d3:a%b*1<=a%b*(b/(a%b)):=Yc d2 (by omega);rw[Int.pow_succ]at hk;omega
    rw[vD,if_pos (by omega),qtC hb g0,ZB,qg0 hb m0];exact qoA k K (a%b) (b%(a%b)) m0 n0 hhalf (by omega)
theorem qsY {N:Nat} (hN:200<N) {a b:Int} (ha:0<=a) (hb:0<=b) (h:b<9223372036854775808):qeo N a b=some (Int.gcd a b:Int):=by
 unfold qeo;rw[qoA 63 N a b ha hb h (by omega),ZB]
theorem rabs {z:Int} (h1: -9223372036854775807<=z) (h2:z<=9223372036854775807):(if w64 (0-z)>z then w64 (0-z)else z)=(z.natAbs:Int):=by
 rw[qE (by omega) (by omega)];split<;>omega
theorem qtr {n:Nat} (h:n<=4000000000000000000):(Lib.decDigits n).length<=19:=(qjv (by decide)).2 (by omega)
end Go.Av
end
section
namespace Go.Av
theorem itoa0:Lib.itoa 0=[48]:=by
 rw[qbM (by decide),show(0:Int).natAbs=0 from rfl,qfu (by decide)];rfl
theorem T0:T 0=[48]:=by
 rw[(qsl 0 rfl).1];exact itoa0
theorem quR {q:Rat}:T q=[48]↔q=0:=by
 constructor
 ·intro h;exact T_inj (h.trans T0.symm)
 intro h;rw[h];exact T0
theorem qqL {N:Nat} (hN:100000<N) {q:Rat} {k:Nat} (h:Sml q k) (hk:k<=9000):vG N (T q)=some (0,0,false)\/(vG N (T q)=some (q.num,(q.den:Int),true)/\q.num.natAbs<1000000000/\q.den<1000000000):=by
 have hl:=qtw h;have hb:=qpc (T q);have eb:=qtl q;have es:slA (Lib.decDigits q.num.natAbs++tl q)=(Lib.decDigits q.num.natAbs).length:=qk3 (no47 (qeE _)) q;have lt:(Lib.decDigits q.num.natAbs++tl q).length=(Lib.decDigits q.num.natAbs).length+(tl q).length:=Yq;rw[eb]at hb;unfold vG;by_cases c:((T q).length:Int)>20
 ·left;rw[if_pos c]
 rw[if_neg c,qol,ZB,qqU,ZB,eb,qm4 (by omega) (by omega),ZB,es,qr2];by_cases c1:(Lib.decDigits q.num.natAbs).length>9
 ·left;rw[if_pos (by omega),ZB,if_pos rfl]
 rw[if_neg (by omega),qE (by omega) (by omega)];by_cases c2:(tl q).length>10
 ·left;rw[decide_eq_true (by omega),ZB,if_pos rfl]
 right;rw[decide_eq_false (by omega),ZB,if_neg (by simp),qi4 (by omega),ZB,List.take_left',qjj (by omega) (qeE _) (by omega),ZB,qgE]
 ·have hn:q.num.natAbs<1000000000:=(qjv (show 0<9 by decide)).1 (by omega)
  have sg:(if decide (q.num<0)=true then some (w64 (0-(q.num.natAbs:Int)))else some (q.num.natAbs:Int):Option Int)=some q.num:=by
   by_cases d:q.num<0
   ·rw[if_pos (decide_eq_true d),qE (by omega) (by omega)];congr 1;omega
   rw[if_neg (fun h=>d (of_decide_eq_true h))];congr 1;omega
  by_cases d:q.den=1
  ·have ht:tl q=[]:=by unfold tl;rw[if_pos d]
   rw[ht]at lt;rw[List.length_nil]at lt;rw[ht,if_neg (by omega),ZB,sg,ZB,d];exact⟨rfl,hn,by decide⟩
  have ht:tl q=47::Lib.decDigits q.den:=by unfold tl;rw[if_neg d]
  rw[ht,Yr]at lt c2;have hd:q.den<1000000000:=(qjv (show 0<9 by decide)).1 (by omega);rw[ht,if_pos (by omega),qH (by omega),qiQ (by omega),ZB,List.drop_append,List.drop_of_length_le (by omega),show(Lib.decDigits q.num.natAbs).length+1-(Lib.decDigits q.num.natAbs).length=1 by omega,List.nil_append,List.drop_succ_cons,YR,qjj (by omega) (qeE _) (by omega),ZB,ZB,sg,ZB,qgE];exact⟨rfl,hn,hd⟩
 rfl
end Go.Av
end
section
namespace Go.Av
theorem em0:([]:List Int).isEmpty=true:=rfl
theorem qo1 {a:Int} (h1: -9000000000000000000<=a) (h2:a<=9000000000000000000):jR ⟨a,[]⟩=some ⟨-a,[]⟩:=by
 unfold jR;dsimp only;rw[if_pos em0,ZB,if_pos (by simp;omega),qE (by omega) (by omega),show 0-a= -a by omega]
theorem qtv {a:Int} (h1: -9000000000000000000<=a) (h2:a<=9000000000000000000):qbE ⟨a,[]⟩=some ⟨(a.natAbs:Int),[]⟩:=by
 unfold qbE;dsimp only;by_cases h:a<0
 ·rw[if_pos h,qo1 h1 h2,ZB,show(a.natAbs:Int)= -a by omega]
 rw[if_neg h,show(a.natAbs:Int)=a by omega]
theorem qlw (a:Int) (l:List Int):yf ⟨a,l⟩=some (if a<0 then-1 else if a=0 then 0 else 1):=by
 unfold yf;congr 1;dsimp only
 repeat' split
 all_goals omega
theorem qtN {a b:Int} (h1: -9000000000000000000<=a+b) (h2:a+b<=9000000000000000000):qa2 ⟨a,[]⟩ ⟨b,[]⟩=some ⟨a+b,[]⟩:=by
 unfold qa2;dsimp only;rw[if_pos em0,ZB,if_pos em0,qE (by omega) (by omega),if_pos (by rw[beq_iff_eq];exact decide_eq_decide.2 (by omega)),ZB]
theorem qr5 {n:Int} (h1: -9000000000000000000<=n) (h2:n<=9000000000000000000):qem n=some (n.natAbs:Int):=by
 unfold qem;by_cases h:n<0
 ·rw[if_pos h,qE (by omega) (by omega),qgq (by omega) (by omega)];congr 1;omega
 rw[if_neg h,qgq (by omega) (by omega)];congr 1;omega
theorem qkM {a b:Int} (a1:a.natAbs<=2000000000000000000) (b1:b.natAbs<=2000000000000000000) (h:(a*b).natAbs<=9000000000000000000):jc ⟨a,[]⟩ ⟨b,[]⟩=some ⟨a*b,[]⟩:=by
 have hab:(a.natAbs:Int)*(b.natAbs:Int)=((a*b).natAbs:Int):=by rw[Int.natAbs_mul,Int.natCast_mul]
 have sg:(if(!((decide (a<0))==(decide (b<0))))=true then-((a*b).natAbs:Int)else((a*b).natAbs:Int))=a*b:=by
  by_cases h1:a<0
  ·by_cases h2:b<0
   ·have:=Int.mul_pos_of_neg_of_neg h1 h2;rw[decide_eq_true h1,decide_eq_true h2,if_neg (by simp)];omega
   have:=Int.mul_nonpos_of_nonpos_of_nonneg (show a<=0 by omega) (show 0<=b by omega);rw[decide_eq_true h1,decide_eq_false h2,if_pos (by simp)];omega
  by_cases h2:b<0
  ·have:=Int.mul_nonpos_of_nonneg_of_nonpos (show 0<=a by omega) (show b<=0 by omega);rw[decide_eq_false h1,decide_eq_true h2,if_pos (by simp)];omega
  have:=Yv (show 0<=a by omega) (show 0<=b by omega);rw[decide_eq_false h1,decide_eq_false h2,if_neg (by simp)];omega
 unfold jc;dsimp only;rw[if_pos em0,ZB,if_pos em0,qr5 (by omega) (by omega),ZB,qr5 (by omega) (by omega),ZB,qrA (by omega) (by omega),ZB,hab];dsimp only;rw[if_pos (show((a*b).natAbs:Int)/18446744073709551616=0 by omega),show((a*b).natAbs:Int)%18446744073709551616=((a*b).natAbs:Int)by omega,decide_eq_true (show((a*b).natAbs:Int)<=9223372036854775807 by omega),ZB,if_pos rfl];by_cases hs:(!((decide (a<0))==(decide (b<0))))=true
 ·rw[if_pos hs]at sg;rw[if_pos hs,ZB,qE (n:=((a*b).natAbs:Int)) (by omega) (by omega),qE (by omega) (by omega),show 0-((a*b).natAbs:Int)=a*b by omega]
 rw[if_neg hs]at sg;rw[if_neg hs,ZB,qE (by omega) (by omega),sg]
theorem qjo {a b:Int} (h1: -9000000000000000000<=a) (h2:a<=9000000000000000000) (hb0:0<b) (hb:b<=9000000000000000000):xY ⟨a,[]⟩ ⟨b,[]⟩=some (⟨a/b,[]⟩,⟨a%b,[]⟩):=by
 have d1:=Int.mul_ediv_add_emod a b;have d2:=Int.emod_nonneg a (show b≠0 by omega);have d3:=Int.emod_lt_of_pos a hb0;have h4:=Int.natAbs_tdiv_le_natAbs a b
 have hq:qjz .i64 a b=some (a.tdiv b):=by
  unfold qjz;rw[if_neg (by omega)];show some (w64 _)=_;rw[qE (by omega) (by omega)]
 have hr:qlr .i64 a b=some (a.tmod b):=by
  unfold qlr;rw[if_neg (by omega)]
 have t2:a.tmod b=if 0<=a\/b∣a then a%b else a%b-b:=by
  rw[Int.tmod_eq_emod]
  have:(b.natAbs:Int)=b:=by omega
  split<;>omega
 have t3:a.tdiv b=if 0<=a\/b∣a then a/b else a/b+1:=by
  rw[Int.tdiv_eq_ediv];have:b.sign=1:=Int.sign_eq_one_of_pos hb0;split<;>omega
 unfold xY;dsimp only;rw[if_pos em0,if_pos em0,ZB,if_pos (by simp;omega),hq,ZB,hr,ZB];by_cases hc:0<=a\/b∣a
 ·rw[if_pos hc]at t2 t3;rw[t2,t3,if_neg (by omega),ZB]
 rw[if_neg hc]at t2 t3;rw[t3]at h4
 have e1:w64 (a/b+1-1)=a/b:=by rw[qE (by omega) (by omega)];omega
 have e2:w64 (a%b-b+b)=a%b:=by rw[qE (by omega) (by omega)];omega
 rw[t2,t3,if_pos (by omega),e1,e2,ZB]
theorem qqq: ∀(k K:Nat) (a b:Int),0<=a->0<=b->a<=9000000000000000000->b<=9000000000000000000->b<2^k->2*k+2<=K->qa0 K a [] b []=some ((Int.gcd a b:Int),[])
 |k,0,a,b,_,_,_,_,_,hK=>by omega
 |k,K+1,a,b,ha,hb,ma,mb,hk,hK=>by
  have sg:=qlw b [];rw[qa0];rcases(show b=0\/0<b by omega)with h0|h0
  ·subst h0;rw[show yf ⟨0,[]⟩=some 0 from rfl,ZB,if_neg (by simp),Int.gcd_zero,show(a.natAbs:Int)=a by omega]
  match k,hk,hK with
  |0,hk,hK=>simp at hk;omega
  |k+1,hk,hK=>
   have m0:=Int.emod_nonneg a (show b≠0 by omega);have m1:=Int.emod_lt_of_pos a h0;rw[if_neg (by omega),if_neg (by omega)]at sg;rw[sg,ZB,if_pos (by simp),qjo (by omega) (by omega) h0 mb,ZB];dsimp only;rw[qg0 ha hb]
   match K,hK with
   |0,hK=>omega
   |K+1,hK=>
    have sr:=qlw (a%b) [];rw[qa0];rcases(show a%b=0\/0<a%b by omega)with g0|g0
    ·rw[g0,show yf ⟨0,[]⟩=some 0 from rfl,ZB,if_neg (by simp),Int.gcd_zero,show(b.natAbs:Int)=b by omega]
    have n0:=Int.emod_nonneg b (show a%b≠0 by omega);have n1:=Int.emod_lt_of_pos b g0
    have hhalf:b%(a%b)<2^k:=by
     have d1:=Int.mul_ediv_add_emod b (a%b)
     have d2:1<=b/(a%b):=by
      rw[Int.le_ediv_iff_mul_le g0];omega
     have d3:a%b*1<=a%b*(b/(a%b)):=Yc d2 (by omega);rw[Int.pow_succ]at hk;omega
    rw[if_neg (by omega),if_neg (by omega)]at sr;rw[sr,ZB,if_pos (by simp),qjo (by omega) (by omega) g0 (by omega),ZB];dsimp only;rw[qg0 hb m0];exact qqq k K (a%b) (b%(a%b)) m0 n0 (by omega) (by omega) hhalf (by omega)
theorem gcd_s {N:Nat} (hN:200<N) {a b:Int} (ha:a.natAbs<=9000000000000000000) (hb:b.natAbs<=9000000000000000000):qgR N ⟨a,[]⟩ ⟨b,[]⟩=some ⟨(Int.gcd a b:Int),[]⟩:=by
 unfold qgR;rw[qtv (by omega) (by omega),ZB,qtv (by omega) (by omega),ZB];dsimp only;rw[qqq 63 N _ _ (by omega) (by omega) (by omega) (by omega) (by omega) (by omega),ZB];rfl
theorem qtn {a b:Int} (h1: -9000000000000000000<=a) (h2:a<=9000000000000000000) (hb0:0<b) (hb:b<=9000000000000000000):qbL ⟨a,[]⟩ ⟨b,[]⟩=some ⟨a/b,[]⟩:=by
 have sg:=qlw b [];rw[if_neg (by omega),if_neg (by omega)]at sg;unfold qbL;rw[sg,ZB,if_neg (by omega),ZB];dsimp only;rw[qjo h1 h2 hb0 hb,ZB]
def Fq (q:Rat):qw:=⟨⟨q.num,[]⟩,⟨(q.den:Int),[]⟩⟩
def IsF (f:qw) (q:Rat):Prop:=f=Fq q
theorem qnf {N:Nat} (hN:200<N) {a b:Int} (ha:a.natAbs<=9000000000000000000) (hb:b.natAbs<=9000000000000000000) (h0:b≠0):qcy N ⟨a,[]⟩ ⟨b,[]⟩=some (Fq (Rat.divInt a b)):=by
 have hg:0<Int.gcd b a:=Int.gcd_pos_of_ne_zero_left _ h0
 have S:(if(if b<0 then-1 else if b=0 then 0 else(1:Int))<0 then
  (jR ⟨a,[]⟩).bind fun r8=>(jR ⟨b,[]⟩).bind fun r9=>some (r8.s,r8.w,r9.s,r9.w)
  else some (a,[],b,[]):Option (Int×(List Int)×Int×(List Int)))=some (b.sign*a,[],(b.natAbs:Int),[]):=by
  by_cases h:b<0
  ·rw[if_pos h,if_pos (by omega),qo1 (by omega) (by omega),ZB,qo1 (by omega) (by omega),ZB,Int.sign_eq_neg_one_of_neg h,Int.neg_mul,Int.one_mul,show(b.natAbs:Int)= -b by omega]
  rw[if_neg h,if_neg (by omega),Int.sign_eq_one_of_pos (by omega),Int.one_mul,show(b.natAbs:Int)=b by omega]
 have ea:(b.sign*a).natAbs=a.natAbs:=by rw[Int.natAbs_mul,Int.natAbs_sign_of_ne_zero h0,Nat.one_mul]
 have eg:Int.gcd (b.sign*a) (b.natAbs:Int)=Int.gcd b a:=by
  rw[Int.gcd_comm];show Nat.gcd (b.natAbs:Int).natAbs (b.sign*a).natAbs=Nat.gcd b.natAbs a.natAbs;rw[ea];rfl
 have gl:Int.gcd b a<=b.natAbs:=Nat.le_of_dvd (by omega) (Int.gcd_dvd_natAbs_left b a);have en:(Rat.divInt a b).num=b.sign*a/(Int.gcd b a:Int):=Rat.num_divInt ..
 have ed:((Rat.divInt a b).den:Int)=(b.natAbs:Int)/(Int.gcd b a:Int):=by rw[Rat.den_divInt,if_neg h0,Int.natCast_ediv]
 unfold qcy;rw[qlw,ZB];dsimp only;rw[S,ZB];dsimp only;rw[if_pos em0,ZB];by_cases h:(b.natAbs:Int)=1
 ·have e1:Int.gcd b a=1:=by omega
  rw[decide_eq_true h,if_pos rfl];unfold Fq;rw[en,ed,e1,h,Int.natCast_one,Int.ediv_one];rfl
 rw[decide_eq_false h,if_neg (by simp),gcd_s hN (by omega) (by omega),ZB,eg,qtn (by omega) (by omega) (by omega) (by omega),ZB,qtn (by omega) (by omega) (by omega) (by omega),ZB];unfold Fq;rw[en,ed]
def Q9 (q:Rat):Prop:=q.num.natAbs<1000000000/\q.den<1000000000
theorem Q9.sml {q:Rat} (h:Q9 q):Sml q 9:=⟨(qjv (by decide)).2 h.1,(qjv (by decide)).2 h.2⟩
theorem qb8 {a b:Int} (ha:a.natAbs<1000000000) (hb:b.natAbs<1000000000):(a*b).natAbs<=1000000000000000000:=by
 rw[Int.natAbs_mul];exact Nat.le_trans (Nat.mul_le_mul (Nat.le_of_lt ha) (Nat.le_of_lt hb)) (by decide)
theorem Q9.d {q:Rat} (h:Q9 q):((q.den:Int)).natAbs<1000000000:=by have:=h.2;omega
theorem Q9.neg {q:Rat} (h:Q9 q):Q9 (-q):=by
 unfold Q9;rw[Rat.neg_num,Rat.neg_den,Int.natAbs_neg];exact h
theorem qsA (z:Int):qc0 ⟨z,[]⟩=some (Fq (z:Rat)):=by
 unfold qc0 qjC;rw[ZB];rfl
theorem qkD (q:Rat):yx (Fq q)=some (decide (q.den=1)):=by
 unfold yx Fq;dsimp only;rw[if_pos em0,ZB];congr 1;exact decide_eq_decide.2 (by omega)
theorem qtU {q:Rat} (h:Q9 q):qb9 (Fq q)=some (Fq (-q)):=by
 have:=h.1;unfold qb9;dsimp only[Fq];rw[qo1 (by omega) (by omega),ZB,Rat.neg_num,Rat.neg_den]
theorem qnW {N:Nat} (hN:200<N) {p q:Rat} (hp:Q9 p) (hq:Q9 q):qad N (Fq p) (Fq q)=some (Fq (p+q)):=by
 have h1:=hp.1;have h2:=hq.1;have h3:=hp.2;have h4:=hq.2;have m1:=qb8 hp.1 hq.d;have m2:=qb8 hq.1 hp.d;have m3:=qb8 hp.d hq.d
 have long:((jc (Fq p).Num (Fq q).Den).bind fun r9=>
  (jc (Fq q).Num (Fq p).Den).bind fun r10=>
  (qa2 r9 r10).bind fun r11=>
  (jc (Fq p).Den (Fq q).Den).bind fun r12=>
  (qcy N r11 r12).bind fun r13=>
  some r13)=some (Fq (p+q)):=by
  dsimp only[Fq];rw[qkM (by omega) (by omega) (by omega),ZB,qkM (by omega) (by omega) (by omega),ZB,qtN (by omega) (by omega),ZB,qkM (by omega) (by omega) (by omega),ZB,qnf hN (by omega) (by omega) (qk2 p q),ZB,qjy p q];rfl
 unfold qad;rw[qkD,ZB];by_cases c1:p.den=1
 ·rw[decide_eq_true c1,if_pos rfl,qkD,ZB,ZB];by_cases c2:q.den=1
  ·rw[decide_eq_true c2,if_pos rfl];have ep:p=(p.num:Rat):=Rat.ext (by simp) (by simp[c1]);have eq:q=(q.num:Rat):=Rat.ext (by simp) (by simp[c2])
   have es:p+q=((p.num+q.num:Int):Rat):=by rw[Rat.intCast_add,<-ep,<-eq]
   rw[es];dsimp only[Fq];rw[qtN (by omega) (by omega),ZB,qsA,ZB];rfl
  rw[decide_eq_false c2,if_neg (by simp)];exact long
 rw[decide_eq_false c1,if_neg (by simp),ZB,if_neg (by simp)];exact long
theorem qr3 {N:Nat} (hN:200<N) {p q:Rat} (hp:Q9 p) (hq:Q9 q):qbb N (Fq p) (Fq q)=some (Fq (p-q)):=by
 unfold qbb;rw[qtU hq,ZB,qnW hN hp hq.neg,ZB,Rat.sub_eq_add_neg]
theorem qkW {N:Nat} (hN:200<N) {p q:Rat} (hp:Q9 p) (hq:Q9 q):xc N (Fq p) (Fq q)=some (Fq (p*q)):=by
 have h1:=hp.1;have h2:=hq.1;have h3:=hp.2;have h4:=hq.2;have m1:=qb8 hp.1 hq.1;have m3:=qb8 hp.d hq.d;unfold xc;dsimp only[Fq];rw[qkM (by omega) (by omega) (by omega),ZB,qkM (by omega) (by omega) (by omega),ZB,qnf hN (by omega) (by omega) (qk2 p q),ZB,qjm p q];rfl
theorem qux {N:Nat} (hN:200<N) {p:Rat} (hp:Q9 p) (h0:p≠0):qa9 N (Fq p)=some (Fq p⁻¹):=by
 have h1:=hp.1;have h2:=hp.d;unfold qa9;dsimp only[Fq];rw[qnf hN (by omega) (by omega) (fun c=>h0 (Rat.num_eq_zero.1 c)),ZB,Rat.inv_def];rfl
end Go.Av
end
section
namespace Go.Av
theorem qts {N:Nat} (hN:1000<N) {a b:Int} (a1: -4000000000000000000<=a) (a2:a<=4000000000000000000) (b1: -4000000000000000000<=b) (b2:b<=4000000000000000000) (hb:b≠0):qec N a b=some (T (Rat.divInt a b)):=by
 have hg:0<Int.gcd b a:=Int.gcd_pos_of_ne_zero_left _ hb;have ea:=qqA (a:=a) hb
 have S:(if b<0 then some (w64 (0-a),w64 (0-b))else some (a,b):Option (Int×Int))=some (b.sign*a,(b.natAbs:Int)):=by
  by_cases h:b<0
  ·rw[if_pos h,qE (by omega) (by omega),qE (by omega) (by omega),Int.sign_eq_neg_one_of_neg h,show(-1:Int)*a=0-a by omega,show(b.natAbs:Int)=0-b by omega]
  rw[if_neg h,Int.sign_eq_one_of_pos (by omega),Int.one_mul,show(b.natAbs:Int)=b by omega]
 have en:(Rat.divInt a b).num=b.sign*a/(Int.gcd b a:Int):=Rat.num_divInt ..
 have ed:(b.natAbs:Int)/(Int.gcd b a:Int)=((Rat.divInt a b).den:Int):=by rw[Rat.den_divInt,if_neg hb,Int.natCast_ediv]
 have hd:=den_pos (Rat.divInt a b);have dvd:(Int.gcd b a:Int)∣b.sign*a:=Int.dvd_mul_of_dvd_right (Int.gcd_dvd_right ..)
 have dvb:(Int.gcd b a:Int)∣(b.natAbs:Int):=by
  rw[Int.dvd_natAbs];exact Int.gcd_dvd_left ..
 have n1:=qeU (b.sign*a) (show(0:Int)<(Int.gcd b a:Int)by omega);have n2:=qeU (b.natAbs:Int) (show(0:Int)<(Int.gcd b a:Int)by omega);rw[<-en,ea]at n1;rw[ed,Int.natAbs_natCast,Int.natAbs_natCast]at n2;unfold qec;rw[if_neg (show¬a< -4000000000000000000 by omega),if_neg (show¬a>4000000000000000000 by omega),if_neg (show¬b< -4000000000000000000 by omega),decide_eq_false (show¬b>4000000000000000000 by omega),ZB,if_neg (by simp),S,ZB];simp only;rw[rabs (by omega) (by omega),ea,qsY (by omega) (by omega) (by omega) (by omega),ZB,qsE,qtA (by omega) (by omega) (by omega) dvd,ZB,qtA (by omega) (by omega) (by omega) dvb,ZB,<-en,ed,rabs (by omega) (by omega),qmV (by omega) (by omega),qmV (by omega) (by omega)];generalize Rat.divInt a b=q at*;have l1:=qtr (n:=q.num.natAbs) (by omega);have l2:=qtr (n:=q.den) (by omega)
 have S2:((if q.num<0 then some [45]else some []:Option Str).bind fun s17=>(some (Lib.decDigits q.num.natAbs)).bind fun r20=>(cat s17 r20).bind fun s21=>(if(q.den:Int)>1 then(cat s21 [47]).bind fun s25=>(some (Lib.decDigits q.den)).bind fun r26=>(cat s25 r26).bind fun s27=>some s27 else some s21:Option Str).bind fun s22=>some s22)=some (T q):=by
  have li:(Lib.itoa q.num).length<=20:=by have:=qpa q.num;omega
  have I:((if q.num<0 then some [45]else some []:Option Str).bind fun s17=>(some (Lib.decDigits q.num.natAbs)).bind fun r20=>(cat s17 r20).bind fun s21=>(if(q.den:Int)>1 then(cat s21 [47]).bind fun s25=>(some (Lib.decDigits q.den)).bind fun r26=>(cat s25 r26).bind fun s27=>some s27 else some s21:Option Str).bind fun s22=>some s22)=((if(q.den:Int)>1 then(cat (Lib.itoa q.num) [47]).bind fun s25=>(some (Lib.decDigits q.den)).bind fun r26=>(cat s25 r26).bind fun s27=>some s27 else some (Lib.itoa q.num):Option Str).bind fun s22=>some s22):=by
   by_cases c:q.num<0
   ·rw[if_pos c,ZB,ZB,qjV (by simp;omega),ZB,qcm c];rfl
   rw[if_neg c,ZB,ZB,qjV (by simp;omega),ZB,qbM c];rfl
  rw[I];unfold T;by_cases c:q.den=1
  ·rw[if_neg (by omega),if_pos c,ZB,YQ]
  rw[if_pos (by omega),if_neg c,qjV (by simp;omega),ZB,ZB,qjV (by simp;omega),ZB,ZB,Yz];rfl
 exact S2
theorem qiC {N:Nat} (hN:100000<N) {q:Rat} (h:Q9 q):vG N (T q)=some (q.num,(q.den:Int),true):=by
 rcases qqL hN h.sml (by decide)with e|⟨e,_⟩
 ·exfalso;have hl:=qtw h.sml;have hb:=qpc (T q);have eb:=qtl q;have es:slA (Lib.decDigits q.num.natAbs++tl q)=(Lib.decDigits q.num.natAbs).length:=qk3 (no47 (qeE _)) q;have lt:(Lib.decDigits q.num.natAbs++tl q).length=(Lib.decDigits q.num.natAbs).length+(tl q).length:=Yq;have l1:=h.sml.1
  have l2:(tl q).length<=10:=by
   have:=h.sml.2;unfold tl;split
   ·simp
   rw[Yr];omega
  have l3:(T q).length<=20:=by
   rw[qsM (T q)];split
   ·rw[Yr,eb];omega
   rw[eb];omega
  rw[eb]at hb;unfold vG at e;rw[if_neg (by omega),qol,ZB,qqU,ZB,eb,qm4 (by omega) (by omega),ZB,es,qr2,if_neg (by omega),qE (by omega) (by omega),decide_eq_false (by omega),ZB,if_neg (by simp),qi4 (by omega),ZB,List.take_left' rfl,qjj (by omega) (qeE _) (by omega),ZB,qgE]at e
  cases h3:(if((Lib.decDigits q.num.natAbs).length:Int)<((Lib.decDigits q.num.natAbs++tl q).length:Int)then
   (cut (Lib.decDigits q.num.natAbs++tl q) (w64 (((Lib.decDigits q.num.natAbs).length:Int)+1)) ((Lib.decDigits q.num.natAbs++tl q).length:Int)).bind fun s20=>
   (yZ N s20).bind fun r21=>
   some r21
   else
   some 1:Option Int)with
  |none=>rw[h3]at e;cases e
  |some v=>
   rw[h3,ZB]at e
   cases h4:(if decide (q.num<0)=true then some (w64 (0-(q.num.natAbs:Int)))else some (q.num.natAbs:Int):Option Int)with
   |none=>rw[h4]at e;cases e
   |some u=>
    rw[h4,ZB]at e;have:=congrArg (fun x:Option (Int×Int×Bool)=>x.map fun y=>y.2.2) e;simp at this
 exact e
theorem qrY {N:Nat} (hN:600000<N) {p q:Rat} (hp:Q9 p) (hq:Q9 q):qct N (T p) (T q)=some (T (p+q)):=by
 have m1:=qb8 hp.1 hq.d;have m2:=qb8 hq.1 hp.d;have m3:=qb8 hp.d hq.d;unfold qct;rw[qiC (by omega) hp,ZB,qiC (by omega) hq,ZB];dsimp only;rw[if_pos rfl,ZB,if_pos rfl,qE (n:=p.num*(q.den:Int)) (by omega) (by omega),qE (n:=q.num*(p.den:Int)) (by omega) (by omega),qE (n:=(p.den:Int)*(q.den:Int)) (by omega) (by omega),qE (by omega) (by omega),qts (by omega) (by omega) (by omega) (by omega) (by omega) (qk2 p q),<-qjy];rfl
theorem qlp {N:Nat} (hN:600000<N) {p q:Rat} (hp:Q9 p) (hq:Q9 q):qbd N (T p) (T q)=some (T (p*q)):=by
 have m1:=qb8 hp.1 hq.1;have m3:=qb8 hp.d hq.d;unfold qbd;rw[qiC (by omega) hp,ZB,qiC (by omega) hq,ZB];dsimp only;rw[if_pos rfl,ZB,if_pos rfl,qE (n:=p.num*q.num) (by omega) (by omega),qE (n:=(p.den:Int)*(q.den:Int)) (by omega) (by omega),qts (by omega) (by omega) (by omega) (by omega) (by omega) (qk2 p q),<-qjm];rfl
end Go.Av
end
noncomputable section
namespace Go.Av
open Go.Proofs Go.RowKit
variable [Glob]
def qff {β:Type} (v:Nat->β) (k:Nat) (q:β):Nat->β:=fun j=>if j=k then q else v j
def qfc {α:Type} (R:α->Rat->Prop) (n:Nat) (r:List α) (v:Nat->Rat):Prop:=r.length=n/\ ∀j f,r[j]? =some f->R f (v j)
def MR {α:Type} (R:α->Rat->Prop) (n:Nat) (l:List (List α)) (M:Nat->Nat->Rat):Prop:=l.length=n/\ ∀i r,l[i]? =some r->qfc R n r (M i)
variable {α:Type} {R:α->Rat->Prop} {n:Nat}
theorem qfc.set {r:List α} {v:Nat->Rat} (h:qfc R n r v) {f:α} {q:Rat} (hf:R f q) (k:Nat):qfc R n (r.set k f) (qff v k q):=by
 refine⟨by rw[Yk];exact h.1,fun j g hj=>?_⟩;unfold qff;by_cases e:j=k
 ·subst e
  have hl:j<r.length:=by
   have:=(Yb.1 hj).1
   rwa [Yk]at this
  rw[List.getElem?_set_self hl]at hj;cases hj
  rw[if_pos rfl];exact hf
 rw[Yw (fun c=>e c.symm)]at hj;rw[if_neg e];exact h.2 j g hj
theorem qfc.get {r:List α} {v:Nat->Rat} (h:qfc R n r v) {k:Nat} (hk:k<n): ∃f,r[k]? =some f/\R f (v k):=by
 have hk':k<r.length:=by rw[h.1];exact hk
 exact⟨r[k],Ya hk',h.2 k _ (Ya hk')⟩
theorem MR.get {l:List (List α)} {M:Nat->Nat->Rat} (h:MR R n l M) {k:Nat} (hk:k<n): ∃r,l[k]? =some r/\qfc R n r (M k):=by
 have hk':k<l.length:=by rw[h.1];exact hk
 exact⟨l[k],Ya hk',h.2 k _ (Ya hk')⟩
theorem MR.set {l:List (List α)} {M:Nat->Nat->Rat} (h:MR R n l M) {r:List α} {v:Nat->Rat} (hr:qfc R n r v) (k:Nat):MR R n (l.set k r) (qff M k v):=by
 refine⟨by rw[Yk];exact h.1,fun j g hj=>?_⟩;unfold qff;by_cases e:j=k
 ·subst e
  have hl:j<l.length:=by
   have:=(Yb.1 hj).1
   rwa [Yk]at this
  rw[List.getElem?_set_self hl]at hj;cases hj
  rw[if_pos rfl];exact hr
 rw[Yw (fun c=>e c.symm)]at hj;rw[if_neg e];exact h.2 j g hj
theorem MR.congr {l:List (List α)} {M M':Nat->Nat->Rat} (h:MR R n l M) (e: ∀i<n,M i=M' i):MR R n l M':=
 ⟨h.1,fun i r hi=>by
  have hl:i<n:=by rw[<-h.1];exact(Yb.1 hi).1
  rw[<-e i hl];exact h.2 i r hi⟩
theorem qfc.ext {f:Rat->α} {r r':List α} {v:Nat->Rat} (h:qfc (fun x q=>x=f q) n r v) (h':qfc (fun x q=>x=f q) n r' v):r=r':=by
 apply List.ext_getElem?;intro k;by_cases hk:k<n
 ·obtain⟨x,x1,x2⟩:=h.get hk;obtain⟨y,y1,y2⟩:=h'.get hk;rw[x1,y1,x2,y2]
 rw[Yg (by rw[h.1];omega),Yg (by rw[h'.1];omega)]
theorem MR.ext {f:Rat->α} {r r':List (List α)} {M:Nat->Nat->Rat} (h:MR (fun x q=>x=f q) n r M) (h':MR (fun x q=>x=f q) n r' M):r=r':=by
 apply List.ext_getElem?;intro k;by_cases hk:k<n
 ·obtain⟨x,x1,x2⟩:=h.get hk;obtain⟨y,y1,y2⟩:=h'.get hk;rw[x1,y1,x2.ext y2]
 rw[Yg (by rw[h.1];omega),Yg (by rw[h'.1];omega)]
def kw (p:Bool) (t:Rat) (k:Nat) (v:Nat->Rat):Nat->Rat:=
 if p=true then qff (qff v k (v k*(1-t)+v (k+1)*1)) (k+1) (v k*t+v (k+1)*0)
 else qff (qff v k (v k*0+v (k+1)*t⁻¹)) (k+1) (v k*1+v (k+1)*(1-t⁻¹))
def qd7 (t:Rat) (c:Int) (M:Nat->Nat->Rat):Nat->Nat->Rat:=fun i=>kw (decide (c>0)) t (c.natAbs-1) (M i)
def idM:Nat->Nat->Rat:=fun i=>qff (fun _=>0) i 1
def qhY (t:Rat) (w:List Int):Nat->Nat->Rat:=w.foldl (fun M c=>qd7 t c M) idM
def qeg (t:Rat) (w:List Int) (v:Nat->Rat):Nat->Rat:=w.foldl (fun v c=>kw (decide (c>0)) t (c.natAbs-1) v) v
theorem qgS (t:Rat): ∀(w:List Int) (M:Nat->Nat->Rat) (i:Nat),w.foldl (fun M c=>qd7 t c M) M i=qeg t w (M i)
 |[],M,i=>rfl
 |c::w,M,i=>qgS t w (qd7 t c M) i
theorem qhr (a:Int):0<=a*a:=by
 rcases Int.le_total 0 a with h|h
 ·exact Yv h h
 exact Int.mul_nonneg_of_nonpos_of_nonpos h h
def SW (t:Int) (z:Nat->Int):Int:=t*(t*(t*(t*(z 0*z 0)+z 1*z 1)+z 2*z 2)+z 3*z 3)+z 4*z 4
theorem qtX {t:Int} (ht:1<=t) {k:Nat} (hk:k<4) {z z':Nat->Int} (h1:z' k=z k*(1-t)+z (k+1)) (h2:z' (k+1)=z k*t) (h3: ∀j,j≠k->j≠k+1->z' j=z j):SW t z'<=t*t*SW t z:=by
 have t1:0<=t-1:=by omega
 have t2:0<=t:=by omega
 have t3:0<=t*t-1:=by have:=Int.mul_le_mul ht ht (by omega) t2;omega
 rcases(show k=0\/k=1\/k=2\/k=3 by omega)with rfl|rfl|rfl|rfl
 ·have a:=h3 2 (by decide) (by decide);have b:=h3 3 (by decide) (by decide);have c:=h3 4 (by decide) (by decide)
  have e:t*t*SW t z-SW t z'=t*t*t*(t*(t-1)*((z 0+z 1)*(z 0+z 1)))+(t*t-1)*(t*(t*(z 2*z 2)+z 3*z 3)+z 4*z 4):=by
   unfold SW;rw[h1,h2,a,b,c];grind
  have:0<=t*t*t*(t*(t-1)*((z 0+z 1)*(z 0+z 1)))+(t*t-1)*(t*(t*(z 2*z 2)+z 3*z 3)+z 4*z 4):=by
   repeat' first|exact qhr _|assumption|apply Int.add_nonneg|apply Yv
  omega
 ·have a:=h3 0 (by decide) (by decide);have b:=h3 3 (by decide) (by decide);have c:=h3 4 (by decide) (by decide)
  have e:t*t*SW t z-SW t z'=t*t*(t*(t-1)*((z 1+z 2)*(z 1+z 2)))+(t*t-1)*(t*(t*(t*(t*(z 0*z 0)))+z 3*z 3)+z 4*z 4):=by
   unfold SW;rw[h1,h2,a,b,c];grind
  have:0<=t*t*(t*(t-1)*((z 1+z 2)*(z 1+z 2)))+(t*t-1)*(t*(t*(t*(t*(z 0*z 0)))+z 3*z 3)+z 4*z 4):=by
   repeat' first|exact qhr _|assumption|apply Int.add_nonneg|apply Yv
  omega
 ·have a:=h3 0 (by decide) (by decide);have b:=h3 1 (by decide) (by decide);have c:=h3 4 (by decide) (by decide)
  have e:t*t*SW t z-SW t z'=t*(t*(t-1)*((z 2+z 3)*(z 2+z 3)))+(t*t-1)*(t*(t*(t*(t*(z 0*z 0)+z 1*z 1)))+z 4*z 4):=by
   unfold SW;rw[h1,h2,a,b,c];grind
  have:0<=t*(t*(t-1)*((z 2+z 3)*(z 2+z 3)))+(t*t-1)*(t*(t*(t*(t*(z 0*z 0)+z 1*z 1)))+z 4*z 4):=by
   repeat' first|exact qhr _|assumption|apply Int.add_nonneg|apply Yv
  omega
 have a:=h3 0 (by decide) (by decide);have b:=h3 1 (by decide) (by decide);have c:=h3 2 (by decide) (by decide)
 have e:t*t*SW t z-SW t z'=t*(t-1)*((z 3+z 4)*(z 3+z 4))+(t*t-1)*(t*(t*(t*(t*(z 0*z 0)+z 1*z 1)+z 2*z 2))):=by
  unfold SW;rw[h1,h2,a,b,c];grind
 have:0<=t*(t-1)*((z 3+z 4)*(z 3+z 4))+(t*t-1)*(t*(t*(t*(t*(z 0*z 0)+z 1*z 1)+z 2*z 2))):=by
  repeat' first|exact qhr _|assumption|apply Int.add_nonneg|apply Yv
 omega
theorem qtR {t:Int} (ht:1<=t) {k:Nat} (hk:k<4) {z z':Nat->Int} (h1:z' k=z (k+1)) (h2:z' (k+1)=z k*t+z (k+1)*(t-1)) (h3: ∀j,j≠k->j≠k+1->z' j=z j*t):SW t z'<=t*t*SW t z:=by
 have t1:0<=t-1:=by omega
 have t2:0<=t:=by omega
 rcases(show k=0\/k=1\/k=2\/k=3 by omega)with rfl|rfl|rfl|rfl
 ·have a:=h3 2 (by decide) (by decide);have b:=h3 3 (by decide) (by decide);have c:=h3 4 (by decide) (by decide)
  have e:t*t*SW t z-SW t z'=t*t*t*((t-1)*((t*z 0-z 1)*(t*z 0-z 1))):=by
   unfold SW;rw[h1,h2,a,b,c];grind
  have:0<=t*t*t*((t-1)*((t*z 0-z 1)*(t*z 0-z 1))):=by
   repeat' first|exact qhr _|assumption|apply Int.add_nonneg|apply Yv
  omega
 ·have a:=h3 0 (by decide) (by decide);have b:=h3 3 (by decide) (by decide);have c:=h3 4 (by decide) (by decide)
  have e:t*t*SW t z-SW t z'=t*t*((t-1)*((t*z 1-z 2)*(t*z 1-z 2))):=by
   unfold SW;rw[h1,h2,a,b,c];grind
  have:0<=t*t*((t-1)*((t*z 1-z 2)*(t*z 1-z 2))):=by
   repeat' first|exact qhr _|assumption|apply Int.add_nonneg|apply Yv
  omega
 ·have a:=h3 0 (by decide) (by decide);have b:=h3 1 (by decide) (by decide);have c:=h3 4 (by decide) (by decide)
  have e:t*t*SW t z-SW t z'=t*((t-1)*((t*z 2-z 3)*(t*z 2-z 3))):=by
   unfold SW;rw[h1,h2,a,b,c];grind
  have:0<=t*((t-1)*((t*z 2-z 3)*(t*z 2-z 3))):=by
   repeat' first|exact qhr _|assumption|apply Int.add_nonneg|apply Yv
  omega
 have a:=h3 0 (by decide) (by decide);have b:=h3 1 (by decide) (by decide);have c:=h3 2 (by decide) (by decide)
 have e:t*t*SW t z-SW t z'=(t-1)*((t*z 3-z 4)*(t*z 3-z 4)):=by
  unfold SW;rw[h1,h2,a,b,c];grind
 have:0<=(t-1)*((t*z 3-z 4)*(t*z 3-z 4)):=by
  repeat' first|exact qhr _|assumption|apply Int.add_nonneg|apply Yv
 omega
theorem SW_at {t:Int} (ht:1<=t) {z:Nat->Int} {j:Nat} (hj:j<5):z j*z j<=SW t z:=by
 have up: ∀{x:Int},0<=x->x<=t*x:=fun {x} h=>by have:=Int.mul_le_mul_of_nonneg_right ht h;omega
 have q0:=qhr (z 0);have q1:=qhr (z 1);have q2:=qhr (z 2);have q3:=qhr (z 3);have q4:=qhr (z 4);have u0:=up q0;have u1:=up (show 0<=t*(z 0*z 0)+z 1*z 1 by omega);have u2:=up (show 0<=t*(t*(z 0*z 0)+z 1*z 1)+z 2*z 2 by omega);have u3:=up (show 0<=t*(t*(t*(z 0*z 0)+z 1*z 1)+z 2*z 2)+z 3*z 3 by omega);unfold SW;rcases(show j=0\/j=1\/j=2\/j=3\/j=4 by omega)with rfl|rfl|rfl|rfl|rfl<;>omega
def Wt (t:Int) (v:Nat->Rat) (m L:Nat):Prop:= ∃z:Nat->Int,(∀j,v j*((t:Rat)^m)=((z j:Int):Rat))/\(∀j,5<=j->z j=0)/\SW t z<=t^(L+2)*t^(L+2)
def Rw (t:Int) (v:Nat->Rat) (L:Nat):Prop:= ∃m,m<=L/\Wt t v m L
theorem qeO {t:Int} (ht:1<=t):(t:Rat)≠0:=by
 intro h
 have:t=0:=by exact_mod_cast h
 omega
theorem Rw.step {t:Int} (ht:1<=t) {v:Nat->Rat} {L:Nat} (h:Rw t v L) (p:Bool) {k:Nat} (hk:k<4):Rw t (kw p t k v) (L+1):=by
 obtain⟨m,hm,z,h1,h2,h3⟩:=h;have ne:=qeO ht
 have hB:t*t*(t^(L+2)*t^(L+2))=t^(L+1+2)*t^(L+1+2):=by
  rw[show L+1+2=L+2+1 by omega,Int.pow_succ];generalize t^(L+2)=P;grind
 have mono:t*t*SW t z<=t*t*(t^(L+2)*t^(L+2)):=Yc h3 (qhr t);cases p
 ·refine⟨m+1,by omega,fun j=>if j=k+1 then z k*t+z (k+1)*(t-1)else if j=k then z (k+1)else z j*t,?_,?_,?_⟩
  ·intro j;unfold kw;rw[if_neg (by decide)];unfold qff;rw[Rat.pow_succ];dsimp only;by_cases a:j=k+1
   ·rw[if_pos a,if_pos a,Rat.intCast_add,Rat.intCast_mul,Rat.intCast_mul,Rat.intCast_sub,<-h1,<-h1];have:(t:Rat)⁻¹*(t:Rat)=1:=Rat.inv_mul_cancel _ ne;generalize (t:Rat)^m=P at*;generalize (t:Rat)⁻¹=I at*;have e1:((1:Int):Rat)=1:=rfl;grind
   rw[if_neg a,if_neg a];by_cases b:j=k
   ·rw[if_pos b,if_pos b,<-h1];have:(t:Rat)⁻¹*(t:Rat)=1:=Rat.inv_mul_cancel _ ne;generalize (t:Rat)^m=P at*;generalize (t:Rat)⁻¹=I at*;grind
   rw[if_neg b,if_neg b,Rat.intCast_mul,<-h1,Rat.mul_assoc]
  ·intro j hj;dsimp only;rw[if_neg (by omega),if_neg (by omega),h2 j hj,Int.zero_mul]
  rw[<-hB];refine Int.le_trans (qtR ht hk (z:=z) ?_ ?_ ?_) mono
  ·rw[if_neg (by omega),if_pos rfl]
  ·rw[if_pos rfl]
  intro j a b;rw[if_neg b,if_neg a]
 refine⟨m,by omega,fun j=>if j=k+1 then z k*t else if j=k then z k*(1-t)+z (k+1)else z j,?_,?_,?_⟩
 ·intro j;unfold kw;rw[if_pos rfl];unfold qff;dsimp only;by_cases a:j=k+1
  ·rw[if_pos a,if_pos a,Rat.intCast_mul,<-h1];generalize (t:Rat)^m=P at*;grind
  rw[if_neg a,if_neg a];by_cases b:j=k
  ·rw[if_pos b,if_pos b,Rat.intCast_add,Rat.intCast_mul,Rat.intCast_sub,<-h1,<-h1];have e1:((1:Int):Rat)=1:=rfl;generalize (t:Rat)^m=P at*;grind
  rw[if_neg b,if_neg b,<-h1]
 ·intro j hj;dsimp only;rw[if_neg (by omega),if_neg (by omega),h2 j hj]
 rw[<-hB];refine Int.le_trans (qtX ht hk (z:=z) ?_ ?_ ?_) mono
 ·rw[if_neg (by omega),if_pos rfl]
 ·rw[if_pos rfl]
 intro j a b;rw[if_neg b,if_neg a]
theorem qnt {t:Int} (ht:1<=t) (i:Nat):i<5->Rw t (idM i) 0:=by
 intro hi;refine⟨0,by omega,fun j=>if j=i then 1 else 0,fun j=>?_,fun j hj=>if_neg (by omega),?_⟩
 ·unfold idM qff;rw[Rat.pow_zero,Rat.mul_one];dsimp only;split<;>rfl
 have t2:0<=t:=by omega
 have e:t^(0+2)*t^(0+2)=t*(t*(t*t)):=by rw[show 0+2=1+1 from rfl,Int.pow_succ,Int.pow_one];grind
 have up: ∀{x:Int},1<=x->x<=t*x/\1<=t*x:=fun {x} h=>by have:=Int.mul_le_mul_of_nonneg_right ht (show 0<=x by omega);omega
 have u1:=up ht;have u2:=up u1.2;have u3:=up u2.2;rw[e];unfold SW;dsimp only;rcases(show i=0\/i=1\/i=2\/i=3\/i=4 by omega)with rfl|rfl|rfl|rfl|rfl<;>simp<;>omega
theorem qoL {t:Int} (ht:1<=t) {n:Nat} (hn:n<=5): ∀(w:List Int),(∀c∈w,c≠0/\ -(n:Int)<c/\c<n)-> ∀(v:Nat->Rat) (L:Nat),Rw t v L->Rw t (qeg t w v) (L+w.length)
 |[],_,v,L,h=>h
 |c::w,hw,v,L,h=>by
  have hc:=hw c (List.mem_cons_self ..);have:=qoL ht hn w (fun d hd=>hw d (List.mem_cons_of_mem _ hd)) _ (L+1) (h.step ht (decide (c>0)) (k:=c.natAbs-1) (by omega));rw[Yr,show L+(w.length+1)=L+1+w.length by omega];exact this
def Bz (D B:Int) (x:Rat):Prop:= ∃z:Int,x*(D:Rat)=(z:Rat)/\z.natAbs<=B.toNat
theorem Bz.q9 {D B:Int} {x:Rat} (h:Bz D B x) (hD:0<D) (hD9:D<1000000000) (hB:B<1000000000):Q9 x:=by
 obtain⟨z,h1,h2⟩:=h
 have hp':(D:Rat)≠0:=by
  intro h
  have:(D:Int)=0:=by exact_mod_cast h
  omega
 have e:x=Rat.divInt z D:=by rw[Rat.divInt_eq_div,<-h1,Rat.mul_div_cancel hp']
 have hg:0<Int.gcd D z:=Int.gcd_pos_of_ne_zero_left _ (by omega);have n1:=qeU (D.sign*z) (show(0:Int)<(Int.gcd D z:Int)by omega)
 have n2:(D.sign*z).natAbs=z.natAbs:=by rw[Int.natAbs_mul,Int.natAbs_sign_of_ne_zero (by omega),Nat.one_mul]
 have n3:=Nat.div_le_self D.natAbs (Int.gcd D z);rw[e];refine⟨?_,?_⟩
 ·rw[Rat.num_divInt];omega
 rw[Rat.den_divInt,if_neg (by omega)];omega
theorem Rw.bz {t:Int} (ht:1<=t) {v:Nat->Rat} {L:Nat} (h:Rw t v L): ∃m,m<=L/\ ∀j,Bz (t^m) (t^(L+2)) (v j):=by
 obtain⟨m,hm,z,h1,h2,h3⟩:=h;have hB:0<t^(L+2):=Int.pow_pos (by omega);refine⟨m,hm,fun j=>⟨z j,by rw[Rat.intCast_pow];exact h1 j,?_⟩⟩;by_cases hj:j<5
 ·have a:=Int.le_trans (SW_at ht hj) h3;generalize t^(L+2)=P at*;generalize z j=y at*
  have:((y.natAbs:Nat):Int)<=P:=by
   rcases Int.lt_or_le P (y.natAbs:Int)with c|c
   ·exfalso;have e:y*y=(y.natAbs:Int)*(y.natAbs:Int):=(Int.natAbs_mul_self' y).symm;have:=Int.mul_lt_mul c (Int.le_of_lt c) hB (by omega);omega
   exact c
  omega
 rw[h2 j (by omega)];simp
def Cz (t:Int) (c:Rat):Prop:= ∃e y:Int,(e=1\/e=t)/\c*(e:Rat)=(y:Rat)/\y.natAbs<=t.toNat
theorem Bz.mul {t D B:Int} (ht:1<=t) (hB:0<=B) {x c:Rat} (h:Bz D B x) (hc:Cz t c): ∃e:Int,(e=1\/e=t)/\Bz (D*e) (B*t) (x*c):=by
 obtain⟨z,h1,h2⟩:=h;obtain⟨e,y,he,k1,k2⟩:=hc;refine⟨e,he,z*y,?_,?_⟩
 ·rw[Rat.intCast_mul,Rat.intCast_mul,<-h1,<-k1];grind
 rw[Int.natAbs_mul,Int.toNat_mul hB (by omega)];exact Nat.mul_le_mul h2 k2
theorem Rw.q9 {t:Int} (ht:1<=t) {v:Nat->Rat} {L:Nat} (h:Rw t v L) (hL:t^(L+2)<1000000000) (j:Nat):Q9 (v j):=by
 obtain⟨m,hm,hb⟩:=h.bz ht;have:=qdx ht (show m<=L+2 by omega);exact(hb j).q9 (Int.pow_pos (by omega)) (by omega) hL
theorem Rw.q9c {t:Int} (ht:1<=t) {v:Nat->Rat} {L:Nat} (h:Rw t v L) (hL:t^(L+3)<1000000000) (j:Nat) {c:Rat} (hc:Cz t c):Q9 (v j*c):=by
 obtain⟨m,hm,hb⟩:=h.bz ht;have hP:0<t^(L+2):=Int.pow_pos (by omega);have hM:0<t^m:=Int.pow_pos (by omega);obtain⟨e,he,k⟩:=(hb j).mul ht (Int.le_of_lt hP) hc;rw[show L+3=L+2+1 by omega,Int.pow_succ]at hL;have p1:=qdx ht (show m+1<=L+2 by omega);rw[Int.pow_succ]at p1;have p2:t^m*1<=t^m*t:=Yc ht (Int.le_of_lt hM);have p3:t^(L+2)*1<=t^(L+2)*t:=Yc ht (Int.le_of_lt hP);rcases he with rfl|rfl
 ·exact k.q9 (by omega) (by omega) hL
 exact k.q9 (by omega) (by omega) hL
end Go.Av
end
noncomputable section
namespace Go.Av
open Go.Proofs Go.RowKit
variable [Glob]
theorem qdK {α:Type} (l:List α) (a:Nat) (x:α):qh l (a:Int) x=l.set a x:=by
 unfold qh;rw[Int.toNat_natCast]
def coV (p:Bool) (t:Rat):(Rat×Rat)×(Rat×Rat):=if p=true then((1-t,t),(1,0))else((0,1),(t⁻¹,1-t⁻¹))
theorem qsi (p:Bool) (t:Rat) (k:Nat) (v:Nat->Rat):kw p t k v=qff (qff v k (v k*(coV p t).1.1+v (k+1)*(coV p t).2.1)) (k+1) (v k*(coV p t).1.2+v (k+1)*(coV p t).2.2):=by
 cases p<;>rfl
theorem rep1 {N n:Nat} (hN:10<N) (h1:1<=n) (h2:n<=5) (f:qw):yO N f.Num.s f.Num.w f.Den.s f.Den.w (n:Int)=some (List.replicate n f):=by
 obtain⟨M,rfl⟩: ∃M,N=M+10:=⟨N-10,by omega⟩
 have:n=1\/n=2\/n=3\/n=4\/n=5:=by omega
 rcases this with rfl|rfl|rfl|rfl|rfl
 all_goals (show @Eq (Option _) _ _;kernel_rfl)
theorem F_s (z:Int):qg7 z=some (Fq (z:Rat)):=rfl
theorem row0 {n i:Nat} {α:Type} {R:α->Rat->Prop} {z o:α} (hz:R z 0) (ho:R o 1):qfc R n ((List.replicate n z).set i o) (idM i):=by
 have h:qfc R n (List.replicate n z) (fun _=>0):=by
  refine⟨List.length_replicate,fun j f hj=>?_⟩;have:=Yn hj;rw[List.eq_of_mem_replicate this];exact hz
 exact h.set ho i
theorem qq7 {N n:Nat} (hN:10<N) (h1:1<=n) (h2:n<=5) {w:List Int} {l1:List (List qw)} (hl:l1.length=n): ∀(K i:Nat) (l2:List (List qw)),l2.length=n->(∀i' r,i'<i->l2[i']? =some r->qfc IsF n r (idM i'))->i<=n->n<K+i-> ∃l,yB N (n:Int) w l1 K l2 (i:Int)=some l/\MR IsF n l idM
 |0,i,l2,e,hr,hi,hK=>by omega
 |K+1,i,l2,e,hr,hi,hK=>by
  unfold yB;by_cases c:i<n
  ·rw[if_pos (by omega),F_s,ZB,rep1 hN h1 h2,ZB,qp,Ya (by omega),ZB,if_pos (by rw[List.length_replicate];omega),ZB,qdK,qp,List.getElem?_set_self (by omega),ZB,F_s,ZB,qp,Ya (by rw[List.length_replicate];omega),ZB,kg (by rw[List.length_replicate];omega),ZB,qdK,List.set_set,qH (by omega)];refine qq7 hN h1 h2 hl K (i+1) _ (by rw[Yk];exact e) (fun i' r hi' hr'=>?_) (by omega) (by omega);by_cases d:i'=i
   ·subst d;rw[List.getElem?_set_self (by omega)]at hr';cases hr'
    exact row0 rfl rfl
   rw[Yw (fun q=>d q.symm)]at hr';exact hr i' r (by omega) hr'
  rw[if_neg (by omega)];refine⟨_,rfl,e,fun i' r hr'=>hr i' r ?_ hr'⟩;have:=(Yb.1 hr').1;omega
structure Tk (t:Int):Prop where
 t1:1<=t
 t9:t<1000
theorem qnm:Q9 1:=⟨by decide,by decide⟩
section
variable {t:Int} (S:Tk t)
include S
theorem Tk.qt:Q9 (t:Rat):=by
 have h1:=S.t1;have h2:=S.t9;refine⟨?_,?_⟩
 ·show t.natAbs<_;omega
 show 1<_;decide
theorem Tk.ci:Cz t (t:Rat)⁻¹:=⟨t,1,.inr rfl,Rat.inv_mul_cancel _ (qeO S.t1),by have:=S.t1;simp;omega⟩
theorem Tk.qi:Q9 (t:Rat)⁻¹:=by
 have h1:=S.t1;have h2:=S.t9;have:Bz t 1 (t:Rat)⁻¹:=⟨1,Rat.inv_mul_cancel _ (qeO S.t1),by decide⟩;exact this.q9 (by omega) (by omega) (by decide)
theorem Tk.c0:Cz t 0:=⟨1,0,.inl rfl,by rw[Rat.zero_mul];rfl,by simp⟩
theorem Tk.c1:Cz t 1:=⟨1,1,.inl rfl,by rw[Rat.one_mul],by have:=S.t1;simp;omega⟩
theorem Tk.ct:Cz t (t:Rat):=⟨1,t,.inl rfl,by rw[show((1:Int):Rat)=1 from rfl,Rat.mul_one],by have:=S.t1;omega⟩
theorem Tk.cu:Cz t (1-(t:Rat)):=⟨1,1-t,.inl rfl,by rw[show((1:Int):Rat)=1 from rfl,Rat.mul_one,Rat.intCast_sub];rfl,by have:=S.t1;omega⟩
theorem Tk.cj:Cz t (1-(t:Rat)⁻¹):=⟨t,t-1,.inr rfl,by
 have:=Rat.inv_mul_cancel _ (qeO S.t1);rw[Rat.intCast_sub,show((1:Int):Rat)=1 from rfl]
 grind,by have:=S.t1;omega⟩
theorem Tk.qu:Q9 (1-(t:Rat)):=by
 have h1:=S.t1;have h2:=S.t9;have:Bz 1 t (1-(t:Rat)):=⟨1-t,by rw[show((1:Int):Rat)=1 from rfl,Rat.mul_one,Rat.intCast_sub];rfl,by omega⟩;exact this.q9 (by omega) (by omega) (by omega)
theorem Tk.qj:Q9 (1-(t:Rat)⁻¹):=by
 have h1:=S.t1;have h2:=S.t9
 have:Bz t t (1-(t:Rat)⁻¹):=⟨t-1,by
  have:=Rat.inv_mul_cancel _ (qeO S.t1);rw[Rat.intCast_sub,show((1:Int):Rat)=1 from rfl]
  grind,by omega⟩
 exact this.q9 (by omega) (by omega) (by omega)
theorem qo7 (p:Bool) {P:Rat->Prop} (h0:P 0) (h1:P 1) (ht:P t) (hu:P (1-(t:Rat))) (hi:P (t:Rat)⁻¹) (hj:P (1-(t:Rat)⁻¹)):P (coV p t).1.1/\P (coV p t).1.2/\P (coV p t).2.1/\P (coV p t).2.2:=by
 cases p
 ·exact⟨h0,h1,hi,hj⟩
 exact⟨hu,ht,h1,h0⟩
theorem qtk {N:Nat} (hN:200<N) (c:Int):qcx N c (Fq t)=some ((Fq (coV (decide (c>0)) t).1.1,Fq (coV (decide (c>0)) t).1.2),(Fq (coV (decide (c>0)) t).2.1,Fq (coV (decide (c>0)) t).2.2)):=by
 unfold qcx;rw[F_s,ZB,F_s,ZB];by_cases h:c>0
 ·rw[if_pos h,show((1:Int):Rat)=1 from rfl,qr3 hN qnm S.qt,ZB,decide_eq_true h];rfl
 rw[if_neg h,qux hN S.qt (qeO S.t1),ZB,ZB,show((1:Int):Rat)=1 from rfl,qr3 hN qnm S.qi,ZB,decide_eq_false h];rfl
theorem qr7 {N n:Nat} (hN:200<N) (h2:n<=5) {M:Nat->Nat->Rat} {c:Int} (hc:1<=c.natAbs) (hc2:c.natAbs<n) (hM: ∀i,i<n-> ∀j,Q9 (M i j)) (hMc: ∀i,i<n-> ∀j e,Cz t e->Q9 (M i j*e)) {l17:List (List qw)} (hl:l17.length=n):
 ∀(K i:Nat) (l25:List (List qw)),MR IsF n l25 (fun i'=>if i'<i then qd7 t c M i' else M i')->i<=n->n<K+i-> ∃l,yI N l17 (c.natAbs:Int) ((Fq (coV (decide (c>0)) t).1.1,Fq (coV (decide (c>0)) t).1.2),(Fq (coV (decide (c>0)) t).2.1,Fq (coV (decide (c>0)) t).2.2)) K l25 (i:Int)=some l/\MR IsF n l (qd7 t c M)
 |0,i,l25,h,hi,hK=>by omega
 |K+1,i,l25,h,hi,hK=>by
  unfold yI;obtain⟨fa,fb,fc,fd⟩:=qo7 S (decide (c>0)) (P:=Cz t) S.c0 S.c1 S.ct S.cu S.ci S.cj;obtain⟨ga,gb,gc,gd⟩:=qo7 S (decide (c>0)) (P:=Q9) ⟨by decide,by decide⟩ qnm S.qt S.qu S.qi S.qj;by_cases d:i<n
  ·obtain⟨r,e1,hr⟩:=h.get d;rw[if_neg (Nat.lt_irrefl _)]at hr;obtain⟨k,hk⟩: ∃k,c.natAbs=k+1:=⟨c.natAbs-1,by omega⟩
   have ek:w64 (((k+1:Nat):Int)-1)=(k:Int):=by rw[qnK (by omega) (by omega)];rfl
   obtain⟨x,x1,x2⟩:=hr.get (k:=k) (by omega);obtain⟨y,y1,y2⟩:=hr.get (k:=k+1) (by omega);have x2:x=Fq (M i k):=x2;have y2:y=Fq (M i (k+1)):=y2;subst x2 y2;have hlen:r.length=n:=hr.1;dsimp only;rw[hk,if_pos (by omega),qp,e1,ZB,ek,qp,x1,ZB,qH (by omega),qp,y1,ZB,qkW hN (hM i d _) ga,ZB,qkW hN (hM i d _) gc,ZB,qnW hN (hMc i d _ _ fa) (hMc i d _ _ fc),ZB,kg (by omega),ZB,qkW hN (hM i d _) gb,ZB,qkW hN (hM i d _) gd,ZB,qnW hN (hMc i d _ _ fb) (hMc i d _ _ fd),ZB,qp,Ya (by rw[Yk];omega),ZB,kg (by rw[Yk];omega),ZB,qdK,qH (by omega),show((k+1:Nat):Int)=(c.natAbs:Int)by rw[hk]];refine qr7 hN h2 hc hc2 hM hMc hl K (i+1) _ ((h.set ((hr.set (R:=IsF) rfl k).set (R:=IsF) rfl (k+1)) i).congr fun i' hi'=>?_) (by omega) (by omega);unfold qff;by_cases g:i'=i
   ·subst g;rw[if_pos rfl,if_pos (by omega)];show _=kw (decide (c>0)) t (c.natAbs-1) (M i');rw[qsi,hk,Nat.add_sub_cancel];rfl
   rw[if_neg g];show(if i'<i then qd7 t c M i' else M i')=_;by_cases g2:i'<i
   ·rw[if_pos g2,if_pos (by omega)]
   rw[if_neg g2,if_neg (by omega)]
  rw[if_neg (by omega)];exact⟨_,rfl,h.congr fun i' hi'=>by rw[if_pos (by omega)]⟩
omit S in
theorem qsP {c:Int} (h1: -100<c) (h2:c<100):zL c=some (c.natAbs:Int):=by
 unfold zL;rw[qE (by omega) (by omega)];split<;>congr 1<;>omega
theorem qqy {N n:Nat} (hN:600000<N) (h2:n<=5) {w:List Int} (hw: ∀c∈w,c≠0/\ -(n:Int)<c/\c<n) (hl:t^(w.length+2)<1000000000) (hl2:w.length<=1000):
 ∀(K i:Nat) (M:Nat->Nat->Rat) (l17:List (List qw)),MR IsF n l17 M->(∀a,a<n->Rw t (M a) i)->i<=w.length->w.length<K+i-> ∃l,yz N w (Fq t) K l17 (i:Int)=some l/\MR IsF n l ((w.drop i).foldl (fun M c=>qd7 t c M) M)
 |0,i,M,l17,h,hb,hi,hK=>by omega
 |K+1,i,M,l17,h,hb,hi,hK=>by
  have t1:=S.t1;unfold yz;by_cases d:i<w.length
  ·have hm:=hw _ (List.getElem_mem d);have p2:=qdx t1 (show i+2<=w.length+2 by omega);have p3:=qdx t1 (show i+3<=w.length+2 by omega);obtain⟨l,l1,l2⟩:=qr7 S (N:=N) (by omega) h2 (c:=w[i]) (by omega) (by omega) (fun a ha b=>(hb a ha).q9 t1 (by omega) b) (fun a ha b e he=>(hb a ha).q9c t1 (by omega) b he) h.1 N 0 l17 (h.congr fun i' _=>by rw[if_neg (Nat.not_lt_zero _)]) (by omega) (by omega);rw[show((0:Nat):Int)=0 from rfl]at l1;rw[if_pos (by omega),qp,Ya d,ZB,qsP (by omega) (by omega),ZB,qtk S (by omega),ZB,l1,ZB,qH (by omega),YG d,List.foldl_cons];exact qqy hN h2 hw hl hl2 K (i+1) _ l l2 (fun a ha=>(hb a ha).step t1 _ (by omega)) (by omega) (by omega)
  rw[if_neg (by omega),List.drop_eq_nil_of_le (by omega)];exact⟨_,rfl,h⟩
theorem qmC {N n:Nat} (hN:600000<N) (h1:1<=n) (h2:n<=5) {w:List Int} (hw: ∀c∈w,c≠0/\ -(n:Int)<c/\c<n) (hl:t^(w.length+2)<1000000000) (hl2:w.length<=1000): ∃l,qbQ N (n:Int) w (Fq t)=some l/\MR IsF n l (qhY t w):=by
 unfold qbQ
 have hm:mk 24 (n:Int) ([]:List qw)=some (List.replicate n []):=by
  have:n=1\/n=2\/n=3\/n=4\/n=5:=by omega
  rcases this with rfl|rfl|rfl|rfl|rfl
  all_goals (show @Eq (Option _) _ _;kernel_rfl)
 obtain⟨l,l1,l2⟩:=qq7 (N:=N) (n:=n) (w:=w) (l1:=List.replicate n []) (by omega) h1 h2 List.length_replicate N 0 (List.replicate n []) List.length_replicate (fun i' r hi'=>by omega) (by omega) (by omega);obtain⟨m,m1,m2⟩:=qqy S hN h2 hw hl hl2 N 0 idM l l2 (fun a ha=>qnt S.t1 a (by omega)) (by omega) (by omega);rw[hm,ZB,show(0:Int)=((0:Nat):Int)from rfl,l1,ZB,m1,ZB];exact⟨_,rfl,m2⟩
theorem quF {n:Nat} (h2:n<=5) {w:List Int} (hw: ∀c∈w,c≠0/\ -(n:Int)<c/\c<n) {i:Nat} (hi:i<n):Rw t (qhY t w i) w.length:=by
 have:=qoL S.t1 h2 w hw _ 0 (qnt S.t1 i (by omega));rw[Nat.zero_add]at this;unfold qhY;rw[qgS];exact this
theorem quE {n:Nat} (h2:n<=5) {w:List Int} (hw: ∀c∈w,c≠0/\ -(n:Int)<c/\c<n) (hl:t^(w.length+2)<1000000000) {i:Nat} (hi:i<n) (j:Nat):Q9 (qhY t w i j):=(quF S h2 hw hi).q9 S.t1 hl j
end
end Go.Av
end
noncomputable section
namespace Go.Av
open Go.Proofs Go.RowKit
variable [Glob]
abbrev IsT:Str->Rat->Prop:=fun s q=>s=T q
theorem qqV {r:List Str} (hl:r.length<=5): ∀(K i:Nat),i<=r.length->r.length<K+i->vw r r K (i:Int)=some (.inl ())
 |0,i,hi,hK=>by omega
 |K+1,i,hi,hK=>by
  unfold vw;by_cases c:i<r.length
  ·rw[if_pos (by omega),qp,Ya c,ZB,ZB,if_neg (by simp),qH (by omega)];exact qqV hl K (i+1) (by omega) (by omega)
  rw[if_neg (by omega)]
theorem qsB {N:Nat} (hN:10<N) {r:List Str} (hl:r.length<=5):qbs N r r=some true:=by
 unfold qbs;have:=qqV hl N 0 (by omega) (by omega);rw[decide_eq_true rfl,if_neg (by decide),show(0:Int)=((0:Nat):Int)from rfl,this];rfl
theorem qq5 {N:Nat} (hN:10<N) {l:List (List Str)} (hl:l.length<=5) (hr: ∀r∈l,r.length<=5): ∀(K i:Nat),i<=l.length->l.length<K+i->zX N l l K (i:Int)=some (.inl ())
 |0,i,hi,hK=>by omega
 |K+1,i,hi,hK=>by
  unfold zX;by_cases c:i<l.length
  ·rw[if_pos (by omega),qp,Ya c,ZB,ZB,qsB hN (hr _ (List.getElem_mem c)),ZB,if_neg (by decide),qH (by omega)];exact qq5 hN hl hr K (i+1) (by omega) (by omega)
  rw[if_neg (by omega)]
theorem qsq {N n:Nat} (hN:10<N) (h2:n<=5) {l l':List (List Str)} {M:Nat->Nat->Rat} (h:MR IsT n l M) (h':MR IsT n l' M):xS N l l'=some true:=by
 obtain rfl:=h.ext h';have hl:=h.1
 have hr: ∀r∈l,r.length<=5:=fun r hr=>by
  obtain⟨i,hi⟩:=List.getElem?_of_mem hr;have:=(h.2 i r hi).1;omega
 unfold xS;have:=qq5 hN (by omega) hr N 0 (by omega) (by omega);rw[decide_eq_true rfl,if_neg (by decide),show(0:Int)=((0:Nat):Int)from rfl,this];rfl
theorem qop {n:Nat} (h2:n<=5): ∀(K i:Nat),i<=n->n<K+i->jH (n:Int) K (List.replicate i [48]) (i:Int)=some (List.replicate n [48])
 |0,i,hi,hK=>by omega
 |K+1,i,hi,hK=>by
  unfold jH;by_cases c:i<n
  ·rw[if_pos (by omega),qbh (by simp;omega) (by simp;omega),ZB,qH (by omega),<-List.replicate_succ'];exact qop h2 K (i+1) (by omega) (by omega)
  rw[if_neg (by omega),show i=n by omega]
theorem qqa {N n:Nat} (hN:10<N) (h2:n<=5):qa3 N (n:Int)=some (List.replicate n [48]):=by
 unfold qa3;have:=qop h2 N 0 (by omega) (by omega);rw[List.replicate_zero]at this;rw[show(0:Int)=((0:Nat):Int)from rfl,this,ZB]
theorem T_one:([49]:Str)=T 1:=by kernel_rfl
theorem qqR:([48]:Str)=T 0:=(quR.2 rfl).symm
section
variable {n:Nat} (h2:n<=5) {a b:List Int} (ha: ∀c∈a,c≠0/\ -(n:Int)<c/\c<n) (hb: ∀c∈b,c≠0/\ -(n:Int)<c/\c<n) (hl:a.length+b.length<=16)
include h2 ha hb hl
variable {N:Nat} (hN:600000<N) {u v:List (List Str)} (hu:MR IsT n u (qhY ((3:Int):Rat) a)) (hv:MR IsT n v (qhY ((3:Int):Rat) b))
include hN hu hv
end
end Go.Av
end
noncomputable section
namespace Go.Av
open Go.Proofs Go.RowKit
variable [Glob]
theorem pf_of {u v:List Int} (h: ∀s,pmF s u=pmF s v) (x:Nat):pfP u x=pfP v x:=by
 have:=congrArg (fun s:SB=>s.f x) (h Uh);rw[qnB,qnB]at this;exact this
theorem qkZ {m m':List Int} (h: ∀a b,lkP m a b=lkP m' a b) (k: ∀s,pmF s m=pmF s m') (u v:List Int) (a b:Nat):lkP (u++m++v) a b=lkP (u++m'++v) a b:=by
 have p: ∀x,pfP (u++m) x=pfP (u++m') x:=pf_of fun s=>by rw[xw,xw,k]
 rw[qgV,qgV (u++m'),qgV u m,qgV u m',h,p,p]
theorem qiN (k x:Nat):(tr5 k x=k↔x=k+1)/\(tr5 k x=k+1↔x=k):=by
 unfold tr5;constructor<;>(repeat' split)<;>omega
theorem qlA {k m:Nat} (h:k+1<m\/m+1<k) (x:Nat):(tr5 k x=m↔x=m)/\(tr5 k x=m+1↔x=m+1):=by
 unfold tr5;constructor<;>(repeat' split)<;>omega
theorem qiF {k m:Nat} (h:m=k+1\/k=m+1) (x:Nat):(tr5 k (tr5 m x)=m↔x=k)/\(tr5 k (tr5 m x)=m+1↔x=k+1):=by
 unfold tr5;constructor<;>(repeat' split)<;>omega
theorem qiK {k m:Nat} (h:m=k+1\/k=m+1) (x:Nat):(tr5 k x=m↔tr5 m x=k)/\(tr5 k x=m+1↔tr5 m x=k+1):=by
 unfold tr5;constructor<;>(repeat' split)<;>omega
def ht (k a b:Nat) (s:Int):Int:=if(a=k/\b=k+1)\/(a=k+1/\b=k)then s else 0
theorem qov {P Q:Prop} [Decidable P] [Decidable Q] (h:P↔Q) (s:Int):(if P then s else 0)=if Q then s else 0:=by simp only[h]
theorem qtg (k a b:Nat) (s:Int):ht k (tr5 k a) (tr5 k b) s=ht k a b s:=qov (by rw[(qiN k a).1,(qiN k a).2,(qiN k b).1,(qiN k b).2];omega) s
theorem qrJ {k m:Nat} (h:k+1<m\/m+1<k) (a b:Nat) (s:Int):ht m (tr5 k a) (tr5 k b) s=ht m a b s:=qov (by rw[(qlA h a).1,(qlA h a).2,(qlA h b).1,(qlA h b).2]) s
theorem qlf {k m:Nat} (h:m=k+1\/k=m+1) (a b:Nat) (s:Int):ht m (tr5 k (tr5 m a)) (tr5 k (tr5 m b)) s=ht k a b s:=qov (by rw[(qiF h a).1,(qiF h a).2,(qiF h b).1,(qiF h b).2]) s
theorem qs9 {k m:Nat} (h:m=k+1\/k=m+1) (a b:Nat) (s:Int):ht m (tr5 k a) (tr5 k b) s=ht k (tr5 m a) (tr5 m b) s:=qov (by rw[(qiK h a).1,(qiK h a).2,(qiK h b).1,(qiK h b).2]) s
theorem quM (k a b:Nat) (s:Int):ht k a b (-s)= -ht k a b s:=by unfold ht;split<;>omega
theorem yH (c:Int) (w:List Int) (a b:Nat):lkP (c::w) a b=ht (c.natAbs-1) a b (qbR c)+lkP w (tr5 (c.natAbs-1) a) (tr5 (c.natAbs-1) b):=rfl
theorem qoc (x:Int) (hx:x≠0) (a b:Nat):lkP [x,-x] a b=lkP [] a b:=by
 have hs:qbR (-x)= -qbR x:=by unfold qbR;split<;>split<;>omega
 rw[yH,yH,Int.natAbs_neg,qtg,hs,quM];show _+(_+(0:Int))=0;omega
theorem quX {x y:Int} (hx:x≠0) (hy:y≠0) (h:qlm x y=true) (a b:Nat):lkP [x,y] a b=lkP [y,x] a b:=by
 unfold qlm at h;rw[Bool.or_eq_true,Nat.ble_eq,Nat.ble_eq]at h;rw[yH,yH,yH,yH,qrJ (by omega),qrJ (by omega)];show _+(_+(0:Int))=_+(_+(0:Int));omega
theorem qbx {z:Int} (h:z≠0):qbR z=sg5 z:=by unfold qbR sg5;split<;>split<;>omega
theorem qf2 {z:Int} (h:z≠0) {y:Int} (hy:y≠0):qbR (sg5 z*(y.natAbs:Int))=qbR z/\(sg5 z*(y.natAbs:Int)).natAbs=y.natAbs/\((0<sg5 z*(y.natAbs:Int))↔0<z):=by
 unfold qbR sg5;by_cases p:z<0
 ·rw[if_pos p,if_neg (show¬0<z by omega)];refine⟨if_neg (by omega),by omega,by omega⟩
 rw[if_neg p,if_pos (show 0<z by omega)];refine⟨if_pos (by omega),by omega,by omega⟩
theorem qf4 {x y z:Int} {l:List Int} (hx:x≠0) (hy:y≠0) (hz:z≠0) (h:qhc x y z=some l):x.natAbs=z.natAbs/\(y.natAbs-1=x.natAbs-1+1\/x.natAbs-1=y.natAbs-1+1)/\((qbR x=qbR y/\l=[sg5 z*(y.natAbs:Int),x,y])\/(qbR y=qbR z/\l=[y,z,sg5 x*(y.natAbs:Int)])):=by
 unfold qhc at h;split at h
 ·rename_i c;refine⟨c.1,by omega,?_⟩;split at h
  ·rename_i d;exact .inl ⟨by rw[qbx hx,qbx hy,d],(Ye h).symm⟩
  split at h
  ·rename_i d;exact .inr ⟨by rw[qbx hy,qbx hz,d],(Ye h).symm⟩
  cases h
 cases h
theorem que {x y z:Int} {l:List Int} (hx:x≠0) (hy:y≠0) (hz:z≠0) (h:qhc x y z=some l) (a b:Nat):lkP [x,y,z] a b=lkP l a b:=by
 obtain⟨e,n,r⟩:=qf4 hx hy hz h
 have key: ∀(p q r:Int),lkP [x,y,z] a b=ht (x.natAbs-1) a b (qbR x)+(ht (x.natAbs-1) (tr5 (y.natAbs-1) a) (tr5 (y.natAbs-1) b) (qbR y)+ht (y.natAbs-1) a b (qbR z)):=fun p q r=>by
  rw[yH,yH,yH,<-e,qs9 n,qlf (by omega)];show _+(_+(_+(0:Int)))=_;omega
 rw[key 0 0 0];rcases r with⟨s,rfl⟩|⟨s,rfl⟩
 ·obtain⟨u1,u2,_⟩:=qf2 hz hy;rw[yH,yH,yH,u1,u2,qlf n];show _=_+(_+(_+(0:Int)));rw[s];omega
 obtain⟨u1,u2,_⟩:=qf2 hx hy;rw[yH,yH,yH,u1,u2,<-e,qlf n];show _=_+(_+(_+(0:Int)));rw[s];omega
theorem Mv.lk {n:Nat} {w v:List Int} (h:Mv n w v) (hw:qap n w) (a b:Nat):lkP w a b=lkP v a b:=by
 cases h with
 |@ins u v x hx=>
  have:=qkZ (m:=[]) (m':=[x,-x]) (fun a b=>(qoc x hx.1 a b).symm) (fun s=>(qiy s x).symm) u v a b
  rwa [YQ]at this
 |@can u v x=>
  have:=qkZ (m:=[x,-x]) (m':=[]) (fun a b=>qoc x (hw x (by simp)).1 a b) (fun s=>qiy s x) u v a b
  rwa [YQ]at this
 |@swp u v x y h=>
  have hx:=(hw x (by simp)).1;have hy:=(hw y (by simp)).1;refine qkZ (fun a b=>quX hx hy h a b) (fun s=>?_) u v a b;have:=Mv.pm (n:=n) (.swp (u:=[]) (v:=[]) h) (fun c hc=>hw c (by simp at hc⊢;rcases hc with rfl|rfl<;>simp)) s;simpa using this
 |@trn u v l x y z h=>
  have hx:=(hw x (by simp)).1;have hy:=(hw y (by simp)).1;have hz:=(hw z (by simp)).1;exact qkZ (fun a b=>que hx hy hz h a b) (fun s=>qqE hx hy h) u v a b
theorem qaL {v:Nat->Rat} {k j:Nat} {q:Rat}:qff v k q j=if j=k then q else v j:=rfl
theorem qsC {t:Rat} (ht:t≠0) (p:Bool) (k:Nat) (v:Nat->Rat):kw (!p) t k (kw p t k v)=v:=by
 have I:=Rat.inv_mul_cancel t ht;generalize t⁻¹=i at I;funext j;cases p<;>simp only[kw,qaL,Bool.not_true,Bool.not_false,if_true,ZF,if_false]
 all_goals
  by_cases a:j=k+1
  ·subst a;simp;grind
  by_cases b:j=k
  ·subst b;simp;grind
  simp[a,b]
theorem quN {t:Rat} {k m:Nat} (h:k+1<m\/m+1<k) (p q:Bool) (v:Nat->Rat):kw q t m (kw p t k v)=kw p t k (kw q t m v):=by
 have n1:m≠k:=by omega
 have n2:m≠k+1:=by omega
 have n3:m+1≠k:=by omega
 have n4:k≠m:=by omega
 have n5:k≠m+1:=by omega
 have n6:k+1≠m:=by omega
 funext j;by_cases a:j=k
 ·subst a;cases p<;>cases q<;>simp[kw,qaL,n1,n2,n3,n4,n5,n6]
 by_cases b:j=k+1
 ·subst b;cases p<;>cases q<;>simp[kw,qaL,n1,n2,n3,n4,n5,n6]
 by_cases c:j=m
 ·subst c;cases p<;>cases q<;>simp[kw,qaL,n1,n2,n3,n4,n5,n6]
 by_cases d:j=m+1
 ·subst d;cases p<;>cases q<;>simp[kw,qaL,n1,n2,n3,n4,n5,n6]
 cases p<;>cases q<;>simp[kw,qaL,a,b,c,d]
theorem st_up {t:Rat} (ht:t≠0) (k:Nat) (p q r:Bool) (h:p=q\/q=r) (v:Nat->Rat):kw r t k (kw q t (k+1) (kw p t k v))=if p=q then kw q t (k+1) (kw p t k (kw r t (k+1) v))else kw p t (k+1) (kw r t k (kw q t (k+1) v)):=by
 have I:=Rat.inv_mul_cancel t ht;generalize hi:t⁻¹=i at I
 have n1:k≠k+1+1:=by omega
 have n2:k+1+1≠k:=by omega
 funext j;by_cases a:j=k
 ·subst a;cases p<;>cases q<;>cases r<;>simp_all [kw,qaL]<;>grind
 by_cases b:j=k+1
 ·subst b;cases p<;>cases q<;>cases r<;>simp_all [kw,qaL]<;>grind
 by_cases c:j=k+1+1
 ·subst c;cases p<;>cases q<;>cases r<;>simp_all [kw,qaL]<;>grind
 cases p<;>cases q<;>cases r<;>simp_all [kw,qaL]
theorem st_dn {t:Rat} (ht:t≠0) (k:Nat) (p q r:Bool) (h:p=q\/q=r) (v:Nat->Rat):kw r t (k+1) (kw q t k (kw p t (k+1) v))=if p=q then kw q t k (kw p t (k+1) (kw r t k v))else kw p t k (kw r t (k+1) (kw q t k v)):=by
 have I:=Rat.inv_mul_cancel t ht;generalize hi:t⁻¹=i at I
 have n1:k≠k+1+1:=by omega
 have n2:k+1+1≠k:=by omega
 funext j;by_cases a:j=k
 ·subst a;cases p<;>cases q<;>cases r<;>simp_all [kw,qaL]<;>grind
 by_cases b:j=k+1
 ·subst b;cases p<;>cases q<;>cases r<;>simp_all [kw,qaL]<;>grind
 by_cases c:j=k+1+1
 ·subst c;cases p<;>cases q<;>cases r<;>simp_all [kw,qaL]<;>grind
 cases p<;>cases q<;>cases r<;>simp_all [kw,qaL]
theorem qsu {t:Rat} (ht:t≠0) {k m:Nat} (n:m=k+1\/k=m+1) (p q r:Bool) (h:p=q\/q=r) (v:Nat->Rat):kw r t k (kw q t m (kw p t k v))=if p=q then kw q t m (kw p t k (kw r t m v))else kw p t m (kw r t k (kw q t m v)):=by
 rcases n with rfl|rfl
 ·exact st_up ht k p q r h v
 exact st_dn ht m p q r h v
def lt1 (t:Rat) (c:Int):(Nat->Rat)->Nat->Rat:=kw (decide (c>0)) t (c.natAbs-1)
theorem xD (t:Rat) (c:Int) (w:List Int) (v:Nat->Rat):qeg t (c::w) v=qeg t w (lt1 t c v):=rfl
theorem qfA (t:Rat) (v:Nat->Rat):qeg t [] v=v:=rfl
theorem qhs (t:Rat) (a b:List Int) (v:Nat->Rat):qeg t (a++b) v=qeg t b (qeg t a v):=by
 unfold qeg;rw[List.foldl_append]
theorem qpi {x y:Int} (hx:x≠0) (hy:y≠0):qbR x=qbR y↔decide (x>0)=decide (y>0):=by
 unfold qbR;by_cases a:0<x<;>by_cases b:0<y<;>simp[a,b]
theorem qsx {t:Rat} (ht:t≠0) {x y z:Int} {l:List Int} (hx:x≠0) (hy:y≠0) (hz:z≠0) (h:qhc x y z=some l) (v:Nat->Rat):qeg t [x,y,z] v=qeg t l v:=by
 obtain⟨e,n,r⟩:=qf4 hx hy hz h;rw[qpi hx hy,qpi hy hz]at r;have key:=qsu ht n (decide (x>0)) (decide (y>0)) (decide (z>0)) (by rcases r with⟨s,_⟩|⟨s,_⟩<;>simp[s]) v
 have lhs:qeg t [x,y,z] v=kw (decide (z>0)) t (x.natAbs-1) (kw (decide (y>0)) t (y.natAbs-1) (kw (decide (x>0)) t (x.natAbs-1) v)):=by
  conv=>rhs;rw[e]
  rw[<-e];rw[xD,xD,xD,qfA];unfold lt1;rw[<-e]
 rw[lhs,key];rcases r with⟨s,rfl⟩|⟨s,rfl⟩
 ·obtain⟨_,u2,u3⟩:=qf2 hz hy;rw[if_pos s,xD,xD,xD,qfA];unfold lt1;rw[u2,decide_eq_decide.2 (show sg5 z*(y.natAbs:Int)>0↔z>0 from u3)]
 obtain⟨_,u2,u3⟩:=qf2 hx hy;rw[xD,xD,xD,qfA];unfold lt1;rw[u2,decide_eq_decide.2 (show sg5 x*(y.natAbs:Int)>0↔x>0 from u3),<-e];by_cases g:decide (x>0)=decide (y>0)
 ·rw[if_pos g,s,g.trans s]
 rw[if_neg g]
theorem qiH {t:Rat} {m m':List Int} (h: ∀v,qeg t m v=qeg t m' v) (u v:List Int) (x:Nat->Rat):qeg t (u++m++v) x=qeg t (u++m'++v) x:=by
 rw[qhs,qhs t u m,qhs t (u++m'),qhs t u m',h]
theorem Mv.run {t:Rat} (ht:t≠0) {n:Nat} {w v:List Int} (h:Mv n w v) (hw:qap n w) (x:Nat->Rat):qeg t w x=qeg t v x:=by
 have pair: ∀(c:Int),c≠0-> ∀v,qeg t [c,-c] v=qeg t [] v:=fun c hc v=>by
  rw[xD,xD,qfA,qfA];unfold lt1;rw[Int.natAbs_neg,show decide (-c>0)=!decide (c>0)by by_cases a:c>0<;>simp[a]<;>omega];exact qsC ht _ _ v
 cases h with
 |@ins u v c hc=>
  have:=qiH (m:=[]) (m':=[c,-c]) (fun v=>(pair c hc.1 v).symm) u v x
  rwa [YQ]at this
 |@can u v c=>
  have:=qiH (m:=[c,-c]) (m':=[]) (fun v=>pair c (hw c (by simp)).1 v) u v x
  rwa [YQ]at this
 |@swp u v a b h=>
  have ha:=(hw a (by simp)).1;have hb:=(hw b (by simp)).1;refine qiH (fun v=>?_) u v x;unfold qlm at h;rw[Bool.or_eq_true,Nat.ble_eq,Nat.ble_eq]at h;exact quN (by omega) _ _ v
 |@trn u v l a b c h=>
  exact qiH (fun v=>qsx ht (hw a (by simp)).1 (hw b (by simp)).1 (hw c (by simp)).1 h v) u v x
theorem Mv.mat {t:Rat} (ht:t≠0) {n:Nat} {w v:List Int} (h:Mv n w v) (hw:qap n w):qhY t w=qhY t v:=by
 funext i;unfold qhY;rw[qgS,qgS,h.run ht hw]
end Go.Av
end
noncomputable section
namespace Go.Av
open Go.Proofs Go.RowKit
variable [Glob]
theorem fc {s a:List Int} (hs:qeC s) (ha:Nz a):fact (fact s a) (yP a)=s:=by
 have:=qoH ha s hs
 rwa [zS]at this
theorem fc' {s a:List Int} (hs:qeC s) (ha:Nz a):fact (fact s (yP a)) a=s:=by
 have:=qqp ha s hs
 rwa [zS]at this
theorem ff {s a:List Int} (hs:qeC s) (ha:Nz a):fact s (yP (fred a))=fact s (yP a):=by
 have ht:=vY hs ha.inv
 have e:fact (fact s (yP a)) (fred a)=s:=by rw[qcY ha ht,fc' hs ha]
 have:=fc ht (qpd ha)
 rwa [e]at this
structure Gim (n:Nat) (im:List (List Int)):Prop where
 len:im.length=n
 fr: ∀k,FR (im.getD k [])
theorem Gim.nz {n:Nat} {im:List (List Int)} (h:Gim n im) (k:Nat):Nz (im.getD k []):=fun x hx=>(qeC.nz (h.fr k)) x (List.mem_reverse.2 hx)
theorem Gim.ext {n:Nat} {x y:List (List Int)} (hx:Gim n x) (hy:Gim n y) (h: ∀k,k<n->x.getD k []=y.getD k []):x=y:=by
 apply List.ext_getElem?;intro k;by_cases hk:k<n
 ·rw[qkd (by rw[hx.len];exact hk),qkd (by rw[hy.len];exact hk),h k hk]
 rw[Yg (by rw[hx.len];omega),Yg (by rw[hy.len];omega)]
theorem Gim.step {n:Nat} {im:List (List Int)} (h:Gim n im) {c:Int} (hc:c≠0/\ -(n:Int)<c/\c<n):Gim n (qz im c):=by
 obtain⟨i,hi⟩: ∃i,c.natAbs=i+1:=⟨c.natAbs-1,by omega⟩;refine⟨by rw[qf3,h.len],fun k=>?_⟩;rw[xC hi (by rw[h.len];omega)];have ha:=h.nz i;have hb:=h.nz (i+1);split
 ·split
  ·exact qoE ((ha.app hb).app ha.inv)
  exact h.fr _
 split
 ·split
  ·exact h.fr _
  exact qoE ((hb.inv.app ha).app hb)
 exact h.fr _
theorem qs2 (n:Nat):Gim n (fid n):=⟨qcP n,fun k=>by
 by_cases h:k<n
 ·rw[qs8 h];exact⟨by omega,by simp,trivial⟩
 rw[Yy,Yg (by rw[qcP];omega)]
 trivial⟩
theorem qmx {n:Nat}: ∀{w:List Int} {im:List (List Int)},qnM n w->Gim n im->Gim n (w.foldl qz im)
 |[],im,_,h=>h
 |c::w,im,hw,h=>qmx (w:=w) (fun d hd=>hw d (List.mem_cons_of_mem _ hd)) (h.step (hw c (List.mem_cons_self ..)))
theorem qb7 {n:Nat} {im:List (List Int)} (h:Gim n im) {c:Int} (hc:c≠0/\ -(n:Int)<c/\c<n):qz (qz im c) (-c)=im:=by
 obtain⟨i,hi⟩: ∃i,c.natAbs=i+1:=⟨c.natAbs-1,by omega⟩;have h1:=h.step hc
 refine Gim.ext (h1.step (c:= -c) (by omega)) h fun k hk=>?_
 have a:=h.nz i;have b:=h.nz (i+1);rw[xC (c:= -c) (i:=i) (by rw[Int.natAbs_neg];exact hi) (by rw[h1.len];omega)];simp only[xC hi (show i+1<im.length by rw[h.len];omega),if_pos rfl,if_neg (show¬i+1=i by omega)];by_cases p:0<c
 ·simp only[if_pos p,if_neg (show¬0< -c by omega),if_true];by_cases k1:k=i
  ·rw[if_pos k1,k1]
  rw[if_neg k1];by_cases k2:k=i+1
  ·rw[if_pos k2,k2]
   refine Feq.uniq (h.fr _) fun s hs=>?_
   have hs1:=vY hs a.inv;rw[zS,zS,qcY ((a.app b).app a.inv) hs1,zS,zS,fc' hs a,fc' (vY hs b) a]
  rw[if_neg k2,if_neg k1,if_neg k2]
 simp only[if_neg p,if_pos (show 0< -c by omega),if_true];by_cases k1:k=i
 ·rw[if_pos k1,k1]
  refine Feq.uniq (h.fr _) fun s hs=>?_
  have hs1:=vY hs b;rw[zS,zS,qcY ((b.inv.app a).app b) hs1,zS,zS,fc hs b,fc (vY hs a) b]
 rw[if_neg k1];by_cases k2:k=i+1
 ·rw[if_pos k2,k2]
 rw[if_neg k2,if_neg k1,if_neg k2]
theorem qt4 {n:Nat} {im:List (List Int)} (h:Gim n im) {c d:Int} (hc:c≠0/\ -(n:Int)<c/\c<n) (hd:d≠0/\ -(n:Int)<d/\d<n) (far:c.natAbs+2<=d.natAbs\/d.natAbs+2<=c.natAbs):qz (qz im c) d=qz (qz im d) c:=by
 obtain⟨i,hi⟩: ∃i,c.natAbs=i+1:=⟨c.natAbs-1,by omega⟩;obtain⟨m,hm⟩: ∃m,d.natAbs=m+1:=⟨d.natAbs-1,by omega⟩;have h1:=h.step hc;have h2:=h.step hd
 refine Gim.ext (h1.step hd) (h2.step hc) fun k hk=>?_
 rw[xC (im:=qz im c) hm (by rw[h1.len];omega),xC (im:=qz im d) hi (by rw[h2.len];omega)];simp only[xC hi (show i+1<im.length by rw[h.len];omega),xC hm (show m+1<im.length by rw[h.len];omega)]
 have n1:m≠i:=by omega
 have n2:m≠i+1:=by omega
 have n3:m+1≠i:=by omega
 have n4:i≠m:=by omega
 have n5:i≠m+1:=by omega
 have n6:i+1≠m:=by omega
 have n7:i+1≠m+1:=by omega
 have n8:m+1≠i+1:=by omega
 by_cases k1:k=i
 ·subst k1;simp only[n1,n2,n3,n4,n5,n6,n7,n8,if_true,if_false]
 by_cases k2:k=i+1
 ·subst k2;simp only[n1,n2,n3,n4,n5,n6,n7,n8,k1,if_true,if_false]
 by_cases k3:k=m
 ·subst k3;simp only[n1,n2,n3,n4,n5,n6,n7,n8,k1,k2,if_true,if_false]
 simp only[n1,n2,n3,n4,n5,n6,n7,n8,k1,k2,if_true,if_false]
theorem qmJ {n i:Nat} {im:List (List Int)} (h:Gim n im) (hi:i+2<n):qz (qz (qz im ((i:Int)+1)) ((i:Int)+2)) ((i:Int)+1)=qz (qz (qz im ((i:Int)+2)) ((i:Int)+1)) ((i:Int)+2):=by
 have c1:((i:Int)+1)≠0/\ -(n:Int)<(i:Int)+1/\(i:Int)+1<n:=by omega
 have c2:((i:Int)+2)≠0/\ -(n:Int)<(i:Int)+2/\(i:Int)+2<n:=by omega
 have e1:((i:Int)+1).natAbs=i+1:=by omega
 have e2:((i:Int)+2).natAbs=i+1+1:=by omega
 have p1:0<(i:Int)+1:=by omega
 have p2:0<(i:Int)+2:=by omega
 have A1:=h.step c1;have A2:=A1.step c2;have B1:=h.step c2;have B2:=B1.step c1;have na:=h.nz i;have nb:=h.nz (i+1);have nc:=h.nz (i+1+1)
 refine Gim.ext (A2.step c1) (B2.step c2) fun k hk=>?_
 have g1: ∀{x:List (List Int)},Gim n x-> ∀k,(qz x ((i:Int)+1)).getD k []=if k=i then fred (x.getD i []++x.getD (i+1) []++yP (x.getD i []))else if k=i+1 then x.getD i []else x.getD k []:=fun hx k=>by
  rw[xC e1 (by rw[hx.len];omega),if_pos p1,if_pos p1]
 have g2: ∀{x:List (List Int)},Gim n x-> ∀k,(qz x ((i:Int)+2)).getD k []=if k=i+1 then fred (x.getD (i+1) []++x.getD (i+1+1) []++yP (x.getD (i+1) []))else if k=i+1+1 then x.getD (i+1) []else x.getD k []:=fun hx k=>by
  rw[xC e2 (by rw[hx.len];omega),if_pos p2,if_pos p2]
 have n1: ¬i+1=i:=by omega
 have n2: ¬i+1+1=i:=by omega
 have n3: ¬i=i+1:=by omega
 have n4: ¬i=i+1+1:=by omega
 have n5: ¬i+1=i+1+1:=by omega
 have n6: ¬i+1+1=i+1:=by omega
 rw[g1 A2,g2 B2];simp only[g2 A1,g1 h,g1 B1,g2 h,if_true,if_neg n1,if_neg n2,if_neg n3,if_neg n4,if_neg n5,if_neg n6];by_cases k1:k=i
 ·subst k1;simp only[if_true,if_neg n3,if_neg n4]
  refine Feq.fred fun s hs=>?_
  have ab:=(na.app nb).app na.inv;have ac:=(na.app nc).app na.inv;have bc:=(nb.app nc).app nb.inv;have r1:=vY hs na
  have rhs:fact s (im.getD k []++fred (im.getD (k+1) []++im.getD (k+1+1) []++yP (im.getD (k+1) []))++yP (im.getD k []))=fact (fact (fact s (im.getD k [])) (im.getD (k+1) []++im.getD (k+1+1) []++yP (im.getD (k+1) []))) (yP (im.getD k [])):=by rw[zS,zS,qcY bc r1]
  rw[rhs,zS,zS,qcY ab hs,qcY ac (vY hs ab),ff (vY (vY hs ab) ac) ab];rw[qmR,qmR,qkl];simp only[zS];rw[fc' (vY r1 nb) na,fc' (vY (vY r1 nb) nc) na]
 rw[if_neg k1];by_cases k2:k=i+1
 ·subst k2;simp only[if_true,if_neg n1,if_neg n5]
 rw[if_neg k2,if_neg k2];by_cases k3:k=i+1+1
 ·subst k3;simp only[if_true,if_neg n2,if_neg k2]
 simp only[if_neg k1,if_neg k2,if_neg k3]
theorem qoQ {n:Nat} {im:List (List Int)} (h:Gim n im) {k m:Int} (hk:0<k/\k<n) (hm:0<m/\m<n) (e:m=k+1\/k=m+1):qz (qz (qz im k) m) k=qz (qz (qz im m) k) m:=by
 rcases e with rfl|rfl
 ·have:=qmJ (i:=(k-1).toNat) h (by omega)
  rwa [show((k-1).toNat:Int)+1=k by omega,show((k-1).toNat:Int)+2=k+1 by omega]at this
 have:=qmJ (i:=(m-1).toNat) h (by omega);rw[show((m-1).toNat:Int)+1=m by omega,show((m-1).toNat:Int)+2=m+1 by omega]at this;exact this.symm
section
variable {n:Nat} {k m:Int} (lk:k≠0/\ -(n:Int)<k/\k<n) (lm:m≠0/\ -(n:Int)<m/\m<n) (B: ∀{x:List (List Int)},Gim n x->qz (qz (qz x k) m) k=qz (qz (qz x m) k) m)
include lk lm B
theorem fs_n1 {im:List (List Int)} (h:Gim n im):qz (qz (qz im k) m) (-k)=qz (qz (qz im (-m)) k) m:=by
 have l': -m≠0/\ -(n:Int)< -m/\ -m<n:=by omega
 have h':=h.step l';have b:=B h';have c:=qb7 h l';rw[Int.neg_neg]at c;rw[c]at b;rw[<-b];exact qb7 ((h'.step lk).step lm) lk
theorem fs_n2 {im:List (List Int)} (h:Gim n im):qz (qz (qz im (-k)) m) k=qz (qz (qz im m) k) (-m):=by
 have l': -k≠0/\ -(n:Int)< -k/\ -k<n:=by omega
 have h':=h.step l';have b:=B h';have c:=qb7 h l';rw[Int.neg_neg]at c;rw[c]at b;have d:=qb7 ((h'.step lm).step lk) lm;rw[<-b]at d;exact d.symm
theorem fs_n3 {im:List (List Int)} (h:Gim n im):qz (qz (qz im (-k)) (-m)) (-k)=qz (qz (qz im (-m)) (-k)) (-m):=by
 have l1: -k≠0/\ -(n:Int)< -k/\ -k<n:=by omega
 have l2: -m≠0/\ -(n:Int)< -m/\ -m<n:=by omega
 have bb: ∀{x:List (List Int)},Gim n x->qz (qz x (-k)) k=x:=fun hx=>by have:=qb7 hx l1;rwa [Int.neg_neg]at this
 have bm: ∀{x:List (List Int)},Gim n x->qz (qz x (-m)) m=x:=fun hx=>by have:=qb7 hx l2;rwa [Int.neg_neg]at this
 have hX:=((h.step l1).step l2).step l1
 have x1:qz (qz (qz (qz (qz (qz im (-k)) (-m)) (-k)) k) m) k=im:=by rw[bb ((h.step l1).step l2),bm (h.step l1),bb h]
 rw[B hX]at x1
 have back: ∀{x:List (List Int)},Gim n x->qz (qz (qz (qz (qz (qz x m) k) m) (-m)) (-k)) (-m)=x:=fun hx=>by rw[qb7 ((hx.step lm).step lk) lm,qb7 (hx.step lm) lk,qb7 hx lm]
 have b2:=back hX;rw[x1]at b2;exact b2.symm
end
theorem fs_b {n:Nat} {x y:Int} (hx:x≠0/\ -(n:Int)<x/\x<n) (hy:y≠0/\ -(n:Int)<y/\y<n) (s:qbR x=qbR y) (e:y.natAbs=x.natAbs+1\/x.natAbs=y.natAbs+1) {im:List (List Int)} (h:Gim n im):qz (qz (qz im x) y) x=qz (qz (qz im y) x) y:=by
 unfold qbR at s;by_cases p:0<x
 ·have q:0<y:=by rw[if_pos p]at s;split at s<;>omega
  exact qoQ h (by omega) (by omega) (by omega)
 have q: ¬0<y:=by rw[if_neg p]at s;split at s<;>omega
 have:=fs_n3 (k:= -x) (m:= -y) (by omega) (by omega) (fun hx=>qoQ hx (by omega) (by omega) (by omega)) h
 rwa [Int.neg_neg,Int.neg_neg]at this
theorem qup {n:Nat} {im:List (List Int)} (h:Gim n im) {x y z:Int} {l:List Int} (hx:x≠0/\ -(n:Int)<x/\x<n) (hy:y≠0/\ -(n:Int)<y/\y<n) (hz:z≠0/\ -(n:Int)<z/\z<n) (t:qhc x y z=some l):[x,y,z].foldl qz im=l.foldl qz im:=by
 obtain⟨e,nn,r⟩:=qf4 hx.1 hy.1 hz.1 t;rcases r with⟨s,rfl⟩|⟨s,rfl⟩
 ·show qz (qz (qz im x) y) z=qz (qz (qz im (sg5 z*(y.natAbs:Int))) x) y
  have B: ∀{w:List (List Int)},Gim n w->qz (qz (qz w x) y) x=qz (qz (qz w y) x) y:=fun hw=>fs_b hx hy s (by omega) hw
  rcases(show z=x\/z= -x by omega)with rfl|rfl
  ·have:sg5 z*(y.natAbs:Int)=y:=by
    rw[<-qbx hz.1,s,qbx hy.1];unfold sg5;split<;>omega
   rw[this];exact B h
  have:sg5 (-x)*(y.natAbs:Int)= -y:=by
   have h1:sg5 (-x)= -sg5 x:=by unfold sg5;split<;>split<;>omega
   rw[h1,<-qbx hx.1,s,qbx hy.1];unfold sg5;split<;>omega
  rw[this];exact fs_n1 hx hy B h
 show qz (qz (qz im x) y) z=qz (qz (qz im y) z) (sg5 x*(y.natAbs:Int))
 have B: ∀{w:List (List Int)},Gim n w->qz (qz (qz w z) y) z=qz (qz (qz w y) z) y:=fun hw=>fs_b hz hy s.symm (by omega) hw
 rcases(show x=z\/x= -z by omega)with rfl|rfl
 ·have:sg5 x*(y.natAbs:Int)=y:=by
   rw[<-qbx hx.1,<-s,qbx hy.1];unfold sg5;split<;>omega
  rw[this];exact B h
 have:sg5 (-z)*(y.natAbs:Int)= -y:=by
  have h1:sg5 (-z)= -sg5 z:=by unfold sg5;split<;>split<;>omega
  rw[h1,<-qbx hz.1,<-s,qbx hy.1];unfold sg5;split<;>omega
 rw[this];exact fs_n2 hz hy B h
theorem Mv.free {n:Nat} {w v:List Int} (h:Mv n w v) (hw:qap n w):qbq n w=qbq n v:=by
 have mid: ∀{u a b v:List Int},qnM n u->(∀{im:List (List Int)},Gim n im->a.foldl qz im=b.foldl qz im)->qbq n (u++a++v)=qbq n (u++b++v):=fun {u a b v} hu k=>by
  rw[qes,qes n (u++b),qes n u a,qes n u b,show a.foldl qz (qbq n u)=b.foldl qz (qbq n u)from k (qmx hu (qs2 n))]
 cases h with
 |@ins u v x hx=>
  have:=mid (a:=[]) (b:=[x,-x]) (v:=v) (hw.left) (fun hi=>(qb7 hi hx).symm)
  rwa [YQ]at this
 |@can u v x=>
  have:=mid (a:=[x,-x]) (b:=[]) (v:=v) hw.left.left (fun hi=>qb7 hi (hw x (by simp)))
  rwa [YQ]at this
 |@swp u v x y h=>
  refine mid hw.left.left fun hi=>?_
  unfold qlm at h;rw[Bool.or_eq_true,Nat.ble_eq,Nat.ble_eq]at h;exact qt4 hi (hw x (by simp)) (hw y (by simp)) h
 |@trn u v l x y z h=>
  exact mid hw.left.left fun hi=>qup hi (hw x (by simp)) (hw y (by simp)) (hw z (by simp)) h
end Go.Av
end
noncomputable section
namespace Go.Av
open Go.Proofs Go.RowKit
variable [Glob]
abbrev t2:Rat:=((2:Int):Rat)
theorem Tk2:Tk 2:=⟨by decide,by decide⟩
theorem qto:([50]:Str)=T t2:=by kernel_rfl
theorem qp3 {N:Nat} (hN:600000<N):qdb N [49] [50]=some (T (1-t2))/\qf0 N [49] [50]=some (T t2⁻¹)/\qdb N [49] (T t2⁻¹)=some (T (1-t2⁻¹)):=by
 obtain⟨M,rfl⟩: ∃M,N=M+100:=⟨N-100,by omega⟩;refine⟨?_,?_,?_⟩
 ·show @Eq (Option _) _ _;kernel_rfl
 ·show @Eq (Option _) _ _;kernel_rfl
 show @Eq (Option _) _ _;kernel_rfl
theorem qp8 {N n:Nat} (hN:10<N) (h2:n<=5): ∀(K i:Nat) (l1:List (List Str)),l1.length=i->(∀i' r,l1[i']? =some r->qfc IsT n r (idM i'))->i<=n->n<K+i-> ∃l,yD N (n:Int) K l1 (i:Int)=some l/\MR IsT n l idM
 |0,i,l1,e,hr,hi,hK=>by omega
 |K+1,i,l1,e,hr,hi,hK=>by
  unfold yD;by_cases c:i<n
  ·rw[if_pos (by omega),qqa hN h2,ZB,qp,Ya (by rw[List.length_replicate];omega),ZB,kg (by rw[List.length_replicate];omega),ZB,qbh (by simp;omega) (by simp;omega),ZB,qH (by omega)];refine qp8 hN h2 K (i+1) _ (by simp;omega) (fun i' r hr'=>?_) (by omega) (by omega);by_cases d:i'<l1.length
   ·rw[Yf d]at hr';exact hr i' r hr'
   have hl:=(Yb.1 hr').1;simp only[Yq,Yr,List.length_nil]at hl
   have:i'=i:=by omega
   subst this;rw[Yo (by omega),e,Nat.sub_self]at hr';cases hr'
   exact row0 qqR T_one
  rw[if_neg (by omega)]
  have:i=n:=by omega
  subst this;exact⟨_,rfl,e,hr⟩
theorem qrx {N n:Nat} (hN:600000<N) (h2:n<=5) {M:Nat->Nat->Rat} {w:List Int} {m:Nat} {c:Int} (hw:w[m]? =some c) (hc:1<=c.natAbs) (hc2:c.natAbs<n) (hM: ∀i,i<n-> ∀j,Q9 (M i j)) (hMc: ∀i,i<n-> ∀j e,Cz 2 e->Q9 (M i j*e)):
 ∀(K i:Nat) (l18:List (List Str)),MR IsT n l18 (fun i'=>if i'<i then qd7 t2 c M i' else M i')->i<=n->n<K+i-> ∃l,vN N (n:Int) w [50] (m:Int) (c.natAbs:Int) K l18 (i:Int)=some l/\MR IsT n l (qd7 t2 c M)
 |0,i,l18,h,hi,hK=>by omega
 |K+1,i,l18,h,hi,hK=>by
  unfold vN;by_cases d:i<n
  ·obtain⟨r,e1,hr⟩:=h.get d;rw[if_neg (Nat.lt_irrefl _)]at hr;obtain⟨k,hk⟩: ∃k,c.natAbs=k+1:=⟨c.natAbs-1,by omega⟩
   have ek:w64 (((k+1:Nat):Int)-1)=(k:Int):=by rw[qnK (by omega) (by omega)];rfl
   obtain⟨x,x1,x2⟩:=hr.get (k:=k) (by omega);obtain⟨y,y1,y2⟩:=hr.get (k:=k+1) (by omega);have hlen:r.length=n:=hr.1;have hll:l18.length=n:=h.1
   have hset:l18.set i r=l18:=by
    apply List.ext_getElem?;intro j;by_cases g:j=i
    ·subst g;rw[List.getElem?_set_self (by omega),e1]
    rw[Yw (fun q=>g q.symm)]
   have hrc: ∀r' v,qfc IsT n r' v->v=qd7 t2 c M i-> ∃l,vN N (n:Int) w [50] (m:Int) (c.natAbs:Int) K (l18.set i r') ((i+1:Nat):Int)=some l/\MR IsT n l (qd7 t2 c M):=by
    intro r' v hv ev;refine qrx hN h2 hw hc hc2 hM hMc K (i+1) _ ((h.set hv i).congr fun i' hi'=>?_) (by omega) (by omega);unfold qff;by_cases g:i'=i
    ·subst g;rw[if_pos rfl,if_pos (by omega)];exact ev
    rw[if_neg g];show(if i'<i then qd7 t2 c M i' else M i')=_;by_cases g2:i'<i
    ·rw[if_pos g2,if_pos (by omega)]
    rw[if_neg g2,if_neg (by omega)]
   rw[if_pos (by omega),qp,e1,ZB,hk,ek,qp,x1,ZB,qp,y1,ZB,qp,hw,ZB,qdK,hset,qp];rw[hk]at hrc;by_cases p:c>0
   ·have q2:=qrY hN (hMc i d k _ Tk2.cu) (hM i d (k+1));rw[if_pos p,e1,ZB,(qp3 hN).1,ZB,x2,qlp hN (hM i d k) Tk2.qu,ZB,y2,q2,ZB,qp,x1,ZB,kg (by omega),ZB,qdK,qp,List.getElem?_set_self (by omega),ZB,qto,qlp hN (hM i d k) Tk2.qt,ZB,qp,Ya (by rw[Yk];omega),ZB,kg (by rw[Yk];omega),ZB,qdK,List.set_set,ZB,qH (by omega),<-qto];refine hrc _ _ ((hr.set (R:=IsT) rfl k).set (R:=IsT) rfl (k+1)) ?_;show _=kw (decide (c>0)) t2 (c.natAbs-1) (M i);rw[decide_eq_true p,hk,Nat.add_sub_cancel];unfold kw;rw[if_pos rfl,Rat.mul_one,Rat.mul_zero,Rat.add_zero]
   have q2:=qrY hN (hM i d k) (hMc i d (k+1) _ Tk2.cj);rw[if_neg p,(qp3 hN).2.1,ZB,e1,ZB,y2,qlp hN (hM i d (k+1)) Tk2.qi,ZB,qp,x1,ZB,kg (by omega),ZB,qdK,qp,List.getElem?_set_self (by omega),ZB,(qp3 hN).2.2,ZB,qlp hN (hM i d (k+1)) Tk2.qj,ZB,x2,q2,ZB,qp,Ya (by rw[Yk];omega),ZB,kg (by rw[Yk];omega),ZB,qdK,List.set_set,ZB,qH (by omega)];refine hrc _ _ ((hr.set (R:=IsT) rfl k).set (R:=IsT) rfl (k+1)) ?_;show _=kw (decide (c>0)) t2 (c.natAbs-1) (M i);rw[decide_eq_false p,hk,Nat.add_sub_cancel];unfold kw;rw[if_neg Bool.false_ne_true,Rat.mul_one,Rat.mul_zero,Rat.zero_add]
  rw[if_neg (by omega)];exact⟨_,rfl,h.congr fun i' hi'=>by rw[if_pos (by omega)]⟩
theorem qq4 {c:Int} (h1: -100<c) (h2:c<100):xu c=some (c.natAbs:Int):=by
 unfold xu;rw[qE (by omega) (by omega)];split<;>congr 1<;>omega
theorem qqh {N n:Nat} (hN:600000<N) (h2:n<=5) {w:List Int} (hw: ∀c∈w,c≠0/\ -(n:Int)<c/\c<n) (hl:(2:Int)^(w.length+2)<1000000000) (hl2:w.length<=1000):
 ∀(K i:Nat) (M:Nat->Nat->Rat) (l:List (List Str)),MR IsT n l M->(∀a,a<n->Rw 2 (M a) i)->i<=w.length->w.length<K+i-> ∃r,yJ N (n:Int) w [50] K l (i:Int)=some r/\MR IsT n r ((w.drop i).foldl (fun M c=>qd7 t2 c M) M)
 |0,i,M,l,h,hb,hi,hK=>by omega
 |K+1,i,M,l,h,hb,hi,hK=>by
  unfold yJ;by_cases d:i<w.length
  ·have hm:=hw _ (List.getElem_mem d);have p2:=qdx (show(1:Int)<=2 by decide) (show i+2<=w.length+2 by omega);have p3:=qdx (show(1:Int)<=2 by decide) (show i+3<=w.length+2 by omega);obtain⟨r,r1,r2⟩:=qrx hN h2 (w:=w) (m:=i) (c:=w[i]) (Ya d) (by omega) (by omega) (fun a ha b=>(hb a ha).q9 (by decide) (by omega) b) (fun a ha b e he=>(hb a ha).q9c (by decide) (by omega) b he) N 0 l (h.congr fun i' _=>by rw[if_neg (Nat.not_lt_zero _)]) (by omega) (by omega);rw[if_pos (by omega),qp,Ya d,ZB,qq4 (by omega) (by omega),ZB,show(0:Int)=((0:Nat):Int)from rfl,r1,ZB,qH (by omega),YG d,List.foldl_cons];exact qqh hN h2 hw hl hl2 K (i+1) _ r r2 (fun a ha=>(hb a ha).step (by decide) _ (by omega)) (by omega) (by omega)
  rw[if_neg (by omega),List.drop_eq_nil_of_le (by omega)];exact⟨_,rfl,h⟩
theorem qka {N n:Nat} (hN:600000<N) (h2:n<=5) {w:List Int} (hw: ∀c∈w,c≠0/\ -(n:Int)<c/\c<n) (hl:(2:Int)^(w.length+2)<1000000000) (hl2:w.length<=1000): ∃l,qbP N (n:Int) w [50]=some l/\MR IsT n l (qhY t2 w):=by
 unfold qbP;obtain⟨l,l1,l2⟩:=qp8 (N:=N) (n:=n) (by omega) h2 N 0 [] rfl (fun i' r hi'=>by simp at hi') (by omega) (by omega);obtain⟨m,m1,m2⟩:=qqh hN h2 hw hl hl2 N 0 idM l l2 (fun a ha=>qnt (by decide) a (by omega)) (by omega) (by omega);rw[show(0:Int)=((0:Nat):Int)from rfl,l1,ZB,m1,ZB];exact⟨_,rfl,m2⟩
theorem qt3 {q:Rat} (h:Q9 q):qbp (Fq q) (Fq q)=some true:=by
 have m1:=qb8 h.1 h.d;have h1:=h.1;have h2:=h.2;unfold qbp qcQ;dsimp only[Fq];rw[qkM (by omega) (by omega) (by omega),ZB,ZB];unfold qdL;dsimp only;rw[if_pos em0,ZB,if_pos em0,if_neg (Int.lt_irrefl _),if_neg (Int.lt_irrefl _)];rfl
theorem qtx {n:Nat} (h2:n<=5) {r:List qw} {v:Nat->Rat} (h:qfc IsF n r v) (hv: ∀j,Q9 (v j)): ∀(K i:Nat),i<=n->n<K+i->qV r r K (i:Int)=some (.inl ())
 |0,i,hi,hK=>by omega
 |K+1,i,hi,hK=>by
  unfold qV;have hl:=h.1;by_cases c:i<n
  ·obtain⟨x,x1,x2⟩:=h.get c;have x2:x=Fq (v i):=x2;rw[if_pos (by omega),qp,x1,ZB,ZB,x2,qt3 (hv i),ZB,if_neg (by decide),qH (by omega)];exact qtx h2 h hv K (i+1) (by omega) (by omega)
  rw[if_neg (by omega)]
theorem qt8 {N n:Nat} (hN:10<N) (h2:n<=5) {r:List qw} {v:Nat->Rat} (h:qfc IsF n r v) (hv: ∀j,Q9 (v j)):jW N r r=some true:=by
 unfold jW vC;have:=qtx h2 h hv N 0 (by omega) (by omega);rw[show((0:Nat):Int)=0 from rfl]at this;rw[decide_eq_true rfl,if_neg (by decide),this];rfl
theorem qtP {N n:Nat} (hN:10<N) (h2:n<=5) {l:List (List qw)} {M:Nat->Nat->Rat} (h:MR IsF n l M) (hM: ∀i,i<n-> ∀j,Q9 (M i j)): ∀(K i:Nat),i<=n->n<K+i->qX N l l K (i:Int)=some (.inl ())
 |0,i,hi,hK=>by omega
 |K+1,i,hi,hK=>by
  unfold qX;have hl:=h.1;by_cases c:i<n
  ·obtain⟨x,x1,x2⟩:=h.get c;rw[if_pos (by omega),qp,x1,ZB,ZB,qt8 hN h2 x2 (hM i c),ZB,if_neg (by decide),qH (by omega)];exact qtP hN h2 h hM K (i+1) (by omega) (by omega)
  rw[if_neg (by omega)]
theorem qug {N n:Nat} (hN:10<N) (h2:n<=5) {l l':List (List qw)} {M:Nat->Nat->Rat} (h:MR IsF n l M) (h':MR IsF n l' M) (hM: ∀i,i<n-> ∀j,Q9 (M i j)):jf N l l'=some true:=by
 obtain rfl:=MR.ext (f:=Fq) h h';unfold jf;have:=qtP hN h2 h hM N 0 (by omega) (by omega);rw[show((0:Nat):Int)=0 from rfl]at this;rw[decide_eq_true rfl,if_neg (by decide),this];rfl
end Go.Av
end
noncomputable section
namespace Go.Av
open Go.Proofs Go.RowKit
variable [Glob]
section
variable {n:Nat} (hn:n<=12) {N:Nat} (hN:2000<N)
include hn hN
theorem qlD: ∀(K i:Nat),i<=n->n<K+i->xq (n:Int) K (List.replicate i (qg4 n fun _=>0)) (i:Int)=some (qcT n fun _ _=>0)
 |0,i,h,hK=>by omega
 |K+1,i,h,hK=>by
  unfold xq;by_cases hi:i<n
  ·rw[if_pos (by omega),qqn hn hN,ZB,qbh (by simp;omega) (by simp;omega),ZB,qH (by omega)];have:=qlD K (i+1) (by omega) (by omega);rw[List.replicate_succ']at this;exact this
  rw[if_neg (by omega)];congr 1;apply List.ext_getElem?;intro k;by_cases hkn:k<n
  ·rw[qb5 hkn,List.getElem?_replicate,if_pos (by omega)]
  rw[Yg (by simp;omega),Yg (by rw[qdB];omega)]
theorem ql3 {w:List Int} (W:vW n w): ∀(K i:Nat) (s:SB) (f:Nat->Nat->Int),s.Ok n->(∀j k,-(i:Int)<=f j k/\f j k<=i)->i<=w.length->w.length<K+i->xg w K (qcT n f) (s.rev.li n) (i:Int)=some (qcT n (lkF s f (w.drop i)))
 |0,i,s,f,hs,hf,h,hK=>by omega
 |K+1,i,s,f,hs,hf,hiw,hK=>by
  have wl:=W.len;unfold xg;by_cases hi:i<w.length
  ·have hx:w[i]? =some w[i]:=Ya hi;have hc:=W.let_ _ (List.getElem_mem hi);rw[YG hi,lkF];generalize w[i]=c at*;obtain⟨m,hm⟩: ∃m:Nat,c.natAbs=m+1:=⟨c.natAbs-1,by omega⟩
   have hm2:m+1<n:=by omega
   have q1:w64 (((m+1:Nat):Int)-1)=(m:Int):=by rw[qE (by omega) (by omega)];omega
   have ha:=hs.g_ m (by omega);have hb:=hs.g_ (m+1) hm2;have r0:idx (s.rev.li n) (m:Int)=some ((s.g m:Nat):Int):=Un (by omega);have r1:idx (s.rev.li n) ((m+1:Nat):Int)=some ((s.g (m+1):Nat):Int):=Un hm2
   have ne:s.g m≠s.g (m+1):=fun e=>by have:=s.ginj e;omega
   have sg:xm c=some (if 0<c then 1 else-1):=by
    rw[qmK];by_cases p:0<c
    ·rw[if_neg (by omega),if_pos p]
    rw[if_pos (by omega),if_neg p]
   have w1: ∀i k,w64 (f i k+(if 0<c then(1:Int)else-1))=f i k+(if 0<c then(1:Int)else-1):=fun j k=>by
    have:=hf j k;exact qE (by split<;>omega) (by split<;>omega)
   rw[if_pos (by omega),qp,hx];simp only[ZB,qjR (show-1000<c/\c<1000 by omega),hm,q1,r0,r1,sg];rw[qp,qb5 ha,ZB,qp,qdg hb,ZB,w1,kg (by rw[qbW];exact hb),ZB,qfy,qp,Yw ne,qb5 hb,ZB,qp,qdg ha,ZB,w1,kg (by rw[qbW];exact ha),ZB,qfy,qlW ha hb ne,kg (by rw[Ug];omega),ZB]
   have e17:idx ((s.rev.li n).set m ((s.g (m+1):Nat):Int)) ((m+1:Nat):Int)=some ((s.g (m+1):Nat):Int):=by
    rw[qp,Yw (by omega),Up s.rev hm2];rfl
   rw[e17,ZB,kg (by simp[Ug];omega),ZB,qme hn hN hm2,qH (by omega),show(m+1-1:Nat)=m by omega];exact ql3 W K (i+1) _ _ (hs.bk hm2) (qoX hf (by split<;>omega)) (by omega) (by omega)
  rw[if_neg (by omega),List.drop_eq_nil_of_le (by omega)];rfl
theorem qm6 {w:List Int} (W:vW n w):qcp N (n:Int) w=some (qcT n (lkF Uh (fun _ _=>0) w)):=by
 have wl:=W.len;unfold qcp;have a:=qlD hn hN N 0 (Nat.zero_le _) (by omega);have b:=ql3 hn hN W N 0 Uh (fun _ _=>0) (Uv n) (fun _ _=>by simp) (Nat.zero_le _) (by omega);rw[show((0:Nat):Int)=0 from rfl]at a b;rw[List.replicate_zero]at a;rw[YR,show Uh.rev=Uh from rfl,SB.id_li]at b;rw[a,ZB,qkf hN (by omega),ZB,b];rfl
end
theorem qg1:exS []=0:=rfl
theorem Mv.ex {n:Nat} {w v:List Int} (h:Mv n w v) (hw:qap n w):exS w=exS v:=by
 have pair: ∀x:Int,x≠0->exS [x,-x]=0:=fun x hx=>by
  have hs:qbR (-x)= -qbR x:=by unfold qbR;split<;>split<;>omega
  rw[yF,yF,qg1,hs];omega
 cases h with
 |@ins u v x hx=>rw[qah,qah,qah,pair x hx.1];omega
 |@can u v x=>rw[qah,qah,qah,pair x (hw x (by simp)).1];omega
 |@swp u v x y h=>rw[qah,qah,qah,qah,yF,yF,yF,yF,qg1];omega
 |@trn u v l x y z h=>
  have hx:=(hw x (by simp)).1;have hy:=(hw y (by simp)).1;have hz:=(hw z (by simp)).1;obtain⟨_,_,r⟩:=qf4 hx hy hz h;rw[qah,qah,qah,qah,yF,yF,yF,qg1];rcases r with⟨_,rfl⟩|⟨_,rfl⟩
  ·rw[yF,yF,yF,qg1,(qf2 hz hy).1];omega
  rw[yF,yF,yF,qg1,(qf2 hx hy).1];omega
structure Alike (n:Nat) (a b:List Int):Prop where
 ex:exS a=exS b
 pm:pmF Uh a=pmF Uh b
 lk: ∀i k,lkP a i k=lkP b i k
 mat:qhY t2 a=qhY t2 b
theorem Mv.alike {n:Nat} {w v:List Int} (h:Mv n w v) (hw:qap n w):Alike n w v:=⟨h.ex hw,h.pm hw _,h.lk hw,h.mat (qeO (by decide)) hw⟩
section
variable {N:Nat} (hN:600000<N) {n:Nat} (n5:n<=5) {a b:List Int} (A:vW n a) (B:vW n b) (la:a.length<=26) (lb:b.length<=26) (L:Alike n a b)
include hN n5 A B la lb L
omit L B n5 lb in
theorem qk7:xy N a=some (exS a)/\xU N a=some (exS a):=by
 have:=qnh A N 0 0 (Nat.zero_le _) (by omega) (by omega) (by omega);rw[show((0:Nat):Int)=0 from rfl,YR,Int.zero_add]at this;obtain⟨r,r1,r2⟩:=qtO (w:=a) (by omega) (fun c hc=>(A.let_ c hc).1) N 0 0 (Nat.zero_le _) (by omega);rw[show((0:Nat):Int)=0 from rfl]at r1 r2;rw[this]at r1;obtain rfl:=Ye r1;constructor
 ·unfold xy;rw[this];rfl
 unfold xU;rw[r2];rfl
omit L B n5 lb in
theorem qqr (i k:Nat):lkF Uh (fun _ _=>0) a i k=lkP a i k:=by
 rw[qrX a (fun c hc=>(A.let_ c hc).1)];exact Int.zero_add _
theorem qmb:qcT n (lkF Uh (fun _ _=>0) a)=qcT n (lkF Uh (fun _ _=>0) b):=qje fun i k=>by
 rw[qqr hN A la,qqr hN B lb,L.lk]
omit L B n5 lb in
theorem p28:(2:Int)^(a.length+2)<1000000000:=by
 have:=qdx (show(1:Int)<=2 by decide) (show a.length+2<=28 by omega)
 have h:(2:Int)^28<1000000000:=by decide
 omega
theorem qj6: ∀(f:Nat->Nat->Int),(∀x∈qcT n f,x.length<=300)/\(qcT n f).length<=300:=fun f=>by
 refine⟨fun x hx=>?_,by rw[qdB];omega⟩;obtain⟨i,hi⟩:=List.getElem?_of_mem hx;have l1:=(Yb.1 hi).1;rw[qdB]at l1;rw[qb5 l1]at hi;have:=Ye hi;rw[<-this,qbW];omega
abbrev kEx:Str:=[101,120,112,111,110,101,110,116]
abbrev kPm:Str:=[112,101,114,109]
abbrev kLk:Str:=[108,105,110,107]
abbrev kBu:Str:=[98,117,114,97,117]
theorem qpv: ∀k∈[kEx,kPm,kLk,kBu],qbY N (n:Int) a b k=some false:=by
 intro k hk;have e1:=qk7 hN A la;have e2:=qk7 hN B lb;obtain⟨p,p1,p2,p3⟩:=qkk (N:=N) (by omega) A;obtain⟨q,q1,q2,q3⟩:=qkk (N:=N) (by omega) B;rw[qir A.n2 (by omega) A]at p1;rw[qir B.n2 (by omega) B]at q1;obtain rfl:=Ye p1;obtain rfl:=Ye q1;have l1:=qm6 A.n2 (N:=N) (by omega) A;have l2:=qm6 B.n2 (N:=N) (by omega) B;obtain⟨m,m1,m2⟩:=qka hN n5 A.let_ (p28 hN A la) (by omega);obtain⟨o,o1,o2⟩:=qka hN n5 B.let_ (p28 hN B lb) (by omega);rw[<-L.mat]at o2;have mr:=qj6 hN n5 A B la lb L (lkF Uh (fun _ _=>0) b);simp only[List.mem_cons,List.not_mem_nil,or_false]at hk;unfold qbY;rcases hk with rfl|rfl|rfl|rfl
 ·rw[if_pos (by decide),e1.2,ZB,e2.2,ZB,L.ex,decide_eq_true rfl];rfl
 ·rw[if_neg (by decide),if_pos (by decide),p2,ZB,q2,ZB,L.pm,qg6 (by rw[q3];omega) (by rw[q3];omega),ZB,decide_eq_true rfl];rfl
 ·rw[if_neg (by decide),if_neg (by decide),if_pos (by decide),l1,ZB,l2,ZB,qmb hN n5 A B la lb L,qmg (by omega) mr.1 mr.2,ZB];rfl
 rw[if_neg (by decide),if_neg (by decide),if_neg (by decide),if_pos (by decide),m1,ZB,o1,ZB,qsq (by omega) n5 m2 o2,ZB];rfl
theorem qpt: ∀k∈[kEx,kPm,kLk,kBu],yT N (n:Int) a b k=some 21:=by
 intro k hk;have e1:=qk7 hN A la;have e2:=qk7 hN B lb;have p1:=qir A.n2 (N:=N) (by omega) A;have p2:=qir B.n2 (N:=N) (by omega) B;have l1:=qox A.n2 (N:=N) (by omega) A;have l2:=qox B.n2 (N:=N) (by omega) B;obtain⟨m,m1,m2⟩:=qmC Tk2 hN A.n1 n5 A.let_ (p28 hN A la) (by omega);obtain⟨o,o1,o2⟩:=qmC Tk2 hN B.n1 n5 B.let_ (p28 hN B lb) (by omega)
 have hb: ∀i,i<n-> ∀j,Q9 (qhY t2 a i j):=fun i hi j=>quE Tk2 n5 A.let_ (p28 hN A la) hi j
 rw[<-L.mat]at o2;have mr:=qj6 hN n5 A B la lb L (lkF Uh (fun _ _=>0) b)
 have ix: ∀j:Nat,j<4->qK N kEx a b kPm n a b kLk n a b kBu n a b [102,111,114,109] n a b ([kEx,kPm,kLk,kBu].getD j [])=some (j:Int):=by
  intro j hj;obtain⟨M,rfl⟩: ∃M,N=M+10:=⟨N-10,by omega⟩;rcases(show j=0\/j=1\/j=2\/j=3 by omega)with rfl|rfl|rfl|rfl<;>rfl
 have inv:xx (n:Int) a b=some ():=rfl;simp only[List.mem_cons,List.not_mem_nil,or_false]at hk;unfold yT;rw[qoM (by omega) A B,ZB,if_neg (by decide),inv,ZB];rcases hk with rfl|rfl|rfl|rfl
 ·have i0:qK N kEx a b kPm n a b kLk n a b kBu n a b [102,111,114,109] n a b kEx=some 0:=ix 0 (by decide);rw[i0,ZB,if_neg (by decide),if_pos rfl];unfold yg;rw[e1.1,ZB,e2.1,ZB,L.ex,decide_eq_true rfl,ZB,qb3];rfl
 ·have i0:qK N kEx a b kPm n a b kLk n a b kBu n a b [102,111,114,109] n a b kPm=some 1:=ix 1 (by decide);rw[i0,ZB,if_neg (by decide),if_neg (by decide),if_pos rfl];unfold vZ;rw[p1,ZB,p2,ZB,L.pm,qhu (by rw[Ug];omega) (by rw[Ug];omega),ZB,decide_eq_true rfl,ZB,qb3];rfl
 ·have i0:qK N kEx a b kPm n a b kLk n a b kBu n a b [102,111,114,109] n a b kLk=some 2:=ix 2 (by decide);rw[i0,ZB,if_neg (by decide),if_neg (by decide),if_neg (by decide),if_pos rfl];unfold yh;rw[l1,ZB,l2,ZB,qmb hN n5 A B la lb L,qtZ (by omega) mr.1 mr.2,ZB,ZB,qb3];rfl
 have i0:qK N kEx a b kPm n a b kLk n a b kBu n a b [102,111,114,109] n a b kBu=some 3:=ix 3 (by decide);rw[i0,ZB,if_neg (by decide),if_neg (by decide),if_neg (by decide),if_neg (by decide),if_pos rfl];unfold yc;rw[F_s,ZB,m1,ZB,ZB,o1,ZB,qug (by omega) n5 m2 o2 hb,ZB,ZB,qb3];rfl
end
end Go.Av
end
