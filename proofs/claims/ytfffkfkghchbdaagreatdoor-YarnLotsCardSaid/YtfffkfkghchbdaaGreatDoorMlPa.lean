/-
  Digits to any base.
-/
import Derived.Test.YtfffkfkghchbdaaGreatDoorAvPt
import Derived.Test.YtfffkfkghchbdaaGreatDoorQGenL
noncomputable section
set_option linter.unusedVariables false
set_option linter.unusedSimpArgs false
set_option maxRecDepth 100000
section
namespace Go.Av
def dv (B:Int):List Int->Int
 |[]=>0
 |x::l=>x+B*dv B l
def Dg (B:Int) (l:List Int):Prop:= ∀x∈l,0<=x/\x<B
theorem Dg.nil {B:Int}:Dg B []:=fun x h=>by cases h
theorem Dg.cons {B x:Int} {l:List Int} (h:0<=x/\x<B) (k:Dg B l):Dg B (x::l):=fun y hy=>by
 rcases List.mem_cons.1 hy with rfl|hy
 ·exact h
 exact k y hy
theorem Dg.head {B x:Int} {l:List Int} (h:Dg B (x::l)):0<=x/\x<B:=h x (List.mem_cons_self ..)
theorem Dg.tail {B x:Int} {l:List Int} (h:Dg B (x::l)):Dg B l:=fun y hy=>h y (List.mem_cons_of_mem _ hy)
theorem Dg.take {B:Int} {l:List Int} (h:Dg B l) (n:Nat):Dg B (l.take n):=fun y hy=>h y (List.mem_of_mem_take hy)
theorem Dg.drop {B:Int} {l:List Int} (h:Dg B l) (n:Nat):Dg B (l.drop n):=fun y hy=>h y (List.mem_of_mem_drop hy)
theorem Dg.append {B:Int} {l r:List Int} (h:Dg B l) (k:Dg B r):Dg B (l++r):=fun y hy=>by
 rcases List.mem_append.1 hy with hy|hy
 ·exact h y hy
 exact k y hy
theorem Dg.set {B:Int} {l:List Int} (h:Dg B l) {i:Nat} {v:Int} (hv:0<=v/\v<B):Dg B (l.set i v):=fun y hy=>by
 rcases List.mem_or_eq_of_mem_set hy with hy|rfl
 ·exact h y hy
 exact hv
theorem Dg.at {B:Int} {l:List Int} (h:Dg B l) {i:Nat} (hi:i<l.length):0<=l[i]/\l[i]<B:=h _ (List.getElem_mem hi)
theorem Dg.zeros {B:Int} (hB:0<B) (n:Nat):Dg B (List.replicate n 0):=fun y hy=>by
 rw[(List.mem_replicate.1 hy).2];omega
theorem qdY (B:Int):dv B []=0:=rfl
theorem qb8 (B x:Int) (l:List Int):dv B (x::l)=x+B*dv B l:=rfl
theorem pow_pos {B:Int} (hB:0<B): ∀n:Nat,0<B^n
 |0=>by simp
 |n+1=>by rw[Int.pow_succ];exact Int.mul_pos (pow_pos hB n) hB
theorem qiE {B:Int} (hB:0<B): ∀{l:List Int},Dg B l->dv B l<B^l.length
 |[],_=>by simp[dv]
 |x::l,h=>by
  have h1:=h.head
  have h2:=qiE hB h.tail
  have h3:B*(dv B l+1)<=B*B^l.length:=Int.mul_le_mul_of_nonneg_left (by omega) (Int.le_of_lt hB)
  rw[qb8,Yr,Int.pow_succ,Int.mul_comm (B^l.length)]
  rw[Int.mul_add,Int.mul_one]at h3
  omega
def Can (B:Int) (l:List Int):Prop:=Dg B l/\ ∀x,l.getLast? =some x->x≠0
theorem Can.nil {B:Int}:Can B []:=⟨Dg.nil,fun x h=>by simp at h⟩
theorem Can.tail {B x:Int} {l:List Int} (h:Can B (x::l)):Can B l:=⟨h.1.tail,fun y hy=>h.2 y (by
 cases l with
 |nil=>simp at hy
 |cons a l=>rw[List.getLast?_cons_cons];exact hy)⟩
theorem Can.pos {B:Int} (hB:1<B): ∀{l:List Int},Can B l->l≠[]->0<dv B l
 |[],_,h=>absurd rfl h
 |x::l,h,_=>by
  have h1:=h.1.head
  rw[qb8]
  cases l with
  |nil=>
   have:=h.2 x (by simp)
   rw[qdY]
   omega
  |cons y l=>
   have h2:=h.tail.pos hB (by simp)
   have h3:0<B*dv B (y::l):=Int.mul_pos (by omega) h2
   omega
theorem Can.low {B:Int} (hB:1<B): ∀{l:List Int} {n:Nat},Can B l->l.length=n+1->B^n<=dv B l
 |[],n,_,h=>by simp at h
 |x::l,0,h,hn=>by
  have:=h.pos hB (by simp)
  simp only[Int.pow_zero]
  omega
 |x::l,n+1,h,hn=>by
  have h1:=h.1.head
  have h2:=h.tail.low hB (n:=n) (by simpa using hn)
  have h3:B*B^n<=B*dv B l:=Int.mul_le_mul_of_nonneg_left h2 (by omega)
  rw[qb8,Int.pow_succ,Int.mul_comm (B^n)]
  omega
def dgF (B:Int):Nat->Int->List Int
 |0,_=>[]
 |t+1,z=>if z<=0 then[]else z%B::dgF B t (z/B)
def dg (B z:Int):List Int:=dgF B z.toNat z
theorem qbN {B:Int} (hB:1<B): ∀(t:Nat) (z:Int),0<=z->z<=t->Can B (dgF B t z)/\dv B (dgF B t z)=z
 |0,z,h1,h2=>⟨Can.nil,by rw[dgF,qdY];omega⟩
 |t+1,z,h1,h2=>by
  rw[dgF]
  split
  ·exact⟨Can.nil,by rw[qdY];omega⟩
  rename_i hz
  have hd:=Int.mul_ediv_add_emod z B
  have hm:=Int.emod_nonneg z (show B≠0 by omega)
  have hm2:=Int.emod_lt_of_pos z (show 0<B by omega)
  have hq:0<=z/B:=Int.ediv_nonneg h1 (by omega)
  have hq2:z/B<z:=Int.ediv_lt_self_of_pos_of_ne_one (by omega) (by omega)
  obtain⟨c,e⟩:=qbN hB t (z/B) hq (by omega)
  refine⟨⟨Dg.cons ⟨hm,hm2⟩ c.1,fun x hx=>?_⟩,by rw[qb8,e];omega⟩
  cases hl:dgF B t (z/B)with
  |nil=>
   rw[hl]at hx e
   rw[qdY]at e
   rw[<-e,Int.mul_zero]at hd
   simp only[List.getLast?_singleton,ZI]at hx
   omega
  |cons a l=>
   rw[hl,List.getLast?_cons_cons]at hx
   exact c.2 x (by rw[hl];exact hx)
theorem qgO {B:Int} (hB:1<B) {z:Int} (h:0<=z):Can B (dg B z):=(qbN hB _ z h (by omega)).1
theorem qiA {B:Int} (hB:1<B) {z:Int} (h:0<=z):dv B (dg B z)=z:=(qbN hB _ z h (by omega)).2
theorem xN {B:Int} (hB:1<=B) {m n:Nat} (h:m<=n):B^m<=B^n:=by
 obtain⟨k,rfl⟩:=Nat.exists_eq_add_of_le h
 rw[Int.pow_add]
 have h1:1<=B^k:=by have:=pow_pos (show 0<B by omega) k;omega
 have h2:=Int.mul_le_mul_of_nonneg_left h1 (Int.le_of_lt (pow_pos (show 0<B by omega) m))
 omega
theorem qhF {B:Int} (hB:1<B) {z:Int} (h:0<=z) {n:Nat}:(dg B z).length<=n↔z<B^n:=by
 constructor
 ·intro hl
  have h1:=qiE (show 0<B by omega) (qgO hB h).1
  have h2:=xN (show 1<=B by omega) hl
  rw[qiA hB h]at h1
  omega
 intro hz
 cases e:(dg B z).length with
 |zero=>omega
 |succ m=>
  have h1:=(qgO hB h).low hB e
  rw[qiA hB h]at h1
  rcases Nat.lt_or_ge m n with h2|h2
  ·exact h2
  have:=xN (show 1<=B by omega) h2
  omega
end Go.Av
end
section
namespace Go.Av
abbrev W:Int:=18446744073709551616
structure HalfOK (u u1 v1 v0 q r:Int):Prop where
 e:r=u-q*v1
 p0:0<=r
 p1:r<4294967296
 q1:q<=4294967297
 le:(u*4294967296+u1)/(v1*4294967296+v0)<=q
end Go.Av
end
section
namespace Go.Av
theorem W1:(1:Int)<W:=by decide
end Go.Av
end
section
namespace Go.Av
abbrev E9:Int:=1000000000
theorem E1:(1:Int)<E9:=by decide
end Go.Av
end
section
namespace Go.Av
end Go.Av
end
section
namespace Go.Av
end Go.Av
end
section
namespace Go.Av
end Go.Av
end
section
namespace Go.Av
abbrev Fit (z:Int) (n:Nat):Prop:=(z.natAbs:Int)<W^n
theorem Fit.len {z:Int} {n:Nat} (h:Fit z n):(dg W z.natAbs).length<=n:=(qhF W1 (by omega)).2 h
theorem Fit.mono {z:Int} {m n:Nat} (h:Fit z m) (hn:m<=n):Fit z n:=Int.lt_of_lt_of_le h (xN (by decide) hn)
end Go.Av
end
section
namespace Go.Av
abbrev FitQ (q:Rat) (n:Nat):Prop:=Fit q.num n/\Fit (q.den:Int) n
theorem FitQ.mono {q:Rat} {m n:Nat} (h:FitQ q m) (hn:m<=n):FitQ q n:=⟨h.1.mono hn,h.2.mono hn⟩
theorem F1 {n:Nat} (h:1<=n):Fit 1 n:=by
 have:=xN (show(1:Int)<=W by decide) h
 rw[Int.pow_one]at this
 have hw:(1:Int)<=W-1:=by decide
 have hw2: -W< -(1:Int):=by decide
 unfold Fit
 omega
end Go.Av
end
section
namespace Go.Av
abbrev qcU (z:Int) (n:Nat):Prop:=(z.natAbs:Int)<E9^n
theorem qcU.len {z:Int} {n:Nat} (h:qcU z n):(dg E9 z.natAbs).length<=n:=(qhF E1 (by omega)).2 h
theorem qcU.mono {z:Int} {m n:Nat} (h:qcU z m) (hn:m<=n):qcU z n:=Int.lt_of_lt_of_le h (xN (by decide) hn)
theorem qeF {x y:Int} (hx:0<=x) (h:x<=y): ∀n:Nat,0<=x^n/\x^n<=y^n
 |0=>by simp
 |n+1=>by
  have ih:=qeF hx h n
  rw[Int.pow_succ,Int.pow_succ]
  exact⟨Int.mul_nonneg ih.1 hx,Int.mul_le_mul ih.2 h hx (Int.le_trans ih.1 ih.2)⟩
end Go.Av
end
section
namespace Go.Av
def qeo (c:UInt8):Bool:=decide (48<=c.toNat)&&decide (c.toNat<=57)
def yL (n:Nat) (s:List UInt8):Nat:=s.foldl (fun a c=>a*10+(c.toNat-48)) n
theorem xR (n:Nat):yL n []=n:=List.foldl_nil
theorem yR (n:Nat) (c:UInt8) (s:List UInt8):yL n (c::s)=yL (n*10+(c.toNat-48)) s:=by
 unfold yL
 rw[List.foldl_cons]
theorem qib (s:List UInt8): ∀n:Nat,s.all qeo=true->yL n s<(n+1)*10^s.length:=by
 induction s with
 |nil=>
  intro n _
  rw[List.length_nil,Nat.pow_zero,Nat.mul_one,xR]
  exact Nat.lt_succ_self n
 |cons c s ih=>
  intro n h
  rw[List.all_cons,Bool.and_eq_true]at h
  have h1:=ih (n*10+(c.toNat-48)) h.2
  have hd:c.toNat-48<=9:=by
   have:=h.1
   simp[qeo]at this
   omega
  have h2:n*10+(c.toNat-48)+1<=(n+1)*10:=by omega
  rw[yR,Yr,Nat.pow_succ,Nat.mul_comm (10^s.length) 10,<-Nat.mul_assoc]
  exact Nat.lt_of_lt_of_le h1 (Nat.mul_le_mul_right _ h2)
theorem qhx (s:List UInt8): ∀n:Nat,yL n s=n*10^s.length+yL 0 s:=by
 induction s with
 |nil=>intro n;rw[xR,xR];simp
 |cons c s ih=>
  intro n
  rw[yR,yR,ih,ih (0*10+_),Yr,Nat.pow_succ,Nat.zero_mul,Nat.zero_add,Nat.add_mul]
  rw[Nat.mul_assoc,Nat.mul_comm 10,<-Nat.add_assoc]
theorem qeh (s t:List UInt8):yL 0 (s++t)=yL 0 s*10^t.length+yL 0 t:=by
 have:yL 0 (s++t)=yL (yL 0 s) t:=by unfold yL;rw[List.foldl_append]
 rw[this,qhx]
theorem qde (s:List UInt8) (c:UInt8):yL 0 (s++[c])=yL 0 s*10+(c.toNat-48):=by
 rw[qeh]
 simp[yR,xR]
def dch (n:Nat):UInt8:=UInt8.ofNat (48+n)
theorem qb7 {n:Nat} (h:n<10):(dch n).toNat=48+n:=by
 unfold dch
 rw[UInt8.toNat_ofNat']
 omega
theorem qfC {n:Nat} (h:n<10):qeo (dch n)=true:=by
 unfold qeo
 rw[qb7 h,Bool.and_eq_true,decide_eq_true_eq,decide_eq_true_eq]
 omega
theorem qia {c:UInt8} (h:qeo c=true):c=dch (c.toNat-48)/\c.toNat-48<10:=by
 unfold qeo at h
 rw[Bool.and_eq_true,decide_eq_true_eq,decide_eq_true_eq]at h
 refine⟨?_,by omega⟩
 rw[<-UInt8.toNat_inj,qb7 (by omega)]
 omega
theorem qbr {n:Nat} (h:n<10):Lib.decDigits n=[dch n]:=by rw[Lib.decDigits,dif_pos h];rfl
theorem qfe {n:Nat} (h: ¬n<10):Lib.decDigits n=Lib.decDigits (n/10)++[dch (n%10)]:=by rw[Lib.decDigits,dif_neg h];rfl
theorem qiP (n:Nat):(Lib.decDigits n).all qeo=true:=by
 induction n using Nat.strongRecOn with
 |_ n ih=>
  by_cases h:n<10
  ·rw[qbr h,List.all_cons,qfC h];rfl
  rw[qfe h,List.all_append,ih _ (by omega),List.all_cons,qfC (by omega)];rfl
theorem qi9 (n:Nat):yL 0 (Lib.decDigits n)=n:=by
 induction n using Nat.strongRecOn with
 |_ n ih=>
  by_cases h:n<10
  ·rw[qbr h,yR,xR,qb7 h];omega
  rw[qfe h,qde,ih _ (by omega),qb7 (by omega)];omega
theorem qgx {n k:Nat} (hk:0<k):(Lib.decDigits n).length<=k↔n<10^k:=by
 constructor
 ·intro h
  have:=qib (Lib.decDigits n) 0 (qiP n)
  rw[qi9]at this
  have h2:(10:Nat)^(Lib.decDigits n).length<=10^k:=Nat.pow_le_pow_right (by omega) h
  omega
 intro h
 rcases Nat.lt_or_ge k (Lib.decDigits n).length with c|c
 ·exfalso
  rw[Lib.decDigits_length]at c
  obtain⟨m,hm⟩: ∃m,Lib.nDigits n=m+2:=⟨Lib.nDigits n-2,by omega⟩
  have hlow: ∀(n m:Nat),Lib.nDigits n=m+2->10^(m+1)<=n:=by
   intro n
   induction n using Nat.strongRecOn with
   |_ n ih=>
    intro m hm
    by_cases h:n<10
    ·rw[Lib.nDigits_small h]at hm;omega
    rw[Lib.nDigits_big h]at hm
    cases m with
    |zero=>simp;omega
    |succ m=>
     have:=ih (n/10) (by omega) m (by omega)
     rw[Nat.pow_succ]
     omega
  have:=hlow n m hm
  have h2:(10:Nat)^k<=10^(m+1):=Nat.pow_le_pow_right (by omega) (by omega)
  omega
 exact c
def Dec (s:Str):Prop:=0<s.length/\s.all qeo=true/\(s[0]? =some 48->s=[48])
instance (s:Str):Decidable (Dec s):=by unfold Dec;infer_instance
theorem qgz: ∀(k:Nat) (s:Str),s.length<=k->Dec s->s=Lib.decDigits (yL 0 s)
 |0,s,h,hd=>by have:=hd.1;omega
 |k+1,s,h,hd=>by
  rcases List.eq_nil_or_concat s with e|⟨t,c,e⟩
  ·rw[e]at hd;exact absurd hd.1 (by simp)
  rw[List.concat_eq_append]at e
  subst e
  have ha:=hd.2.1
  rw[List.all_append,Bool.and_eq_true,List.all_cons,List.all_nil,Bool.and_true]at ha
  obtain⟨ec,hc⟩:=qia ha.2
  by_cases ht:t=[]
  ·subst ht
   rw[List.nil_append,yR,xR,Nat.zero_mul,Nat.zero_add,qbr hc,<-ec]
  have htl:0<t.length:=List.length_pos_iff.2 ht
  have h0:t[0]? ≠some 48:=fun e=>by
   have:=hd.2.2 (by rw[Yf htl];exact e)
   have:=congrArg List.length this
   rw[List.length_append,List.length_singleton,List.length_singleton]at this
   omega
  have hD:Dec t:=⟨htl,ha.1,fun e=>absurd e h0⟩
  have ih:=qgz k t (by simp at h;omega) hD
  have hv:yL 0 t≠0:=fun e=>by
   rw[e]at ih
   exact h0 (by rw[ih,qbr (by decide)];rfl)
  rw[qde,qfe (by omega),show(yL 0 t*10+(c.toNat-48))/10=yL 0 t by omega,show(yL 0 t*10+(c.toNat-48))%10=c.toNat-48 by omega,<-ih,<-ec]
theorem Dec.eq {s:Str} (h:Dec s):s=Lib.decDigits (yL 0 s):=qgz s.length s (Nat.le_refl _) h
end Go.Av
end
section
namespace Go.Av
theorem qhL: ∀k:Nat,E9^k=((10^(9*k):Nat):Int)
 |0=>rfl
 |k+1=>by
  rw[Int.pow_succ,qhL k,Nat.mul_succ,Nat.pow_add,Int.natCast_mul]
  rfl
def nv (w:List Int):Nat:=(dv E9 w).toNat
theorem qdn {z:Int} (h:z<0):Lib.itoa z=45::Lib.decDigits z.natAbs:=by unfold Lib.itoa;rw[if_pos h]
theorem qdd {z:Int} (h: ¬z<0):Lib.itoa z=Lib.decDigits z.natAbs:=by
 unfold Lib.itoa
 rw[if_neg h,show z.toNat=z.natAbs by omega]
def sgn (s:Str):Bool:=decide (s[0]? =some 45)
def bdy (s:Str):Str:=if sgn s=true then s.drop 1 else s
def slA:Str->Nat
 |[]=>0
 |c::s=>if c=47 then 0 else slA s+1
end Go.Av
end
section
namespace Go.Av
end Go.Av
end
section
namespace Go.Av
end Go.Av
end
section
namespace Go.Av
def lng (z:Int):Bool:=decide (600<(Lib.decDigits z.natAbs).length)
def lngQ (q:Rat):Bool:=lng q.num||lng q.den
def T (q:Rat):Str:=Lib.itoa q.num++(if q.den=1 then[]else 47::Lib.decDigits q.den)
theorem Fit.itoaLen {z:Int} (h:Fit z 3900):(Lib.itoa z).length<=200001:=by
 have h1:(Lib.decDigits z.natAbs).length<=20*10000:=by
  refine(qgx (by decide)).2 ?_
  obtain⟨B,hB⟩: ∃B:Nat,B=10000:=⟨_,rfl⟩
  rw[<-hB]
  have h2:W^3900<=W^B:=xN (by decide) (by omega)
  have h3:W^B<=(100000000000000000000:Int)^B:=(qeF (by decide) (by decide) B).2
  have h4:((10^(20*B):Nat):Int)=(100000000000000000000:Int)^B:=by
   rw[Nat.pow_mul,Int.natCast_pow]
   rfl
  unfold Fit at h
  generalize W^3900=p at*
  omega
 by_cases c:z<0
 ·rw[qdn c,Yr];omega
 rw[qdd c];omega
end Go.Av
end
section
namespace Go.Av
def okF (s:Str):Bool:=decide (Dec ((bdy s).take (slA (bdy s)))/\ ¬(sgn s=true/\(bdy s).take (slA (bdy s))=[48]))
def badD (s:Str):Bool:=decide (slA (bdy s)<(bdy s).length/\ ¬(Dec ((bdy s).drop (slA (bdy s)+1))/\(bdy s).drop (slA (bdy s)+1)≠[48]/\(bdy s).drop (slA (bdy s)+1)≠[49]))
def chk (s:Str):Int:=
 if okF s=false\/badD s=true then 1
 else if 600<((bdy s).take (slA (bdy s))).length\/600<((bdy s).drop (slA (bdy s)+1)).length then 4
 else if slA (bdy s)<(bdy s).length/\Nat.gcd (yL 0 ((bdy s).take (slA (bdy s)))) (yL 0 ((bdy s).drop (slA (bdy s)+1)))≠1 then 1
 else 0
end Go.Av
end
section
namespace Go.Av
end Go.Av
end
section
namespace Go.Av
def tl (q:Rat):Str:=if q.den=1 then[]else 47::Lib.decDigits q.den
end Go.Av
end
section
namespace Go.Av
def Sml (q:Rat) (k:Nat):Prop:=(Lib.decDigits q.num.natAbs).length<=k/\(Lib.decDigits q.den).length<=k
theorem qio (z:Int):(Lib.itoa z).length<=(Lib.decDigits z.natAbs).length+1:=by
 by_cases h:z<0
 ·rw[qdn h];simp
 rw[qdd h];omega
end Go.Av
end
section
namespace Go.Av
theorem qcU.le {a b:Int} {n:Nat} (h:(a.natAbs:Int)<=(b.natAbs:Int)) (k:qcU b n):qcU a n:=Int.lt_of_le_of_lt h k
theorem qcU.itoaLen {z:Int} {n:Nat} (h:qcU z n) (hn:0<n):(Lib.itoa z).length<=9*n+1:=by
 have h2:z.natAbs<10^(9*n):=by
  have h:(z.natAbs:Int)<E9^n:=h
  rw[qhL]at h
  exact Int.ofNat_lt.1 h
 have h3:=(qgx (show 0<9*n by omega)).2 h2
 have h4:=qio z
 omega
end Go.Av
end
section
namespace Go.Av
theorem Sml.mono {q:Rat} {m n:Nat} (h:Sml q m) (hn:m<=n):Sml q n:=⟨Nat.le_trans h.1 hn,Nat.le_trans h.2 hn⟩
end Go.Av
end
section
namespace Go.Av
def res (q:Rat):Str×Int:=if lngQ q=true then([],4)else(T q,0)
section ops
variable {N:Nat} (hN:600000<N)
include hN
variable {p q:Rat} (hp:Sml p 600) (hq:Sml q 600) (cp:chk (T p)=0) (cq:chk (T q)=0)
include hp hq cp cq
end ops
end Go.Av
end
section
namespace Go.Av
theorem qd9 {s:Str} {k:Nat} {c:UInt8} (h:s[k]? =some c):((⟨s.toArray⟩:ByteArray).get! k)=c:=by
 have hk:=(Yb.1 h).1
 show s.toArray[k]! =c
 rw[getElem!_def]
 simp[h]
theorem qeZ {s:Str} {k:Nat} {c:UInt8} (h:s[k]? =some c) (hc:c.toNat<128):jo s k=c.toNat/\runeLen s k=1:=by
 have e:=qd9 h
 unfold jo runeLen Utf8.decode
 simp only[Nat.add_zero,e,if_pos hc,and_self]
theorem qf5 {s:Str} {k:Nat} {c:UInt8} (h:s[k]? =some c) (hc:128<=c.toNat):128<=jo s k:=by
 have e:=qd9 h
 unfold jo Utf8.decode
 simp only[Nat.add_zero,e,if_neg (Nat.not_lt.2 hc)]
 have hr:(128:Nat)<=Utf8.runeError:=by decide
 repeat' split
 all_goals first|(simp only[Bool.and_eq_true,decide_eq_true_eq]at*;omega)|(simp;omega)|omega
def qdP (c:Int):Bool:=(decide (97<=c)&&decide (c<=122))||(decide (65<=c)&&decide (c<=90))
theorem qbU (c:Int):jr c=some (qdP c):=by
 unfold jr qdP
 by_cases h1:c>=97<;>by_cases h2:c<=122<;>by_cases h3:c>=65<;>by_cases h4:c<=90<;>simp[h1,h2,h3,h4]<;>omega
def qe5 (k:Nat) (c:Int):Bool:=!qdP c&&(decide (k=0)||(!decide (c=95)&&(decide (c<48)||decide (c>57))))
def jT (s:Str):Bool:=decide (1<=s.length)&&decide (s.length<=24)&&!((List.range s.length).any fun k=>qe5 k (s.getD k 0).toNat)
theorem qgW {k:Nat} {c:Int} (h:128<=c):qe5 k c=true:=by
 unfold qe5 qdP
 simp
 omega
def vV (s:Str) (k:Nat):Bool:=(List.range (s.length-k)).any fun j=>qe5 (k+j) (s.getD (k+j) 0).toNat
theorem qby {s:Str} {k:Nat} {c:UInt8} (h:s[k]? =some c):vV s k=(qe5 k c.toNat||vV s (k+1)):=by
 have hk:=(Yb.1 h).1
 unfold vV
 rw[show s.length-k=(s.length-(k+1))+1 by omega,List.range_succ_eq_map,List.any_cons,List.any_map]
 congr 1
 ·simp[List.getD,h]
 congr 1
 funext j
 simp only[Function.comp,Nat.succ_eq_add_one]
 rw[show k+(j+1)=k+1+j by omega]
theorem qbT {s:Str} {k:Nat} (h:s.length<=k):vV s k=false:=by
 unfold vV
 rw[show s.length-k=0 by omega]
 rfl
theorem qds (s:Str): ∀(K k:Nat),k<=s.length->s.length<K+k->zC s K k=some (if vV s k then .inr false else .inl ())
 |0,k,h,hK=>by omega
 |K+1,k,h,hK=>by
  unfold zC
  by_cases hk:k<s.length
  ·have hc:s[k]? =some s[k]:=Ya hk
   rw[if_pos hk,qbU,qby hc]
   by_cases ha:(s[k]).toNat<128
   ·obtain⟨e1,e2⟩:=qeZ hc ha
    rw[e1,e2,qds s K (k+1) (by omega) (by omega)]
    have ek:((k:Int)=0)↔k=0:=by omega
    unfold qe5
    generalize ((s[k]).toNat:Int)=c
    cases hl:qdP c<;>by_cases h0:k=0<;>by_cases h1:c=95<;>by_cases h2:c<48<;>by_cases h3:57<c<;>
     simp[hl,h0,h1,h2,h3]
   have hw:=qf5 hc (by omega)
   rw[qgW (show(128:Int)<=((s[k]).toNat:Int)by omega)]
   have hl:qdP (jo s k)=false:=by unfold qdP;simp;omega
   have h1: ¬jo s k=95:=by omega
   have h2: ¬jo s k<48:=by omega
   have h3:jo s k>57:=by omega
   have ek:((k:Int)=0)↔k=0:=by omega
   simp only[hl,ZB,Bool.not_false,if_true,h1,h2,h3,decide_true,decide_false,if_false,Bool.true_or,ek]
   by_cases h0:k=0
   ·simp only[h0,if_true,ZB]
   simp only[h0,if_false,ZB,if_true]
  rw[if_neg hk,qbT (by omega)]
  rfl
theorem qey (s:Str):jT s=(decide (1<=s.length)&&decide (s.length<=24)&&!vV s 0):=by
 unfold jT vV
 simp
theorem qdA {N:Nat} {s:Str} (h:s.length<N):jY N s=some (jT s):=by
 unfold jY
 rw[qds s N 0 (Nat.zero_le _) (by omega),qey]
 cases hb:vV s 0
 ·cases s with
  |nil=>simp
  |cons x xs=>
   have e:((x::xs)==([]:Str))=false:=rfl
   simp only[ZB,ZF,if_false,e,Bool.not_false,if_true,Bool.and_true,ZI]
   have:(1<=(x::xs).length):=by simp
   rw[Bool.eq_iff_iff]
   simp only[decide_eq_true_eq,Bool.and_eq_true,this,true_and]
   omega
 simp
theorem qcz (s:Str) (hs:s.length<4611686018427387904): ∀(K k:Nat),k<=s.length->s.length<K+k->zR s K (k:Int)=some (if vV s k then .inr false else .inl ())
 |0,k,h,hK=>by omega
 |K+1,k,h,hK=>by
  unfold zR
  by_cases hk:k<s.length
  ·have hc:s[k]? =some s[k]:=Ya hk
   rw[if_pos (by omega),qA,hc,qby hc,zu (by omega),qcz s hs K (k+1) (by omega) (by omega)]
   simp only[ZB]
   have ek:((k:Int)=0)↔k=0:=by omega
   unfold qe5
   generalize ((s[k]).toNat:Int)=c
   rw[show(if c>=97 then if c<=122 then some true else if c>=65 then some (decide (c<=90))else some false else if c>=65 then some (decide (c<=90))else some false:Option Bool)=some (qdP c)from by
    have:=qbU c
    unfold jr at this
    rw[<-this]
    cases(if c>=97 then if c<=122 then some true else if c>=65 then some (decide (c<=90))else some false else if c>=65 then some (decide (c<=90))else some false:Option Bool)<;>rfl]
   simp only[ZB,ek]
   cases qdP c
   ·by_cases h5:k=0
    ·simp[h5]
    by_cases h6:c>=48
    ·by_cases h7:c<=57
     ·have a1: ¬c<48:=by omega
      have a2: ¬c>57:=by omega
      simp[h5,h6,h7,a1,a2]
     have a1: ¬c<48:=by omega
     have a2:c>57:=by omega
     by_cases h8:c=95<;>simp[h5,h6,h7,h8,a1,a2]
    have a1:c<48:=by omega
    by_cases h8:c=95<;>simp[h5,h6,h8,a1]
   simp
  rw[if_neg (by omega),qbT (by omega)]
  rfl
theorem yn {N:Nat} {s:Str} (h:s.length<N) (hs:s.length<4611686018427387904):zX N s=some (jT s):=by
 unfold zX
 rw[show(0:Int)=((0:Nat):Int)from rfl,qcz s hs N 0 (Nat.zero_le _) (by omega),qey]
 by_cases h1:s.length<1
 ·rw[if_pos (by omega)]
  simp[show¬1<=s.length by omega]
 by_cases h2:s.length>24
 ·rw[if_neg (by omega)]
  simp only[ZB,show((s.length:Int)>24)by omega,decide_true,if_true,show¬s.length<=24 by omega,decide_false,Bool.and_false,Bool.false_and]
 rw[if_neg (by omega)]
 simp only[ZB,show¬((s.length:Int)>24)by omega,decide_false,ZF,if_false,show 1<=s.length by omega,show s.length<=24 by omega,decide_true,Bool.true_and]
 cases hb:vV s 0<;>rfl
end Go.Av
end
section
namespace Go.Av
def qC:List Int->Int
 |[]=>0
 |a::l=>if a=0 then qC l else a
theorem jV {α:Type} {l:List α} {i:Nat} (h:i<l.length):l.drop i=l[i]::l.drop (i+1):=List.drop_eq_getElem_cons h
theorem qgC {l:List Int} (hl:l.length<=1000): ∀(K i:Nat),i<=l.length->l.length<K+i->jF l K (i:Int)=some (if qC (l.drop i)=0 then .inl ()else .inr (qC (l.drop i)))
 |0,i,h,hK=>by omega
 |K+1,i,h,hK=>by
  unfold jF
  by_cases hi:i<l.length
  ·rw[if_pos (by omega),qA,Ya hi,ZB,jV hi]
   unfold qC
   by_cases c:l[i]=0
   ·rw[if_neg (by simp[c]),if_pos c,zu (by omega)]
    exact qgC hl K (i+1) (by omega) (by omega)
   rw[if_pos (by simp[c]),if_neg c,if_neg c]
  rw[if_neg (by omega),List.drop_eq_nil_of_le (by omega)]
  rfl
theorem qbg {N:Nat} {l:List Int} (hN:2000<N) (hl:l.length<=1000):zS N l=some (qC l):=by
 unfold zS
 rw[show(0:Int)=((0:Nat):Int)from rfl,qgC hl N 0 (by omega) (by omega),YR]
 by_cases c:qC l=0
 ·rw[if_pos c,ZB,c]
  rfl
 rw[if_neg c,ZB]
theorem qhk {l:List Int} (hl:l.length<=1000): ∀(K i:Nat),i<=l.length->l.length<K+i->jb l K (i:Int)=some (if qC (l.drop i)=0 then .inl ()else .inr (qC (l.drop i)))
 |0,i,h,hK=>by omega
 |K+1,i,h,hK=>by
  unfold jb
  by_cases hi:i<l.length
  ·rw[if_pos (by omega),qA,Ya hi,ZB,jV hi]
   unfold qC
   by_cases c:l[i]=0
   ·rw[if_neg (by simp[c]),if_pos c,zu (by omega)]
    exact qhk hl K (i+1) (by omega) (by omega)
   rw[if_pos (by simp[c]),if_neg c,if_neg c]
  rw[if_neg (by omega),List.drop_eq_nil_of_le (by omega)]
  rfl
theorem lfst {N:Nat} {l:List Int} (hN:2000<N) (hl:l.length<=1000):z8 N l=some (qC l):=by
 unfold z8
 rw[show(0:Int)=((0:Nat):Int)from rfl,qhk hl N 0 (by omega) (by omega),YR]
 by_cases c:qC l=0
 ·rw[if_pos c,ZB,c]
  rfl
 rw[if_neg c,ZB]
theorem qiu {l:List Int} (hl:l.length<=1000): ∀(K i:Nat),i<=l.length->l.length<K+i->jC l K (i:Int)=some (if qC (l.drop i)=0 then .inl ()else .inr (qC (l.drop i)))
 |0,i,h,hK=>by omega
 |K+1,i,h,hK=>by
  unfold jC
  by_cases hi:i<l.length
  ·rw[if_pos (by omega),qA,Ya hi,ZB,jV hi]
   unfold qC
   by_cases c:l[i]=0
   ·rw[if_neg (by simp[c]),if_pos c,zu (by omega)]
    exact qiu hl K (i+1) (by omega) (by omega)
   rw[if_pos (by simp[c]),if_neg c,if_neg c]
  rw[if_neg (by omega),List.drop_eq_nil_of_le (by omega)]
  rfl
theorem qgt {N:Nat} {l:List Int} (hN:2000<N) (hl:l.length<=1000):yj N l=some (qC l):=by
 unfold yj
 rw[show(0:Int)=((0:Nat):Int)from rfl,qiu hl N 0 (by omega) (by omega),YR]
 by_cases c:qC l=0
 ·rw[if_pos c,ZB,c]
  rfl
 rw[if_neg c,ZB]
theorem ji (b:Bool) (e:Int):zl b e=some (if b=true then e else 0):=by
 unfold zl
 cases b<;>rfl
theorem xJ (b:Bool) (e:Int):zP b e=some (if b=true then e else 0):=by
 unfold zP
 cases b<;>rfl
def vv (n a b:Int):Bool:=decide (n<a)||decide (b<n)
theorem qb6 (n a b:Int):vS n a b=some (vv n a b):=by
 unfold vS vv
 by_cases c:n<a
 ·rw[if_pos c,decide_eq_true c]
  rfl
 rw[if_neg c,decide_eq_false c,Bool.false_or]
 rfl
theorem qaJ (n a b:Int):jv n a b=some (if vv n a b=true then 3 else 0):=by
 unfold jv vv
 by_cases c:n<a
 ·rw[if_pos c,ji,decide_eq_true c]
  rfl
 rw[if_neg c,ji,decide_eq_false c,Bool.false_or]
 rfl
theorem qaO {N:Nat} {s:Str} (h:s.length<N):vz N s=some (if jT s=true then 0 else 8):=by
 unfold vz
 rw[qdA h,ZB,ji,ZB]
 cases jT s<;>rfl
def qbV (s:Str):Bool:=s==[]||jT s
theorem qfS {N:Nat} {s:Str} (h:s.length<N):jZ N s=some (if qbV s=true then 0 else 8):=by
 unfold jZ qbV
 cases c:(s==[]:Bool)with
 |true=>
  rw[if_neg (by simp),ji]
  rfl
 |false=>
  rw[if_pos (by simp),qdA h,ZB,ji,Bool.false_or]
  cases jT s<;>rfl
theorem qdU {N:Nat} {s:Str} (h:s.length<N) (hs:s.length<=100000):vU N s=some (qbV s):=by
 unfold vU qbV
 cases c:(s==[]:Bool)with
 |true=>rfl
 |false=>
  rw[if_neg (by simp),yn h (by omega),Bool.false_or]
  rfl
theorem yo: ∀a b:Str,Lib.compareBytes a b=if ltL a b=true then-1 else if(a==b)=true then 0 else 1
 |[],[]=>rfl
 |[],_::_=>rfl
 |_::_,[]=>rfl
 |a::x,b::y=>by
  unfold Lib.compareBytes
  by_cases h1:a<b
  ·rw[if_pos h1,if_pos (by simp[ltL,h1])]
  rw[if_neg h1]
  by_cases h2:b<a
  ·have hne:a≠b:=fun e=>by subst e;exact h1 h2
   have l:ltL (a::x) (b::y)=false:=by simp[ltL,h1,hne]
   rw[if_pos h2,l,if_neg (by simp),if_neg (by simp[hne])]
  have hab:a=b:=by
   have g1:=UInt8.not_lt.1 h1
   have g2:=UInt8.not_lt.1 h2
   exact UInt8.le_antisymm g2 g1
  subst hab
  rw[if_neg h2,yo x y]
  have l:ltL (a::x) (a::y)=ltL x y:=by simp[ltL,h1]
  rw[l]
  by_cases e:x=y
  ·subst e
   simp
  have e1:(x==y)=false:=beq_false_of_ne e
  have e2:((a::x)==(a::y))=false:=beq_false_of_ne (fun h=>e (List.cons.inj h).2)
  rw[e1,e2]
def qa5:Option qj->qj->Bool
 |none,_=>false
 |some x,l=>ltL l.Name x.Name||l.Name==x.Name
def xE (prev:Option qj) (l:qj):Int:=if(jT l.Name&&jT l.Yarn&&qbV l.Dye)=true then if qa5 prev l=true then 11 else if vv l.Stock 0 999999999=true then 3 else 0 else 8
def jy {α:Type} (l:List α) (i:Nat):Option α:=if i=0 then none else l[i-1]?
theorem qdm {lots:List qj} {i:Nat} {x:qj} (h:i<=lots.length) (hl:lots.length<=1000):((if((lots.take i).length:Int)>0 then(idx (lots.take i) (w64 (((lots.take i).length:Int)-1))).bind fun x2=>some (ltL x.Name x2.Name||x.Name==x2.Name)else some false:Option Bool))=some (qa5 (jy lots i) x):=by
 have e:(lots.take i).length=i:=by rw[Ym];omega
 rw[e]
 unfold jy
 by_cases c:i=0
 ·rw[if_neg (by omega),if_pos c]
  rfl
 rw[if_pos (by omega),if_neg c,qdB (by omega) (by omega),qA,List.getElem?_take_of_lt (by omega),Ya (show i-1<lots.length by omega),ZB]
 rfl
theorem qd5 {N:Nat} (hN:2000<N) {lots:List qj} {i:Nat} {x:qj} (h:i<=lots.length) (hl:lots.length<=1000) (h1:x.Name.length<=1000) (h2:x.Yarn.length<=1000) (h3:x.Dye.length<=1000):vI N x (lots.take i)=some (xE (jy lots i) x):=by
 unfold vI
 rw[qdm h hl,ZB,qaO (by omega),ZB,qaO (by omega),ZB,qfS (by omega),ZB,ji,ZB,qaJ,ZB,qbg hN (by simp),ZB]
 unfold xE
 congr 1
 cases jT x.Name<;>cases jT x.Yarn<;>cases qbV x.Dye<;>cases qa5 (jy lots i) x<;>cases vv x.Stock 0 999999999<;>rfl
def ShL (lots:List qj):Prop:= ∀l∈lots,l.Name.length<=60/\l.Yarn.length<=60/\l.Dye.length<=60
theorem qdc {N:Nat} (hN:2000<N) {lots:List qj} (day:Int) (holds:List qh) (hl:lots.length<=100) (hs:ShL lots): ∀(K i:Nat),i<=lots.length->lots.length<K+i->
 ∃r,zb N lots K (i:Int)=some r/\kz N ⟨day,lots,holds⟩ K (i:Int)=some r/\(∀e,r= .inr e->e≠0)/\(r= .inl ()-> ∀(j:Nat) (x:qj),i<=j->lots[j]? =some x->xE (jy lots j) x=0)
 |0,i,h,hK=>by omega
 |K+1,i,h,hK=>by
  unfold zb kz
  simp only
  by_cases hi:i<lots.length
  ·have hx:lots[i]? =some lots[i]:=Ya hi
   obtain⟨s1,s2,s3⟩:=hs _ (List.getElem_mem hi)
   generalize lots[i]=x at*
   have href:((if(i:Int)>0 then(idx lots (w64 ((i:Int)-1))).bind fun x18=>some (ltL x.Name x18.Name||x.Name==x18.Name)else some false:Option Bool))=some (qa5 (jy lots i) x):=by
    have:=qdm (x:=x) h (by omega:lots.length<=1000)
    have e:(lots.take i).length=i:=by rw[Ym];omega
    rw[e]at this
    by_cases c:i=0
    ·rw[if_neg (by omega)]at this⊢
     exact this
    rw[if_pos (by omega),qdB (by omega) (by omega),qA]at this⊢
    rw[List.getElem?_take_of_lt (by omega)]at this
    exact this
   rw[if_pos (by omega),if_pos (by omega),qA,hx,ZB,ZB,qeM (by omega),ZB,qd5 hN h (by omega) (by omega) (by omega) (by omega),ZB,yn (by omega) (by omega),href]
   have hrec:=qdc hN day holds hl hs K (i+1) (by omega) (by omega)
   rw[zu (by omega)]
   by_cases hz:xE (jy lots i) x=0
   ·obtain⟨r,r1,r2,r3,r4⟩:=hrec
    refine⟨r,?_,?_,r3,fun hr j y hj hy=>?_⟩
    ·rw[if_neg (by simp[hz])]
     exact r1
    ·unfold xE at hz
     cases n1:jT x.Name<;>cases n2:jT x.Yarn<;>cases n3:qbV x.Dye<;>cases n4:qa5 (jy lots i) x<;>cases n5:vv x.Stock 0 999999999<;>rw[n1,n2,n3,n4,n5]at hz<;>(first|(exact absurd hz (by decide))|skip)
     rw[ZB,if_neg (by simp),yn (by omega) (by omega),ZB,n2,if_neg (by simp),qdU (by omega) (by omega),n3,ZB,ZB,if_neg (by simp),ZB,if_neg (by simp),qb6,n5,ZB,if_neg (by simp)]
     exact r2
    by_cases c:j=i
    ·subst c
     rw[hx]at hy
     obtain rfl:=Ye hy
     exact hz
    exact r4 hr j y (by omega) hy
   refine⟨.inr (xE (jy lots i) x),?_,?_,fun e he=>by cases he;exact hz,fun c=>by cases c⟩
   ·rw[if_pos (by simp[hz])]
   unfold xE at hz⊢
   rw[yn (s:=x.Yarn) (by omega) (by omega),qdU (by omega) (by omega),qb6]
   cases n1:jT x.Name<;>cases n2:jT x.Yarn<;>cases n3:qbV x.Dye<;>cases n4:qa5 (jy lots i) x<;>cases n5:vv x.Stock 0 999999999<;>rw[n1,n2,n3,n4,n5]at hz<;>first|rfl|exact absurd rfl hz
  rw[if_neg (by omega),if_neg (by omega)]
  exact⟨.inl (),rfl,rfl,fun e he=>(by cases he),fun _ j x hj hx=>by
   have:=(Yb.1 hx).1
   omega⟩
end Go.Av
end
section
namespace Go.Av
theorem qdL (n:Int):w64 n=(if n%18446744073709551616<9223372036854775808 then n%18446744073709551616 else n%18446744073709551616-18446744073709551616):=by
 show IntKind.wrap .i64 n=_
 unfold IntKind.wrap
 have e:(2:Int)^IntKind.i64.bits=18446744073709551616:=by decide
 have e2:(2:Int)^(IntKind.i64.bits-1)=9223372036854775808:=by decide
 have e3:IntKind.i64.signed=true:=by decide
 simp only[e,e2,e3,Bool.true_and,ge_iff_le,decide_eq_true_eq]
 split<;>split<;>omega
theorem qgV {lots:List qj} {name:Str} (hl:lots.length<=100) (day:Int) (holds:List qh) (a2:Str) (a3 a4:Int): ∀(K i:Nat),i<=lots.length->lots.length<K+i->
 (qo lots name a2 a3 a4 K (i:Int)=some (.inl ())/\qF ⟨day,lots,holds⟩ name K (i:Int)=some (.inl ())/\ ∀(j:Nat) x,i<=j->lots[j]? =some x->x.Name≠name)\/
 (∃(j:Nat) (x:qj),qo lots name a2 a3 a4 K (i:Int)=some (.inr (j:Int))/\qF ⟨day,lots,holds⟩ name K (i:Int)=some (.inr (j:Int))/\lots[j]? =some x/\x.Name=name)
 |0,i,h,hK=>by omega
 |K+1,i,h,hK=>by
  unfold qo qF zJ
  simp only
  by_cases hi:i<lots.length
  ·have hx:lots[i]? =some lots[i]:=Ya hi
   rw[if_pos (by omega),if_pos (by omega),qA,hx,ZB,ZB,ZB]
   generalize lots[i]=x at*
   by_cases e:x.Name=name
   ·have e1:(x.Name==name)=true:=by rw[e];exact beq_self_eq_true _
    rw[if_pos e1,if_pos e1]
    exact .inr ⟨i,x,rfl,rfl,hx,e⟩
   have e1: ¬(x.Name==name)=true:=by simpa using e
   rw[if_neg e1,if_neg e1,zu (by omega)]
   rcases qgV hl day holds a2 a3 a4 K (i+1) (by omega) (by omega)with⟨r1,r2,r3⟩|r
   ·refine .inl ⟨r1,r2,fun j y hj hy=>?_⟩
    by_cases c:j=i
    ·subst c
     rw[hx]at hy
     obtain rfl:=Ye hy
     exact e
    exact r3 j y (by omega) hy
   exact .inr r
  rw[if_neg (by omega),if_neg (by omega)]
  exact .inl ⟨rfl,rfl,fun j x hj hx=>by
   have:=(Yb.1 hx).1
   omega⟩
theorem qfd {N:Nat} (hN:2000<N) {lots:List qj} (hl:lots.length<=100) (day:Int) (holds:List qh) (name a2:Str) (a3 a4:Int): ∃(b:Bool) (p:Int),kr N lots name a2 a3 a4=some b/\qE N ⟨day,lots,holds⟩ name=some p/\decide (p<0)=!b:=by
 unfold kr zM qE
 rcases qgV (name:=name) hl day holds a2 a3 a4 N 0 (by omega) (by omega)with⟨r1,r2,r3⟩|⟨j,x,r1,r2,r3,r4⟩
 ·rw[show((0:Nat):Int)=0 from rfl]at r1 r2
  rw[r1,r2]
  exact⟨false,-1,rfl,rfl,rfl⟩
 rw[show((0:Nat):Int)=0 from rfl]at r1 r2
 rw[r1,r2]
 refine⟨true,(j:Int),?_,rfl,?_⟩
 ·simp only[ZB]
  rw[decide_eq_true (by omega)]
 rw[decide_eq_false (by omega)]
 rfl
def qgM (a b:qh):Bool:=!(ltL a.Lot b.Lot||a.Lot==b.Lot)||(a.Lot==b.Lot&&!(ltL a.Order b.Order||a.Order==b.Order))
theorem qgk (a b:qh):vT a b=some (qgM a b):=by
 unfold vT qgM
 cases ltL a.Lot b.Lot<;>cases(a.Lot==b.Lot)<;>rfl
theorem qd3 {a b:Str}:(Lib.compareBytes a b<0)=(ltL a b=true):=by
 rw[yo]
 by_cases h:ltL a b=true
 ·rw[if_pos h]
  exact propext ⟨fun _=>h,fun _=>by decide⟩
 rw[if_neg h]
 by_cases e:(a==b)=true
 ·rw[if_pos e]
  exact propext ⟨fun c=>absurd c (by decide),fun c=>absurd c h⟩
 rw[if_neg e]
 exact propext ⟨fun c=>absurd c (by decide),fun c=>absurd c h⟩
theorem qic {N:Nat} (hN:2000<N) (a b:qh): ∃c,zN N a b=some c/\decide (c<=0)=!qgM a b:=by
 unfold zN qeY
 rw[ZB,ZB,qgt hN (by simp),ZB]
 refine⟨_,rfl,?_⟩
 rw[yo a.Lot b.Lot,yo a.Order b.Order]
 unfold qgM
 by_cases e:a.Lot=b.Lot
 ·rw[e,xZ,beq_self_eq_true]
  cases ltL a.Order b.Order<;>cases(a.Order==b.Order)<;>rfl
 have e1:(a.Lot==b.Lot)=false:=beq_false_of_ne e
 rw[e1]
 cases ltL a.Lot b.Lot<;>rfl
def qdg:Option qh->qh->Bool
 |none,_=>false
 |some x,h=>!qgM h x
def qdN (kn:Bool) (prev:Option qh) (h:qh):Int:=if kn=true then if jT h.Order=true then if qdg prev h=true then 11 else if(vv h.Reserved 0 999999999||vv h.Taken 0 999999999)=true then 3 else if(decide (h.Reserved=0)&&decide (h.Taken=0))=true then 6 else 0 else 8 else 10
def ShH (holds:List qh):Prop:= ∀h∈holds,h.Lot.length<=60/\h.Order.length<=60
theorem qcf {N:Nat} (hN:2000<N) {lots:List qj} (day:Int) {holds:List qh} (hl:lots.length<=100) (hh:holds.length<=300) (hs:ShH holds): ∀(K i:Nat),i<=holds.length->holds.length<K+i->
 ∃r,kg N holds day lots holds K (i:Int)=some r/\ze N ⟨day,lots,holds⟩ K (i:Int)=some r/\(∀e,r= .inr e->e≠0)/\(r= .inl ()-> ∀(j:Nat) (x:qh),i<=j->holds[j]? =some x->vv x.Reserved 0 999999999=false)
 |0,i,h,hK=>by omega
 |K+1,i,h,hK=>by
  unfold kg ze
  simp only
  by_cases hi:i<holds.length
  ·have hx:holds[i]? =some holds[i]:=Ya hi
   obtain⟨s1,s2⟩:=hs _ (List.getElem_mem hi)
   generalize holds[i]=x at*
   have e:(holds.take i).length=i:=by rw[Ym];omega
   obtain⟨kn,p,k1,k2,k3⟩:=qfd hN hl day holds x.Lot x.Order x.Reserved x.Taken
   have lateP:((if((holds.take i).length:Int)>0 then(idx (holds.take i) (w64 (((holds.take i).length:Int)-1))).bind fun x3=>(zN N x x3).bind fun r4=>some (decide (r4<=0))else some false:Option Bool))=some (qdg (jy holds i) x):=by
    rw[e]
    unfold jy
    by_cases c:i=0
    ·rw[if_neg (by omega),if_pos c]
     rfl
    obtain⟨q,q1,q2⟩:=qic hN x holds[i-1]
    rw[if_pos (by omega),if_neg c,qdB (by omega) (by omega),qA,List.getElem?_take_of_lt (by omega),Ya (show i-1<holds.length by omega),ZB,q1,ZB,q2]
    rfl
   have lateR:((if(i:Int)>0 then(idx holds (w64 ((i:Int)-1))).bind fun x35=>(vT x x35).bind fun r36=>some (!r36)else some false:Option Bool))=some (qdg (jy holds i) x):=by
    unfold jy
    by_cases c:i=0
    ·rw[if_neg (by omega),if_pos c]
     rfl
    rw[if_pos (by omega),if_neg c,qdB (by omega) (by omega),qA,Ya (show i-1<holds.length by omega),ZB,qgk,ZB]
    rfl
   have hP:zw N x (holds.take i) day lots holds=some (qdN kn (jy holds i) x):=by
    unfold zw
    rw[k1,ZB,lateP,ZB,ji,ZB,qaO (by omega),ZB,ji,ZB,qaJ,ZB,qaJ,ZB]
    unfold qdN
    by_cases z:x.Reserved=0
    ·rw[if_pos z,ji,ZB,qbg hN (by simp),ZB,ZB,decide_eq_true z]
     simp only
     congr 1
     cases kn<;>cases jT x.Order<;>cases qdg (jy holds i) x<;>cases vv x.Reserved 0 999999999<;>cases vv x.Taken 0 999999999<;>cases decide (x.Taken=0)<;>rfl
    rw[if_neg z,ji,ZB,qbg hN (by simp),ZB,ZB,decide_eq_false z]
    simp only
    congr 1
    cases kn<;>cases jT x.Order<;>cases qdg (jy holds i) x<;>cases vv x.Reserved 0 999999999<;>cases vv x.Taken 0 999999999<;>cases decide (x.Taken=0)<;>rfl
   have hrec:=qcf hN day hl hh hs K (i+1) (by omega) (by omega)
   have zT:((if x.Reserved=0 then some (decide (x.Taken=0))else some false:Option Bool))=some (decide (x.Reserved=0)&&decide (x.Taken=0)):=by
    by_cases z:x.Reserved=0
    ·rw[if_pos z,decide_eq_true z]
     rfl
    rw[if_neg z,decide_eq_false z]
    rfl
   rw[if_pos (by omega),if_pos (by omega),qA,hx,ZB,ZB,qeM (by omega),ZB,hP,ZB,k2,ZB,lateR,zT,zu (by omega)]
   obtain⟨r,r1,r2,r3,r4⟩:=hrec
   simp only[yn (show x.Order.length<N by omega) (show x.Order.length<4611686018427387904 by omega),qb6,ZB]
   have k4:(p<0)=(kn=false):=by
    cases kn
    ·exact propext ⟨fun _=>rfl,fun _=>of_decide_eq_true k3⟩
    exact propext ⟨fun c=>absurd c (of_decide_eq_false k3),fun c=>by cases c⟩
   simp only[k4]
   unfold qdN
   cases n1:kn<;>cases n2:jT x.Order<;>cases n3:qdg (jy holds i) x<;>cases n4:vv x.Reserved 0 999999999<;>cases n5:vv x.Taken 0 999999999<;>cases n6:(decide (x.Reserved=0)&&decide (x.Taken=0))<;>
    first
     |exact⟨.inr 10,rfl,rfl,fun e he=>(by cases he;decide),fun c=>by cases c⟩
     |exact⟨.inr 8,rfl,rfl,fun e he=>(by cases he;decide),fun c=>by cases c⟩
     |exact⟨.inr 11,rfl,rfl,fun e he=>(by cases he;decide),fun c=>by cases c⟩
     |exact⟨.inr 3,rfl,rfl,fun e he=>(by cases he;decide),fun c=>by cases c⟩
     |exact⟨.inr 6,rfl,rfl,fun e he=>(by cases he;decide),fun c=>by cases c⟩
     |exact⟨r,r1,r2,r3,fun hr j y hj hy=>(by
      by_cases c:j=i
      ·subst c
       rw[hx]at hy
       obtain rfl:=Ye hy
       exact n4
      exact r4 hr j y (by omega) hy)⟩
  rw[if_neg (by omega),if_neg (by omega)]
  exact⟨.inl (),rfl,rfl,fun e he=>(by cases he),fun _ j x hj hx=>(by have:=(Yb.1 hx).1;omega)⟩
def qcY (name:Str):List qh->Int->Int
 |[],a=>a
 |h::t,a=>qcY name t (if(h.Lot==name)=true then w64 (a+h.Reserved)else a)
def frE (holds:List qh) (x:qj):Int:=w64 (x.Stock-qcY x.Name holds 0)
theorem qgv {holds:List qh} (hh:holds.length<=300) (day:Int) (lots:List qj) (name:Str): ∀(K i:Nat) (a:Int),i<=holds.length->holds.length<K+i->qH ⟨day,lots,holds⟩ name K (i:Int) a=some (qcY name (holds.drop i) a)
 |0,i,a,h,hK=>by omega
 |K+1,i,a,h,hK=>by
  unfold qH
  simp only
  by_cases hi:i<holds.length
  ·rw[if_pos (by omega),qA,Ya hi,ZB,jV hi,zu (by omega)]
   unfold qcY
   by_cases e:(holds[i].Lot==name)=true
   ·rw[if_pos e,ZB,if_pos e]
    exact qgv hh day lots name K (i+1) _ (by omega) (by omega)
   rw[if_neg e,ZB,if_neg e]
   exact qgv hh day lots name K (i+1) _ (by omega) (by omega)
  rw[if_neg (by omega),List.drop_eq_nil_of_le (by omega)]
  rfl
theorem free_eq {N:Nat} (hN:2000<N) {holds:List qh} (hh:holds.length<=300) (day:Int) (lots:List qj) (x:qj):kw N ⟨day,lots,holds⟩ x=some (frE holds x):=by
 unfold kw jG
 have:=qgv hh day lots x.Name N 0 0 (by omega) (by omega)
 rw[YR,show((0:Nat):Int)=0 from rfl]at this
 rw[this]
 rfl
theorem qd0 {holds:List qh} (hh:holds.length<=300) (day:Int) {lots:List qj} {x:qj} {n:Nat} (hx:lots[n]? =some x) (S:Int): ∀(K i:Nat) (a b:Int),i<=holds.length->holds.length<K+i->w64 b=w64 (S-a)-> -9223372036854775808<=b->b<=9223372036854775807->za ⟨day,lots,holds⟩ (n:Int) K b (i:Int)=some (w64 (S-qcY x.Name (holds.drop i) a))
 |0,i,a,b,h,hK,hab,hb1,hb2=>by omega
 |K+1,i,a,b,h,hK,hab,hb1,hb2=>by
  unfold za
  simp only
  by_cases hi:i<holds.length
  ·rw[if_pos (by omega),qA,Ya hi,ZB,jV hi,zu (by omega),qA,hx,ZB]
   unfold qcY
   by_cases e:(holds[i].Lot==x.Name)=true
   ·rw[if_pos e,ZB,if_pos e]
    generalize holds[i].Reserved=R
    refine qd0 hh day hx S K (i+1) _ _ (by omega) (by omega) ?_ (by rw[qdL];omega) (by rw[qdL];omega)
    simp only[qdL]at hab⊢
    omega
   rw[if_neg e,ZB,if_neg e]
   exact qd0 hh day hx S K (i+1) _ _ (by omega) (by omega) hab hb1 hb2
  rw[if_neg (by omega),List.drop_eq_nil_of_le (by omega)]
  show some b=some (w64 (S-a))
  rw[<-hab,xA hb1 hb2]
theorem qay {N:Nat} (hN:2000<N) {holds:List qh} (hh:holds.length<=300) (day:Int) {lots:List qj} {x:qj} {n:Nat} (hx:lots[n]? =some x) (h0:vv x.Stock 0 999999999=false):qO N ⟨day,lots,holds⟩ (n:Int)=some (frE holds x):=by
 have hb:0<=x.Stock/\x.Stock<=999999999:=by
  unfold vv at h0
  rw[Bool.or_eq_false_iff]at h0
  have:=of_decide_eq_false h0.1
  have:=of_decide_eq_false h0.2
  omega
 unfold qO
 simp only
 rw[qA,hx,ZB]
 have:=qd0 hh day hx x.Stock N 0 0 x.Stock (by omega) (by omega) (by rw[Int.sub_zero]) (by omega) (by omega)
 rw[YR,show((0:Nat):Int)=0 from rfl]at this
 rw[this]
 rfl
theorem qiy {N:Nat} (hN:2000<N) {lots:List qj} {holds:List qh} (hl:lots.length<=100) (hh:holds.length<=300) (day:Int) (hr: ∀(j:Nat) x,lots[j]? =some x->vv x.Stock 0 999999999=false): ∀(K i:Nat),i<=lots.length->lots.length<K+i->
 (qm N lots day lots holds K (i:Int)=some (.inl ())/\qB N ⟨day,lots,holds⟩ K (i:Int)=some (.inl ()))\/(∃j:Nat,qm N lots day lots holds K (i:Int)=some (.inr (j:Int))/\qB N ⟨day,lots,holds⟩ K (i:Int)=some (.inr 32))
 |0,i,h,hK=>by omega
 |K+1,i,h,hK=>by
  unfold qm qB jm
  simp only
  by_cases hi:i<lots.length
  ·have hx:lots[i]? =some lots[i]:=Ya hi
   rw[if_pos (by omega),if_pos (by omega),qA,hx,ZB,free_eq hN hh,ZB,ZB,qay hN hh day hx (hr i _ hx),ZB,zu (by omega)]
   by_cases c:frE holds lots[i]<0
   ·rw[if_pos (decide_eq_true c),if_pos c]
    exact .inr ⟨i,rfl,rfl⟩
   rw[if_neg (fun z=>c (of_decide_eq_true z)),if_neg c]
   exact qiy hN hl hh day hr K (i+1) (by omega) (by omega)
  rw[if_neg (by omega),if_neg (by omega)]
  exact .inl ⟨rfl,rfl⟩
def yV (lots:List qj):Prop:= ∀(j:Nat) (x:qj),lots[j]? =some x->xE (jy lots j) x=0
theorem vE {p:Option qj} {x:qj} (h:xE p x=0):vv x.Stock 0 999999999=false/\qa5 p x=false:=by
 unfold xE at h
 cases n1:(jT x.Name&&jT x.Yarn&&qbV x.Dye)<;>cases n4:qa5 p x<;>cases n5:vv x.Stock 0 999999999<;>rw[n1,n4,n5]at h<;>first|(exact absurd h (by decide))|exact⟨rfl,rfl⟩
theorem qfg {N:Nat} (hN:2000<N) (day:Int) {lots:List qj} {holds:List qh} (hl:lots.length<=100) (hh:holds.length<=300) (sl:ShL lots) (sh:ShH holds): ∃e,ku N ⟨day,lots,holds⟩=some e/\jI N ⟨day,lots,holds⟩=some e/\(e=0->yV lots/\ ∀(j:Nat) (x:qh),holds[j]? =some x->vv x.Reserved 0 999999999=false):=by
 unfold ku jI vB j4
 simp only
 rw[qaJ,ZB,qb6,ZB]
 obtain⟨r,r1,r2,r3,r4⟩:=qdc hN day holds hl sl N 0 (by omega) (by omega)
 obtain⟨q,q1,q2,q3,q4⟩:=qcf hN (lots:=lots) day hl hh sh N 0 (by omega) (by omega)
 rw[show((0:Nat):Int)=0 from rfl]at r1 r2 q1 q2
 by_cases hd:vv day 0 99999=true
 ·refine⟨3,?_,by rw[if_pos hd],fun h=>by cases h⟩
  rw[if_pos hd]
  by_cases c:(lots.length:Int)>64
  ·rw[if_pos c,ZB,qbg hN (by simp),ZB,if_pos (by decide)]
   rfl
  rw[if_neg c,r1]
  cases r with
  |inl u=>rw[ZB,ZB,qbg hN (by simp),ZB,if_pos (by decide)];rfl
  |inr e=>rw[ZB,ZB,qbg hN (by simp),ZB,if_pos (show(!decide (qC [3,e]=0))=true from rfl)];rfl
 rw[if_neg hd,if_neg hd]
 by_cases c:(lots.length:Int)>64
 ·refine⟨5,?_,by rw[if_pos c],fun h=>by cases h⟩
  rw[if_pos c,ZB,qbg hN (by simp),ZB,if_pos (by decide)]
  rfl
 rw[if_neg c,if_neg c,r1,r2]
 cases r with
 |inr e=>
  have he:=r3 e rfl
  refine⟨e,?_,rfl,fun h=>absurd h he⟩
  rw[ZB,ZB,qbg hN (by simp),ZB]
  have:qC [0,e]=e:=by
   unfold qC qC
   rw[if_pos rfl,if_neg he]
  rw[this,if_pos (by simp[he])]
 |inl u=>
  have ok:yV lots:=fun j x hx=>r4 rfl j x (by omega) hx
  have hst: ∀(j:Nat) x,lots[j]? =some x->vv x.Stock 0 999999999=false:=fun j x hx=>(vE (ok j x hx)).1
  rw[ZB,ZB,qbg hN (by simp),ZB,if_neg (by decide),ZB]
  simp only
  have low:=qiy hN hl hh day hst N 0 (by omega) (by omega)
  rw[show((0:Nat):Int)=0 from rfl]at low
  have lowB: ∃b:Bool,ko N lots day lots holds=some b/\qB N ⟨day,lots,holds⟩ N 0=some (if b=true then .inr 32 else .inl ()):=by
   unfold ko zO
   rcases low with⟨l1,l2⟩|⟨j,l1,l2⟩
   ·rw[l1,l2]
    exact⟨false,rfl,rfl⟩
   rw[l1,l2]
   refine⟨true,?_,rfl⟩
   simp only[ZB]
   rw[decide_eq_true (by omega)]
  obtain⟨b,b1,b2⟩:=lowB
  by_cases g:(holds.length:Int)>256
  ·rw[if_pos g,if_pos g,ZB,b1,ZB,ji,ZB,qbg hN (by simp),ZB]
   exact⟨5,rfl,rfl,fun h=>by cases h⟩
  rw[if_neg g,if_neg g,q1,q2]
  cases q with
  |inr e=>
   have he:=q3 e rfl
   rw[ZB,ZB,b1,ZB,ji,ZB,qbg hN (by simp),ZB,ZB]
   refine⟨e,?_,rfl,fun h=>absurd h he⟩
   unfold qC
   rw[if_neg he]
  |inl u=>
   rw[ZB,ZB,b1,ZB,ji,ZB,qbg hN (by simp),ZB,ZB]
   simp only
   rw[b2]
   cases b with
   |false=>exact⟨0,rfl,rfl,fun _=>⟨ok,fun j x hx=>q4 rfl j x (by omega) hx⟩⟩
   |true=>exact⟨32,rfl,rfl,fun h=>by cases h⟩
end Go.Av
end
section
namespace Go.Av
theorem qhg {s:StateT} (hb:s.Lots.length*56<=140737488355328): ∀(K i:Nat),i<=s.Lots.length->s.Lots.length<K+i->ja s K (s.Lots.take i) (i:Int)=some s.Lots
 |0,i,h,hK=>by omega
 |K+1,i,h,hK=>by
  unfold ja
  by_cases hi:i<s.Lots.length
  ·have e:(s.Lots.take i).length=i:=by rw[Ym];omega
   rw[if_pos (by omega),qA,Ya hi,ZB,qbM (by rw[e,List.length_singleton];omega) (by rw[e,List.length_singleton];omega),ZB,zu (by omega),<-List.take_succ_eq_append_getElem hi]
   exact qhg hb K (i+1) (by omega) (by omega)
  rw[if_neg (by omega),List.take_of_length_le (by omega)]
theorem qhV {s:StateT} (hb:s.Holds.length*48<=140737488355328): ∀(K i:Nat),i<=s.Holds.length->s.Holds.length<K+i->jl s K (s.Holds.take i) (i:Int)=some s.Holds
 |0,i,h,hK=>by omega
 |K+1,i,h,hK=>by
  unfold jl
  by_cases hi:i<s.Holds.length
  ·have e:(s.Holds.take i).length=i:=by rw[Ym];omega
   rw[if_pos (by omega),qA,Ya hi,ZB,qbM (by rw[e,List.length_singleton];omega) (by rw[e,List.length_singleton];omega),ZB,zu (by omega),<-List.take_succ_eq_append_getElem hi]
   exact qhV hb K (i+1) (by omega) (by omega)
  rw[if_neg (by omega),List.take_of_length_le (by omega)]
theorem qgh {N:Nat} {s:StateT} (h1:s.Lots.length<N) (h2:s.Holds.length<N) (b1:s.Lots.length*56<=140737488355328) (b2:s.Holds.length*48<=140737488355328):vR N s=some ⟨s.Day,s.Lots,s.Holds⟩:=by
 unfold vR
 have e1:=qhg b1 N 0 (by omega) (by omega)
 have e2:=qhV b2 N 0 (by omega) (by omega)
 rw[List.take_zero,show((0:Nat):Int)=0 from rfl]at e1 e2
 rw[e1,ZB,e2,ZB]
theorem qiB {day:Int} {lots:List qj} {holds:List qh} (hl:lots.length<=100): ∀(K i:Nat),i<=lots.length->lots.length<K+i->(qU ⟨day,lots,holds⟩ K (i:Int)=some (.inl ())/\ ∀(j:Nat) x,i<=j->lots[j]? =some x->x.Name.length<=60/\x.Yarn.length<=60/\x.Dye.length<=60)\/qU ⟨day,lots,holds⟩ K (i:Int)=some (.inr false)
 |0,i,h,hK=>by omega
 |K+1,i,h,hK=>by
  unfold qU
  simp only
  by_cases hi:i<lots.length
  ·have hx:lots[i]? =some lots[i]:=Ya hi
   rw[if_pos (by omega),qA,hx,ZB]
   generalize lots[i]=x at*
   by_cases c1:(x.Name.length:Int)>60
   ·rw[if_pos c1];exact .inr rfl
   by_cases c2:(x.Yarn.length:Int)>60
   ·rw[if_neg c1,if_pos c2];exact .inr rfl
   by_cases c3:(x.Dye.length:Int)>60
   ·rw[if_neg c1,if_neg c2,decide_eq_true c3];exact .inr rfl
   rw[if_neg c1,if_neg c2,decide_eq_false c3,ZB,if_neg (by simp),zu (by omega)]
   rcases qiB (day:=day) (holds:=holds) hl K (i+1) (by omega) (by omega)with⟨r1,r2⟩|r
   ·refine .inl ⟨r1,fun j y hj hy=>?_⟩
    by_cases c:j=i
    ·subst c
     rw[hx]at hy
     obtain rfl:=Ye hy
     omega
    exact r2 j y (by omega) hy
   exact .inr r
  rw[if_neg (by omega)]
  exact .inl ⟨rfl,fun j x hj hx=>by
   have:=(Yb.1 hx).1
   omega⟩
theorem qiG {day:Int} {lots:List qj} {holds:List qh} (hl:holds.length<=300): ∀(K i:Nat),i<=holds.length->holds.length<K+i->(qR ⟨day,lots,holds⟩ K (i:Int)=some (.inl ())/\ ∀(j:Nat) x,i<=j->holds[j]? =some x->x.Lot.length<=60/\x.Order.length<=60)\/qR ⟨day,lots,holds⟩ K (i:Int)=some (.inr false)
 |0,i,h,hK=>by omega
 |K+1,i,h,hK=>by
  unfold qR
  simp only
  by_cases hi:i<holds.length
  ·have hx:holds[i]? =some holds[i]:=Ya hi
   rw[if_pos (by omega),qA,hx,ZB]
   generalize holds[i]=x at*
   by_cases c1:(x.Lot.length:Int)>60
   ·rw[if_pos c1];exact .inr rfl
   by_cases c3:(x.Order.length:Int)>60
   ·rw[if_neg c1,decide_eq_true c3];exact .inr rfl
   rw[if_neg c1,decide_eq_false c3,ZB,if_neg (by simp),zu (by omega)]
   rcases qiG (day:=day) (lots:=lots) hl K (i+1) (by omega) (by omega)with⟨r1,r2⟩|r
   ·refine .inl ⟨r1,fun j y hj hy=>?_⟩
    by_cases c:j=i
    ·subst c
     rw[hx]at hy
     obtain rfl:=Ye hy
     omega
    exact r2 j y (by omega) hy
   exact .inr r
  rw[if_neg (by omega)]
  exact .inl ⟨rfl,fun j x hj hx=>by
   have:=(Yb.1 hx).1
   omega⟩
theorem qhp {N:Nat} (hN:2000<N) (day:Int) (lots:List qj) (holds:List qh): ∃b,jJ N ⟨day,lots,holds⟩ 20=some b/\(b=true->lots.length<=100/\holds.length<=300/\ShL lots/\ShH holds):=by
 unfold jJ
 simp only
 have hc: ∃c:Bool,(if(lots.length:Int)>20 then
  if(lots.length:Int)<=64 then some true
  else if(lots.length:Int)>67 then some true
  else if(holds.length:Int)>20 then if(holds.length:Int)<=256 then some true else some (decide ((holds.length:Int)>259))
  else some (decide ((holds.length:Int)>259))
  else if(lots.length:Int)>67 then some true
  else if(holds.length:Int)>20 then if(holds.length:Int)<=256 then some true else some (decide ((holds.length:Int)>259))
  else some (decide ((holds.length:Int)>259)):Option Bool)=some c/\(c=false->lots.length<=67/\holds.length<=259):=by
  repeat' split
  all_goals refine⟨_,rfl,fun h=>?_⟩
  all_goals first|(exact absurd h (by decide))|(have:=of_decide_eq_false h;omega)
 obtain⟨c,hc1,hc2⟩:=hc
 rw[hc1,ZB]
 cases c with
 |true=>exact⟨false,rfl,fun h=>by cases h⟩
 |false=>
  obtain⟨l1,l2⟩:=hc2 rfl
  rw[if_neg (by simp)]
  rcases qiB (day:=day) (holds:=holds) (show lots.length<=100 by omega) N 0 (by omega) (by omega)with⟨r1,r2⟩|r1
  ·rcases qiG (day:=day) (lots:=lots) (show holds.length<=300 by omega) N 0 (by omega) (by omega)with⟨q1,q2⟩|q1
   ·rw[show((0:Nat):Int)=0 from rfl]at r1 q1
    rw[r1,ZB]
    simp only
    rw[q1]
    refine⟨true,rfl,fun _=>⟨by omega,by omega,fun l hl=>?_,fun l hl=>?_⟩⟩
    ·obtain⟨j,hj⟩:=List.mem_iff_getElem?.1 hl
     exact r2 j l (by omega) hj
    obtain⟨j,hj⟩:=List.mem_iff_getElem?.1 hl
    exact q2 j l (by omega) hj
   rw[show((0:Nat):Int)=0 from rfl]at r1 q1
   rw[r1,ZB]
   simp only
   rw[q1]
   exact⟨false,rfl,fun h=>by cases h⟩
  rw[show((0:Nat):Int)=0 from rfl]at r1
  rw[r1]
  exact⟨false,rfl,fun h=>by cases h⟩
theorem qfH {lots:List qj} (ok:yV lots) {i:Nat} {y:qj} (hy:lots[i]? =some y): ∀(d:Nat) (x:qj),lots[i+d+1]? =some x->ltL y.Name x.Name=true
 |0,x,hx=>by
  have h:=(vE (ok (i+1) x hx)).2
  unfold jy at h
  rw[if_neg (by omega),Nat.add_sub_cancel,hy]at h
  unfold qa5 at h
  rw[Bool.or_eq_false_iff]at h
  cases c:ltL y.Name x.Name with
  |true=>rfl
  |false=>
   have:=qdT _ _ h.1 c
   rw[this,beq_self_eq_true]at h
   cases h.2
 |d+1,x,hx=>by
  have hl:=(Yb.1 hx).1
  have hz:lots[i+d+1]? =some lots[i+d+1]:=Ya (by omega)
  have h1:=qfH ok hy d _ hz
  have h:=(vE (ok (i+(d+1)+1) x hx)).2
  unfold jy at h
  rw[if_neg (by omega),Nat.add_sub_cancel,show i+(d+1)=i+d+1 by omega,hz]at h
  unfold qa5 at h
  rw[Bool.or_eq_false_iff]at h
  cases c:ltL lots[i+d+1].Name x.Name with
  |true=>exact qaS h1 c
  |false=>
   have:=qdT _ _ h.1 c
   rw[this,beq_self_eq_true]at h
   cases h.2
theorem qau {lots:List qj} (ok:yV lots) {i j:Nat} {x y:qj} (hij:i<j) (hx:lots[i]? =some x) (hy:lots[j]? =some y):ltL x.Name y.Name=true:=by
 obtain⟨d,rfl⟩: ∃d,j=i+d+1:=⟨j-i-1,by omega⟩
 exact qfH ok hx d y hy
theorem qjo {i j:Nat} (hi:i<=1000) (hj:j<=1000):w64 (qeI .u64 (IntKind.wrap .u64 (w64 ((i:Int)+(j:Int)))) 1)=(((i+j)/2:Nat):Int):=by
 have e0:w64 ((i:Int)+(j:Int))=(i:Int)+(j:Int):=xA (by omega) (by omega)
 rw[e0]
 have e:IntKind.wrap .u64 ((i:Int)+(j:Int))=(i:Int)+(j:Int):=by
  show((i:Int)+(j:Int))%18446744073709551616=_
  omega
 rw[e]
 show w64 (((i:Int)+(j:Int)).fdiv 2)=_
 rw[Int.fdiv_eq_ediv_of_nonneg _ (by omega),xA (by omega) (by omega)]
 omega
theorem bs_L {lots:List qj} (hl:lots.length<=100) (ok:yV lots) (name:Str): ∀(K lo hi:Nat),lo<=hi->hi<=lots.length->hi-lo<K->(∀(k:Nat) x,k<lo->lots[k]? =some x->ltL x.Name name=true)->(∀(k:Nat) x,hi<=k->lots[k]? =some x->ltL x.Name name=false)->
 ∃p:Nat,qg lots name K (hi:Int) (lo:Int)=some (p:Int)/\p<=lots.length/\(∀(k:Nat) x,k<p->lots[k]? =some x->ltL x.Name name=true)/\(∀(k:Nat) x,p<=k->lots[k]? =some x->ltL x.Name name=false)
 |0,lo,hi,h,h2,hK,g1,g2=>by omega
 |K+1,lo,hi,h,h2,hK,g1,g2=>by
  unfold qg zL qeY
  by_cases c:lo<hi
  ·have hm:(lo+hi)/2<lots.length:=by omega
   have hx:lots[(lo+hi)/2]? =some lots[(lo+hi)/2]:=Ya hm
   rw[if_pos (by omega),qjo (by omega) (by omega),qA,hx,ZB,ZB,ZB]
   by_cases d:Lib.compareBytes lots[(lo+hi)/2].Name name<0
   ·have d1:=d
    rw[qd3]at d1
    rw[if_pos d,ZB]
    simp only
    rw[zu (by omega)]
    refine bs_L hl ok name K ((lo+hi)/2+1) hi (by omega) h2 (by omega) (fun k x hk hkx=>?_) g2
    by_cases e:k=(lo+hi)/2
    ·subst e
     rw[hx]at hkx
     obtain rfl:=Ye hkx
     exact d1
    exact qaS (qau ok (by omega) hkx hx) d1
   have d1:=d
   rw[qd3]at d1
   have d2:ltL lots[(lo+hi)/2].Name name=false:=by simpa using d1
   rw[if_neg d,ZB]
   simp only
   refine bs_L hl ok name K lo ((lo+hi)/2) (by omega) (by omega) (by omega) g1 (fun k x hk hkx=>?_)
   by_cases e:k=(lo+hi)/2
   ·subst e
    rw[hx]at hkx
    obtain rfl:=Ye hkx
    exact d2
   cases z:ltL x.Name name with
   |false=>rfl
   |true=>
    rw[qaS (qau ok (by omega) hx hkx) z]at d2
    cases d2
  rw[if_neg (by omega)]
  have:lo=hi:=by omega
  subst this
  exact⟨lo,rfl,h2,g1,g2⟩
theorem qhN {N:Nat} (hN:2000<N) (day:Int) {lots:List qj} (holds:List qh) (hl:lots.length<=100) (ok:yV lots) (name:Str):
 (∃(j:Nat) (x:qj),jK N ⟨day,lots,holds⟩ name=some ((j:Int),true)/\qE N ⟨day,lots,holds⟩ name=some (j:Int)/\lots[j]? =some x)\/
 (∃p:Int,jK N ⟨day,lots,holds⟩ name=some (p,false)/\qE N ⟨day,lots,holds⟩ name=some (-1)):=by
 unfold jK qM qE zL qeY
 simp only
 obtain⟨p,p1,p2,p3,p4⟩:=bs_L hl ok name N 0 lots.length (by omega) (by omega) (by omega) (fun k x hk=>by omega) (fun k x hk hx=>by
  have:=(Yb.1 hx).1
  omega)
 rw[show((0:Nat):Int)=0 from rfl]at p1
 rw[p1,ZB]
 rcases qgV (name:=name) hl day holds [] 0 0 N 0 (by omega) (by omega)with⟨r1,r2,r3⟩|⟨j,x,r1,r2,r3,r4⟩
 ·rw[show((0:Nat):Int)=0 from rfl]at r2
  refine .inr ⟨(p:Int),?_,by rw[r2];rfl⟩
  by_cases c:p<lots.length
  ·have hx:lots[p]? =some lots[p]:=Ya c
   have hne:=r3 p _ (by omega) hx
   have hz: ¬Lib.compareBytes lots[p].Name name=0:=by
    rw[yo]
    intro h
    by_cases z:ltL lots[p].Name name=true
    ·rw[if_pos z]at h;cases h
    rw[if_neg z,if_neg (by simpa using hne)]at h;cases h
   rw[if_pos (by omega),qA,hx,ZB,ZB,ZB,decide_eq_false hz]
   rfl
  rw[if_neg (by omega)]
  rfl
 rw[show((0:Nat):Int)=0 from rfl]at r2
 have hjl:=(Yb.1 r3).1
 have hpj:p=j:=by
  rcases Nat.lt_trichotomy p j with c|c|c
  ·have hx:lots[p]? =some lots[p]:=Ya (by omega)
   have h1:=qau ok c hx r3
   rw[r4,p4 p _ (Nat.le_refl _) hx]at h1
   cases h1
  ·exact c
  have h1:=p3 j x c r3
  rw[r4,xZ]at h1
  cases h1
 subst hpj
 refine .inl ⟨p,x,?_,by rw[r2];rfl,r3⟩
 have hz:Lib.compareBytes x.Name name=0:=by
  rw[r4,yo,xZ,beq_self_eq_true]
  rfl
 rw[if_pos (by omega),qA,r3,ZB,ZB,ZB,decide_eq_true hz]
 rfl
theorem qca {N:Nat} (hN:2000<N) (day:Int) {lots:List qj} {holds:List qh} (hl:lots.length<=100) (hh:holds.length<=300) (ok:yV lots) (ya dy:Str): ∀(K i:Nat) (a b:Int),i<=lots.length->lots.length<K+i->
 ∃r,jD N ⟨day,lots,holds⟩ ya dy K a b (i:Int)=some r/\jf N ⟨day,lots,holds⟩ ya dy K (i:Int) a b=some r
 |0,i,a,b,h,hK=>by omega
 |K+1,i,a,b,h,hK=>by
  unfold jD jf
  simp only
  by_cases hi:i<lots.length
  ·have hx:lots[i]? =some lots[i]:=Ya hi
   have hst:=(vE (ok i _ hx)).1
   have hr:=qay hN hh day hx hst
   rw[if_pos (by omega),if_pos (by omega),qA,hx]
   generalize lots[i]=x at*
   simp only[ZB,free_eq hN hh,hr]
   by_cases c:(x.Yarn==ya)=true
   ·rw[if_pos c]
    simp only[ZB]
    by_cases d:(x.Dye==dy)=true
    ·rw[if_pos d]
     simp only[ZB]
     rw[zu (by omega)]
     exact qca hN day hl hh ok ya dy K (i+1) _ _ (by omega) (by omega)
    rw[if_neg d]
    simp only[ZB]
    rw[zu (by omega)]
    exact qca hN day hl hh ok ya dy K (i+1) _ _ (by omega) (by omega)
   rw[if_neg c]
   simp only[ZB,ZF,if_false]
   rw[zu (by omega)]
   exact qca hN day hl hh ok ya dy K (i+1) _ _ (by omega) (by omega)
  rw[if_neg (by omega),if_neg (by omega)]
  exact⟨_,rfl,rfl⟩
end Go.Av
end
section
namespace Go.Av
theorem qbO {name:Str}: ∀(hs:List qh) (a:Int),(∀h∈hs,0<=h.Reserved/\h.Reserved<=999999999)->0<=a->a+1000000000*(hs.length:Int)<=1000000000000000->0<=qcY name hs a/\qcY name hs a<=1000000000000000
 |[],a,h,h0,hb=>by
  unfold qcY
  simp at hb
  omega
 |x::t,a,h,h0,hb=>by
  unfold qcY
  have hx:=h x (List.mem_cons_self ..)
  rw[Yr]at hb
  by_cases c:(x.Lot==name)=true
  ·rw[if_pos c,xA (by omega) (by omega)]
   exact qbO t _ (fun y hy=>h y (List.mem_cons_of_mem _ hy)) (by omega) (by omega)
  rw[if_neg c]
  exact qbO t _ (fun y hy=>h y (List.mem_cons_of_mem _ hy)) (by omega) (by omega)
theorem qa6 {n a b:Int} (h:vv n a b=false):a<=n/\n<=b:=by
 unfold vv at h
 rw[Bool.or_eq_false_iff]at h
 have:=of_decide_eq_false h.1
 have:=of_decide_eq_false h.2
 omega
def qbz (holds:List qh):Prop:= ∀(j:Nat) (x:qh),holds[j]? =some x->vv x.Reserved 0 999999999=false
theorem fr_le {holds:List qh} (hh:holds.length<=300) (hk:qbz holds) {x:qj} (hx:vv x.Stock 0 999999999=false):frE holds x<=999999999:=by
 have hs:=qa6 hx
 have hr:=qbO (name:=x.Name) holds 0 (fun h hm=>by
  obtain⟨j,hj⟩:=List.mem_iff_getElem?.1 hm
  exact qa6 (hk j h hj)) (by omega) (by omega)
 unfold frE
 rw[xA (by omega) (by omega)]
 omega
def gF (lots:List qj) (holds:List qh) (i:Int):Int:=((lots[i.toNat]?).map (frE holds)).getD 0
theorem qiC {lots:List qj} {holds:List qh} {k:Nat} {x:qj} (h:lots[k]? =some x):gF lots holds (k:Int)=frE holds x:=by
 unfold gF
 rw[Int.toNat_natCast,h]
 rfl
def vQ (g:Int->Int):List Int->Int
 |[]=>0
 |a::l=>g a+vQ g l
theorem qcB (g:Int->Int) (x:Int): ∀l:List Int,vQ g (l++[x])=vQ g l+g x
 |[]=>by simp[vQ]
 |a::l=>by
  show g a+vQ g (l++[x])=g a+vQ g l+g x
  rw[qcB g x l]
  omega
def qcM (lots:List qj) (holds:List qh) (F:List Int):Prop:= ∀x∈F,∃(k:Nat) (l:qj),x=(k:Int)/\lots[k]? =some l/\vv l.Stock 0 999999999=false/\0<gF lots holds x/\gF lots holds x<=999999999
theorem qba {lots:List qj} {holds:List qh}: ∀F:List Int,qcM lots holds F->0<=vQ (gF lots holds) F/\vQ (gF lots holds) F<=1000000000*(F.length:Int)
 |[],h=>by simp[vQ]
 |a::l,h=>by
  obtain⟨k,x,e1,e2,e4,e3⟩:=h a (List.mem_cons_self ..)
  have:=qba l (fun y hy=>h y (List.mem_cons_of_mem _ hy))
  unfold vQ
  rw[Yr]
  omega
theorem qix {N:Nat} (hN:2000<N) (day:Int) {lots:List qj} {holds:List qh} (hl:lots.length<=100) (hh:holds.length<=300) (ok:yV lots) (hk:qbz holds) (ya dy:Str): ∀(K i:Nat) (l:List Int),i<=lots.length->lots.length<K+i->l.length<=i->qcM lots holds l->
 ∃F,zZ N ⟨day,lots,holds⟩ ya dy K l (vQ (gF lots holds) l) (i:Int)=some (F,vQ (gF lots holds) F)/\jw N ⟨day,lots,holds⟩ ya dy K l (i:Int)=some F/\F.length<=lots.length/\qcM lots holds F
 |0,i,l,h,hK,hi2,hF=>by omega
 |K+1,i,l,h,hK,hi2,hF=>by
  unfold zZ jw
  simp only
  by_cases hi:i<lots.length
  ·have hx:lots[i]? =some lots[i]:=Ya hi
   have hst:=(vE (ok i _ hx)).1
   have hr:=qay hN hh day hx hst
   have hg:=qiC (holds:=holds) hx
   have hle:=fr_le hh hk hst
   have hrec:=qix hN day hl hh ok hk ya dy K (i+1)
   rw[if_pos (by omega),if_pos (by omega),qA,hx]
   generalize lots[i]=x at*
   simp only[ZB,free_eq hN hh,hr]
   have skip: ∃F,zZ N ⟨day,lots,holds⟩ ya dy K l (vQ (gF lots holds) l) (w64 ((i:Int)+1))=some (F,vQ (gF lots holds) F)/\jw N ⟨day,lots,holds⟩ ya dy K l (w64 ((i:Int)+1))=some F/\F.length<=lots.length/\qcM lots holds F:=by
    rw[zu (by omega)]
    exact hrec l (by omega) (by omega) (by omega) hF
   by_cases c:(x.Yarn==ya)=true
   ·rw[if_pos c]
    by_cases d:(x.Dye==dy)=true
    ·rw[if_pos d]
     simp only[ZB]
     by_cases e:frE holds x>0
     ·have hsum:=qba l hF
      rw[decide_eq_true e]
      simp only[if_true]
      rw[qbM (by simp only[Yr,List.length_nil];omega) (by simp only[Yr,List.length_nil];omega)]
      simp only[ZB]
      rw[zu (by omega),xA (by omega) (by omega),show vQ (gF lots holds) l+frE holds x=vQ (gF lots holds) (l++[(i:Int)])by rw[qcB,hg]]
      refine hrec (l++[(i:Int)]) (by omega) (by omega) (by simp;omega) (fun y hy=>?_)
      rcases List.mem_append.1 hy with hy|hy
      ·exact hF y hy
      obtain rfl:=List.mem_singleton.1 hy
      exact⟨i,x,rfl,hx,hst,by omega,by omega⟩
     rw[decide_eq_false e]
     simp only[ZF,if_false,ZB]
     exact skip
    rw[if_neg d]
    simp only[ZF,if_false,ZB]
    exact skip
   rw[if_neg c]
   simp only[ZF,if_false,ZB]
   exact skip
  rw[if_neg (by omega),if_neg (by omega)]
  exact⟨l,rfl,rfl,by omega,hF⟩
theorem and_one: ∀q:Fin 256,decide (andI .i64 ((q.val:Nat):Int) 1=1)=decide (((q.val:Nat):Int).tmod 2=1):=by decide+kernel
theorem qgK {q:Nat} (h:q<256):(andI .i64 (q:Int) 1=1)=((q:Int).tmod 2=1):=by
 have:=and_one ⟨q,h⟩
 exact propext (decide_eq_decide.1 this)
theorem qif {m k:Nat} (hm:m<256) (hk:k<8):qgp .i64 (m:Int) (k:Int)=some ((m/2^k:Nat):Int):=by
 have h:k=0\/k=1\/k=2\/k=3\/k=4\/k=5\/k=6\/k=7:=by omega
 unfold qgp
 rcases h with rfl|rfl|rfl|rfl|rfl|rfl|rfl|rfl
 ·show some ((m:Int).fdiv 1)=some ((m/1:Nat):Int)
  rw[Int.fdiv_eq_ediv_of_nonneg _ (by decide)];congr 1
 ·show some ((m:Int).fdiv 2)=some ((m/2:Nat):Int)
  rw[Int.fdiv_eq_ediv_of_nonneg _ (by decide)];congr 1
 ·show some ((m:Int).fdiv 4)=some ((m/4:Nat):Int)
  rw[Int.fdiv_eq_ediv_of_nonneg _ (by decide)];congr 1
 ·show some ((m:Int).fdiv 8)=some ((m/8:Nat):Int)
  rw[Int.fdiv_eq_ediv_of_nonneg _ (by decide)];congr 1
 ·show some ((m:Int).fdiv 16)=some ((m/16:Nat):Int)
  rw[Int.fdiv_eq_ediv_of_nonneg _ (by decide)];congr 1
 ·show some ((m:Int).fdiv 32)=some ((m/32:Nat):Int)
  rw[Int.fdiv_eq_ediv_of_nonneg _ (by decide)];congr 1
 ·show some ((m:Int).fdiv 64)=some ((m/64:Nat):Int)
  rw[Int.fdiv_eq_ediv_of_nonneg _ (by decide)];congr 1
 show some ((m:Int).fdiv 128)=some ((m/128:Nat):Int)
 rw[Int.fdiv_eq_ediv_of_nonneg _ (by decide)];congr 1
theorem qhv: ∀n:Fin 9,∀k:Fin 8,k.val<n.val->((2^n.val-1)/2^k.val)%2=1:=by decide+kernel
theorem qdC {n:Nat} (hn:n<=8):qgN .i64 1 (n:Int)=some ((2^n:Nat):Int):=by
 have h:n=0\/n=1\/n=2\/n=3\/n=4\/n=5\/n=6\/n=7\/n=8:=by omega
 rcases h with rfl|rfl|rfl|rfl|rfl|rfl|rfl|rfl|rfl<;>rfl
theorem qdI {n:Nat} (hn:n<=8):1<=2^n/\2^n<=256:=by
 have h:n=0\/n=1\/n=2\/n=3\/n=4\/n=5\/n=6\/n=7\/n=8:=by omega
 rcases h with rfl|rfl|rfl|rfl|rfl|rfl|rfl|rfl|rfl<;>decide
theorem qfF {N:Nat} (hN:2000<N) (day:Int) {lots:List qj} {holds:List qh} (hh:holds.length<=300) {F:List Int} (hF:qcM lots holds F) (h8:F.length<=8) {m:Nat} (hm:m<2^F.length) {amount:Int} (a0:0<=amount) (a1:amount<=999999999): ∀(K t:Nat) (l:List Int) (σ:Int),t<=F.length->F.length<K+t->0<=σ->σ<=vQ (gF lots holds) (F.take t)->l.length<=t->
 ∃(w:List Int) (S:Int),jA N ⟨day,lots,holds⟩ F (m:Int) K l (amount-σ) (t:Int)=some (w,amount-S)/\jg N ⟨day,lots,holds⟩ F (m:Int) K l σ (t:Int)=some (w,S)/\0<=S/\S<=vQ (gF lots holds) F/\w.length<=F.length/\(m+1=2^F.length->l=F.take t->σ=vQ (gF lots holds) (F.take t)->w=F/\S=vQ (gF lots holds) F)
 |0,t,l,σ,h,hK,h0,hs,hlt=>by omega
 |K+1,t,l,σ,h,hK,h0,hs,hlt=>by
  unfold jA jg
  simp only
  by_cases ht:t<F.length
  ·have hp:=(qdI h8).2
   have hx:F[t]? =some F[t]:=Ya ht
   obtain⟨k,x,ex,hkx,hst,g0,g1⟩:=hF _ (List.getElem_mem ht)
   have htake:F.take (t+1)=F.take t++[F[t]]:=List.take_succ_eq_append_getElem ht
   have hsb:=qba (F.take t) (fun y hy=>hF y (List.mem_of_mem_take hy))
   have e1:(F.take t).length=t:=by rw[Ym];omega
   rw[e1]at hsb
   have hq:m/2^t<256:=Nat.lt_of_le_of_lt (Nat.div_le_self _ _) (by omega)
   have hsh:=qif (m:=m) (k:=t) (by omega) (by omega)
   have hr:=qay hN hh day hkx hst
   have hg:=qiC (holds:=holds) hkx
   have hsum:vQ (gF lots holds) (F.take (t+1))=vQ (gF lots holds) (F.take t)+gF lots holds F[t]:=by rw[htake,qcB]
   rw[if_pos (by omega),if_pos (by omega),qA,hx,hsh]
   generalize F[t]=z at*
   subst ex
   simp only[ZB,qgK hq]
   by_cases c:(((m/2^t:Nat):Int)).tmod 2=1
   ·rw[if_pos c,if_pos c,qbM (by simp only[Yr,List.length_nil];omega) (by simp only[Yr,List.length_nil];omega)]
    simp only[ZB,qA,hkx,free_eq hN hh,hr]
    rw[zu (by omega),xA (by omega) (by omega),xA (by omega) (by omega),show amount-σ-frE holds x=amount-(σ+frE holds x)by omega]
    obtain⟨w,S,r1,r2,r3,r4,r5,r6⟩:=qfF hN day hh hF h8 hm a0 a1 K (t+1) (l++[(k:Int)]) (σ+frE holds x) (by omega) (by omega) (by omega) (by omega) (by simp;omega)
    refine⟨w,S,r1,r2,r3,r4,r5,fun q1 q2 q3=>r6 q1 ?_ ?_⟩
    ·rw[q2,htake]
    rw[hsum,q3,hg]
   rw[if_neg c,if_neg c]
   simp only[ZB]
   rw[zu (by omega)]
   obtain⟨w,S,r1,r2,r3,r4,r5,r6⟩:=qfF hN day hh hF h8 hm a0 a1 K (t+1) l σ (by omega) (by omega) (by omega) (by omega) (by omega)
   refine⟨w,S,r1,r2,r3,r4,r5,fun q1 q2 q3=>?_⟩
   exfalso
   have hfb:((2^F.length-1)/2^t)%2=1:=qhv ⟨F.length,by omega⟩ ⟨t,by omega⟩ ht
   rw[show 2^F.length-1=m by omega]at hfb
   have hnn:(0:Int)<=((m/2^t:Nat):Int):=Int.natCast_nonneg _
   exact c (by rw[Int.tmod_eq_emod_of_nonneg hnn];omega)
  rw[if_neg (by omega),if_neg (by omega)]
  have e:t=F.length:=by omega
  subst e
  rw[List.take_length]at hs
  exact⟨l,σ,rfl,rfl,h0,hs,hlt,fun _ q2 q3=>by rw[List.take_length]at q2 q3;exact⟨q2,q3⟩⟩
end Go.Av
end
section
namespace Go.Av
def qhI (x y:Int):Int:=if x<y then-1 else if x>y then 1 else 0
theorem qfA (x y:Int):cmp_Compare_int x y=some (qhI x y):=by
 unfold cmp_Compare_int cmp_isNaN_int qhI
 rw[ZB,ZB,if_neg (by simp),if_neg (by simp)]
 by_cases h:x<y
 ·rw[if_pos h,if_pos h]
 rw[if_neg h,if_neg h]
 by_cases g:x>y
 ·rw[if_pos g,if_pos g]
 rw[if_neg g,if_neg g]
def yB:List Int->List Int->Int
 |[],[]=>0
 |[],_::_=> -1
 |_::_,[]=>1
 |x::a,y::b=>if x<y then-1 else if x>y then 1 else yB a b
theorem qdx: ∀a:List Int,yB a a=0
 |[]=>rfl
 |x::a=>by
  unfold yB
  rw[if_neg (by omega),if_neg (by omega),qdx a]
theorem qew: ∀a b:List Int,¬yB a b<0-> ¬yB b a<0->a=b
 |[],[],_,_=>rfl
 |[],_::_,h,_=>absurd (show(-1:Int)<0 by decide) h
 |_::_,[],_,h=>absurd (show(-1:Int)<0 by decide) h
 |x::a,y::b,h,g=>by
  unfold yB at h g
  by_cases c:x<y
  ·rw[if_pos c]at h
   exact absurd (by decide) h
  rw[if_neg c]at h
  by_cases d:x>y
  ·rw[if_pos d]at g
   exact absurd (by decide) g
  rw[if_neg d]at h
  rw[if_neg d,if_neg c]at g
  rw[qew a b h g,show x=y by omega]
theorem qcm: ∀a b c:List Int,yB a b<0->yB b c<0->yB a c<0
 |[],[],c,h,g=>by simp[yB]at h
 |[],_::_,[],h,g=>by simp[yB]at g
 |[],_::_,_::_,h,g=>by simp[yB]
 |_::_,[],c,h,g=>by simp[yB]at h
 |_::_,_::_,[],h,g=>by simp[yB]at g
 |x::a,y::b,z::c,h,g=>by
  unfold yB at h g⊢
  by_cases h1:x<y
  ·by_cases g1:y<z
   ·rw[if_pos (by omega)];decide
   rw[if_neg g1]at g
   by_cases g2:y>z
   ·rw[if_pos g2]at g;exact absurd g (by decide)
   rw[if_pos (by omega)];decide
  rw[if_neg h1]at h
  by_cases h2:x>y
  ·rw[if_pos h2]at h;exact absurd h (by decide)
  rw[if_neg h2]at h
  by_cases g1:y<z
  ·rw[if_pos (by omega)];decide
  rw[if_neg g1]at g
  by_cases g2:y>z
  ·rw[if_pos g2]at g;exact absurd g (by decide)
  rw[if_neg g2]at g
  rw[if_neg (by omega),if_neg (by omega)]
  exact qcm a b c h g
def ltW (a b:List Int):Prop:=a.length<b.length\/(a.length=b.length/\yB a b<0)
instance (a b:List Int):Decidable (ltW a b):=inferInstanceAs (Decidable (_\/_))
theorem qh7 (a:List Int): ¬ltW a a:=by
 rintro(h|⟨_,h⟩)
 ·omega
 rw[qdx]at h;exact absurd h (by decide)
theorem qdp {a b c:List Int} (h:ltW a b) (g:ltW b c):ltW a c:=by
 rcases h with h|⟨h1,h2⟩<;>rcases g with g|⟨g1,g2⟩
 ·exact .inl (by omega)
 ·exact .inl (by omega)
 ·exact .inl (by omega)
 exact .inr ⟨by omega,qcm a b c h2 g2⟩
theorem qfG {a b:List Int} (h: ¬ltW a b) (g: ¬ltW b a):a=b:=by
 have e:a.length=b.length:=by
  rcases Nat.lt_trichotomy a.length b.length with c|c|c
  ·exact absurd (.inl c) h
  ·exact c
  exact absurd (.inl c) g
 exact qew a b (fun c=>h (.inr ⟨e,c⟩)) (fun c=>g (.inr ⟨e.symm,c⟩))
theorem qht {a b:List Int} (ha:a.length<=100) (hb:b.length<=100): ∀(K i:Nat),i<=a.length->i<=b.length->a.length<K+i->((qW a b K (i:Int)).bind (fun|(.inl (l2,l3))=>if(l2.length:Int)<(l3.length:Int)then some (-1)else some 0|(.inr q13)=>some q13):Option Int)=some (yB (a.drop i) (b.drop i))
 |0,i,h1,h2,hK=>by omega
 |K+1,i,h1,h2,hK=>by
  unfold qW
  by_cases hi:i<a.length
  ·rw[if_pos (by omega),qA,Ya hi,ZB,jV hi]
   by_cases hj:i<b.length
   ·rw[if_neg (by omega),qA,Ya hj,ZB,jV hj,qfA,ZB]
    unfold yB qhI
    by_cases c:a[i]<b[i]
    ·rw[if_pos c,if_pos c]
     rfl
    rw[if_neg c,if_neg c]
    by_cases d:a[i]>b[i]
    ·rw[if_pos d,if_pos d]
     rfl
    rw[if_neg d,if_neg d,if_neg (by simp),zu (by omega)]
    exact qht ha hb K (i+1) (by omega) (by omega) (by omega)
   rw[if_pos (by omega),List.drop_eq_nil_of_le (show b.length<=i by omega)]
   rfl
  rw[if_neg (by omega),List.drop_eq_nil_of_le (show a.length<=i by omega),ZB]
  simp only
  by_cases hj:i<b.length
  ·rw[if_pos (by omega),jV hj]
   rfl
  rw[if_neg (by omega),List.drop_eq_nil_of_le (by omega)]
  rfl
theorem qh3 {N:Nat} (hN:2000<N) {a b:List Int} (ha:a.length<=100) (hb:b.length<=100):jN N a b=some (yB a b):=by
 have:=qht ha hb N 0 (by omega) (by omega) (by omega)
 rw[YR,YR,show((0:Nat):Int)=0 from rfl]at this
 exact this
theorem qiz {a b:List Int} (e:a.length=b.length) (ha:a.length<=100): ∀(K i:Nat),i<=a.length->a.length<K+i->((zQ a b K (i:Int)).bind (fun|(.inl ())=>some false|(.inr q8)=>some q8):Option Bool)=some (decide (yB (a.drop i) (b.drop i)<0))
 |0,i,h1,hK=>by omega
 |K+1,i,h1,hK=>by
  unfold zQ
  by_cases hi:i<a.length
  ·have hj:i<b.length:=by omega
   rw[if_pos (by omega),qA,Ya hi,ZB,jV hi,qA,Ya hj,ZB,jV hj]
   unfold yB
   by_cases c:a[i]<b[i]
   ·rw[if_pos c,if_pos (by simp;omega),decide_eq_true c]
    rfl
   rw[if_neg c]
   by_cases d:a[i]>b[i]
   ·rw[if_pos d,if_pos (by simp;omega),decide_eq_false c]
    rfl
   rw[if_neg d,if_neg (by simp;omega),zu (by omega)]
   exact qiz e ha K (i+1) (by omega) (by omega)
  rw[if_neg (by omega),List.drop_eq_nil_of_le (show a.length<=i by omega),List.drop_eq_nil_of_le (show b.length<=i by omega)]
  rfl
theorem qiQ {N:Nat} (hN:2000<N) {a b:List Int} (e:a.length=b.length) (ha:a.length<=100):vC N a b=some (decide (yB a b<0)):=by
 have:=qiz e ha N 0 (by omega) (by omega)
 rw[YR,YR,show((0:Nat):Int)=0 from rfl]at this
 exact this
theorem qi0 (a b:List Int):(qC [qhI (a.length:Int) (b.length:Int),yB a b]<0)=ltW a b:=by
 unfold ltW qhI
 by_cases h:a.length<b.length
 ·rw[if_pos (by omega)]
  exact propext ⟨fun _=> .inl h,fun _=>(by show(-1:Int)<0;decide)⟩
 rw[if_neg (by omega)]
 by_cases g:(a.length:Int)>(b.length:Int)
 ·rw[if_pos g]
  exact propext ⟨fun c=>absurd c (by unfold qC;rw[if_neg (by decide)];decide),fun c=>by omega⟩
 rw[if_neg g]
 have e:qC [0,yB a b]=yB a b:=by
  unfold qC qC
  rw[if_pos rfl]
  by_cases z:yB a b=0
  ·rw[if_pos z,z]
   rfl
  rw[if_neg z]
 rw[e]
 exact propext ⟨fun c=> .inr ⟨by omega,c⟩,fun c=>by
  rcases c with c|c
  ·omega
  exact c.2⟩
theorem qiY {N:Nat} (hN:2000<N) {a b:List Int} (ha:a.length<=100):((if(a.length:Int)<(b.length:Int)then some true else if(a.length:Int)=(b.length:Int)then(vC N a b).bind fun r33=>some r33 else some false:Option Bool))=some (decide (ltW a b)):=by
 by_cases h:a.length<b.length
 ·rw[if_pos (by omega),decide_eq_true (show ltW a b from .inl h)]
 rw[if_neg (by omega)]
 by_cases g:a.length=b.length
 ·rw[if_pos (by omega),qiQ hN g ha,ZB]
  congr 1
  rw[decide_eq_decide]
  exact⟨fun c=> .inr ⟨g,c⟩,fun c=>by
   rcases c with c|c
   ·omega
   exact c.2⟩
 rw[if_neg (by omega),decide_eq_false (fun c:ltW a b=>by
  rcases c with c|c
  ·omega
  exact g c.1)]
def Best (F P R:List Int) (b:Bool):Prop:=(b=false->P=F)/\(b=true->P=if ltW R F then R else F)
theorem qgq {F P R w:List Int} {b:Bool} (h:Best F P R b):Best F (if ltW w P then w else P) (if(b=false\/ltW w R)then w else R) true:=by
 refine⟨fun c=>(by cases c),fun _=>?_⟩
 cases b with
 |false=>
  have e1:(if(false=false\/ltW w R)then w else R)=w:=if_pos (.inl rfl)
  rw[e1,h.1 rfl]
 |true=>
  have hP:=h.2 rfl
  by_cases c:ltW w R
  ·have e1:(if(true=false\/ltW w R)then w else R)=w:=if_pos (.inr c)
   rw[e1]
   by_cases d:ltW R F
   ·rw[if_pos d]at hP
    rw[hP,if_pos c,if_pos (qdp c d)]
   rw[if_neg d]at hP
   rw[hP]
  have e1:(if(true=false\/ltW w R)then w else R)=R:=if_neg (fun z=>by
   rcases z with z|z
   ·cases z
   exact c z)
  rw[e1]
  by_cases d:ltW R F
  ·rw[if_pos d]at hP
   rw[hP,if_neg c,if_pos d]
  rw[if_neg d]at hP
  rw[hP,if_neg d]
  by_cases e:ltW w F
  ·exfalso
   by_cases q:ltW F R
   ·exact c (qdp e q)
   rw[qfG d q]at c
   exact c e
  rw[if_neg e]
theorem qhG {N:Nat} (hN:2000<N) (day:Int) {lots:List qj} {holds:List qh} (hh:holds.length<=300) {F:List Int} (hF:qcM lots holds F) (h8:F.length<=8) {amount:Int} (a0:0<=amount) (a1:amount<=999999999) (ht:amount<=vQ (gF lots holds) F): ∀(K m:Nat) (P R:List Int) (b:Bool),m<=2^F.length->2^F.length<K+m->P.length<=8->R.length<=8->Best F P R b->(m=2^F.length->b=true/\ ¬ltW F R)->
 ∃Q,jE N ⟨day,lots,holds⟩ amount F ((2^F.length:Nat):Int) K P (m:Int)=some Q/\zn N ⟨day,lots,holds⟩ amount F K R b (m:Int)=some (Q,true)/\Q.length<=8
 |0,m,P,R,b,hm,hK,hP,hR,hB,hl=>by omega
 |K+1,m,P,R,b,hm,hK,hP,hR,hB,hl=>by
  have hp:=qdI h8
  unfold jE zn
  rw[qdC h8,ZB]
  by_cases c:m<2^F.length
  ·obtain⟨w,S,r1,r2,r3,r4,r5,r6⟩:=qfF hN day hh hF h8 c a0 a1 N 0 [] 0 (by omega) (by omega) (by omega) (by simp[vQ]) (by simp)
   rw[Int.sub_zero,show((0:Nat):Int)=0 from rfl]at r1
   rw[show((0:Nat):Int)=0 from rfl]at r2
   rw[if_pos (by omega),if_pos (by omega),r1,r2]
   simp only[ZB]
   have hlast: ∀R':List Int,(S>=amount-> ¬ltW w R')->(m+1=2^F.length-> ¬ltW F R'):=fun R' h q=>by
    obtain⟨q1,q2⟩:=r6 q rfl (by rw[List.take_zero];rfl)
    rw[q1]at h
    exact h (by omega)
   by_cases e:S>=amount
   ·have tr:((if(!b)=true then some true else if(w.length:Int)<(R.length:Int)then some true else if(w.length:Int)=(R.length:Int)then(vC N w R).bind fun r33=>some r33 else some false:Option Bool))=some (decide (b=false\/ltW w R)):=by
     cases b with
     |false=>
      rw[if_pos (show(!false)=true from rfl),decide_eq_true (show false=false\/ltW w R from .inl rfl)]
     |true=>
      rw[if_neg (by simp),qiY hN (by omega)]
      congr 1
      rw[decide_eq_decide]
      exact⟨fun c=> .inr c,fun c=>c.elim (fun q=>by cases q) id⟩
    rw[if_pos e,tr,if_neg (show¬amount-S>0 by omega),qfA,ZB,qh3 hN (by omega) (by omega),ZB,qgt hN (by simp),ZB,ZB]
    simp only[qi0]
    have hB':=qgq (w:=w) hB
    have eP:((if ltW w P then some w else some P:Option (List Int)))=some (if ltW w P then w else P):=by
     by_cases z:ltW w P
     ·rw[if_pos z,if_pos z]
     rw[if_neg z,if_neg z]
    have eR:((if decide (b=false\/ltW w R)=true then some (w,true)else some (R,b):Option (List Int×Bool)))=some (if(b=false\/ltW w R)then w else R,true):=by
     by_cases z:b=false\/ltW w R
     ·rw[if_pos (decide_eq_true z),if_pos z]
     have:b=true:=by
      cases b with
      |true=>rfl
      |false=>exact absurd (.inl rfl) z
     rw[if_neg (fun y=>z (of_decide_eq_true y)),if_neg z,this]
    rw[eP,eR]
    simp only[ZB]
    rw[zu (by omega)]
    refine qhG hN day hh hF h8 a0 a1 ht K (m+1) _ _ true (by omega) (by omega) (by split<;>omega) (by split<;>omega) hB' (fun q=>⟨rfl,hlast _ (fun _=>?_) q⟩)
    by_cases z:b=false\/ltW w R
    ·rw[if_pos z]
     exact qh7 w
    rw[if_neg z]
    exact fun y=>z (.inr y)
   rw[if_neg e,if_pos (show amount-S>0 by omega)]
   simp only[ZB,ZF,if_false]
   rw[zu (by omega)]
   refine qhG hN day hh hF h8 a0 a1 ht K (m+1) P R b (by omega) (by omega) hP hR hB (fun q=>?_)
   obtain⟨q1,q2⟩:=r6 q rfl (by rw[List.take_zero];rfl)
   omega
  rw[if_neg (by omega),if_neg (by omega)]
  have hm:m=2^F.length:=by omega
  obtain⟨rfl,hn⟩:=hl hm
  have hP2:=hB.2 rfl
  refine⟨P,rfl,?_,hP⟩
  by_cases d:ltW R F
  ·rw[if_pos d]at hP2
   rw[hP2]
  rw[if_neg d]at hP2
  rw[hP2,qfG d hn]
theorem qex {N:Nat} (hN:2000<N) (day:Int) {lots:List qj} {holds:List qh} (hh:holds.length<=300) {F:List Int} (hF:qcM lots holds F) (h8:F.length<=8) {amount:Int} (a0:0<=amount) (a1:amount<=999999999) (ht:vQ (gF lots holds) F<amount): ∀(K m:Nat),m<=2^F.length->2^F.length<K+m->zn N ⟨day,lots,holds⟩ amount F K [] false (m:Int)=some ([],false)
 |0,m,hm,hK=>by omega
 |K+1,m,hm,hK=>by
  have hp:=qdI h8
  unfold zn
  rw[qdC h8,ZB]
  by_cases c:m<2^F.length
  ·obtain⟨w,S,r1,r2,r3,r4,r5,r6⟩:=qfF hN day hh hF h8 c a0 a1 N 0 [] 0 (by omega) (by omega) (by omega) (by simp[vQ]) (by simp)
   rw[show((0:Nat):Int)=0 from rfl]at r2
   rw[if_pos (by omega),r2]
   simp only[ZB]
   rw[if_neg (show¬S>=amount by omega)]
   simp only[ZB,ZF,if_false]
   rw[zu (by omega)]
   exact qex hN day hh hF h8 a0 a1 ht K (m+1) (by omega) (by omega)
  rw[if_neg (by omega)]
end Go.Av
end
section
namespace Go.Av
theorem qfM {a:List Int} (hl:a.length<=1000): ∀(K i:Nat),i<=a.length->a.length<K+i->zo a a K (i:Int)=some (.inl ())
 |0,i,h,hK=>by omega
 |K+1,i,h,hK=>by
  unfold zo
  by_cases hi:i<a.length
  ·rw[if_pos (by omega),qA,Ya hi,ZB,ZB,if_neg (by simp),zu (by omega)]
   exact qfM hl K (i+1) (by omega) (by omega)
  rw[if_neg (by omega)]
theorem qhd {N:Nat} (hN:2000<N) {a:List Int} (hl:a.length<=1000):vo N a a=some true:=by
 unfold vo
 rw[if_neg (by simp),show(0:Int)=((0:Nat):Int)from rfl,qfM hl N 0 (by omega) (by omega)]
 rfl
theorem qgT {F:List Int} (h8:F.length<=8):slices_Clone_int F=some F:=by
 cases F with
 |nil=>
  show jc=some []
  unfold jc
  rw[qbM (by decide) (by decide),ZB]
  unfold qfP
  rw[if_pos (show some ([]:List Int)=some ([]++[])from rfl)]
 |cons a t=>
  show jd a t=some (a::t)
  unfold jd
  rw[qbM (by simp only[Yr,List.length_nil]at*;omega) (by simp only[Yr,List.length_nil]at*;omega)]
  rfl
def qen (ya dy:Str):Int:=if jT ya=true then if qbV dy=true then 0 else 8 else 8
theorem qi5 {N:Nat} (hN:2000<N) {ya dy:Str} (am:Int) (h1:ya.length<=60) (h2:dy.length<=60):jQ N ⟨ya,dy,am⟩=some (qen ya dy):=by
 unfold jQ qen
 simp only
 rw[yn (by omega) (by omega),ZB]
 cases jT ya with
 |false=>rfl
 |true=>
  rw[if_neg (by simp),qdU (by omega) (by omega),ZB,xJ]
  cases qbV dy<;>rfl
theorem qih {N:Nat} (hN:2000<N) {s:StateT} {e:Int} (he:ku N s=some e) {ya dy:Str} (h1:ya.length<=60) (h2:dy.length<=60):zI N s ya dy=some (qC [e,qen ya dy]):=by
 unfold zI qen
 rw[he,ZB,qaO (by omega),ZB,qfS (by omega),ZB,qbg hN (by simp),ZB]
 congr 1
 unfold qC
 by_cases z:e=0
 ·rw[if_pos z,if_pos z]
  cases jT ya<;>cases qbV dy<;>rfl
 rw[if_neg z,if_neg z]
theorem qdt {a b:Int} (h:qC [a,b]=0):a=0/\b=0:=by
 unfold qC qC at h
 by_cases z:a=0
 ·rw[if_pos z]at h
  by_cases y:b=0
  ·exact⟨z,y⟩
  rw[if_neg y]at h
  exact absurd h y
 rw[if_neg z]at h
 exact absurd h z
theorem qgg {N:Nat} (hN2:2000<N) {day:Int} {lots:List qj} {holds:List qh} (hl:lots.length<=100) (hh:holds.length<=300) {e:Int} (e1:ku N ⟨day,lots,holds⟩=some e) (e3:e=0->yV lots/\qbz holds) (lot:Str): ∃f1 f2,xK N ⟨day,lots,holds⟩ lot=some (f1,f2)/\((if e=0 then(qE N ⟨day,lots,holds⟩ lot).bind fun r28=>(zP (decide (r28<0)) 10).bind fun r29=>if r28>=0 then(qO N ⟨day,lots,holds⟩ r28).bind fun r31=>some (r29,r31)else some (r29,0)else some (e,0):Option (Int×Int)))=some (f2,f1):=by
 unfold xK
 rw[e1,ZB]
 by_cases z:e=0
 ·obtain⟨ok,hk⟩:=e3 z
  rw[if_neg (by simp[z]),if_pos z]
  rcases qhN hN2 day holds hl ok lot with⟨j,x,p1,p2,p3⟩|⟨p,p1,p2⟩
  ·rw[p1,p2,ZB,ZB,if_neg (by simp),xJ,ZB,if_pos (show(j:Int)>=0 by omega),qay hN2 hh day p3 (vE (ok j x p3)).1,decide_eq_false (show¬(j:Int)<0 by omega)]
   simp only
   rw[qA,p3,ZB,free_eq hN2 hh]
   exact⟨_,_,rfl,rfl⟩
  rw[p1,p2,ZB,ZB,if_pos (show(!(p,false).2)=true from rfl),xJ]
  exact⟨_,_,rfl,rfl⟩
 rw[if_pos (by simp[z]),if_neg z]
 exact⟨_,_,rfl,rfl⟩
theorem qfm {N:Nat} (hN2:2000<N) {day:Int} {lots:List qj} {holds:List qh} (hl:lots.length<=100) (hh:holds.length<=300) {e:Int} (e1:ku N ⟨day,lots,holds⟩=some e) (e3:e=0->yV lots/\qbz holds) {D:Int} {ya dy:Str} (hdy:zI N ⟨day,lots,holds⟩ ya dy=some D) (D0:D=0->e=0): ∃x y,yZ N ⟨day,lots,holds⟩ ya dy=some (x,y,D)/\((if D=0 then(yE N ⟨day,lots,holds⟩ ya dy).bind fun r36=>some (r36.1,r36.2)else some (0,0):Option (Int×Int)))=some (x,y):=by
 unfold yZ yE
 rw[hdy,ZB]
 by_cases z:D=0
 ·obtain⟨ok,hk⟩:=e3 (D0 z)
  obtain⟨r,r1,r2⟩:=qca hN2 day hl hh ok ya dy N 0 0 0 (by omega) (by omega)
  rw[show((0:Nat):Int)=0 from rfl]at r1 r2
  rw[if_neg (by simp[z]),if_pos z,r1,r2,z]
  exact⟨r.1,r.2,rfl,rfl⟩
 rw[if_pos (by simp[z]),if_neg z]
 exact⟨_,_,rfl,rfl⟩
theorem qeE {N:Nat} (hN2:2000<N) {D W am:Int} (hW:W=if vv am 0 999999999=true then 3 else 0):((if am<0 then(zP true 3).bind fun r17=>(z8 N [D,r17]).bind fun r18=>some (r17,r18)else(zP (decide (am>999999999)) 3).bind fun r19=>(z8 N [D,r19]).bind fun r20=>some (r19,r20):Option (Int×Int)))=some (W,qC [D,W]):=by
 unfold vv at hW
 by_cases z:am<0
 ·rw[if_pos z,xJ,ZB,lfst hN2 (by simp),ZB,hW,decide_eq_true z]
  try rfl
 rw[if_neg z,xJ,ZB,lfst hN2 (by simp),ZB,hW,decide_eq_false z,Bool.false_or]
 try rfl
theorem qfi {N:Nat} (hN2:2000<N) {day:Int} {lots:List qj} {holds:List qh} (hl:lots.length<=100) (hh:holds.length<=300) {e:Int} (e1:ku N ⟨day,lots,holds⟩=some e) (e3:e=0->yV lots/\qbz holds) {D W am:Int} {ya dy:Str} (hdy:zI N ⟨day,lots,holds⟩ ya dy=some D) (D0:D=0->e=0) (hW:W=if vv am 0 999999999=true then 3 else 0): ∃l f,yU N ⟨day,lots,holds⟩ ya dy am=some (l,f)/\((if qC [D,W]=0 then(yI N ⟨day,lots,holds⟩ ya dy am).bind fun r41=>some (r41.2,r41.1)else some (qC [D,W],[]):Option (Int×List Int)))=some (f,l)/\l.length<=1000:=by
 unfold yU
 rw[hdy,ZB,qaJ,ZB,<-hW,qbg hN2 (by simp),ZB]
 by_cases z:qC [D,W]=0
 ·obtain⟨z1,z2⟩:=qdt z
  obtain⟨ok,hk⟩:=e3 (D0 z1)
  have ham:0<=am/\am<=999999999:=by
   cases c:vv am 0 999999999 with
   |false=>exact qa6 c
   |true=>
    rw[c,if_pos rfl]at hW
    omega
  obtain⟨F,f1,f2,f3,f4⟩:=qix hN2 day hl hh ok hk ya dy N 0 [] (by omega) (by omega) (by simp) (fun x hx=>by cases hx)
  rw[show vQ (gF lots holds) []=0 from rfl,show((0:Nat):Int)=0 from rfl]at f1
  rw[show((0:Nat):Int)=0 from rfl]at f2
  unfold yI qaN
  rw[if_neg (by simp[z]),if_pos z,f1,f2]
  simp only[ZB]
  rw[ji,ZB,ji,ZB,qbg hN2 (by simp),ZB]
  by_cases g:(F.length:Int)>8
  ·have h26:qC [if decide ((F.length:Int)>8)=true then 22 else 0,if decide (vQ (gF lots holds) F<am)=true then 32 else 0]=22:=by
    rw[decide_eq_true g]
    rfl
   rw[h26,if_pos (show(!decide ((22:Int)=0))=true by decide),if_pos g]
   exact⟨[],22,rfl,rfl,by simp⟩
  have h8:F.length<=8:=by omega
  have hpw:=qdI h8
  rw[if_neg g]
  by_cases q:vQ (gF lots holds) F<am
  ·have ho:=qex hN2 day hh f4 h8 ham.1 ham.2 q N 0 (Nat.zero_le _) (by omega)
   rw[show((0:Nat):Int)=0 from rfl]at ho
   have h26:qC [if decide ((F.length:Int)>8)=true then 22 else 0,if decide (vQ (gF lots holds) F<am)=true then 32 else 0]=32:=by
    rw[decide_eq_false g,decide_eq_true q]
    rfl
   rw[h26,if_pos (show(!decide ((32:Int)=0))=true by decide),ho]
   exact⟨[],32,rfl,rfl,by simp⟩
  obtain⟨Q,q1,q2,q3⟩:=qhG hN2 day hh f4 h8 ham.1 ham.2 (by omega) N 0 F [] false (Nat.zero_le _) (by omega) h8 (by simp) ⟨fun _=>rfl,fun c=>by cases c⟩ (fun c=>by omega)
  rw[show((0:Nat):Int)=0 from rfl]at q1 q2
  have h26:qC [if decide ((F.length:Int)>8)=true then 22 else 0,if decide (vQ (gF lots holds) F<am)=true then 32 else 0]=0:=by
   rw[decide_eq_false g,decide_eq_false q]
   rfl
  rw[h26,if_neg (show¬(!decide ((0:Int)=0))=true by decide),qgT h8,ZB,qdC h8,ZB,q1,q2]
  exact⟨Q,0,rfl,rfl,by omega⟩
 rw[if_pos (by simp[z]),if_neg z]
 exact⟨[],_,rfl,rfl,by simp⟩
theorem qcv {N:Nat} (s:StateT) (lot:Str) (a:qfo) (hN:600000+s.Lots.length+s.Holds.length<N) (b1:s.Lots.length*56<=140737488355328) (b2:s.Holds.length*48<=140737488355328):vY N s lot a=some true:=by
 obtain⟨day,lots,holds⟩:=s
 obtain⟨ya,dy,am⟩:=a
 simp only at hN b1 b2
 have hN2:2000<N:=by omega
 unfold vY awk
 have hcp:vR N ⟨day,lots,holds⟩=some ⟨day,lots,holds⟩:=qgh (s:=⟨day,lots,holds⟩) (show lots.length<N by omega) (show holds.length<N by omega) b1 b2
 rw[hcp,ZB]
 simp only
 obtain⟨b,hb,hsh⟩:=qhp hN2 day lots holds
 rw[hb]
 simp only[ZB,Bool.not_true,ZF,if_false]
 cases b with
 |false=>rfl
 |true=>
  obtain⟨hl,hh,sl,sh⟩:=hsh rfl
  simp only[Bool.not_true,ZF,if_false]
  by_cases t1:(lot.length:Int)>60
  ·rw[if_pos t1];rfl
  by_cases t2:(ya.length:Int)>60
  ·rw[if_neg t1,if_pos t2];rfl
  by_cases t3:(dy.length:Int)>60
  ·rw[if_neg t1,if_neg t2,decide_eq_true t3];rfl
  rw[if_neg t1,if_neg t2,decide_eq_false t3]
  simp only[ZB,ZF,if_false]
  obtain⟨e,e1,e2,e3⟩:=qfg hN2 day hl hh sl sh
  have hask:=qi5 hN2 (ya:=ya) (dy:=dy) am (by omega) (by omega)
  have hdy:=qih hN2 e1 (ya:=ya) (dy:=dy) (by omega) (by omega)
  have hD:z8 N [e,qen ya dy]=some (qC [e,qen ya dy]):=lfst hN2 (by simp)
  have D0:qC [e,qen ya dy]=0->e=0:=fun h=>(qdt h).1
  generalize qC [e,qen ya dy]=D at*
  have hFree:=qgg hN2 hl hh e1 e3 lot
  have hStock:=qfm hN2 hl hh e1 e3 hdy D0
  obtain⟨W,hW⟩: ∃W:Int,W=if vv am 0 999999999=true then 3 else 0:=⟨_,rfl⟩
  have hB:=qeE (D:=D) hN2 hW
  have hMatch:=qfi hN2 hl hh e1 e3 hdy D0 hW
  obtain⟨f1,f2,F1,F2⟩:=hFree
  obtain⟨x,y,S1,S2⟩:=hStock
  obtain⟨l,f,M1,M2,M3⟩:=hMatch
  rw[F1,S1,M1,e2,hask]
  simp only[ZB]
  rw[hD]
  simp only[ZB]
  rw[hB]
  simp only[ZB]
  rw[F2]
  simp only[ZB]
  rw[S2]
  simp only[ZB]
  rw[M2]
  simp only[ZB,if_true,qhd hN2 M3]
end Go.Av
end
