/-
  Names.
-/
import Derived.Test.YtcnioemfifogeaaGreatDoorAvPt
import Derived.Test.YtcnioemfifogeaaGreatDoorQGenA1k
noncomputable section
set_option linter.unusedSimpArgs false
set_option linter.unusedVariables false
set_option maxRecDepth 100000
set_option linter.unusedSectionVars false
section
namespace Go.Av
theorem qs3 {s:Str} {k:Nat} {c:UInt8} (h:s[k]? =some c):((⟨s.toArray⟩:ByteArray).get! k)=c:=by
 have hk:=(Yb.1 h).1
 show s.toArray[k]! =c
 rw[getElem!_def]
 simp[h]
theorem qtS {s:Str} {k:Nat} {c:UInt8} (h:s[k]? =some c) (hc:c.toNat<128):qdQ s k=c.toNat/\runeLen s k=1:=by
 have e:=qs3 h
 unfold qdQ runeLen Utf8.decode
 simp only[Nat.add_zero,e,if_pos hc,and_self]
theorem qu1 {s:Str} {k:Nat} {c:UInt8} (h:s[k]? =some c) (hc:128<=c.toNat):128<=qdQ s k:=by
 have e:=qs3 h
 unfold qdQ Utf8.decode
 simp only[Nat.add_zero,e,if_neg (Nat.not_lt.2 hc)]
 have hr:(128:Nat)<=Utf8.runeError:=by decide
 repeat' split
 all_goals first|(simp only[Bool.and_eq_true,decide_eq_true_eq]at*;omega)|(simp;omega)|omega
def qsk (c:Int):Bool:=(decide (97<=c)&&decide (c<=122))||(decide (65<=c)&&decide (c<=90))
theorem qo8 (c:Int):qdU c=some (qsk c):=by
 unfold qdU qsk
 by_cases h1:c>=97<;>by_cases h2:c<=122<;>by_cases h3:c>=65<;>by_cases h4:c<=90<;>simp[h1,h2,h3,h4]<;>omega
def quc (k:Nat) (c:Int):Bool:=!qsk c&&(decide (k=0)||(!decide (c=95)&&(decide (c<48)||decide (c>57))))
def vS (s:Str):Bool:=decide (1<=s.length)&&decide (s.length<=24)&&!((List.range s.length).any fun k=>quc k (s.getD k 0).toNat)
theorem qwY {k:Nat} {c:Int} (h:128<=c):quc k c=true:=by
 unfold quc qsk
 simp
 omega
def qgu (s:Str) (k:Nat):Bool:=(List.range (s.length-k)).any fun j=>quc (k+j) (s.getD (k+j) 0).toNat
theorem qn0 {s:Str} {k:Nat} {c:UInt8} (h:s[k]? =some c):qgu s k=(quc k c.toNat||qgu s (k+1)):=by
 have hk:=(Yb.1 h).1
 unfold qgu
 rw[show s.length-k=(s.length-(k+1))+1 by omega,List.range_succ_eq_map,List.any_cons,List.any_map]
 congr 1
 ·simp[List.getD,h]
 congr 1
 funext j
 simp only[Function.comp,Nat.succ_eq_add_one]
 rw[show k+(j+1)=k+1+j by omega]
theorem qph {s:Str} {k:Nat} (h:s.length<=k):qgu s k=false:=by
 unfold qgu
 rw[show s.length-k=0 by omega]
 rfl
theorem qq8 (s:Str): ∀(K k:Nat),k<=s.length->s.length<K+k->qb8 s K k=some (if qgu s k then .inr false else .inl ())
 |0,k,h,hK=>by omega
 |K+1,k,h,hK=>by
  unfold qb8
  by_cases hk:k<s.length
  ·have hc:s[k]? =some s[k]:=Ya hk
   rw[if_pos hk,qo8,qn0 hc]
   by_cases ha:(s[k]).toNat<128
   ·obtain⟨e1,e2⟩:=qtS hc ha
    rw[e1,e2,qq8 s K (k+1) (by omega) (by omega)]
    have ek:((k:Int)=0)↔k=0:=by omega
    unfold quc
    generalize ((s[k]).toNat:Int)=c
    cases hl:qsk c<;>by_cases h0:k=0<;>by_cases h1:c=95<;>by_cases h2:c<48<;>by_cases h3:57<c<;>
     simp[hl,h0,h1,h2,h3]
   have hw:=qu1 hc (by omega)
   rw[qwY (show(128:Int)<=((s[k]).toNat:Int)by omega)]
   have hl:qsk (qdQ s k)=false:=by unfold qsk;simp;omega
   have h1: ¬qdQ s k=95:=by omega
   have h2: ¬qdQ s k<48:=by omega
   have h3:qdQ s k>57:=by omega
   have ek:((k:Int)=0)↔k=0:=by omega
   simp only[hl,ZB,Bool.not_false,if_true,h1,h2,h3,decide_true,decide_false,if_false,Bool.true_or,ek]
   by_cases h0:k=0
   ·simp only[h0,if_true,ZB]
   simp only[h0,if_false,ZB,if_true]
  rw[if_neg hk,qph (by omega)]
  rfl
theorem qtq (s:Str):vS s=(decide (1<=s.length)&&decide (s.length<=24)&&!qgu s 0):=by
 unfold vS qgu
 simp
theorem qrj {N:Nat} {s:Str} (h:s.length<N):qe4 N s=some (vS s):=by
 unfold qe4
 rw[qq8 s N 0 (Nat.zero_le _) (by omega),qtq]
 cases hb:qgu s 0
 ·cases s with
  |nil=>simp
  |cons x xs=>
   have e:((x::xs)==([]:Str))=false:=rfl
   simp only[ZB,ZF,if_false,e,Bool.not_false,if_true,Bool.and_true,ZI]
   have:(1<=(x::xs).length):=by simp
   rw[Bool.eq_iff_iff]
   simp only[decide_eq_true_eq,Bool.and_eq_true,this,true_and]
   omega
 simp
theorem qqb (s:Str) (hs:s.length<4611686018427387904): ∀(K k:Nat),k<=s.length->s.length<K+k->qdm s K (k:Int)=some (if qgu s k then .inr false else .inl ())
 |0,k,h,hK=>by omega
 |K+1,k,h,hK=>by
  unfold qdm
  by_cases hk:k<s.length
  ·have hc:s[k]? =some s[k]:=Ya hk
   rw[if_pos (by omega),vK,hc,qn0 hc,qbM (by omega),qqb s hs K (k+1) (by omega) (by omega)]
   simp only[ZB]
   have ek:((k:Int)=0)↔k=0:=by omega
   unfold quc
   generalize ((s[k]).toNat:Int)=c
   rw[show(if c>=97 then if c<=122 then some true else if c>=65 then some (decide (c<=90))else some false else if c>=65 then some (decide (c<=90))else some false:Option Bool)=some (qsk c)from by
    have:=qo8 c
    unfold qdU at this
    rw[<-this]
    cases(if c>=97 then if c<=122 then some true else if c>=65 then some (decide (c<=90))else some false else if c>=65 then some (decide (c<=90))else some false:Option Bool)<;>rfl]
   simp only[ZB,ek]
   cases qsk c
   ·by_cases h5:k=0
    ·simp[h5]
    by_cases h6:c>=48
    ·by_cases h7:c<=57
     ·have a1: ¬c<48:=by omega
      have a2: ¬c>57:=by omega
      simp[h5,h6,h7,a1,a2]
     have a1: ¬c<48:=by omega
     have a2:c>57:=by omega
     by_cases h8:c=95<;>simp[h5,h6,h7,h8,a1,a2]
    have a1:c<48:=by omega
    by_cases h8:c=95<;>simp[h5,h6,h8,a1]
   simp
  rw[if_neg (by omega),qph (by omega)]
  rfl
theorem qfk {N:Nat} {s:Str} (h:s.length<N) (hs:s.length<4611686018427387904):qbC N s=some (vS s):=by
 unfold qbC
 rw[show(0:Int)=((0:Nat):Int)from rfl,qqb s hs N 0 (Nat.zero_le _) (by omega),qtq]
 by_cases h1:s.length<1
 ·rw[if_pos (by omega)]
  simp[show¬1<=s.length by omega]
 by_cases h2:s.length>24
 ·rw[if_neg (by omega)]
  simp only[ZB,show((s.length:Int)>24)by omega,decide_true,if_true,show¬s.length<=24 by omega,decide_false,Bool.and_false,Bool.false_and]
 rw[if_neg (by omega)]
 simp only[ZB,show¬((s.length:Int)>24)by omega,decide_false,ZF,if_false,show 1<=s.length by omega,show s.length<=24 by omega,decide_true,Bool.true_and]
 cases hb:qgu s 0<;>rfl
end Go.Av
end
section
namespace Go.Av
def qe7:List Int->Int
 |[]=>0
 |a::l=>if a=0 then qe7 l else a
theorem qe2 {α:Type} {l:List α} {i:Nat} (h:i<l.length):l.drop i=l[i]::l.drop (i+1):=List.drop_eq_getElem_cons h
theorem qwW {l:List Int} (hl:l.length<=1000): ∀(K i:Nat),i<=l.length->l.length<K+i->qd2 l K (i:Int)=some (if qe7 (l.drop i)=0 then .inl ()else .inr (qe7 (l.drop i)))
 |0,i,h,hK=>by omega
 |K+1,i,h,hK=>by
  unfold qd2
  by_cases hi:i<l.length
  ·rw[if_pos (by omega),vK,Ya hi,ZB,qe2 hi]
   unfold qe7
   by_cases c:l[i]=0
   ·rw[if_neg (by simp[c]),if_pos c,qbM (by omega)]
    exact qwW hl K (i+1) (by omega) (by omega)
   rw[if_pos (by simp[c]),if_neg c,if_neg c]
  rw[if_neg (by omega),List.drop_eq_nil_of_le (by omega)]
  rfl
theorem qlp {N:Nat} {l:List Int} (hN:2000<N) (hl:l.length<=1000):qbt N l=some (qe7 l):=by
 unfold qbt
 rw[show(0:Int)=((0:Nat):Int)from rfl,qwW hl N 0 (by omega) (by omega),YR]
 by_cases c:qe7 l=0
 ·rw[if_pos c,ZB,c]
  rfl
 rw[if_neg c,ZB]
theorem qxQ {l:List Int} (hl:l.length<=1000): ∀(K i:Nat),i<=l.length->l.length<K+i->qd4 l K (i:Int)=some (if qe7 (l.drop i)=0 then .inl ()else .inr (qe7 (l.drop i)))
 |0,i,h,hK=>by omega
 |K+1,i,h,hK=>by
  unfold qd4
  by_cases hi:i<l.length
  ·rw[if_pos (by omega),vK,Ya hi,ZB,qe2 hi]
   unfold qe7
   by_cases c:l[i]=0
   ·rw[if_neg (by simp[c]),if_pos c,qbM (by omega)]
    exact qxQ hl K (i+1) (by omega) (by omega)
   rw[if_pos (by simp[c]),if_neg c,if_neg c]
  rw[if_neg (by omega),List.drop_eq_nil_of_le (by omega)]
  rfl
theorem qyC {N:Nat} {l:List Int} (hN:2000<N) (hl:l.length<=1000):qiM N l=some (qe7 l):=by
 unfold qiM
 rw[show(0:Int)=((0:Nat):Int)from rfl,qxQ hl N 0 (by omega) (by omega),YR]
 by_cases c:qe7 l=0
 ·rw[if_pos c,ZB,c]
  rfl
 rw[if_neg c,ZB]
theorem qbO (b:Bool) (e:Int):qak b e=some (if b=true then e else 0):=by
 unfold qak
 cases b<;>rfl
def qdS (n a b:Int):Bool:=decide (n<a)||decide (b<n)
theorem qmT (n a b:Int):qeV n a b=some (qdS n a b):=by
 unfold qeV qdS
 by_cases c:n<a
 ·rw[if_pos c,decide_eq_true c]
  rfl
 rw[if_neg c,decide_eq_false c,Bool.false_or]
 rfl
theorem qku (n a b:Int):qdt n a b=some (if qdS n a b=true then 3 else 0):=by
 unfold qdt qdS
 by_cases c:n<a
 ·rw[if_pos c,qbO,decide_eq_true c]
  rfl
 rw[if_neg c,qbO,decide_eq_false c,Bool.false_or]
 rfl
theorem qiy {N:Nat} {s:Str} (h:s.length<N):qd9 N s=some (if vS s=true then 0 else 8):=by
 unfold qd9
 rw[qrj h,ZB,qbO,ZB]
 cases vS s<;>rfl
def qia (s:Str):Bool:=s==[]||vS s
theorem qum {N:Nat} {s:Str} (h:s.length<N):qeW N s=some (if qia s=true then 0 else 8):=by
 unfold qeW qia
 cases c:(s==[]:Bool)with
 |true=>
  rw[if_neg (by simp),qbO]
  rfl
 |false=>
  rw[if_pos (by simp),qrj h,ZB,qbO,Bool.false_or]
  cases vS s<;>rfl
theorem qrE {N:Nat} {s:Str} (h:s.length<N) (hs:s.length<=100000):qgs N s=some (qia s):=by
 unfold qgs qia
 cases c:(s==[]:Bool)with
 |true=>rfl
 |false=>
  rw[if_neg (by simp),qfk h (by omega),Bool.false_or]
  rfl
theorem qhp: ∀a b:Str,Lib.compareBytes a b=if ltL a b=true then-1 else if(a==b)=true then 0 else 1
 |[],[]=>rfl
 |[],_::_=>rfl
 |_::_,[]=>rfl
 |a::x,b::y=>by
  unfold Lib.compareBytes
  by_cases h1:a<b
  ·rw[if_pos h1,if_pos (by simp[ltL,h1])]
  rw[if_neg h1]
  by_cases h2:b<a
  ·have hne:a≠b:=fun e=>by subst e;exact h1 h2
   have l:ltL (a::x) (b::y)=false:=by simp[ltL,h1,hne]
   rw[if_pos h2,l,if_neg (by simp),if_neg (by simp[hne])]
  have hab:a=b:=by
   have g1:=UInt8.not_lt.1 h1
   have g2:=UInt8.not_lt.1 h2
   exact UInt8.le_antisymm g2 g1
  subst hab
  rw[if_neg h2,qhp x y]
  have l:ltL (a::x) (a::y)=ltL x y:=by simp[ltL,h1]
  rw[l]
  by_cases e:x=y
  ·subst e
   simp
  have e1:(x==y)=false:=beq_false_of_ne e
  have e2:((a::x)==(a::y))=false:=beq_false_of_ne (fun h=>e (List.cons.inj h).2)
  rw[e1,e2]
def qkx:Option qH->qH->Bool
 |none,_=>false
 |some x,l=>ltL l.Name x.Name||l.Name==x.Name
def qhc (prev:Option qH) (l:qH):Int:=if(vS l.Name&&vS l.Yarn&&qia l.Dye)=true then if qkx prev l=true then 11 else if qdS l.Stock 0 999999999=true then 3 else 0 else 8
def qa4 {α:Type} (l:List α) (i:Nat):Option α:=if i=0 then none else l[i-1]?
theorem qq5 {lots:List qH} {i:Nat} {x:qH} (h:i<=lots.length) (hl:lots.length<=1000):((if((lots.take i).length:Int)>0 then(idx (lots.take i) (w64 (((lots.take i).length:Int)-1))).bind fun x2=>some (ltL x.Name x2.Name||x.Name==x2.Name)else some false:Option Bool))=some (qkx (qa4 lots i) x):=by
 have e:(lots.take i).length=i:=by rw[Ym];omega
 rw[e]
 unfold qa4
 by_cases c:i=0
 ·rw[if_neg (by omega),if_pos c]
  rfl
 rw[if_pos (by omega),if_neg c,qrJ (by omega) (by omega),vK,List.getElem?_take_of_lt (by omega),Ya (show i-1<lots.length by omega),ZB]
 rfl
theorem qsy {N:Nat} (hN:2000<N) {lots:List qH} {i:Nat} {x:qH} (h:i<=lots.length) (hl:lots.length<=1000) (h1:x.Name.length<=1000) (h2:x.Yarn.length<=1000) (h3:x.Dye.length<=1000):qfY N x (lots.take i)=some (qhc (qa4 lots i) x):=by
 unfold qfY
 rw[qq5 h hl,ZB,qiy (by omega),ZB,qiy (by omega),ZB,qum (by omega),ZB,qbO,ZB,qku,ZB,qlp hN (by simp),ZB]
 unfold qhc
 congr 1
 cases vS x.Name<;>cases vS x.Yarn<;>cases qia x.Dye<;>cases qkx (qa4 lots i) x<;>cases qdS x.Stock 0 999999999<;>rfl
def ShL (lots:List qH):Prop:= ∀l∈lots,l.Name.length<=60/\l.Yarn.length<=60/\l.Dye.length<=60
theorem qq2 {N:Nat} (hN:2000<N) {lots:List qH} (day:Int) (holds:List qp) (hl:lots.length<=100) (hs:ShL lots): ∀(K i:Nat),i<=lots.length->lots.length<K+i->
 ∃r,qaS N lots K (i:Int)=some r/\qaY N ⟨day,lots,holds⟩ K (i:Int)=some r/\(∀e,r= .inr e->e≠0)/\(r= .inl ()↔ ∀(j:Nat) (x:qH),i<=j->lots[j]? =some x->qhc (qa4 lots j) x=0)
 |0,i,h,hK=>by omega
 |K+1,i,h,hK=>by
  unfold qaS qaY
  simp only
  by_cases hi:i<lots.length
  ·have hx:lots[i]? =some lots[i]:=Ya hi
   obtain⟨s1,s2,s3⟩:=hs _ (List.getElem_mem hi)
   generalize lots[i]=x at*
   have href:((if(i:Int)>0 then(idx lots (w64 ((i:Int)-1))).bind fun x18=>some (ltL x.Name x18.Name||x.Name==x18.Name)else some false:Option Bool))=some (qkx (qa4 lots i) x):=by
    have:=qq5 (x:=x) h (by omega:lots.length<=1000)
    have e:(lots.take i).length=i:=by rw[Ym];omega
    rw[e]at this
    by_cases c:i=0
    ·rw[if_neg (by omega)]at this⊢
     exact this
    rw[if_pos (by omega),qrJ (by omega) (by omega),vK]at this⊢
    rw[List.getElem?_take_of_lt (by omega)]at this
    exact this
   rw[if_pos (by omega),if_pos (by omega),vK,hx,ZB,ZB,qmr (by omega),ZB,qsy hN h (by omega) (by omega) (by omega) (by omega),ZB,qfk (by omega) (by omega),href]
   have hrec:=qq2 hN day holds hl hs K (i+1) (by omega) (by omega)
   rw[qbM (by omega)]
   by_cases hz:qhc (qa4 lots i) x=0
   ·obtain⟨r,r1,r2,r3,r4⟩:=hrec
    refine⟨r,?_,?_,r3,fun hr j y hj hy=>?_,fun hall=>r4.2 fun j y hj hy=>hall j y (by omega) hy⟩
    ·rw[if_neg (by simp[hz])]
     exact r1
    ·unfold qhc at hz
     cases n1:vS x.Name<;>cases n2:vS x.Yarn<;>cases n3:qia x.Dye<;>cases n4:qkx (qa4 lots i) x<;>cases n5:qdS x.Stock 0 999999999<;>rw[n1,n2,n3,n4,n5]at hz<;>(first|(exact absurd hz (by decide))|skip)
     rw[ZB,if_neg (by simp),qfk (by omega) (by omega),ZB,n2,if_neg (by simp),qrE (by omega) (by omega),n3,ZB,ZB,if_neg (by simp),ZB,if_neg (by simp),qmT,n5,ZB,if_neg (by simp)]
     exact r2
    by_cases c:j=i
    ·subst c
     rw[hx]at hy
     obtain rfl:=Ye hy
     exact hz
    exact r4.1 hr j y (by omega) hy
   refine⟨.inr (qhc (qa4 lots i) x),?_,?_,fun e he=>by cases he;exact hz,fun c=>(by cases c),fun hall=>absurd (hall i x (Nat.le_refl _) hx) hz⟩
   ·rw[if_pos (by simp[hz])]
   unfold qhc at hz⊢
   rw[qfk (s:=x.Yarn) (by omega) (by omega),qrE (by omega) (by omega),qmT]
   cases n1:vS x.Name<;>cases n2:vS x.Yarn<;>cases n3:qia x.Dye<;>cases n4:qkx (qa4 lots i) x<;>cases n5:qdS x.Stock 0 999999999<;>rw[n1,n2,n3,n4,n5]at hz<;>first|rfl|exact absurd rfl hz
  rw[if_neg (by omega),if_neg (by omega)]
  exact⟨.inl (),rfl,rfl,fun e he=>(by cases he),fun _ j x hj hx=>(by
   have:=(Yb.1 hx).1
   omega),fun _=>rfl⟩
end Go.Av
end
section
namespace Go.Av
theorem qr5 (n:Int):w64 n=(if n%18446744073709551616<9223372036854775808 then n%18446744073709551616 else n%18446744073709551616-18446744073709551616):=by
 show IntKind.wrap .i64 n=_
 unfold IntKind.wrap
 have e:(2:Int)^IntKind.i64.bits=18446744073709551616:=by decide
 have e2:(2:Int)^(IntKind.i64.bits-1)=9223372036854775808:=by decide
 have e3:IntKind.i64.signed=true:=by decide
 simp only[e,e2,e3,Bool.true_and,ge_iff_le,decide_eq_true_eq]
 split<;>split<;>omega
theorem qxT {lots:List qH} {name:Str} (hl:lots.length<=100) (day:Int) (holds:List qp) (a2:Str) (a3 a4:Int): ∀(K i:Nat),i<=lots.length->lots.length<K+i->
 (jk lots name a2 a3 a4 K (i:Int)=some (.inl ())/\yQ ⟨day,lots,holds⟩ name K (i:Int)=some (.inl ())/\ ∀(j:Nat) x,i<=j->lots[j]? =some x->x.Name≠name)\/
 (∃(j:Nat) (x:qH),jk lots name a2 a3 a4 K (i:Int)=some (.inr (j:Int))/\yQ ⟨day,lots,holds⟩ name K (i:Int)=some (.inr (j:Int))/\lots[j]? =some x/\x.Name=name)
 |0,i,h,hK=>by omega
 |K+1,i,h,hK=>by
  unfold jk yQ qc9
  simp only
  by_cases hi:i<lots.length
  ·have hx:lots[i]? =some lots[i]:=Ya hi
   rw[if_pos (by omega),if_pos (by omega),vK,hx,ZB,ZB,ZB]
   generalize lots[i]=x at*
   by_cases e:x.Name=name
   ·have e1:(x.Name==name)=true:=by rw[e];exact beq_self_eq_true _
    rw[if_pos e1,if_pos e1]
    exact .inr ⟨i,x,rfl,rfl,hx,e⟩
   have e1: ¬(x.Name==name)=true:=by simpa using e
   rw[if_neg e1,if_neg e1,qbM (by omega)]
   rcases qxT hl day holds a2 a3 a4 K (i+1) (by omega) (by omega)with⟨r1,r2,r3⟩|r
   ·refine .inl ⟨r1,r2,fun j y hj hy=>?_⟩
    by_cases c:j=i
    ·subst c
     rw[hx]at hy
     obtain rfl:=Ye hy
     exact e
    exact r3 j y (by omega) hy
   exact .inr r
  rw[if_neg (by omega),if_neg (by omega)]
  exact .inl ⟨rfl,rfl,fun j x hj hx=>by
   have:=(Yb.1 hx).1
   omega⟩
def knB (lots:List qH) (name:Str):Bool:=lots.any fun x=>x.Name==name
theorem qxb {lots:List qH} {name:Str} {j:Nat} {x:qH} (h:lots[j]? =some x) (e:x.Name=name):knB lots name=true:=by
 unfold knB
 rw[List.any_eq_true]
 exact⟨x,Yn h,by rw[e];exact beq_self_eq_true _⟩
theorem qta {lots:List qH} {name:Str} (h: ∀(j:Nat) x,lots[j]? =some x->x.Name≠name):knB lots name=false:=by
 unfold knB
 rw[List.any_eq_false]
 intro x hx
 obtain⟨j,hj,rfl⟩:=List.getElem_of_mem hx
 have:=h j _ (Ya hj)
 simpa using this
theorem qtV {N:Nat} (hN:2000<N) {lots:List qH} (hl:lots.length<=100) (day:Int) (holds:List qp) (name a2:Str) (a3 a4:Int): ∃(p:Int),qay N lots name a2 a3 a4=some (knB lots name)/\qdW N ⟨day,lots,holds⟩ name=some p/\decide (p<0)=!knB lots name:=by
 unfold qay qdb qdW
 rcases qxT (name:=name) hl day holds a2 a3 a4 N 0 (by omega) (by omega)with⟨r1,r2,r3⟩|⟨j,x,r1,r2,r3,r4⟩
 ·rw[show((0:Nat):Int)=0 from rfl]at r1 r2
  rw[r1,r2,qta fun j x hx=>r3 j x (Nat.zero_le _) hx]
  exact⟨-1,rfl,rfl,rfl⟩
 rw[show((0:Nat):Int)=0 from rfl]at r1 r2
 rw[r1,r2,qxb r3 r4]
 refine⟨(j:Int),?_,rfl,?_⟩
 ·simp only[ZB]
  rw[decide_eq_true (by omega)]
 rw[decide_eq_false (by omega)]
 rfl
def qtn (a b:qp):Bool:=!(ltL a.Lot b.Lot||a.Lot==b.Lot)||(a.Lot==b.Lot&&!(ltL a.Order b.Order||a.Order==b.Order))
theorem quY (a b:qp):qgr a b=some (qtn a b):=by
 unfold qgr qtn
 cases ltL a.Lot b.Lot<;>cases(a.Lot==b.Lot)<;>rfl
theorem qsA {a b:Str}:(Lib.compareBytes a b<0)=(ltL a b=true):=by
 rw[qhp]
 by_cases h:ltL a b=true
 ·rw[if_pos h]
  exact propext ⟨fun _=>h,fun _=>by decide⟩
 rw[if_neg h]
 by_cases e:(a==b)=true
 ·rw[if_pos e]
  exact propext ⟨fun c=>absurd c (by decide),fun c=>absurd c h⟩
 rw[if_neg e]
 exact propext ⟨fun c=>absurd c (by decide),fun c=>absurd c h⟩
theorem qxO {N:Nat} (hN:2000<N) (a b:qp): ∃c,qcV N a b=some c/\decide (c<=0)=!qtn a b:=by
 unfold qcV tCmp
 rw[ZB,ZB,qyC hN (by simp),ZB]
 refine⟨_,rfl,?_⟩
 rw[qhp a.Lot b.Lot,qhp a.Order b.Order]
 unfold qtn
 by_cases e:a.Lot=b.Lot
 ·rw[e,qbZ,beq_self_eq_true]
  cases ltL a.Order b.Order<;>cases(a.Order==b.Order)<;>rfl
 have e1:(a.Lot==b.Lot)=false:=beq_false_of_ne e
 rw[e1]
 cases ltL a.Lot b.Lot<;>rfl
def qlu:Option qp->qp->Bool
 |none,_=>false
 |some x,h=>!qtn h x
def qf5 (kn:Bool) (prev:Option qp) (h:qp):Int:=if kn=true then if vS h.Order=true then if qlu prev h=true then 11 else if(qdS h.Reserved 0 999999999||qdS h.Taken 0 999999999)=true then 3 else if(decide (h.Reserved=0)&&decide (h.Taken=0))=true then 6 else 0 else 8 else 10
def ShH (holds:List qp):Prop:= ∀h∈holds,h.Lot.length<=60/\h.Order.length<=60
theorem qpO {N:Nat} (hN:2000<N) {lots:List qH} (day:Int) {holds:List qp} (hl:lots.length<=100) (hh:holds.length<=300) (hs:ShH holds): ∀(K i:Nat),i<=holds.length->holds.length<K+i->
 ∃r,qaB N holds day lots holds K (i:Int)=some r/\qaU N ⟨day,lots,holds⟩ K (i:Int)=some r/\(∀e,r= .inr e->e≠0)/\(r= .inl ()↔ ∀(j:Nat) (x:qp),i<=j->holds[j]? =some x->qf5 (knB lots x.Lot) (qa4 holds j) x=0)
 |0,i,h,hK=>by omega
 |K+1,i,h,hK=>by
  unfold qaB qaU
  simp only
  by_cases hi:i<holds.length
  ·have hx:holds[i]? =some holds[i]:=Ya hi
   obtain⟨s1,s2⟩:=hs _ (List.getElem_mem hi)
   generalize holds[i]=x at*
   have e:(holds.take i).length=i:=by rw[Ym];omega
   obtain⟨p,k1,k2,k3⟩:=qtV hN hl day holds x.Lot x.Order x.Reserved x.Taken
   obtain⟨kn,hkn⟩: ∃kn,kn=knB lots x.Lot:=⟨_,rfl⟩
   rw[<-hkn]at k1 k3
   have lateP:((if((holds.take i).length:Int)>0 then(idx (holds.take i) (w64 (((holds.take i).length:Int)-1))).bind fun x3=>(qcV N x x3).bind fun r4=>some (decide (r4<=0))else some false:Option Bool))=some (qlu (qa4 holds i) x):=by
    rw[e]
    unfold qa4
    by_cases c:i=0
    ·rw[if_neg (by omega),if_pos c]
     rfl
    obtain⟨q,q1,q2⟩:=qxO hN x holds[i-1]
    rw[if_pos (by omega),if_neg c,qrJ (by omega) (by omega),vK,List.getElem?_take_of_lt (by omega),Ya (show i-1<holds.length by omega),ZB,q1,ZB,q2]
    rfl
   have lateR:((if(i:Int)>0 then(idx holds (w64 ((i:Int)-1))).bind fun x35=>(qgr x x35).bind fun r36=>some (!r36)else some false:Option Bool))=some (qlu (qa4 holds i) x):=by
    unfold qa4
    by_cases c:i=0
    ·rw[if_neg (by omega),if_pos c]
     rfl
    rw[if_pos (by omega),if_neg c,qrJ (by omega) (by omega),vK,Ya (show i-1<holds.length by omega),ZB,quY,ZB]
    rfl
   have hP:qbT N x (holds.take i) day lots holds=some (qf5 kn (qa4 holds i) x):=by
    unfold qbT
    rw[k1,ZB,lateP,ZB,qbO,ZB,qiy (by omega),ZB,qbO,ZB,qku,ZB,qku,ZB]
    unfold qf5
    by_cases z:x.Reserved=0
    ·rw[if_pos z,qbO,ZB,qlp hN (by simp),ZB,ZB,decide_eq_true z]
     simp only
     congr 1
     cases kn<;>cases vS x.Order<;>cases qlu (qa4 holds i) x<;>cases qdS x.Reserved 0 999999999<;>cases qdS x.Taken 0 999999999<;>cases decide (x.Taken=0)<;>rfl
    rw[if_neg z,qbO,ZB,qlp hN (by simp),ZB,ZB,decide_eq_false z]
    simp only
    congr 1
    cases kn<;>cases vS x.Order<;>cases qlu (qa4 holds i) x<;>cases qdS x.Reserved 0 999999999<;>cases qdS x.Taken 0 999999999<;>cases decide (x.Taken=0)<;>rfl
   have hrec:=qpO hN day hl hh hs K (i+1) (by omega) (by omega)
   have zT:((if x.Reserved=0 then some (decide (x.Taken=0))else some false:Option Bool))=some (decide (x.Reserved=0)&&decide (x.Taken=0)):=by
    by_cases z:x.Reserved=0
    ·rw[if_pos z,decide_eq_true z]
     rfl
    rw[if_neg z,decide_eq_false z]
    rfl
   rw[if_pos (by omega),if_pos (by omega),vK,hx,ZB,ZB,qmr (by omega),ZB,hP,ZB,k2,ZB,lateR,zT,qbM (by omega)]
   obtain⟨r,r1,r2,r3,r4⟩:=hrec
   simp only[qfk (show x.Order.length<N by omega) (show x.Order.length<4611686018427387904 by omega),qmT,ZB]
   have k4:(p<0)=(kn=false):=by
    cases kn
    ·exact propext ⟨fun _=>rfl,fun _=>of_decide_eq_true k3⟩
    exact propext ⟨fun c=>absurd c (of_decide_eq_false k3),fun c=>by cases c⟩
   simp only[k4]
   have hall: ∀{P:Prop},qf5 kn (qa4 holds i) x≠0->(∀(j:Nat) (x:qp),i<=j->holds[j]? =some x->qf5 (knB lots x.Lot) (qa4 holds j) x=0)->P:=fun hz h=>absurd (hkn▸h i x (Nat.le_refl _) hx) hz
   have hrest:qf5 kn (qa4 holds i) x=0->(r= .inl ()↔ ∀(j:Nat) (x:qp),i<=j->holds[j]? =some x->qf5 (knB lots x.Lot) (qa4 holds j) x=0):=fun hz=>⟨fun hr j y hj hy=>by
    by_cases c:j=i
    ·subst c
     rw[hx]at hy
     obtain rfl:=Ye hy
     rw[<-hkn]
     exact hz
    exact r4.1 hr j y (by omega) hy,fun h=>r4.2 fun j y hj hy=>h j y (by omega) hy⟩
   unfold qf5 at hall hrest⊢
   cases n1:kn<;>cases n2:vS x.Order<;>cases n3:qlu (qa4 holds i) x<;>cases n4:qdS x.Reserved 0 999999999<;>cases n5:qdS x.Taken 0 999999999<;>cases n6:(decide (x.Reserved=0)&&decide (x.Taken=0))<;>rw[n1,n2,n3,n4,n5,n6]at hall hrest<;>
    first
     |exact⟨.inr 10,rfl,rfl,fun e he=>(by cases he;decide),fun c=>(by cases c),hall (by decide)⟩
     |exact⟨.inr 8,rfl,rfl,fun e he=>(by cases he;decide),fun c=>(by cases c),hall (by decide)⟩
     |exact⟨.inr 11,rfl,rfl,fun e he=>(by cases he;decide),fun c=>(by cases c),hall (by decide)⟩
     |exact⟨.inr 3,rfl,rfl,fun e he=>(by cases he;decide),fun c=>(by cases c),hall (by decide)⟩
     |exact⟨.inr 6,rfl,rfl,fun e he=>(by cases he;decide),fun c=>(by cases c),hall (by decide)⟩
     |exact⟨r,r1,r2,r3,hrest rfl⟩
  rw[if_neg (by omega),if_neg (by omega)]
  exact⟨.inl (),rfl,rfl,fun e he=>(by cases he),fun _ j x hj hx=>(by have:=(Yb.1 hx).1;omega),fun _=>rfl⟩
def qsd (name:Str):List qp->Int->Int
 |[],a=>a
 |h::t,a=>qsd name t (if(h.Lot==name)=true then w64 (a+h.Reserved)else a)
def frE (holds:List qp) (x:qH):Int:=w64 (x.Stock-qsd x.Name holds 0)
theorem qw5 {holds:List qp} (hh:holds.length<=300) (day:Int) (lots:List qH) (name:Str): ∀(K i:Nat) (a:Int),i<=holds.length->holds.length<K+i->y8 ⟨day,lots,holds⟩ name K (i:Int) a=some (qsd name (holds.drop i) a)
 |0,i,a,h,hK=>by omega
 |K+1,i,a,h,hK=>by
  unfold y8
  simp only
  by_cases hi:i<holds.length
  ·rw[if_pos (by omega),vK,Ya hi,ZB,qe2 hi,qbM (by omega)]
   unfold qsd
   by_cases e:(holds[i].Lot==name)=true
   ·rw[if_pos e,ZB,if_pos e]
    exact qw5 hh day lots name K (i+1) _ (by omega) (by omega)
   rw[if_neg e,ZB,if_neg e]
   exact qw5 hh day lots name K (i+1) _ (by omega) (by omega)
  rw[if_neg (by omega),List.drop_eq_nil_of_le (by omega)]
  rfl
theorem free_eq {N:Nat} (hN:2000<N) {holds:List qp} (hh:holds.length<=300) (day:Int) (lots:List qH) (x:qH):qdi N ⟨day,lots,holds⟩ x=some (frE holds x):=by
 unfold qdi qee
 have:=qw5 hh day lots x.Name N 0 0 (by omega) (by omega)
 rw[YR,show((0:Nat):Int)=0 from rfl]at this
 rw[this]
 rfl
theorem qsg {holds:List qp} (hh:holds.length<=300) (day:Int) {lots:List qH} {x:qH} {n:Nat} (hx:lots[n]? =some x) (S:Int): ∀(K i:Nat) (a b:Int),i<=holds.length->holds.length<K+i->w64 b=w64 (S-a)-> -9223372036854775808<=b->b<=9223372036854775807->qa5 ⟨day,lots,holds⟩ (n:Int) K b (i:Int)=some (w64 (S-qsd x.Name (holds.drop i) a))
 |0,i,a,b,h,hK,hab,hb1,hb2=>by omega
 |K+1,i,a,b,h,hK,hab,hb1,hb2=>by
  unfold qa5
  simp only
  by_cases hi:i<holds.length
  ·rw[if_pos (by omega),vK,Ya hi,ZB,qe2 hi,qbM (by omega),vK,hx,ZB]
   unfold qsd
   by_cases e:(holds[i].Lot==x.Name)=true
   ·rw[if_pos e,ZB,if_pos e]
    generalize holds[i].Reserved=R
    refine qsg hh day hx S K (i+1) _ _ (by omega) (by omega) ?_ (by rw[qr5];omega) (by rw[qr5];omega)
    simp only[qr5]at hab⊢
    omega
   rw[if_neg e,ZB,if_neg e]
   exact qsg hh day hx S K (i+1) _ _ (by omega) (by omega) hab hb1 hb2
  rw[if_neg (by omega),List.drop_eq_nil_of_le (by omega)]
  show some b=some (w64 (S-a))
  rw[<-hab,qb6 hb1 hb2]
theorem qw4 {N:Nat} (hN:2000<N) {holds:List qp} (hh:holds.length<=300) (day:Int) {lots:List qH} {x:qH} {n:Nat} (hx:lots[n]? =some x) (h0:qdS x.Stock 0 999999999=false):qes N ⟨day,lots,holds⟩ (n:Int)=some (frE holds x):=by
 have hb:0<=x.Stock/\x.Stock<=999999999:=by
  unfold qdS at h0
  rw[Bool.or_eq_false_iff]at h0
  have:=of_decide_eq_false h0.1
  have:=of_decide_eq_false h0.2
  omega
 unfold qes
 simp only
 rw[vK,hx,ZB]
 have:=qsg hh day hx x.Stock N 0 0 x.Stock (by omega) (by omega) (by rw[Int.sub_zero]) (by omega) (by omega)
 rw[YR,show((0:Nat):Int)=0 from rfl]at this
 rw[this]
 rfl
theorem qxX {N:Nat} (hN:2000<N) {lots:List qH} {holds:List qp} (hl:lots.length<=100) (hh:holds.length<=300) (day:Int) (hr: ∀(j:Nat) x,lots[j]? =some x->qdS x.Stock 0 999999999=false): ∀(K i:Nat),i<=lots.length->lots.length<K+i->
 (ji N lots day lots holds K (i:Int)=some (.inl ())/\yH N ⟨day,lots,holds⟩ K (i:Int)=some (.inl ())/\ ∀(j:Nat) x,i<=j->lots[j]? =some x->0<=frE holds x)\/(∃j:Nat,ji N lots day lots holds K (i:Int)=some (.inr (j:Int))/\yH N ⟨day,lots,holds⟩ K (i:Int)=some (.inr 32)/\ ∃x,lots[j]? =some x/\frE holds x<0)
 |0,i,h,hK=>by omega
 |K+1,i,h,hK=>by
  unfold ji yH qdK
  simp only
  by_cases hi:i<lots.length
  ·have hx:lots[i]? =some lots[i]:=Ya hi
   rw[if_pos (by omega),if_pos (by omega),vK,hx,ZB,free_eq hN hh,ZB,ZB,qw4 hN hh day hx (hr i _ hx),ZB,qbM (by omega)]
   by_cases c:frE holds lots[i]<0
   ·rw[if_pos (decide_eq_true c),if_pos c]
    exact .inr ⟨i,rfl,rfl,_,hx,c⟩
   rw[if_neg (fun z=>c (of_decide_eq_true z)),if_neg c]
   rcases qxX hN hl hh day hr K (i+1) (by omega) (by omega)with⟨l1,l2,l3⟩|h
   ·refine .inl ⟨l1,l2,fun j x hj hxj=>?_⟩
    by_cases e:j=i
    ·subst e
     rw[hx]at hxj
     obtain rfl:=Ye hxj
     omega
    exact l3 j x (by omega) hxj
   exact .inr h
  rw[if_neg (by omega),if_neg (by omega)]
  exact .inl ⟨rfl,rfl,fun j x hj hx=>by have:=(Yb.1 hx).1;omega⟩
def qhi (lots:List qH):Prop:= ∀(j:Nat) (x:qH),lots[j]? =some x->qhc (qa4 lots j) x=0
theorem qk2 {p:Option qH} {x:qH} (h:qhc p x=0):qdS x.Stock 0 999999999=false/\qkx p x=false:=by
 unfold qhc at h
 cases n1:(vS x.Name&&vS x.Yarn&&qia x.Dye)<;>cases n4:qkx p x<;>cases n5:qdS x.Stock 0 999999999<;>rw[n1,n4,n5]at h<;>first|(exact absurd h (by decide))|exact⟨rfl,rfl⟩
def qf9 (lots:List qH) (holds:List qp):Prop:= ∀(j:Nat) (x:qp),holds[j]? =some x->qf5 (knB lots x.Lot) (qa4 holds j) x=0
structure OKS (day:Int) (lots:List qH) (holds:List qp):Prop where
 d:qdS day 0 99999=false
 ll:lots.length<=64
 lk:qhi lots
 hl:holds.length<=256
 hk:qf9 lots holds
 fr: ∀(j:Nat) (x:qH),lots[j]? =some x->0<=frE holds x
theorem qtX {N:Nat} (hN:2000<N) (day:Int) {lots:List qH} {holds:List qp} (hl:lots.length<=100) (hh:holds.length<=300) (sl:ShL lots) (sh:ShH holds): ∃e,qdf N ⟨day,lots,holds⟩=some e/\qb9 N ⟨day,lots,holds⟩=some e/\(e=0↔OKS day lots holds):=by
 unfold qdf qb9 qfx qe8
 simp only
 rw[qku,ZB,qmT,ZB]
 obtain⟨r,r1,r2,r3,r4⟩:=qq2 hN day holds hl sl N 0 (by omega) (by omega)
 obtain⟨q,q1,q2,q3,q4⟩:=qpO hN (lots:=lots) day hl hh sh N 0 (by omega) (by omega)
 rw[show((0:Nat):Int)=0 from rfl]at r1 r2 q1 q2
 by_cases hd:qdS day 0 99999=true
 ·refine⟨3,?_,by rw[if_pos hd],fun h=>(by cases h),fun o=>absurd (hd.symm.trans o.d) (by decide)⟩
  rw[if_pos hd]
  by_cases c:(lots.length:Int)>64
  ·rw[if_pos c,ZB,qlp hN (by simp),ZB,if_pos (by decide)]
   rfl
  rw[if_neg c,r1]
  cases r with
  |inl u=>rw[ZB,ZB,qlp hN (by simp),ZB,if_pos (by decide)];rfl
  |inr e=>rw[ZB,ZB,qlp hN (by simp),ZB,if_pos (show(!decide (qe7 [3,e]=0))=true from rfl)];rfl
 rw[if_neg hd,if_neg hd]
 by_cases c:(lots.length:Int)>64
 ·refine⟨5,?_,by rw[if_pos c],fun h=>(by cases h),fun o=>absurd o.ll (by omega)⟩
  rw[if_pos c,ZB,qlp hN (by simp),ZB,if_pos (by decide)]
  rfl
 rw[if_neg c,if_neg c,r1,r2]
 cases r with
 |inr e=>
  have he:=r3 e rfl
  refine⟨e,?_,rfl,fun h=>absurd h he,fun o=>(by cases r4.2 fun j x _ hx=>o.lk j x hx)⟩
  rw[ZB,ZB,qlp hN (by simp),ZB]
  have:qe7 [0,e]=e:=by
   unfold qe7 qe7
   rw[if_pos rfl,if_neg he]
  rw[this,if_pos (by simp[he])]
 |inl u=>
  have ok:qhi lots:=fun j x hx=>r4.1 rfl j x (by omega) hx
  have hst: ∀(j:Nat) x,lots[j]? =some x->qdS x.Stock 0 999999999=false:=fun j x hx=>(qk2 (ok j x hx)).1
  rw[ZB,ZB,qlp hN (by simp),ZB,if_neg (by decide),ZB]
  simp only
  have low:=qxX hN hl hh day hst N 0 (by omega) (by omega)
  rw[show((0:Nat):Int)=0 from rfl]at low
  have lowB: ∃b:Bool,qaA N lots day lots holds=some b/\yH N ⟨day,lots,holds⟩ N 0=some (if b=true then .inr 32 else .inl ())/\(b=false↔ ∀(j:Nat) (x:qH),lots[j]? =some x->0<=frE holds x):=by
   unfold qaA qc0
   rcases low with⟨l1,l2,l3⟩|⟨j,l1,l2,x,hx,hlow⟩
   ·rw[l1,l2]
    exact⟨false,rfl,rfl,fun _ j x hx=>l3 j x (Nat.zero_le _) hx,fun _=>rfl⟩
   rw[l1,l2]
   refine⟨true,?_,rfl,fun c=>(by cases c),fun h=>absurd (h j x hx) (by omega)⟩
   simp only[ZB]
   rw[decide_eq_true (by omega)]
  obtain⟨b,b1,b2,b3⟩:=lowB
  by_cases g:(holds.length:Int)>256
  ·rw[if_pos g,if_pos g,ZB,b1,ZB,qbO,ZB,qlp hN (by simp),ZB]
   exact⟨5,rfl,rfl,fun h=>(by cases h),fun o=>absurd o.hl (by omega)⟩
  rw[if_neg g,if_neg g,q1,q2]
  cases q with
  |inr e=>
   have he:=q3 e rfl
   rw[ZB,ZB,b1,ZB,qbO,ZB,qlp hN (by simp),ZB,ZB]
   refine⟨e,?_,rfl,fun h=>absurd h he,fun o=>(by cases q4.2 fun j x _ hx=>o.hk j x hx)⟩
   unfold qe7
   rw[if_neg he]
  |inl u=>
   rw[ZB,ZB,b1,ZB,qbO,ZB,qlp hN (by simp),ZB,ZB]
   simp only
   rw[b2]
   cases b with
   |false=>exact⟨0,rfl,rfl,fun _=>⟨by simpa using hd,by omega,ok,by omega,fun j x hx=>q4.1 rfl j x (by omega) hx,b3.1 rfl⟩,fun _=>rfl⟩
   |true=>exact⟨32,rfl,rfl,fun h=>(by cases h),fun o=>(by cases b3.2 o.fr)⟩
end Go.Av
end
section
namespace Go.Av
theorem qv5 {s:StateT} (hb:s.Lots.length*56<=140737488355328): ∀(K i:Nat),i<=s.Lots.length->s.Lots.length<K+i->qdI s K (s.Lots.take i) (i:Int)=some s.Lots
 |0,i,h,hK=>by omega
 |K+1,i,h,hK=>by
  unfold qdI
  by_cases hi:i<s.Lots.length
  ·have e:(s.Lots.take i).length=i:=by rw[Ym];omega
   rw[if_pos (by omega),vK,Ya hi,ZB,qnC (by rw[e,List.length_singleton];omega) (by rw[e,List.length_singleton];omega),ZB,qbM (by omega),<-List.take_succ_eq_append_getElem hi]
   exact qv5 hb K (i+1) (by omega) (by omega)
  rw[if_neg (by omega),List.take_of_length_le (by omega)]
theorem qvE {s:StateT} (hb:s.Holds.length*48<=140737488355328): ∀(K i:Nat),i<=s.Holds.length->s.Holds.length<K+i->qdB s K (s.Holds.take i) (i:Int)=some s.Holds
 |0,i,h,hK=>by omega
 |K+1,i,h,hK=>by
  unfold qdB
  by_cases hi:i<s.Holds.length
  ·have e:(s.Holds.take i).length=i:=by rw[Ym];omega
   rw[if_pos (by omega),vK,Ya hi,ZB,qnC (by rw[e,List.length_singleton];omega) (by rw[e,List.length_singleton];omega),ZB,qbM (by omega),<-List.take_succ_eq_append_getElem hi]
   exact qvE hb K (i+1) (by omega) (by omega)
  rw[if_neg (by omega),List.take_of_length_le (by omega)]
theorem qrv {N:Nat} {s:StateT} (h1:s.Lots.length<N) (h2:s.Holds.length<N) (b1:s.Lots.length*56<=140737488355328) (b2:s.Holds.length*48<=140737488355328):qbK N s=some ⟨s.Day,s.Lots,s.Holds⟩:=by
 unfold qbK
 have e1:=qv5 b1 N 0 (by omega) (by omega)
 have e2:=qvE b2 N 0 (by omega) (by omega)
 rw[List.take_zero,show((0:Nat):Int)=0 from rfl]at e1 e2
 rw[e1,ZB,e2,ZB]
theorem quv {lots:List qH} (ok:qhi lots) {i:Nat} {y:qH} (hy:lots[i]? =some y): ∀(d:Nat) (x:qH),lots[i+d+1]? =some x->ltL y.Name x.Name=true
 |0,x,hx=>by
  have h:=(qk2 (ok (i+1) x hx)).2
  unfold qa4 at h
  rw[if_neg (by omega),Nat.add_sub_cancel,hy]at h
  unfold qkx at h
  rw[Bool.or_eq_false_iff]at h
  cases c:ltL y.Name x.Name with
  |true=>rfl
  |false=>
   have:=qii _ _ h.1 c
   rw[this,beq_self_eq_true]at h
   cases h.2
 |d+1,x,hx=>by
  have hl:=(Yb.1 hx).1
  have hz:lots[i+d+1]? =some lots[i+d+1]:=Ya (by omega)
  have h1:=quv ok hy d _ hz
  have h:=(qk2 (ok (i+(d+1)+1) x hx)).2
  unfold qa4 at h
  rw[if_neg (by omega),Nat.add_sub_cancel,show i+(d+1)=i+d+1 by omega,hz]at h
  unfold qkx at h
  rw[Bool.or_eq_false_iff]at h
  cases c:ltL lots[i+d+1].Name x.Name with
  |true=>exact qfC h1 c
  |false=>
   have:=qii _ _ h.1 c
   rw[this,beq_self_eq_true]at h
   cases h.2
theorem qhO {lots:List qH} (ok:qhi lots) {i j:Nat} {x y:qH} (hij:i<j) (hx:lots[i]? =some x) (hy:lots[j]? =some y):ltL x.Name y.Name=true:=by
 obtain⟨d,rfl⟩: ∃d,j=i+d+1:=⟨j-i-1,by omega⟩
 exact quv ok hx d y hy
theorem qyH {i j:Nat} (hi:i<=1000) (hj:j<=1000):w64 (qsO .u64 (IntKind.wrap .u64 (w64 ((i:Int)+(j:Int)))) 1)=(((i+j)/2:Nat):Int):=by
 have e0:w64 ((i:Int)+(j:Int))=(i:Int)+(j:Int):=qb6 (by omega) (by omega)
 rw[e0]
 have e:IntKind.wrap .u64 ((i:Int)+(j:Int))=(i:Int)+(j:Int):=by
  show((i:Int)+(j:Int))%18446744073709551616=_
  omega
 rw[e]
 show w64 (((i:Int)+(j:Int)).fdiv 2)=_
 rw[Int.fdiv_eq_ediv_of_nonneg _ (by omega),qb6 (by omega) (by omega)]
 omega
theorem bs_L {lots:List qH} (hl:lots.length<=100) (ok:qhi lots) (name:Str): ∀(K lo hi:Nat),lo<=hi->hi<=lots.length->hi-lo<K->(∀(k:Nat) x,k<lo->lots[k]? =some x->ltL x.Name name=true)->(∀(k:Nat) x,hi<=k->lots[k]? =some x->ltL x.Name name=false)->
 ∃p:Nat,zA lots name K (hi:Int) (lo:Int)=some (p:Int)/\p<=lots.length/\(∀(k:Nat) x,k<p->lots[k]? =some x->ltL x.Name name=true)/\(∀(k:Nat) x,p<=k->lots[k]? =some x->ltL x.Name name=false)
 |0,lo,hi,h,h2,hK,g1,g2=>by omega
 |K+1,lo,hi,h,h2,hK,g1,g2=>by
  unfold zA qde tCmp
  by_cases c:lo<hi
  ·have hm:(lo+hi)/2<lots.length:=by omega
   have hx:lots[(lo+hi)/2]? =some lots[(lo+hi)/2]:=Ya hm
   rw[if_pos (by omega),qyH (by omega) (by omega),vK,hx,ZB,ZB,ZB]
   by_cases d:Lib.compareBytes lots[(lo+hi)/2].Name name<0
   ·have d1:=d
    rw[qsA]at d1
    rw[if_pos d,ZB]
    simp only
    rw[qbM (by omega)]
    refine bs_L hl ok name K ((lo+hi)/2+1) hi (by omega) h2 (by omega) (fun k x hk hkx=>?_) g2
    by_cases e:k=(lo+hi)/2
    ·subst e
     rw[hx]at hkx
     obtain rfl:=Ye hkx
     exact d1
    exact qfC (qhO ok (by omega) hkx hx) d1
   have d1:=d
   rw[qsA]at d1
   have d2:ltL lots[(lo+hi)/2].Name name=false:=by simpa using d1
   rw[if_neg d,ZB]
   simp only
   refine bs_L hl ok name K lo ((lo+hi)/2) (by omega) (by omega) (by omega) g1 (fun k x hk hkx=>?_)
   by_cases e:k=(lo+hi)/2
   ·subst e
    rw[hx]at hkx
    obtain rfl:=Ye hkx
    exact d2
   cases z:ltL x.Name name with
   |false=>rfl
   |true=>
    rw[qfC (qhO ok (by omega) hx hkx) z]at d2
    cases d2
  rw[if_neg (by omega)]
  have:lo=hi:=by omega
  subst this
  exact⟨lo,rfl,h2,g1,g2⟩
end Go.Av
end
section
namespace Go.Av
open Go.Proofs Go.RowKit
variable [Glob]
theorem qly {a b:Str} (h:ltL a b=true):ltL b a=false:=by
 cases e:ltL b a with
 |false=>rfl
 |true=>have:=qfC h e;rw[qbZ]at this;cases this
abbrev qsu (lots:List qH):Prop:=lots.Pairwise fun a b=>ltL a.Name b.Name=true
theorem qhi.srt {lots:List qH} (h:qhi lots):qsu lots:=
 List.pairwise_iff_getElem.2 fun i j hi hj hij=>qhO h hij (Ya hi) (Ya hj)
def qb2 (x:qH):List qH->List qH
 |[]=>[x]
 |y::l=>if(y.Name==x.Name)=true then x::l else if ltL x.Name y.Name=true then x::y::l else y::qb2 x l
theorem qn3 {x:qH}: ∀{lots:List qH} {j:Nat} {y:qH},qsu lots->lots[j]? =some y->y.Name=x.Name->qb2 x lots=lots.set j x
 |[],j,y,_,h,_=>by simp at h
 |a::l,0,y,hs,h,e=>by
  simp only[List.getElem?_cons_zero,ZI]at h
  subst h
  rw[qb2,if_pos (by rw[e];exact beq_self_eq_true _)]
  rfl
 |a::l,j+1,y,hs,h,e=>by
  rw[List.getElem?_cons_succ]at h
  have hay:=(List.pairwise_cons.1 hs).1 y (Yn h)
  rw[e]at hay
  rw[qb2,if_neg (by simpa using qnP hay),if_neg (by rw[qly hay];decide),qn3 (List.pairwise_cons.1 hs).2 h e]
  rfl
theorem qqt {x:qH}: ∀{lots:List qH} {p:Nat},p<=lots.length->(∀(k:Nat) y,k<p->lots[k]? =some y->ltL y.Name x.Name=true)->(∀(k:Nat) y,p<=k->lots[k]? =some y->ltL y.Name x.Name=false)->(∀(k:Nat) y,lots[k]? =some y->y.Name≠x.Name)->qb2 x lots=lots.take p++[x]++lots.drop p
 |[],p,hp,h1,h2,h3=>by simp[qb2]
 |a::l,0,hp,h1,h2,h3=>by
  have e1:=h2 0 a (Nat.le_refl _) rfl
  have e2:=h3 0 a rfl
  have e3:ltL x.Name a.Name=true:=by
   cases e:ltL x.Name a.Name with
   |true=>rfl
   |false=>exact absurd (qii _ _ e1 e) e2
  rw[qb2,if_neg (by simpa using e2),if_pos e3]
  rfl
 |a::l,p+1,hp,h1,h2,h3=>by
  have e1:=h1 0 a (by omega) rfl
  rw[qb2,if_neg (by simpa using qnP e1),if_neg (by rw[qly e1];decide),qqt (p:=p) (by simp at hp;omega) (fun k y hk hy=>h1 (k+1) y (by omega) hy) (fun k y hk hy=>h2 (k+1) y (by omega) hy) (fun k y hy=>h3 (k+1) y hy)]
  rfl
theorem qkX {x y:qH}: ∀{lots:List qH},y∈qb2 x lots->y=x\/y∈lots
 |[],h=>by simp[qb2]at h;exact .inl h
 |a::l,h=>by
  rw[qb2]at h
  split at h
  ·rcases List.mem_cons.1 h with h|h
   ·exact .inl h
   exact .inr (List.mem_cons_of_mem _ h)
  split at h
  ·rcases List.mem_cons.1 h with h|h
   ·exact .inl h
   exact .inr h
  rcases List.mem_cons.1 h with h|h
  ·exact .inr (h▸List.mem_cons_self)
  rcases qkX h with h|h
  ·exact .inl h
  exact .inr (List.mem_cons_of_mem _ h)
theorem qqK {x:qH}: ∀{lots:List qH},qsu lots->qsu (qb2 x lots)
 |[],h=>by simp[qb2,qsu]
 |a::l,h=>by
  obtain⟨h1,h2⟩:=List.pairwise_cons.1 h
  rw[qb2]
  by_cases e1:(a.Name==x.Name)=true
  ·rw[if_pos e1]
   have:a.Name=x.Name:=by simpa using e1
   exact List.pairwise_cons.2 ⟨fun b hb=>this▸h1 b hb,h2⟩
  rw[if_neg e1]
  by_cases e2:ltL x.Name a.Name=true
  ·rw[if_pos e2]
   refine List.pairwise_cons.2 ⟨fun b hb=>?_,h⟩
   rcases List.mem_cons.1 hb with rfl|hb
   ·exact e2
   exact qfC e2 (h1 b hb)
  rw[if_neg e2]
  refine List.pairwise_cons.2 ⟨fun b hb=>?_,qqK h2⟩
  rcases qkX hb with rfl|hb
  ·cases e:ltL a.Name b.Name with
   |true=>rfl
   |false=>exact absurd (qii _ _ e (by simpa using e2)) (by simpa using e1)
  exact h1 b hb
theorem qmN {x:qH}: ∀{lots:List qH},∃j:Nat,(qb2 x lots)[j]? =some x
 |[]=>⟨0,rfl⟩
 |a::l=>by
  rw[qb2]
  split
  ·exact⟨0,rfl⟩
  split
  ·exact⟨0,rfl⟩
  obtain⟨j,hj⟩:=qmN (x:=x) (lots:=l)
  exact⟨j+1,hj⟩
theorem qo5 {x y:qH} (hne:y.Name≠x.Name): ∀{lots:List qH},y∈lots->y∈qb2 x lots
 |[],h=>by cases h
 |a::l,h=>by
  rw[qb2]
  split
  ·rename_i e
   rcases List.mem_cons.1 h with rfl|h
   ·exact absurd (by simpa using e) hne
   exact List.mem_cons_of_mem _ h
  split
  ·exact List.mem_cons_of_mem _ h
  rcases List.mem_cons.1 h with rfl|h
  ·exact List.mem_cons_self
  exact List.mem_cons_of_mem _ (qo5 hne h)
abbrev qmt (a b:qp):Bool:=ltH qp.Lot qp.Order a b
theorem qsl (a b:qp):qtn a b=qmt b a:=by
 unfold qtn qmt ltH
 by_cases e:a.Lot=b.Lot
 ·rw[e,qbZ,beq_self_eq_true]
  by_cases f:a.Order=b.Order
  ·rw[f,qbZ,beq_self_eq_true]
   rfl
  have f1:(a.Order==b.Order)=false:=beq_false_of_ne f
  rw[f1]
  cases h1:ltL a.Order b.Order with
  |true=>rw[qly h1];rfl
  |false=>
   cases h2:ltL b.Order a.Order with
   |true=>rfl
   |false=>exact absurd (qii _ _ h1 h2) f
 have e1:(a.Lot==b.Lot)=false:=beq_false_of_ne e
 have e2:(b.Lot==a.Lot)=false:=beq_false_of_ne (fun h=>e h.symm)
 rw[e1,e2]
 cases h1:ltL a.Lot b.Lot with
 |true=>rw[qly h1];rfl
 |false=>
  cases h2:ltL b.Lot a.Lot with
  |true=>rfl
  |false=>exact absurd (qii _ _ h1 h2) e
abbrev qoD (holds:List qp):Prop:=holds.Pairwise fun a b=>qmt a b=true
def kq (lo od:Str) (h:qp):Bool:=h.Lot==lo&&h.Order==od
theorem qqf {lo od:Str} {h:qp}:kq lo od h=true↔h.Lot=lo/\h.Order=od:=by simp[kq]
theorem qws (a:qp):qmt a a=false:=qkH _ _ a
theorem qnJ {a b c:qp} (h:qmt a b=true) (k:qmt b c=true):qmt a c=true:=qj8 _ _ h k
theorem qu6 {a b:qp} (h:qmt a b=true):qmt b a=false:=by
 cases e:qmt b a with
 |false=>rfl
 |true=>have:=qnJ h e;rw[qws]at this;cases this
theorem qxi {a b:qp} (h:qmt a b=true):kq a.Lot a.Order b=false:=by
 cases e:kq a.Lot a.Order b with
 |false=>rfl
 |true=>
  obtain⟨e1,e2⟩:=qqf.1 e
  unfold qmt ltH at h
  rw[e1,e2,qbZ,qbZ]at h
  simp at h
theorem qkR {k:Bool} {p:Option qp} {x:qp} (h:qf5 k p x=0):k=true/\vS x.Order=true/\qlu p x=false/\qdS x.Reserved 0 999999999=false/\qdS x.Taken 0 999999999=false/\ ¬(x.Reserved=0/\x.Taken=0):=by
 unfold qf5 at h
 cases n1:k<;>cases n2:vS x.Order<;>cases n3:qlu p x<;>cases n4:qdS x.Reserved 0 999999999<;>cases n5:qdS x.Taken 0 999999999<;>cases n6:(decide (x.Reserved=0)&&decide (x.Taken=0))<;>rw[n1,n2,n3,n4,n5,n6]at h<;>first|(exact absurd h (by decide))|skip
 refine⟨rfl,rfl,rfl,rfl,rfl,fun c=>?_⟩
 rw[decide_eq_true c.1,decide_eq_true c.2]at n6
 cases n6
theorem qto {lots:List qH} {holds:List qp} (ok:qf9 lots holds) {i:Nat} {y:qp} (hy:holds[i]? =some y): ∀(d:Nat) (x:qp),holds[i+d+1]? =some x->qmt y x=true
 |0,x,hx=>by
  have:=(qkR (ok _ _ hx)).2.2.1
  unfold qa4 at this
  rw[if_neg (by omega),show i+0+1-1=i by omega,hy]at this
  simp only[qlu,qsl,Bool.not_eq_false']at this
  exact this
 |d+1,x,hx=>by
  have hlt:=(Yb.1 hx).1
  have hz:holds[i+d+1]? =some holds[i+d+1]:=Ya (by omega)
  have h1:=qto ok hy d _ hz
  have:=(qkR (ok _ _ hx)).2.2.1
  unfold qa4 at this
  rw[if_neg (by omega),show i+(d+1)+1-1=i+d+1 by omega,hz]at this
  simp only[qlu,qsl,Bool.not_eq_false']at this
  exact qnJ h1 this
theorem qf9.srt {lots:List qH} {holds:List qp} (h:qf9 lots holds):qoD holds:=
 List.pairwise_iff_getElem.2 fun i j hi hj hij=>by
  have hx:holds[i+(j-i-1)+1]? =some holds[j]:=by rw[show i+(j-i-1)+1=j by omega];exact Ya hj
  exact qto h (Ya hi) (j-i-1) _ hx
def qtU (h:qp):List qp->List qp
 |[]=>[h]
 |y::l=>if qmt h y=true then h::y::l else y::qtU h l
theorem qkf (h:qp): ∀l,(qtU h l).Perm (h::l)
 |[]=> .refl _
 |y::l=>by
  rw[qtU]
  split
  ·exact .refl _
  exact((qkf h l).cons y).trans (.swap _ _ _)
theorem qpI {h:qp}: ∀{l:List qp},qoD l->(∀x∈l,kq h.Lot h.Order x=false)->qoD (qtU h l)
 |[],_,_=>by simp[qtU,qoD]
 |y::l,hs,hk=>by
  obtain⟨h1,h2⟩:=List.pairwise_cons.1 hs
  rw[qtU]
  by_cases e:qmt h y=true
  ·rw[if_pos e]
   refine List.pairwise_cons.2 ⟨fun b hb=>?_,hs⟩
   rcases List.mem_cons.1 hb with rfl|hb
   ·exact e
   exact qnJ e (h1 b hb)
  rw[if_neg e]
  refine List.pairwise_cons.2 ⟨fun b hb=>?_,qpI h2 fun x hx=>hk x (List.mem_cons_of_mem _ hx)⟩
  rcases List.mem_cons.1 ((qkf h l).mem_iff.1 hb)with rfl|hb
  ·have hk':=hk y List.mem_cons_self
   rcases qo0 qp.Lot qp.Order (show ltH qp.Lot qp.Order b y=false by simpa using e)with h'|⟨e1,e2⟩
   ·exact h'
   rw[qqf.2 ⟨e1.symm,e2.symm⟩]at hk'
   cases hk'
  exact h1 b hb
theorem qu8 {l m:List qp} (hl:qoD l) (hm:m.Pairwise fun a b=>qmt b a=false) (hp:m.Perm l):m=l:=by
 refine List.Perm.eq_of_pairwise (le:=fun a b=>qmt b a=false) (fun a b ha hb hab hba=>?_) hm (hl.imp fun h=>qu6 h) hp
 have ha':=hp.mem_iff.1 ha
 obtain⟨i,hi,rfl⟩:=List.getElem_of_mem ha'
 obtain⟨j,hj,rfl⟩:=List.getElem_of_mem hb
 have key:=List.pairwise_iff_getElem.1 hl
 rcases Nat.lt_trichotomy i j with c|c|c
 ·have:=key i j hi hj c
  rw[hba]at this;cases this
 ·subst c;rfl
 have:=key j i hj hi c
 rw[hab]at this;cases this
theorem qsM {l m:List qp} (hl:qoD l) (hp:m.Perm l):qiI qp.Lot qp.Order m=l:=by
 obtain⟨f1,f2,f3⟩:=qhK qp.Lot qp.Order m
 refine qu8 hl (List.pairwise_iff_getElem.2 fun i j hi hj hij=>?_) (f2.trans hp)
 have:=f3 i j hij (by omega)
 rw[getElem!_pos _ j hj,getElem!_pos _ i hi]at this
 exact this
def qf2 (h:qp) (holds:List qp):List qp:=
 if h.Reserved=0/\h.Taken=0 then holds.filter (fun x=>!kq h.Lot h.Order x)else qtU h (holds.filter fun x=>!kq h.Lot h.Order x)
def qbX (holds:List qp) (lo od:Str):qp:=(holds.find? (kq lo od)).getD ⟨lo,od,0,0⟩
theorem qnY {holds:List qp} (h:qoD holds) (p:qp->Bool):qoD (holds.filter p):=List.Pairwise.filter p h
theorem qmS {holds:List qp} {lo od:Str}: ∀x∈holds.filter (fun x=>!kq lo od x),kq lo od x=false:=fun x hx=>by simpa using(List.mem_filter.1 hx).2
theorem qsP {h:qp} {holds:List qp} (hs:qoD holds):qoD (qf2 h holds):=by
 unfold qf2
 split
 ·exact qnY hs _
 exact qpI (qnY hs _) qmS
theorem qtr {h x:qp} {holds:List qp} (hx:x∈qf2 h holds):(x=h/\ ¬(h.Reserved=0/\h.Taken=0))\/(x∈holds/\kq h.Lot h.Order x=false):=by
 unfold qf2 at hx
 split at hx
 ·exact .inr ⟨(List.mem_filter.1 hx).1,qmS x hx⟩
 rename_i hn
 rcases List.mem_cons.1 ((qkf _ _).mem_iff.1 hx)with rfl|hx
 ·exact .inl ⟨rfl,hn⟩
 exact .inr ⟨(List.mem_filter.1 hx).1,qmS x hx⟩
end Go.Av
end
section
namespace Go.Av
open Go.Proofs Go.RowKit
variable [Glob]
abbrev knR:Str:=[114,101,99,101,105,118,101]
abbrev knV:Str:=[114,101,115,101,114,118,101]
abbrev knL:Str:=[114,101,108,101,97,115,101]
abbrev knT:Str:=[116,97,107,101]
abbrev knU:Str:=[114,101,116,117,114,110]
structure qlz (e:qw):Prop where
 kind:e.Kind=knR\/e.Kind=knV\/e.Kind=knL\/e.Kind=knT\/e.Kind=knU
 day:qdS e.Day 0 99999=false
 am:qdS e.Amount 1 999999999=false
 lot:vS e.Lot=true
 rc:e.Kind=knR->vS e.Yarn=true/\qia e.Dye=true/\e.Order=[]
 oth:e.Kind≠knR->vS e.Order=true/\e.Yarn=[]/\e.Dye=[]
def qed (lots:List qH) (holds:List qp) (e:qw):ql:=
 match lots.find? (fun x=>x.Name==e.Lot)with
 |some x=>⟨x,true,qbX holds e.Lot e.Order,frE holds x⟩
 |none=>⟨⟨e.Lot,e.Yarn,e.Dye,0⟩,false,qbX holds e.Lot e.Order,0⟩
def qfJ (k:Str) (a:ql) (n:Int):ql:=
 if k=knR then⟨⟨a.lot.Name,a.lot.Yarn,a.lot.Dye,w64 (a.lot.Stock+n)⟩,a.known,a.hold,a.free⟩
 else if k=knV then⟨a.lot,a.known,⟨a.hold.Lot,a.hold.Order,w64 (a.hold.Reserved+n),a.hold.Taken⟩,a.free⟩
 else if k=knL then⟨a.lot,a.known,⟨a.hold.Lot,a.hold.Order,w64 (a.hold.Reserved+w64 (0-n)),a.hold.Taken⟩,a.free⟩
 else if k=knT then⟨⟨a.lot.Name,a.lot.Yarn,a.lot.Dye,w64 (a.lot.Stock-n)⟩,a.known,⟨a.hold.Lot,a.hold.Order,(if(w64 (a.hold.Reserved-n))>0 then(w64 (a.hold.Reserved-n))else 0),w64 (a.hold.Taken+n)⟩,a.free⟩
 else⟨⟨a.lot.Name,a.lot.Yarn,a.lot.Dye,w64 (a.lot.Stock+n)⟩,a.known,⟨a.hold.Lot,a.hold.Order,a.hold.Reserved,w64 (a.hold.Taken-n)⟩,a.free⟩
def qoe (k:Str) (a:ql) (n:Int):Bool:=
 if k=knR then true else if k=knV then decide (n<=a.free)else if k=knL then decide (n<=a.hold.Reserved)else if k=knT then decide (n<=w64 (a.free+a.hold.Reserved))else decide (n<=a.hold.Taken)
def qnr (e:qw) (a:ql):Bool:=if e.Kind=knR then !a.known||(a.lot.Yarn==e.Yarn&&a.lot.Dye==e.Dye)else a.known
def qdL (lots:List qH) (holds:List qp) (e:qw):ql:=qfJ e.Kind (qed lots holds e) e.Amount
def nxL (lots:List qH) (holds:List qp) (e:qw):List qH:=qb2 (qdL lots holds e).lot lots
def nxH (lots:List qH) (holds:List qp) (e:qw):List qp:=qf2 (qdL lots holds e).hold holds
def qhB (day:Int) (lots:List qH) (holds:List qp) (e:qw):Int:=
 if e.Day<day then 1
 else if qnr e (qed lots holds e)=false then 2
 else if qoe e.Kind (qed lots holds e) e.Amount=false then 3
 else if 999999999<(qdL lots holds e).lot.Stock\/999999999<(qdL lots holds e).hold.Taken then 4
 else if 64<(nxL lots holds e).length\/256<(nxH lots holds e).length then 5
 else 0
theorem qun {lots:List qH} (ok:qhi lots) {j:Nat} {x:qH} {nm:Str} (hx:lots[j]? =some x) (e:x.Name=nm):lots.find? (fun x=>x.Name==nm)=some x:=by
 obtain⟨hj,rfl⟩:=Yb.1 hx
 refine List.find?_eq_some_iff_getElem.2 ⟨by rw[e];exact beq_self_eq_true _,j,hj,rfl,fun i hi=>?_⟩
 have:=qhO ok hi (Ya (by omega)) hx
 have hne:=qnP this
 rw[e]at hne
 simpa using hne
theorem qut {lots:List qH} {nm:Str} (h: ∀(j:Nat) x,lots[j]? =some x->x.Name≠nm):lots.find? (fun x=>x.Name==nm)=none:=by
 rw[List.find?_eq_none]
 intro x hx
 obtain⟨j,hj,rfl⟩:=List.getElem_of_mem hx
 simpa using h j _ (Ya hj)
theorem ixH1 {holds:List qp} (hh:holds.length<=300) (a:ql): ∀(K i:Nat),i<=holds.length->holds.length<K+i->
 (zx holds a K (i:Int)=some (.inl ())/\ ∀(j:Nat) x,i<=j->holds[j]? =some x->kq a.hold.Lot a.hold.Order x=false)\/
 (∃(j:Nat) (x:qp),zx holds a K (i:Int)=some (.inr (j:Int))/\i<=j/\holds[j]? =some x/\kq a.hold.Lot a.hold.Order x=true/\ ∀(k:Nat) y,i<=k->k<j->holds[k]? =some y->kq a.hold.Lot a.hold.Order y=false)
 |0,i,h,hK=>by omega
 |K+1,i,h,hK=>by
  unfold zx qbd qdx
  by_cases hi:i<holds.length
  ·have hx:holds[i]? =some holds[i]:=Ya hi
   rw[if_pos (by omega),vK,hx,ZB]
   simp only[ZB,Bool.and_true]
   generalize holds[i]=x at*
   by_cases e:kq a.hold.Lot a.hold.Order x=true
   ·rw[if_pos (show(x.Lot==a.hold.Lot&&x.Order==a.hold.Order)=true from e)]
    exact .inr ⟨i,x,rfl,Nat.le_refl _,hx,e,fun k y h1 h2 _=>by omega⟩
   rw[if_neg (show¬(x.Lot==a.hold.Lot&&x.Order==a.hold.Order)=true from e),qbM (by omega)]
   have e':kq a.hold.Lot a.hold.Order x=false:=by simpa using e
   have first: ∀(k:Nat) y,k=i->holds[k]? =some y->kq a.hold.Lot a.hold.Order y=false:=fun k y hk hy=>by
    subst hk;rw[hx]at hy;obtain rfl:=Ye hy;exact e'
   rcases ixH1 hh a K (i+1) (by omega) (by omega)with⟨r1,r2⟩|⟨j,y,r1,r2,r3,r4,r5⟩
   ·refine .inl ⟨r1,fun j y hj hy=>?_⟩
    by_cases c:j=i
    ·exact first j y c hy
    exact r2 j y (by omega) hy
   refine .inr ⟨j,y,r1,by omega,r3,r4,fun k z hk hkj hz=>?_⟩
   by_cases c:k=i
   ·exact first k z c hz
   exact r5 k z (by omega) hkj hz
  rw[if_neg (by omega)]
  exact .inl ⟨rfl,fun j x hj hx=>by have:=(Yb.1 hx).1;omega⟩
theorem ixH2 {holds:List qp} (a:ql): ∀(K:Nat) (i:Int),jF holds a K i=zx holds a K i
 |0,i=>rfl
 |K+1,i=>by
  unfold zx jF qbd qa8
  simp only[ixH2 a K]
theorem qw0 {holds:List qp} {lo od:Str} {j:Nat} {x:qp} (hx:holds[j]? =some x) (e:kq lo od x=true) (h: ∀(k:Nat) y,k<j->holds[k]? =some y->kq lo od y=false):qbX holds lo od=x:=by
 obtain⟨hj,rfl⟩:=Yb.1 hx
 unfold qbX
 rw[List.find?_eq_some_iff_getElem.2 ⟨e,j,hj,rfl,fun i hi=>by rw[h i _ hi (Ya (by omega))];rfl⟩]
 rfl
theorem qs8 {holds:List qp} {lo od:Str} (h: ∀(j:Nat) x,holds[j]? =some x->kq lo od x=false):qbX holds lo od=⟨lo,od,0,0⟩:=by
 unfold qbX
 rw[List.find?_eq_none.2]
 ·rfl
 intro x hx
 obtain⟨j,hj,rfl⟩:=List.getElem_of_mem hx
 rw[h j _ (Ya hj)]
 decide
theorem qkr {holds:List qp} {lo od:Str}:(qbX holds lo od).Lot=lo/\(qbX holds lo od).Order=od:=by
 unfold qbX
 cases h:holds.find? (kq lo od)with
 |none=>exact⟨rfl,rfl⟩
 |some x=>exact qqf.1 (List.find?_some h)
theorem qq6 {holds:List qp} {lo od:Str}:qbX holds lo od∈holds\/qbX holds lo od=⟨lo,od,0,0⟩:=by
 unfold qbX
 cases h:holds.find? (kq lo od)with
 |none=>exact .inr rfl
 |some x=>exact .inl (List.mem_of_find?_eq_some h)
theorem qtF {N:Nat} (hN:2000<N) (day:Int) {lots:List qH} (holds:List qp) (hl:lots.length<=100) (ok:qhi lots) (name:Str):
 (∃(j:Nat) (x:qH),qbG N ⟨day,lots,holds⟩ name=some ((j:Int),true)/\lots[j]? =some x/\x.Name=name)\/
 (∃p:Nat,qbG N ⟨day,lots,holds⟩ name=some ((p:Int),false)/\p<=lots.length/\(∀(k:Nat) x,k<p->lots[k]? =some x->ltL x.Name name=true)/\(∀(k:Nat) x,p<=k->lots[k]? =some x->ltL x.Name name=false)/\ ∀(k:Nat) x,lots[k]? =some x->x.Name≠name):=by
 unfold qbG xE qde tCmp
 simp only
 obtain⟨p,p1,p2,p3,p4⟩:=bs_L hl ok name N 0 lots.length (by omega) (by omega) (by omega) (fun k x hk=>by omega) (fun k x hk hx=>by
  have:=(Yb.1 hx).1
  omega)
 rw[show((0:Nat):Int)=0 from rfl]at p1
 rw[p1,ZB]
 by_cases c:p<lots.length
 ·have hx:lots[p]? =some lots[p]:=Ya c
  rw[if_pos (by omega),vK,hx,ZB,ZB,ZB]
  by_cases e:lots[p].Name=name
  ·refine .inl ⟨p,_,?_,hx,e⟩
   rw[e,qhp,qbZ,beq_self_eq_true]
   rfl
  refine .inr ⟨p,?_,p2,p3,p4,fun k x hk=>?_⟩
  ·have hz: ¬Lib.compareBytes lots[p].Name name=0:=by
    rw[qhp,p4 p _ (Nat.le_refl _) hx]
    simp[e]
   rw[decide_eq_false hz]
   rfl
  rcases Nat.lt_trichotomy k p with d|d|d
  ·exact qnP (p3 k x d hk)
  ·subst d
   rw[hx]at hk
   obtain rfl:=Ye hk
   exact e
  intro h
  have h1:=qhO ok d hx hk
  rw[h,p4 p _ (Nat.le_refl _) hx]at h1
  cases h1
 refine .inr ⟨p,?_,p2,p3,p4,fun k x hk=>qnP (p3 k x (by have:=(Yb.1 hk).1;omega) hk)⟩
 rw[if_neg (by omega)]
 rfl
theorem qwu {lots:List qH} {holds:List qp} {e:qw}:(qed lots holds e).lot.Name=e.Lot/\(qed lots holds e).hold.Lot=e.Lot/\(qed lots holds e).hold.Order=e.Order:=by
 unfold qed
 cases h:lots.find? (fun x=>x.Name==e.Lot)with
 |none=>exact⟨rfl,qkr⟩
 |some x=>exact⟨by simpa using List.find?_some h,qkr⟩
theorem qvW {N:Nat} (hN:2000<N) {day:Int} {lots:List qH} {holds:List qp} (o:OKS day lots holds) (e:qw):zR N ⟨day,lots,holds⟩ e=some (qed lots holds e):=by
 have hl:lots.length<=100:=by have:=o.ll;omega
 have hh:holds.length<=300:=by have:=o.hl;omega
 have hold: ∀(a:ql),a.hold.Lot=e.Lot->a.hold.Order=e.Order-> ∃r,qbc N holds a=some r/\((if r>=0 then(idx holds r).bind fun x18=>some (x18.Lot,x18.Order,x18.Reserved,x18.Taken)else some (e.Lot,e.Order,0,0):Option (Str×Str×Int×Int)))=some ((qbX holds e.Lot e.Order).Lot,(qbX holds e.Lot e.Order).Order,(qbX holds e.Lot e.Order).Reserved,(qbX holds e.Lot e.Order).Taken):=by
  intro a h1 h2
  unfold qbc
  rcases ixH1 hh a N 0 (by omega) (by omega)with⟨r1,r2⟩|⟨j,x,r1,r2,r3,r4,r5⟩
  ·rw[show((0:Nat):Int)=0 from rfl]at r1
   rw[r1]
   refine⟨-1,rfl,?_⟩
   rw[h1,h2]at r2
   rw[if_neg (by decide),qs8 fun j x hx=>r2 j x (Nat.zero_le _) hx]
  rw[show((0:Nat):Int)=0 from rfl]at r1
  rw[r1]
  refine⟨(j:Int),rfl,?_⟩
  rw[h1,h2]at r4 r5
  rw[if_pos (by omega),vK,r3,qw0 r3 r4 fun k y hk hy=>r5 k y (Nat.zero_le _) hk hy]
  rfl
 unfold zR
 simp only
 rcases qtF hN day holds hl o.lk e.Lot with⟨j,x,h1,h2,h3⟩|⟨p,h1,h2,h3,h4,h5⟩
 ·rw[h1,ZB]
  simp only[if_true]
  rw[vK,h2,ZB,free_eq hN hh,ZB]
  simp only[ZB]
  obtain⟨r,g1,g2⟩:=hold (⟨⟨x.Name,x.Yarn,x.Dye,x.Stock⟩,true,⟨e.Lot,e.Order,0,0⟩,frE holds x⟩:ql) rfl rfl
  rw[g1,ZB,g2,ZB]
  unfold qed
  rw[qun o.lk h2 h3]
 rw[h1,ZB]
 simp only[ZF,if_false,ZB]
 obtain⟨r,g1,g2⟩:=hold (⟨⟨e.Lot,e.Yarn,e.Dye,0⟩,false,⟨e.Lot,e.Order,0,0⟩,0⟩:ql) rfl rfl
 rw[g1,ZB,g2,ZB]
 unfold qed
 rw[qut h5]
theorem qwq {p:qp->Bool} {a1 a2 a3:Str} {a4:Int} {a5:Bool} {lo od:Str} {a8 a9 a10:Int} {holds:List qp} (hh:holds.length<=300): ∀(K n m:Nat) (l:List qp),l.length=holds.length->n<m->m<=l.length->l.length<K+m->l.drop m=holds.drop m->l.take n=(holds.take m).filter (fun x=>!kq lo od x)->
 ∃l' n',zn a1 a2 a3 a4 a5 lo od a8 a9 a10 K l (n:Int) (m:Int)=some (l',((n':Nat):Int))/\l'.length=holds.length/\n'<holds.length/\l'.take n'=holds.filter (fun x=>!kq lo od x)
 |0,n,m,l,h1,h2,h3,h4,h5,h6=>by omega
 |K+1,n,m,l,h1,h2,h3,h4,h5,h6=>by
  unfold zn qa8 qdx
  by_cases hm:m<l.length
  ·have hx:l[m]? =some l[m]:=Ya hm
   have hm2:m<holds.length:=by omega
   have hxx:l[m]=holds[m]:=by
    have e:(l.drop m)[0]? =(holds.drop m)[0]? :=by rw[h5]
    rw[YI,YI,Nat.add_zero,hx,Ya hm2]at e
    exact Ye e
   have htk:holds.take (m+1)=holds.take m++[l[m]]:=by rw[hxx];exact List.take_succ_eq_append_getElem hm2
   rw[if_pos (by omega),vK,hx,ZB]
   simp only[ZB,Bool.and_true]
   have hdr:(l.drop (m+1))=holds.drop (m+1):=by
    have: ∀z:List qp,z.drop (m+1)=(z.drop m).drop 1:=fun z=>by rw[List.drop_drop]
    rw[this l,this holds,h5]
   by_cases e:kq lo od l[m]=true
   ·rw[if_neg (show¬(!(l[m].Lot==lo&&l[m].Order==od))=true by rw[show(l[m].Lot==lo&&l[m].Order==od)=true from e];decide),ZB]
    simp only
    rw[qbM (by omega)]
    refine qwq (p:=p) hh K n (m+1) l h1 (by omega) (by omega) (by omega) hdr ?_
    rw[htk,List.filter_append,h6]
    simp[e]
   have e':kq lo od l[m]=false:=by simpa using e
   rw[if_pos (show(!(l[m].Lot==lo&&l[m].Order==od))=true by rw[show(l[m].Lot==lo&&l[m].Order==od)=false from e'];rfl),vK,Ya (show n<l.length by omega),ZB,quI (by omega),ZB,ZB]
   simp only
   rw[qbM (by omega),qbM (by omega)]
   refine qwq (p:=p) hh K (n+1) (m+1) (l.set n l[m]) (by simpa using h1) (by omega) (by simp;omega) (by simp;omega) ?_ ?_
   ·rw[List.drop_set_of_lt (by omega),hdr]
   rw[htk,List.filter_append,<-h6,List.take_set,List.take_succ_eq_append_getElem (show n<l.length by omega),List.set_append_right _ _ (by simp;omega)]
   simp[e']
   rw[show n-min n l.length=0 by omega]
   rfl
  rw[if_neg (by omega)]
  have hm':m=holds.length:=by omega
  refine⟨l,n,rfl,h1,by omega,?_⟩
  rw[h6,hm',List.take_length]
theorem del_eq {N:Nat} (hN:2000<N) {a1 a2 a3:Str} {a4:Int} {a5:Bool} {lo od:Str} {a8 a9 a10:Int} {holds:List qp} (hh:holds.length<=300):
 (jm N holds a1 a2 a3 a4 a5 lo od a8 a9 a10=some (.inl ())/\holds.filter (fun x=>!kq lo od x)=holds)\/jm N holds a1 a2 a3 a4 a5 lo od a8 a9 a10=some (.inr (holds.filter fun x=>!kq lo od x)):=by
 unfold jm qcy
 rw[ixH2]
 rcases ixH1 hh (⟨⟨a1,a2,a3,a4⟩,a5,⟨lo,od,a8,a9⟩,a10⟩:ql) N 0 (by omega) (by omega)with⟨r1,r2⟩|⟨j,x,r1,r2,r3,r4,r5⟩
 ·rw[show((0:Nat):Int)=0 from rfl]at r1
  rw[r1]
  refine .inl ⟨rfl,List.filter_eq_self.2 fun x hx=>?_⟩
  obtain⟨j,hj,rfl⟩:=List.getElem_of_mem hx
  have:=r2 j _ (Nat.zero_le _) (Ya hj)
  simp only at this
  rw[this];rfl
 rw[show((0:Nat):Int)=0 from rfl]at r1
 rw[r1]
 refine .inr ?_
 simp only[ZB]at r4 r5⊢
 have hj:=(Yb.1 r3).1
 rw[if_neg (by omega),qbM (by omega)]
 have hpre:holds.take j=(holds.take (j+1)).filter (fun x=>!kq lo od x):=by
  rw[List.take_succ_eq_append_getElem hj,List.filter_append]
  have e1:(holds.take j).filter (fun x=>!kq lo od x)=holds.take j:=List.filter_eq_self.2 fun y hy=>by
   obtain⟨k,hk,rfl⟩:=List.getElem_of_mem hy
   have hk':k<j:=by simp at hk;omega
   rw[List.getElem_take,r5 k _ (Nat.zero_le _) hk' (Ya (by omega))];rfl
  have e2:holds[j]=x:=by rw[Ya hj]at r3;exact Ye r3
  rw[e1,e2]
  simp[r4]
 obtain⟨l',n',g1,g2,g3,g4⟩:=qwq (p:=fun _=>true) (a1:=a1) (a2:=a2) (a3:=a3) (a4:=a4) (a5:=a5) (lo:=lo) (od:=od) (a8:=a8) (a9:=a9) (a10:=a10) hh N j (j+1) holds rfl (by omega) (by omega) (by omega) rfl hpre
 rw[g1,ZB]
 simp only
 have hc: ∀k:Nat,k<=holds.length->(qle l' k (⟨[],[],0,0⟩:qp)).length=holds.length:=fun k hk=>by
  unfold qle;simp;omega
 have ht:(qle l' n' (⟨[],[],0,0⟩:qp)).take n'=l'.take n':=by
  unfold qle
  rw[List.take_append_of_le_length (by simp;omega),List.take_take,Nat.min_self]
 by_cases z:n'=0
 ·subst z
  rw[if_pos (by rfl),if_pos (by omega),ZB,ZB,if_pos (by rw[hc 0 (by omega)];omega),ZB,qmr (Nat.zero_le _),ZB,ht,g4]
 rw[if_neg (by omega),qyq (by omega),ZB,if_pos (by omega),ZB,ZB,if_pos (by rw[hc n' (by omega)];omega),ZB,qmr (by rw[hc n' (by omega)];omega),ZB,ht,g4]
end Go.Av
end
section
namespace Go.Av
open Go.Proofs Go.RowKit
variable [Glob]
end Go.Av
end
section
namespace Go.Av
open Go.Proofs Go.RowKit
variable [Glob]
theorem qnB {n a b:Int} (h:qdS n a b=false):a<=n/\n<=b:=by
 unfold qdS at h
 rw[Bool.or_eq_false_iff]at h
 have:=of_decide_eq_false h.1
 have:=of_decide_eq_false h.2
 omega
theorem que {n a b:Int} (h:a<=n/\n<=b):qdS n a b=false:=by
 unfold qdS
 rw[decide_eq_false (by omega),decide_eq_false (by omega)]
 rfl
theorem qst {lots:List qH} {holds:List qp} {e:qw}:(qdL lots holds e).lot.Name=e.Lot/\(qdL lots holds e).hold.Lot=e.Lot/\(qdL lots holds e).hold.Order=e.Order:=by
 obtain⟨h1,h2,h3⟩:=qwu (lots:=lots) (holds:=holds) (e:=e)
 unfold qdL qfJ
 repeat' split
 all_goals exact⟨h1,h2,h3⟩
theorem qur {N:Nat} (hN:2000<N) {day:Int} {lots:List qH} {holds:List qp} (o:OKS day lots holds) {e:qw} (k:qlz e) (h1:0<=(qdL lots holds e).hold.Reserved) (h2:0<=(qdL lots holds e).hold.Taken):
 qbL N ⟨day,lots,holds⟩ e=some ⟨e.Day,nxL lots holds e,nxH lots holds e⟩:=by
 have hl:lots.length<=100:=by have:=o.ll;omega
 have hh:holds.length<=300:=by have:=o.hl;omega
 obtain⟨k1,k2,k3⟩:=qst (lots:=lots) (holds:=holds) (e:=e)
 have hacc: ∀{α:Type} (f:Str×Str×Str×Int×Bool×Str×Str×Int×Int×Int->Option α),(((qd0).bind fun r1=>
  if(e.Kind==[114,101,99,101,105,118,101])=true then
  (zR N ⟨day,lots,holds⟩ e).bind fun r3=>
  (qfO r3 e.Amount).bind fun r4=>
  some (r4.lot.Name,r4.lot.Yarn,r4.lot.Dye,r4.lot.Stock,r4.known,r4.hold.Lot,r4.hold.Order,r4.hold.Reserved,r4.hold.Taken,r4.free)
  else
  if(e.Kind==[114,101,115,101,114,118,101])=true then
  (zR N ⟨day,lots,holds⟩ e).bind fun r6=>
  (qfV r6 e.Amount).bind fun r7=>
  some (r7.lot.Name,r7.lot.Yarn,r7.lot.Dye,r7.lot.Stock,r7.known,r7.hold.Lot,r7.hold.Order,r7.hold.Reserved,r7.hold.Taken,r7.free)
  else
  if(e.Kind==[114,101,108,101,97,115,101])=true then
  (zR N ⟨day,lots,holds⟩ e).bind fun r9=>
  (qfL r9 e.Amount).bind fun r10=>
  some (r10.lot.Name,r10.lot.Yarn,r10.lot.Dye,r10.lot.Stock,r10.known,r10.hold.Lot,r10.hold.Order,r10.hold.Reserved,r10.hold.Taken,r10.free)
  else
  if(e.Kind==[116,97,107,101])=true then
  (zR N ⟨day,lots,holds⟩ e).bind fun r12=>
  (qiE r12 e.Amount).bind fun r13=>
  some (r13.lot.Name,r13.lot.Yarn,r13.lot.Dye,r13.lot.Stock,r13.known,r13.hold.Lot,r13.hold.Order,r13.hold.Reserved,r13.hold.Taken,r13.free)
  else
  if(e.Kind==[114,101,116,117,114,110])=true then
  (zR N ⟨day,lots,holds⟩ e).bind fun r15=>
  (qfU r15 e.Amount).bind fun r16=>
  some (r16.lot.Name,r16.lot.Yarn,r16.lot.Dye,r16.lot.Stock,r16.known,r16.hold.Lot,r16.hold.Order,r16.hold.Reserved,r16.hold.Taken,r16.free)
  else
  none:Option (Str×Str×Str×Int×Bool×Str×Str×Int×Int×Int)).bind f)=f ((qdL lots holds e).lot.Name,(qdL lots holds e).lot.Yarn,(qdL lots holds e).lot.Dye,(qdL lots holds e).lot.Stock,(qdL lots holds e).known,(qdL lots holds e).hold.Lot,(qdL lots holds e).hold.Order,(qdL lots holds e).hold.Reserved,(qdL lots holds e).hold.Taken,(qdL lots holds e).free):=by
  intro α f
  unfold qd0 qdL qfJ
  rw[qvW hN o e]
  generalize qed lots holds e=a
  rcases k.kind with h|h|h|h|h<;>rw[h]<;>rfl
 unfold qbL
 simp only
 rw[hacc]
 simp only
 unfold nxL nxH
 generalize qdL lots holds e=b at*
 obtain⟨⟨nm,ya,dy,st⟩,kn,⟨lo,od,rs,tk⟩,fr⟩:=b
 simp only at k1 k2 k3 h1 h2⊢
 subst k1 k2 k3
 have hcl:qmp lots=some ():=by unfold qmp;rw[if_pos (by omega)]
 have hch:qkv holds=some ():=by unfold qkv;rw[if_pos (by omega)]
 rw[hcl,ZB]
 have hlot:((qbG N ⟨e.Day,lots,[]⟩ e.Lot).bind fun r29=>((if r29.2=true then(idx lots r29.1).bind fun x33=>(put lots r29.1 (⟨e.Lot,ya,dy,st⟩:qH)).bind fun l34=>some l34 else(qqm lots r29.1 e.Lot ya dy st).bind fun l36=>some l36:Option (List qH))))=some (qb2 ⟨e.Lot,ya,dy,st⟩ lots):=by
  rcases qtF hN e.Day [] hl o.lk e.Lot with⟨j,x,g1,g2,g3⟩|⟨p,g1,g2,g3,g4,g5⟩
  ·rw[g1,ZB]
   simp only[if_true]
   have hj:=(Yb.1 g2).1
   have hk:=qn3 (x:=(⟨e.Lot,ya,dy,st⟩:qH)) (y:=x) o.lk.srt g2 g3
   rw[vK,g2,ZB,quI hj,ZB,hk]
  rw[g1,ZB]
  simp only[ZF,if_false]
  have hk:=qqt (x:=(⟨e.Lot,ya,dy,st⟩:qH)) g2 g3 g4 g5
  unfold qqm
  rw[if_pos ⟨by omega,by omega,by omega⟩,ZB,hk,Int.toNat_natCast]
 have hsort: ∀{b:Bool},b=decide (¬(rs=0/\tk=0))-> ∀l:List qp,l=holds.filter (fun x=>!kq e.Lot e.Order x)-> ∃l43,((if b=true then(app 48 l [(⟨e.Lot,e.Order,rs,tk⟩:qp)]).bind fun l46=>some l46 else some l:Option (List qp)))=some l43/\l43.length<=1000/\qiI qp.Lot qp.Order l43=qf2 ⟨e.Lot,e.Order,rs,tk⟩ holds:=by
  intro b hb l hlf
  have hlen:l.length<=300:=by
   have:=List.length_filter_le (fun x=>!kq e.Lot e.Order x) holds
   rw[hlf];omega
  by_cases c:rs=0/\tk=0
  ·rw[hb,decide_eq_false (by simpa using c),if_neg (by decide)]
   refine⟨l,rfl,by omega,?_⟩
   unfold qf2
   rw[if_pos c,hlf]
   exact qsM (qnY o.hk.srt _) (.refl _)
  rw[hb,decide_eq_true (by simpa using c),if_pos rfl,qnC (by simp;omega) (by simp;omega),ZB]
  refine⟨_,rfl,by simp;omega,?_⟩
  unfold qf2
  rw[if_neg c,hlf]
  refine qsM (qpI (qnY o.hk.srt _) qmS) ?_
  exact List.perm_append_comm.trans (qkf _ _).symm
 have hb:((if rs>0 then some true else some (decide (tk>0)):Option Bool))=some (decide (¬(rs=0/\tk=0))):=by
  by_cases c:rs>0
  ·rw[if_pos c]
   congr 1
   exact(decide_eq_true (by omega)).symm
  rw[if_neg c]
  congr 1
  exact decide_eq_decide.2 (by omega)
 obtain⟨r,e1,e2⟩:=Option.bind_eq_some_iff.1 hlot
 rw[e1,ZB,e2,ZB,hch,ZB]
 rcases del_eq hN (a1:=e.Lot) (a2:=ya) (a3:=dy) (a4:=st) (a5:=kn) (lo:=e.Lot) (od:=e.Order) (a8:=rs) (a9:=tk) (a10:=fr) hh with⟨g1,g2⟩|g1
 ·rw[g1,ZB]
  simp only
  obtain⟨l43,f1,f2,f3⟩:=hsort rfl holds g2.symm
  rw[hb,ZB,f1,ZB]
  unfold qmX
  rw[if_pos (by omega),ZB,if_pos (qhK _ _ l43).1.symm,ZB,f3]
 rw[g1,ZB]
 simp only
 obtain⟨l43,f1,f2,f3⟩:=hsort rfl _ rfl
 rw[hb,ZB,f1,ZB]
 unfold qmQ
 rw[if_pos (by omega),ZB,if_pos (qhK _ _ l43).1.symm,ZB,f3]
theorem ix5 {L:Nat->Int->Option (Unit⊕Int)} {f:Int->Option Bool} (hL: ∀K n,L (K+1) n=if n<5 then(f n).bind fun b=>if b=true then some (.inr n)else L K (w64 (n+1))else some (.inl ())) (K:Nat):
 L (K+6) 0=(f 0).bind fun b0=>if b0=true then some (.inr 0)else(f 1).bind fun b1=>if b1=true then some (.inr 1)else(f 2).bind fun b2=>if b2=true then some (.inr 2)else(f 3).bind fun b3=>if b3=true then some (.inr 3)else(f 4).bind fun b4=>if b4=true then some (.inr 4)else some (.inl ()):=by
 have e1:w64 (0+1)=1:=by decide
 have e2:w64 (1+1)=2:=by decide
 have e3:w64 (2+1)=3:=by decide
 have e4:w64 (3+1)=4:=by decide
 have e5:w64 (4+1)=5:=by decide
 rw[hL (K+5),if_pos (by decide),e1,hL (K+4),if_pos (by decide),e2,hL (K+3),if_pos (by decide),e3,hL (K+2),if_pos (by decide),e4,hL (K+1),if_pos (by decide),e5,hL K,if_neg (by decide)]
def rul (b0 b1 b2 b3 b4:Option Bool):Option Int:=
 b0.bind fun x0=>if x0=true then some 1 else b1.bind fun x1=>if x1=true then some 2 else b2.bind fun x2=>if x2=true then some 3 else b3.bind fun x3=>if x3=true then some 4 else b4.bind fun x4=>if x4=true then some 5 else some 0
theorem qx9 {b0 b1 b2 b3 b4:Option Bool}:((b0.bind fun b0=>if b0=true then some (.inr 0)else b1.bind fun b1=>if b1=true then some (.inr 1)else b2.bind fun b2=>if b2=true then some (.inr 2)else b3.bind fun b3=>if b3=true then some (.inr 3)else b4.bind fun b4=>if b4=true then some (.inr 4)else some (.inl ()):Option (Unit⊕Int)).bind (fun
 |(.inl ())=>some (-1)
 |(.inr q18)=>some q18)).bind (fun r1=>some (w64 (1+r1)))=rul b0 b1 b2 b3 b4:=by
 unfold rul
 have e0:w64 (1+ -1)=0:=by decide
 have e1:w64 (1+0)=1:=by decide
 have e2:w64 (1+1)=2:=by decide
 have e3:w64 (1+2)=3:=by decide
 have e4:w64 (1+3)=4:=by decide
 have e5:w64 (1+4)=5:=by decide
 rcases b0 with _|_|_<;>try rfl
 rcases b1 with _|_|_<;>try rfl
 rcases b2 with _|_|_<;>try rfl
 rcases b3 with _|_|_<;>try rfl
 rcases b4 with _|_|_<;>rfl
theorem qi3 {N:Nat} (hN:2000<N) {L:Nat->Int->Option (Unit⊕Int)} {b0 b1 b2 b3 b4:Option Bool} (hL: ∀K n,L (K+1) n=if n<5 then(if n=0 then b0.bind fun r=>some r else if n=1 then b1.bind fun r=>some r else if n=2 then b2.bind fun r=>some r else if n=3 then b3.bind fun r=>some r else if n=4 then b4.bind fun r=>some r else none:Option Bool).bind fun b=>if b=true then some (.inr n)else L K (w64 (n+1))else some (.inl ())):
 ((L N 0).bind (fun
 |(.inl ())=>some (-1)
 |(.inr q18)=>some q18)).bind (fun r1=>some (w64 (1+r1)))=rul b0 b1 b2 b3 b4:=by
 obtain⟨K,rfl⟩: ∃K,N=K+6:=⟨N-6,by omega⟩
 have hs: ∀b:Option Bool,(b.bind fun r=>some r)=b:=fun b=>by cases b<;>rfl
 simp only[hs]at hL
 rw[ix5 hL]
 exact qx9
theorem qhw {lots:List qH} {holds:List qp} (hk:qf9 lots holds) {x:qp} (hx:x∈holds):knB lots x.Lot=true/\vS x.Order=true/\(0<=x.Reserved/\x.Reserved<=999999999)/\(0<=x.Taken/\x.Taken<=999999999)/\ ¬(x.Reserved=0/\x.Taken=0):=by
 obtain⟨j,hj,rfl⟩:=List.getElem_of_mem hx
 obtain⟨h1,h2,h3,h4,h5,h6⟩:=qkR (hk j _ (Ya hj))
 exact⟨h1,h2,qnB h4,qnB h5,h6⟩
theorem qtv {p:Option qH} {x:qH} (h:qhc p x=0):vS x.Name=true/\vS x.Yarn=true/\qia x.Dye=true/\qkx p x=false/\0<=x.Stock/\x.Stock<=999999999:=by
 unfold qhc at h
 cases n1:vS x.Name<;>cases n2:vS x.Yarn<;>cases n3:qia x.Dye<;>cases n4:qkx p x<;>cases n5:qdS x.Stock 0 999999999<;>rw[n1,n2,n3,n4,n5]at h<;>first|(exact absurd h (by decide))|exact⟨rfl,rfl,rfl,rfl,qnB n5⟩
theorem qjB {lots:List qH} (ok:qhi lots) {x:qH} (hx:x∈lots):vS x.Name=true/\vS x.Yarn=true/\qia x.Dye=true/\0<=x.Stock/\x.Stock<=999999999:=by
 obtain⟨j,hj,rfl⟩:=List.getElem_of_mem hx
 obtain⟨h1,h2,h3,_,h5⟩:=qtv (ok j _ (Ya hj))
 exact⟨h1,h2,h3,h5⟩
theorem qtk {lots:List qH} {holds:List qp} (hk:qf9 lots holds) (lo od:Str):(0<=(qbX holds lo od).Reserved/\(qbX holds lo od).Reserved<=999999999)/\(0<=(qbX holds lo od).Taken/\(qbX holds lo od).Taken<=999999999):=by
 rcases qq6 (holds:=holds) (lo:=lo) (od:=od)with h|h
 ·exact⟨(qhw hk h).2.2.1,(qhw hk h).2.2.2.1⟩
 rw[h];exact⟨⟨Int.le_refl _,(by decide:(0:Int)<=999999999)⟩,Int.le_refl _,(by decide:(0:Int)<=999999999)⟩
theorem qoA {lots:List qH} {holds:List qp} {e:qw}:(qed lots holds e).hold=qbX holds e.Lot e.Order:=by
 unfold qed
 split<;>rfl
theorem qwb {day:Int} {lots:List qH} {holds:List qp} (o:OKS day lots holds) {e:qw} (k:qlz e) (hf:qoe e.Kind (qed lots holds e) e.Amount=true):0<=(qdL lots holds e).hold.Reserved/\0<=(qdL lots holds e).hold.Taken:=by
 have hin:=qtk o.hk e.Lot e.Order
 have ham:=qnB k.am
 unfold qdL qfJ
 unfold qoe at hf
 rw[<-qoA (lots:=lots)]at hin
 generalize qed lots holds e=a at*
 rcases k.kind with h|h|h|h|h<;>rw[h]at hf⊢
 ·rw[if_pos rfl]
  exact⟨hin.1.1,hin.2.1⟩
 ·rw[if_neg (by decide),if_pos rfl]
  refine⟨?_,hin.2.1⟩
  show 0<=w64 _
  rw[qb6 (by omega) (by omega)];omega
 ·rw[if_neg (by decide),if_neg (by decide),if_pos rfl]
  rw[if_neg (by decide),if_neg (by decide),if_pos rfl]at hf
  have hf:e.Amount<=a.hold.Reserved:=of_decide_eq_true hf
  refine⟨?_,hin.2.1⟩
  show 0<=w64 _
  rw[qb6 (n:=0-e.Amount) (by omega) (by omega),qb6 (by omega) (by omega)];omega
 ·rw[if_neg (by decide),if_neg (by decide),if_neg (by decide),if_pos rfl]
  refine⟨?_,?_⟩
  ·show(0:Int)<=(if w64 (a.hold.Reserved-e.Amount)>0 then w64 (a.hold.Reserved-e.Amount)else 0)
   split<;>omega
  show 0<=w64 _
  rw[qb6 (by omega) (by omega)];omega
 rw[if_neg (by decide),if_neg (by decide),if_neg (by decide),if_neg (by decide)]
 rw[if_neg (by decide),if_neg (by decide),if_neg (by decide),if_neg (by decide)]at hf
 have hf:e.Amount<=a.hold.Taken:=of_decide_eq_true hf
 refine⟨hin.1.1,?_⟩
 show 0<=w64 _
 rw[qb6 (by omega) (by omega)];omega
theorem qsT {N:Nat} (hN:2000<N) {day:Int} {lots:List qH} {holds:List qp} (o:OKS day lots holds) {e:qw} (k:qlz e):qdz N ⟨day,lots,holds⟩ e=some (qhB day lots holds e):=by
 have key: ∀{b3:Option Bool},b3=some (!decide ((if(qdL lots holds e).hold.Taken>(qdL lots holds e).lot.Stock then(qdL lots holds e).hold.Taken else(qdL lots holds e).lot.Stock)<=999999999))->
  rul (xL e ⟨day,lots,holds⟩) (yO e (qed lots holds e)) (some (!qoe e.Kind (qed lots holds e) e.Amount)) b3 (xQ N ⟨day,lots,holds⟩ e)=some (qhB day lots holds e):=by
  intro b3 hb3
  have h0:xL e ⟨day,lots,holds⟩=some (!decide (e.Day>=day)):=rfl
  have h1:yO e (qed lots holds e)=some (!qnr e (qed lots holds e)):=by
   unfold yO qdn qnr
   generalize qed lots holds e=a
   by_cases c:e.Kind=knR
   ·rw[if_pos c,c]
    cases a.known<;>cases(a.lot.Yarn==e.Yarn)<;>rfl
   rw[if_neg c,if_pos (by simpa using c)]
   rfl
  rw[h0,h1,hb3]
  unfold rul qhB
  simp only[ZB]
  by_cases c0:e.Day<day
  ·rw[if_pos c0,decide_eq_false (by omega),if_pos (by rfl)]
  rw[if_neg c0,decide_eq_true (by omega),if_neg (by decide)]
  by_cases c1:qnr e (qed lots holds e)=false
  ·rw[if_pos c1,c1,if_pos (by rfl)]
  rw[if_neg c1,if_neg (by simpa using c1)]
  by_cases c2:qoe e.Kind (qed lots holds e) e.Amount=false
  ·rw[if_pos c2,c2,if_pos (by rfl)]
  rw[if_neg c2,if_neg (by simpa using c2)]
  by_cases c3:999999999<(qdL lots holds e).lot.Stock\/999999999<(qdL lots holds e).hold.Taken
  ·rw[if_pos c3,decide_eq_false (by split<;>omega),if_pos (by rfl)]
  rw[if_neg c3,decide_eq_true (by split<;>omega),if_neg (by decide)]
  obtain⟨n1,n2⟩:=qwb o k (by simpa using c2)
  unfold xQ qdo
  rw[qur hN o k n1 n2]
  simp only[ZB]
  by_cases c4:64<(nxL lots holds e).length
  ·rw[if_pos (show 64<(nxL lots holds e).length\/256<(nxH lots holds e).length from .inl c4),if_neg (show¬((nxL lots holds e).length:Int)<=64 by omega)]
   rfl
  rw[if_pos (show((nxL lots holds e).length:Int)<=64 by omega)]
  simp only[ZB]
  by_cases c5:256<(nxH lots holds e).length
  ·rw[if_pos (show 64<(nxL lots holds e).length\/256<(nxH lots holds e).length from .inr c5),decide_eq_false (by omega)]
   rfl
  rw[if_neg (show¬(64<(nxL lots holds e).length\/256<(nxH lots holds e).length)by omega),decide_eq_true (by omega)]
  rfl
 unfold qdz
 rw[qvW hN o e,ZB]
 unfold qd0
 simp only[ZB]
 have hs: ∀b:Option Int,(b.bind fun r=>some r)=b:=fun b=>by cases b<;>rfl
 simp only[hs]
 unfold qoe qdL qfJ at key
 rcases k.kind with h|h|h|h|h<;>rw[h]at key⊢
 ·rw[if_pos (by rfl)]
  refine Eq.trans ?_ (key rfl)
  unfold qgv qcq
  rw[if_pos rfl]
  exact qi3 hN (fun K n=>by rw[yA];rfl)
 ·rw[if_neg (by decide),if_pos (by rfl)]
  refine Eq.trans ?_ (key rfl)
  unfold qgL qch
  rw[if_neg (by decide),if_pos rfl]
  exact qi3 hN (fun K n=>by rw[yB];rfl)
 ·rw[if_neg (by decide),if_neg (by decide),if_pos (by rfl)]
  refine Eq.trans ?_ (key rfl)
  unfold qgx qcs
  rw[if_neg (by decide),if_neg (by decide),if_pos rfl]
  exact qi3 hN (fun K n=>by rw[yc];rfl)
 ·rw[if_neg (by decide),if_neg (by decide),if_neg (by decide),if_pos (by rfl)]
  refine Eq.trans ?_ (key rfl)
  unfold qgR qcw
  rw[if_neg (by decide),if_neg (by decide),if_neg (by decide),if_pos rfl]
  exact qi3 hN (fun K n=>by rw[ym];rfl)
 rw[if_neg (by decide),if_neg (by decide),if_neg (by decide),if_neg (by decide),if_pos (by rfl)]
 refine Eq.trans ?_ (key rfl)
 unfold qgT qcj
 rw[if_neg (by decide),if_neg (by decide),if_neg (by decide),if_neg (by decide)]
 exact qi3 hN (fun K n=>by rw[yu];rfl)
end Go.Av
end
section
namespace Go.Av
open Go.Proofs Go.RowKit
variable [Glob]
theorem qvU {s:Str} (h:vS s=true):s≠[]:=fun e=>by rw[e]at h;cases h
theorem qvS {lots:List qH} {holds:List qp} (hk:qf9 lots holds) {x:qp} (hx:x∈holds) (lo:Str):kq lo [] x=false:=by
 cases c:kq lo [] x with
 |false=>rfl
 |true=>exact absurd (qqf.1 c).2 (qvU (qhw hk hx).2.1)
theorem qug {lots:List qH} {holds:List qp} (hk:qf9 lots holds) (lo:Str):qbX holds lo []=⟨lo,[],0,0⟩:=
 qs8 fun j x hx=>qvS hk (Yn hx) lo
theorem qxI {lots:List qH} (ok:qhi lots) (holds:List qp) {e:qw} {j:Nat} {x:qH} (hx:lots[j]? =some x) (hn:x.Name=e.Lot):qed lots holds e=⟨x,true,qbX holds e.Lot e.Order,frE holds x⟩:=by
 unfold qed
 rw[qun ok hx hn]
theorem qxe {lots:List qH} (holds:List qp) {e:qw} (h: ∀(j:Nat) x,lots[j]? =some x->x.Name≠e.Lot):qed lots holds e=⟨⟨e.Lot,e.Yarn,e.Dye,0⟩,false,qbX holds e.Lot e.Order,0⟩:=by
 unfold qed
 rw[qut h]
theorem qxl {lots:List qH} {nm:Str} {x:qH} (h:lots.find? (fun x=>x.Name==nm)=some x): ∃j:Nat,lots[j]? =some x/\x.Name=nm:=by
 obtain⟨h1,j,hj,h2,_⟩:=List.find?_eq_some_iff_getElem.1 h
 exact⟨j,by rw[<-h2];exact Ya hj,by simpa using h1⟩
theorem qrt {lots:List qH} (hs:qsu lots) {i j:Nat} {x y:qH} (hx:lots[i]? =some x) (hy:lots[j]? =some y) (e:x.Name=y.Name):x=y:=by
 obtain⟨hi,rfl⟩:=Yb.1 hx
 obtain⟨hj,rfl⟩:=Yb.1 hy
 have key:=List.pairwise_iff_getElem.1 hs
 rcases Nat.lt_trichotomy i j with c|c|c
 ·exact absurd e (qnP (key i j hi hj c))
 ·subst c;rfl
 exact absurd e.symm (qnP (key j i hj hi c))
end Go.Av
end
section
namespace Go.Av
open Go.Proofs Go.RowKit
variable [Glob]
def ql5 (e:qw):Bool:=e.Kind==knR||(e.Kind==knV||(e.Kind==knL||(e.Kind==knT||e.Kind==knU)))
def qpN (e:qw):Int:=
 if ql5 e=false then 13 else if(qdS e.Day 0 99999||qdS e.Amount 1 999999999)=true then 3 else if vS e.Lot=false then 8
 else if e.Kind=knR then(if(vS e.Yarn&&qia e.Dye)=false then 8 else if e.Order=[]then 0 else 1)
 else(if vS e.Order=false then 8 else if(e.Yarn==[]&&e.Dye==[])=true then 0 else 1)
def ShE (e:qw):Prop:=e.Kind.length<=60/\e.Lot.length<=60/\e.Yarn.length<=60/\e.Dye.length<=60/\e.Order.length<=60
theorem qyB (e:qw): ∃b,qeh e=some b/\(b=true->ShE e):=by
 unfold qeh ShE
 repeat' split
 all_goals (refine⟨_,rfl,fun h=>?_⟩)
 all_goals first|(exact absurd h (by decide))|(have:=of_decide_eq_true h;omega)
theorem qoY {e:qw}:ql5 e=true↔e.Kind=knR\/e.Kind=knV\/e.Kind=knL\/e.Kind=knT\/e.Kind=knU:=by
 simp[ql5]
theorem qoE {e:qw}:qpN e=0↔qlz e:=by
 unfold qpN
 constructor
 ·intro h
  by_cases c1:ql5 e=false
  ·rw[if_pos c1]at h;cases h
  rw[if_neg c1]at h
  by_cases c2:(qdS e.Day 0 99999||qdS e.Amount 1 999999999)=true
  ·rw[if_pos c2]at h;cases h
  rw[if_neg c2]at h
  by_cases c3:vS e.Lot=false
  ·rw[if_pos c3]at h;cases h
  rw[if_neg c3]at h
  have c2':qdS e.Day 0 99999=false/\qdS e.Amount 1 999999999=false:=by simpa using c2
  have base:ql5 e=true:=by simpa using c1
  by_cases c4:e.Kind=knR
  ·rw[if_pos c4]at h
   by_cases c5:(vS e.Yarn&&qia e.Dye)=false
   ·rw[if_pos c5]at h;cases h
   rw[if_neg c5]at h
   by_cases c6:e.Order=[]
   ·have c5':vS e.Yarn=true/\qia e.Dye=true:=by simpa using c5
    exact⟨qoY.1 base,c2'.1,c2'.2,by simpa using c3,fun _=>⟨c5'.1,c5'.2,c6⟩,fun h=>absurd c4 h⟩
   rw[if_neg c6]at h;cases h
  rw[if_neg c4]at h
  by_cases c5:vS e.Order=false
  ·rw[if_pos c5]at h;cases h
  rw[if_neg c5]at h
  by_cases c6:(e.Yarn==[]&&e.Dye==[])=true
  ·have c6':e.Yarn=[]/\e.Dye=[]:=by simpa using c6
   exact⟨qoY.1 base,c2'.1,c2'.2,by simpa using c3,fun h=>absurd h c4,fun _=>⟨by simpa using c5,c6'.1,c6'.2⟩⟩
  rw[if_neg c6]at h;cases h
 rintro⟨h1,h2,h3,h4,h5,h6⟩
 rw[qoY.2 h1,h2,h3,h4,if_neg (by decide),if_neg (by decide),if_neg (by decide)]
 by_cases c:e.Kind=knR
 ·obtain⟨g1,g2,g3⟩:=h5 c
  rw[if_pos c,g1,g2,g3]
  rfl
 obtain⟨g1,g2,g3⟩:=h6 c
 rw[if_neg c,g1,g2,g3]
 rfl
theorem ychkE {N:Nat} (hN:2000<N) {e:qw} (s:ShE e):qdV N e=some (qpN e):=by
 obtain⟨s1,s2,s3,s4,s5⟩:=s
 have hk:((qd0).bind fun r1=>
  if(e.Kind==[114,101,99,101,105,118,101])=true then some true
  else if(e.Kind==[114,101,115,101,114,118,101])=true then some true
  else if(e.Kind==[114,101,108,101,97,115,101])=true then some true
  else if(e.Kind==[116,97,107,101])=true then some true
  else if(e.Kind==[114,101,116,117,114,110])=true then some true
  else some false:Option Bool)=some (ql5 e):=by
  unfold qd0 ql5
  simp only[ZB]
  cases(e.Kind==knR)<;>cases(e.Kind==knV)<;>cases(e.Kind==knL)<;>cases(e.Kind==knT)<;>cases(e.Kind==knU)<;>rfl
 unfold qdV
 rw[hk,ZB,qbO,ZB,qku,ZB,qku,ZB,qiy (by omega),ZB,qlp hN (by simp),ZB]
 unfold qpN
 cases c1:ql5 e with
 |false=>rfl
 |true=>
  cases c2:qdS e.Day 0 99999 with
  |true=>rfl
  |false=>
   cases c3:qdS e.Amount 1 999999999 with
   |true=>rfl
   |false=>
    cases c4:vS e.Lot with
    |false=>rfl
    |true=>
     rw[if_neg (show¬(!decide (qe7 [if(!true)=true then 13 else 0,if false=true then 3 else 0,if false=true then 3 else 0,if true=true then 0 else 8]=0))=true by decide),if_neg (show¬(true=false)by decide),if_neg (show¬((false||false)=true)by decide),if_neg (show¬(true=false)by decide)]
     by_cases c5:e.Kind=knR
     ·rw[if_pos (show(e.Kind==[114,101,99,101,105,118,101])=true by rw[c5];rfl),if_pos c5,qiy (by omega),ZB,qum (by omega),ZB,qbO,ZB,qlp hN (by simp),ZB]
      have ho:(e.Order=[])=((e.Order==[])=true):=by simp
      simp only[ho]
      cases vS e.Yarn<;>cases qia e.Dye<;>cases(e.Order==[])<;>rfl
     rw[if_neg (show¬(e.Kind==[114,101,99,101,105,118,101])=true by simpa using c5),if_neg c5,qiy (by omega),ZB]
     cases hy:(e.Yarn==[])with
     |false=>
      rw[if_pos (by rfl),qbO,ZB,qlp hN (by simp),ZB,ZB]
      cases vS e.Order<;>rfl
     |true=>
      rw[if_neg (by decide),qbO,ZB,qlp hN (by simp),ZB,ZB]
      cases vS e.Order<;>cases(e.Dye==[])<;>rfl
theorem rchkE {N:Nat} (hN:2000<N) {e:qw} (s:ShE e):qei N e=some (qpN e):=by
 obtain⟨s1,s2,s3,s4,s5⟩:=s
 have hk:((if(!(e.Kind==[114,101,99,101,105,118,101]))=true then
  if(!(e.Kind==[114,101,115,101,114,118,101]))=true then
  if(!(e.Kind==[114,101,108,101,97,115,101]))=true then
  if(!(e.Kind==[116,97,107,101]))=true then
  some (!(e.Kind==[114,101,116,117,114,110]))
  else some false
  else some false
  else some false
  else some false:Option Bool))=some (!ql5 e):=by
  unfold ql5
  cases(e.Kind==knR)<;>cases(e.Kind==knV)<;>cases(e.Kind==knL)<;>cases(e.Kind==knT)<;>cases(e.Kind==knU)<;>rfl
 unfold qei
 rw[hk,ZB,qmT,ZB]
 simp only[qmT]
 unfold qpN
 cases c1:ql5 e with
 |false=>rfl
 |true=>
  cases c2:qdS e.Day 0 99999 with
  |true=>rfl
  |false=>
   cases c3:qdS e.Amount 1 999999999 with
   |true=>rfl
   |false=>
    rw[if_neg (by decide),if_neg (by decide),ZB,ZB,if_neg (by decide),qfk (by omega) (by omega),ZB,if_neg (show¬(true=false)by decide),if_neg (show¬((false||false)=true)by decide)]
    cases c4:vS e.Lot with
    |false=>rfl
    |true=>
     rw[if_neg (by decide),if_neg (show¬(true=false)by decide)]
     by_cases c5:e.Kind=knR
     ·rw[if_pos (show(e.Kind==[114,101,99,101,105,118,101])=true by rw[c5];rfl),if_pos c5,qfk (by omega) (by omega),ZB,qrE (by omega) (by omega),ZB]
      have ho:(e.Order=[])=((e.Order==[])=true):=by simp
      simp only[ho]
      cases vS e.Yarn<;>cases qia e.Dye<;>cases(e.Order==[])<;>rfl
     rw[if_neg (show¬(e.Kind==[114,101,99,101,105,118,101])=true by simpa using c5),if_neg c5,qfk (by omega) (by omega),ZB]
     cases vS e.Order<;>cases(e.Yarn==[])<;>cases(e.Dye==[])<;>rfl
theorem quB {a:qa6} (h:a.Lots.length<=1000): ∀(K i:Nat),i<=a.Lots.length->a.Lots.length<K+i->qd5 a a K (i:Int)=some (.inl ())
 |0,i,h1,h2=>by omega
 |K+1,i,h1,h2=>by
  unfold qd5
  by_cases hi:i<a.Lots.length
  ·rw[if_pos (by omega),vK,Ya hi,ZB,ZB,if_neg (by simp),qbM (by omega)]
   exact quB h K (i+1) (by omega) (by omega)
  rw[if_neg (by omega)]
theorem quN {a:qa6} (h:a.Holds.length<=1000): ∀(K i:Nat),i<=a.Holds.length->a.Holds.length<K+i->qd6 a a K (i:Int)=some (.inl ())
 |0,i,h1,h2=>by omega
 |K+1,i,h1,h2=>by
  unfold qd6
  by_cases hi:i<a.Holds.length
  ·rw[if_pos (by omega),vK,Ya hi,ZB,ZB,if_neg (by simp),qbM (by omega)]
   exact quN h K (i+1) (by omega) (by omega)
  rw[if_neg (by omega)]
theorem same_eq {N:Nat} (hN:2000<N) {a:qa6} (h1:a.Lots.length<=1000) (h2:a.Holds.length<=1000):qgd N a a=some true:=by
 unfold qgd
 rw[decide_eq_true rfl,decide_eq_true rfl,decide_eq_true rfl,if_neg (by decide),if_neg (by decide),ZB,if_neg (by decide)]
 have g1:=quB h1 N 0 (by omega) (by omega)
 have g2:=quN h2 N 0 (by omega) (by omega)
 rw[show((0:Nat):Int)=0 from rfl]at g1 g2
 rw[g1,ZB]
 simp only
 rw[g2]
 rfl
theorem qk8 {day:Int} {lots:List qH} {holds:List qp} {e:qw} (h:qhB day lots holds e=0):day<=e.Day/\qnr e (qed lots holds e)=true/\qoe e.Kind (qed lots holds e) e.Amount=true/\(qdL lots holds e).lot.Stock<=999999999/\(qdL lots holds e).hold.Taken<=999999999/\(nxL lots holds e).length<=64/\(nxH lots holds e).length<=256:=by
 unfold qhB at h
 by_cases c1:e.Day<day
 ·rw[if_pos c1]at h;cases h
 rw[if_neg c1]at h
 by_cases c2:qnr e (qed lots holds e)=false
 ·rw[if_pos c2]at h;cases h
 rw[if_neg c2]at h
 by_cases c3:qoe e.Kind (qed lots holds e) e.Amount=false
 ·rw[if_pos c3]at h;cases h
 rw[if_neg c3]at h
 by_cases c4:999999999<(qdL lots holds e).lot.Stock\/999999999<(qdL lots holds e).hold.Taken
 ·rw[if_pos c4]at h;cases h
 rw[if_neg c4]at h
 by_cases c5:64<(nxL lots holds e).length\/256<(nxH lots holds e).length
 ·rw[if_pos c5]at h;cases h
 exact⟨by omega,by simpa using c2,by simpa using c3,by omega,by omega,by omega,by omega⟩
theorem qpi {lots:List qH} {holds:List qp} {e:qw} (h:qnr e (qed lots holds e)=true):e.Kind≠knR->(qed lots holds e).known=true:=by
 intro c
 unfold qnr at h
 rwa [if_neg c]at h
theorem ystep {N:Nat} (hN:2000<N) {day:Int} {lots:List qH} {holds:List qp} (o:OKS day lots holds) {e:qw} (k:qlz e) (h:qhB day lots holds e=0):
 qbL N ⟨day,lots,holds⟩ e=some ⟨e.Day,nxL lots holds e,nxH lots holds e⟩:=by
 obtain⟨h1,h2,h3,_⟩:=qk8 h
 obtain⟨n1,n2⟩:=qwb o k h3
 exact qur hN o k n1 n2
end Go.Av
end
section
namespace Go.Av
open Go.Proofs Go.RowKit
variable [Glob]
def qeb (g:qp->Int):List qp->Int
 |[]=>0
 |h::t=>g h+qeb g t
theorem qu4 {g:qp->Int} {l m:List qp} (p:l.Perm m):qeb g l=qeb g m:=by
 induction p with
 |nil=>rfl
 |cons x _ ih=>simp only[qeb,ih]
 |swap x y l=>simp only[qeb];omega
 |trans _ _ i1 i2=>rw[i1,i2]
theorem qof {g:qp->Int}: ∀{l:List qp},(∀h∈l,0<=g h)->0<=qeb g l
 |[],_=>Int.le_refl _
 |h::t,k=>by
  have:=k h List.mem_cons_self
  have:=qof fun x hx=>k x (List.mem_cons_of_mem _ hx)
  simp only[qeb];omega
theorem qrA {g:qp->Int}: ∀{l:List qp},(∀h∈l,g h=0)->qeb g l=0
 |[],_=>rfl
 |h::t,k=>by
  have:=k h List.mem_cons_self
  have:=qrA fun x hx=>k x (List.mem_cons_of_mem _ hx)
  simp only[qeb];omega
theorem quF {g:qp->Int}: ∀{l:List qp} {y:qp},(∀h∈l,0<=g h)->y∈l->g y<=qeb g l
 |h::t,y,k,hy=>by
  have k2: ∀x∈t,0<=g x:=fun x hx=>k x (List.mem_cons_of_mem _ hx)
  have h1:=k h List.mem_cons_self
  have h2:=qof k2
  simp only[qeb]
  rcases List.mem_cons.1 hy with rfl|hy
  ·omega
  have:=quF k2 hy
  omega
theorem qte {g:qp->Int}: ∀{l:List qp},(∀h∈l,g h<=999999999)->qeb g l<=999999999*(l.length:Int)
 |[],_=>by simp[qeb]
 |h::t,k=>by
  have:=k h List.mem_cons_self
  have:=qte fun x hx=>k x (List.mem_cons_of_mem _ hx)
  simp only[qeb,Yr];omega
theorem qsS {g:qp->Int} {lo od:Str} (h0:g ⟨lo,od,0,0⟩=0): ∀{l:List qp},qoD l->qeb g l=qeb g (l.filter fun x=>!kq lo od x)+g (qbX l lo od)
 |[],_=>by
  show(0:Int)=0+g ⟨lo,od,0,0⟩
  rw[h0];rfl
 |y::l,hs=>by
  obtain⟨h1,h2⟩:=List.pairwise_cons.1 hs
  cases c:kq lo od y with
  |true=>
   obtain⟨c1,c2⟩:=qqf.1 c
   have hf:(y::l).filter (fun x=>!kq lo od x)=l:=by
    rw[List.filter_cons_of_neg (by rw[c];simp)]
    exact List.filter_eq_self.2 fun x hx=>by
     have:=qxi (h1 x hx)
     rw[c1,c2]at this
     rw[this];rfl
   have hh:qbX (y::l) lo od=y:=by
    unfold qbX
    rw[List.find?_cons,c]
    rfl
   rw[hf,hh]
   simp only[qeb]
   omega
  |false=>
   have hf:(y::l).filter (fun x=>!kq lo od x)=y::l.filter (fun x=>!kq lo od x):=List.filter_cons_of_pos (by rw[c];rfl)
   have hh:qbX (y::l) lo od=qbX l lo od:=by
    unfold qbX
    rw[List.find?_cons,c]
   rw[hf,hh]
   simp only[qeb]
   have:=qsS h0 h2
   omega
theorem qsW {g:qp->Int} {h:qp} {holds:List qp} (hs:qoD holds) (h0:g ⟨h.Lot,h.Order,0,0⟩=0) (hz:h.Reserved=0/\h.Taken=0->g h=0):qeb g (qf2 h holds)=qeb g holds-g (qbX holds h.Lot h.Order)+g h:=by
 have:=qsS h0 hs
 unfold qf2
 by_cases c:h.Reserved=0/\h.Taken=0
 ·rw[if_pos c,hz c];omega
 rw[if_neg c,qu4 (qkf _ _)]
 simp only[qeb]
 omega
def qke (g:qH->Int):List qH->Int
 |[]=>0
 |h::t=>g h+qke g t
theorem qvO {x:qH}: ∀{l:List qH},(∀y∈l,ltL x.Name y.Name=true)->l.find? (fun y=>y.Name==x.Name)=none:=by
 intro l h
 rw[List.find?_eq_none]
 intro y hy e
 have e:y.Name=x.Name:=by simpa using e
 have:=h y hy
 rw[e,qbZ]at this
 cases this
theorem qsJ {g:qH->Int} {x:qH}: ∀{lots:List qH},qsu lots->qke g (qb2 x lots)=qke g lots-((lots.find? (fun y=>y.Name==x.Name)).map g).getD 0+g x
 |[],_=>by simp[qb2,qke]
 |y::l,hs=>by
  obtain⟨h1,h2⟩:=List.pairwise_cons.1 hs
  rw[qb2]
  by_cases c:(y.Name==x.Name)=true
  ·rw[if_pos c,List.find?_cons,c]
   simp only[qke,ZM,YN]
   omega
  rw[if_neg c]
  have hf:(y::l).find? (fun y=>y.Name==x.Name)=l.find? (fun y=>y.Name==x.Name):=by
   rw[List.find?_cons]
   rw[Bool.not_eq_true]at c
   rw[c]
  by_cases d:ltL x.Name y.Name=true
  ·rw[if_pos d,hf,qvO fun z hz=>qfC d (h1 z hz)]
   simp only[qke,Option.map_none,Option.getD_none]
   omega
  rw[if_neg d,hf]
  simp only[qke]
  have:=qsJ (g:=g) (x:=x) h2
  omega
def gR (name:Str) (h:qp):Int:=if(h.Lot==name)=true then h.Reserved else 0
theorem qsh {name:Str}: ∀(hs:List qp) (a:Int),(∀h∈hs,0<=h.Reserved/\h.Reserved<=999999999)->0<=a->a+1000000000*(hs.length:Int)<=1000000000000000->qsd name hs a=a+qeb (gR name) hs
 |[],a,h,h0,hb=>by
  simp[qsd,qeb]
 |x::t,a,h,h0,hb=>by
  unfold qsd
  have hx:=h x (List.mem_cons_self ..)
  rw[Yr]at hb
  simp only[qeb,gR]
  by_cases c:(x.Lot==name)=true
  ·rw[if_pos c,if_pos c,qb6 (by omega) (by omega),qsh t _ (fun y hy=>h y (List.mem_cons_of_mem _ hy)) (by omega) (by omega)]
   omega
  rw[if_neg c,if_neg c,qsh t _ (fun y hy=>h y (List.mem_cons_of_mem _ hy)) (by omega) (by omega)]
  omega
def qus (holds:List qp):Prop:= ∀h∈holds,0<=h.Reserved/\h.Reserved<=999999999
theorem qwi {holds:List qp} (hr:qus holds) (name:Str): ∀h∈holds,0<=gR name h:=by
 intro h hh
 unfold gR
 split
 ·exact(hr h hh).1
 exact Int.le_refl _
theorem qym {holds:List qp} (hr:qus holds) (name:Str): ∀h∈holds,gR name h<=999999999:=by
 intro h hh
 unfold gR
 split
 ·exact(hr h hh).2
 decide
theorem qnX {holds:List qp} (hr:qus holds) (hl:holds.length<=300) {x:qH} (hx:0<=x.Stock/\x.Stock<=999999999):frE holds x=x.Stock-qeb (gR x.Name) holds:=by
 have h1:=qof (qwi hr x.Name)
 have h2:=qte (qym hr x.Name)
 unfold frE
 rw[qsh _ _ hr (Int.le_refl _) (by omega),qb6 (by omega) (by omega)]
 omega
theorem qmn {lots:List qH} {holds:List qp} (hk:qf9 lots holds):qus holds:=fun h hh=>(qhw hk hh).2.2.1
theorem qvj {lots:List qH} (hs:qsu lots) (h: ∀x∈lots,vS x.Name=true/\vS x.Yarn=true/\qia x.Dye=true/\0<=x.Stock/\x.Stock<=999999999):qhi lots:=by
 intro j x hx
 obtain⟨h1,h2,h3,h4⟩:=h x (Yn hx)
 have hl:qkx (qa4 lots j) x=false:=by
  unfold qa4
  by_cases c:j=0
  ·rw[if_pos c];rfl
  rw[if_neg c]
  obtain⟨hj,rfl⟩:=Yb.1 hx
  rw[Ya (show j-1<lots.length by omega)]
  have:=List.pairwise_iff_getElem.1 hs (j-1) j (by omega) hj (by omega)
  show(ltL _ _||_==_)=false
  rw[qly this,Bool.false_or]
  cases c:(lots[j].Name==lots[j-1].Name)with
  |false=>rfl
  |true=>
   have e:lots[j].Name=lots[j-1].Name:=by simpa using c
   rw[e,qbZ]at this
   cases this
 unfold qhc
 rw[h1,h2,h3,hl,que h4]
 rfl
theorem qt2 {lots:List qH} {holds:List qp} (hs:qoD holds) (h: ∀x∈holds,knB lots x.Lot=true/\vS x.Order=true/\(0<=x.Reserved/\x.Reserved<=999999999)/\(0<=x.Taken/\x.Taken<=999999999)/\ ¬(x.Reserved=0/\x.Taken=0)):qf9 lots holds:=by
 intro j x hx
 obtain⟨h1,h2,h3,h4,h5⟩:=h x (Yn hx)
 have hl:qlu (qa4 holds j) x=false:=by
  unfold qa4
  by_cases c:j=0
  ·rw[if_pos c];rfl
  rw[if_neg c]
  obtain⟨hj,rfl⟩:=Yb.1 hx
  rw[Ya (show j-1<holds.length by omega)]
  have:=List.pairwise_iff_getElem.1 hs (j-1) j (by omega) hj (by omega)
  show(!qtn _ _)=false
  rw[qsl,this]
  rfl
 have h6:(decide (x.Reserved=0)&&decide (x.Taken=0))=false:=by
  cases c:(decide (x.Reserved=0)&&decide (x.Taken=0))with
  |false=>rfl
  |true=>exact absurd (by simpa using c) h5
 unfold qf5
 rw[h1,h2,hl,que h3,que h4,h6]
 rfl
theorem qnW {lots:List qH} {name:Str}:knB lots name=true↔ ∃x∈lots,x.Name=name:=by
 unfold knB
 rw[List.any_eq_true]
 constructor
 ·rintro⟨x,hx,h⟩;exact⟨x,hx,by simpa using h⟩
 rintro⟨x,hx,h⟩;exact⟨x,hx,by simpa using h⟩
theorem qxN {lots:List qH} {x:qH} {name:Str} (h:knB lots name=true):knB (qb2 x lots) name=true:=by
 obtain⟨y,hy,e⟩:=qnW.1 h
 by_cases c:y.Name=x.Name
 ·obtain⟨j,hj⟩:=qmN (x:=x) (lots:=lots)
  exact qnW.2 ⟨x,Yn hj,by rw[<-c,e]⟩
 exact qnW.2 ⟨y,qo5 c hy,e⟩
end Go.Av
end
section
namespace Go.Av
open Go.Proofs Go.RowKit
variable [Glob]
structure AccN (lots:List qH) (holds:List qp) (e:qw) (a:ql):Prop where
 nm:a.lot.Name=e.Lot
 nk:vS a.lot.Name=true/\vS a.lot.Yarn=true/\qia a.lot.Dye=true
 st:0<=a.lot.Stock/\a.lot.Stock<=999999999
 sm:qeb (gR e.Lot) holds<=a.lot.Stock
 rv:0<=a.hold.Reserved/\a.hold.Reserved<=qeb (gR e.Lot) holds
 tk:0<=a.hold.Taken/\a.hold.Taken<=999999999
 fr:a.known=true->a.free=a.lot.Stock-qeb (gR e.Lot) holds
 ol:a.known=true-> ∃x∈lots,x=a.lot
 nw:a.known=false->knB lots e.Lot=false/\e.Kind=knR/\a.lot.Stock=0
theorem quA {day:Int} {lots:List qH} {holds:List qp} (o:OKS day lots holds) {e:qw} (k:qlz e) (hr:qnr e (qed lots holds e)=true):AccN lots holds e (qed lots holds e):=by
 have hin:=qtk o.hk e.Lot e.Order
 have hri:=qmn o.hk
 have hnn:=qwi hri e.Lot
 have hle:(qbX holds e.Lot e.Order).Reserved<=qeb (gR e.Lot) holds:=by
  rcases qq6 (holds:=holds) (lo:=e.Lot) (od:=e.Order)with h|h
  ·have h1:=quF hnn h
   have h2:gR e.Lot (qbX holds e.Lot e.Order)=(qbX holds e.Lot e.Order).Reserved:=by
    unfold gR
    rw[if_pos (by rw[qkr.1];simp)]
   omega
  rw[h]
  exact qof hnn
 have hhl:holds.length<=300:=by have:=o.hl;omega
 cases c:lots.find? (fun x=>x.Name==e.Lot)with
 |some x=>
  obtain⟨j,hj,hn⟩:=qxl c
  have hl:=qjB o.lk (Yn hj)
  have hfr:=o.fr j x hj
  rw[qnX hri hhl hl.2.2.2,hn]at hfr
  have ha:qed lots holds e=⟨x,true,qbX holds e.Lot e.Order,frE holds x⟩:=qxI o.lk holds hj hn
  rw[ha]
  refine⟨hn,⟨hl.1,hl.2.1,hl.2.2.1⟩,hl.2.2.2,by show _<=x.Stock;omega,⟨hin.1.1,hle⟩,hin.2,fun _=>?_,fun _=>⟨x,Yn hj,rfl⟩,fun h=>by cases h⟩
  show frE holds x=_
  rw[qnX hri hhl hl.2.2.2,hn]
 |none=>
  have hno: ∀(j:Nat) x,lots[j]? =some x->x.Name≠e.Lot:=by
   intro j x hx q
   have:=List.find?_eq_none.1 c x (Yn hx)
   simp[q]at this
  have ha:=qxe holds hno
  have hkn:knB lots e.Lot=false:=qta hno
  have hk:e.Kind=knR:=by
   by_cases q:e.Kind=knR
   ·exact q
   unfold qnr at hr
   rw[if_neg q,ha]at hr
   cases hr
  have hz:qeb (gR e.Lot) holds=0:=qrA fun h hh=>by
   unfold gR
   by_cases q:(h.Lot==e.Lot)=true
   ·have q':h.Lot=e.Lot:=by simpa using q
    have:=(qhw o.hk hh).1
    rw[q',hkn]at this
    cases this
   rw[if_neg q]
  rw[ha]
  obtain⟨r1,r2,r3⟩:=k.rc hk
  refine⟨rfl,⟨k.lot,r1,r2⟩,⟨Int.le_refl _,(by decide:(0:Int)<=999999999)⟩,by rw[hz];exact Int.le_refl _,⟨hin.1.1,hle⟩,hin.2,fun h=>(by cases h),fun h=>(by cases h),fun _=>⟨hkn,hk,rfl⟩⟩
structure AftN (holds:List qp) (e:qw) (a b:ql):Prop where
 nm:b.lot.Name=e.Lot/\b.hold.Lot=e.Lot/\b.hold.Order=e.Order
 nk:vS b.lot.Name=true/\vS b.lot.Yarn=true/\qia b.lot.Dye=true
 st:0<=b.lot.Stock/\b.lot.Stock<=999999999
 rv:0<=b.hold.Reserved/\b.hold.Reserved<=999999999
 tk:0<=b.hold.Taken/\b.hold.Taken<=999999999
 eq:b.lot.Stock+b.hold.Taken=a.lot.Stock+a.hold.Taken+if e.Kind=knR then e.Amount else 0
 sm:qeb (gR e.Lot) holds-a.hold.Reserved+b.hold.Reserved<=b.lot.Stock
theorem quD {day:Int} {lots:List qH} {holds:List qp} (o:OKS day lots holds) {e:qw} (k:qlz e) (h:qhB day lots holds e=0):AftN holds e (qed lots holds e) (qdL lots holds e):=by
 obtain⟨_,h2,h3,h4,h5,_,_⟩:=qk8 h
 have n:=quA o k h2
 have hkey:=qst (lots:=lots) (holds:=holds) (e:=e)
 have ham:=qnB k.am
 obtain⟨n1,n2,n3,n4,n5,n6,n7,n8,n9⟩:=n
 have hkn:e.Kind≠knR->(qed lots holds e).known=true:=qpi h2
 unfold qdL at*
 generalize qed lots holds e=a at*
 generalize hS:qeb (gR e.Lot) holds=S at*
 have hnk:vS (qfJ e.Kind a e.Amount).lot.Name=true/\vS (qfJ e.Kind a e.Amount).lot.Yarn=true/\qia (qfJ e.Kind a e.Amount).lot.Dye=true:=by
  unfold qfJ
  repeat' split
  all_goals exact n2
 have key:(0<=(qfJ e.Kind a e.Amount).lot.Stock/\(qfJ e.Kind a e.Amount).lot.Stock<=999999999)/\(0<=(qfJ e.Kind a e.Amount).hold.Reserved/\(qfJ e.Kind a e.Amount).hold.Reserved<=999999999)/\(0<=(qfJ e.Kind a e.Amount).hold.Taken/\(qfJ e.Kind a e.Amount).hold.Taken<=999999999)/\((qfJ e.Kind a e.Amount).lot.Stock+(qfJ e.Kind a e.Amount).hold.Taken=a.lot.Stock+a.hold.Taken+if e.Kind=knR then e.Amount else 0)/\S-a.hold.Reserved+(qfJ e.Kind a e.Amount).hold.Reserved<=(qfJ e.Kind a e.Amount).lot.Stock:=by
  clear hnk hkey
  unfold qfJ at h4 h5⊢
  unfold qoe at h3
  rcases k.kind with q|q|q|q|q
  ·simp only[q,if_true]at h4 h5⊢
   rw[qb6 (by omega) (by omega)]at h4⊢
   omega
  ·rw[q]at h3 h4 h5⊢
   have hk:=n7 (hkn (by rw[q];decide))
   rw[if_neg (by decide),if_pos rfl]at h3 h4 h5⊢
   have h3:=of_decide_eq_true h3
   simp only[if_neg (show¬knV=knR by decide)]at h4 h5⊢
   rw[qb6 (by omega) (by omega)]
   omega
  ·rw[q]at h3 h4 h5⊢
   have hk:=n7 (hkn (by rw[q];decide))
   rw[if_neg (by decide),if_neg (by decide),if_pos rfl]at h3 h4 h5⊢
   have h3:=of_decide_eq_true h3
   simp only[if_neg (show¬knL=knR by decide)]at h4 h5⊢
   rw[qb6 (n:=0-e.Amount) (by omega) (by omega),qb6 (by omega) (by omega)]
   omega
  ·rw[q]at h3 h4 h5⊢
   have hk:=n7 (hkn (by rw[q];decide))
   rw[if_neg (by decide),if_neg (by decide),if_neg (by decide),if_pos rfl]at h3 h4 h5⊢
   have h3:=of_decide_eq_true h3
   rw[qb6 (by omega) (by omega)]at h3
   simp only[if_neg (show¬knT=knR by decide)]at h4 h5⊢
   rw[qb6 (n:=a.hold.Taken+e.Amount) (by omega) (by omega)]at h5
   rw[qb6 (n:=a.hold.Taken+e.Amount) (by omega) (by omega),qb6 (n:=a.lot.Stock-e.Amount) (by omega) (by omega),qb6 (n:=a.hold.Reserved-e.Amount) (by omega) (by omega)]
   split<;>omega
  rw[q]at h3 h4 h5⊢
  have hk:=n7 (hkn (by rw[q];decide))
  rw[if_neg (by decide),if_neg (by decide),if_neg (by decide),if_neg (by decide)]at h3 h4 h5⊢
  have h3:=of_decide_eq_true h3
  simp only[if_neg (show¬knU=knR by decide)]at h4 h5⊢
  rw[qb6 (n:=a.lot.Stock+e.Amount) (by omega) (by omega)]at h4
  rw[qb6 (n:=a.lot.Stock+e.Amount) (by omega) (by omega),qb6 (n:=a.hold.Taken-e.Amount) (by omega) (by omega)]
  omega
 obtain⟨k1,k2,k3,k4,k5⟩:=key
 exact⟨hkey,hnk,k1,k2,k3,k4,by rw[hS];exact k5⟩
theorem qpF {day:Int} {lots:List qH} {holds:List qp} (o:OKS day lots holds) {e:qw} (k:qlz e) (h:qhB day lots holds e=0):OKS e.Day (nxL lots holds e) (nxH lots holds e):=by
 obtain⟨_,h2,h3,_,_,h6,h7⟩:=qk8 h
 have n:=quA o k h2
 have m:=quD o k h
 have hacc:=qoA (lots:=lots) (holds:=holds) (e:=e)
 have hkn:e.Kind≠knR->(qed lots holds e).known=true:=qpi h2
 have hkR:e.Kind=knR->(qdL lots holds e).hold=⟨e.Lot,[],0,0⟩:=by
  intro q
  unfold qdL qfJ
  rw[if_pos q,hacc,(k.rc q).2.2,qug o.hk]
 unfold nxL nxH at*
 generalize qed lots holds e=a at*
 generalize qdL lots holds e=b at*
 have hx:=qmN (x:=b.lot) (lots:=lots)
 have hbn:knB (qb2 b.lot lots) e.Lot=true:=by
  obtain⟨j,hj⟩:=hx
  exact qnW.2 ⟨b.lot,Yn hj,m.nm.1⟩
 have hHo:qf9 (qb2 b.lot lots) (qf2 b.hold holds):=by
  refine qt2 (qsP o.hk.srt) fun x hx=>?_
  rcases qtr hx with⟨rfl,hz⟩|⟨hx,_⟩
  ·refine⟨by rw[m.nm.2.1];exact hbn,?_,m.rv,m.tk,hz⟩
   by_cases q:e.Kind=knR
   ·rw[hkR q]at hz
    exact absurd ⟨rfl,rfl⟩ hz
   rw[m.nm.2.2]
   exact(k.oth q).1
  obtain⟨g1,g2,g3,g4,g5⟩:=qhw o.hk hx
  exact⟨qxN g1,g2,g3,g4,g5⟩
 have hLo:qhi (qb2 b.lot lots):=by
  refine qvj (qqK o.lk.srt) fun x hx=>?_
  rcases qkX hx with rfl|hx
  ·exact⟨m.nk.1,m.nk.2.1,m.nk.2.2,m.st⟩
  exact qjB o.lk hx
 refine⟨k.day,h6,hLo,h7,hHo,fun j x hx=>?_⟩
 have hst:=qjB hLo (Yn hx)
 rw[qnX (qmn hHo) (by omega) hst.2.2.2]
 have hsum:qeb (gR x.Name) (qf2 b.hold holds)=qeb (gR x.Name) holds-gR x.Name (qbX holds b.hold.Lot b.hold.Order)+gR x.Name b.hold:=by
  refine qsW o.hk.srt ?_ fun z=>?_
  ·unfold gR;split<;>rfl
  unfold gR;rw[z.1];split<;>rfl
 rw[hsum,m.nm.2.1,m.nm.2.2,<-hacc]
 by_cases q:x.Name=e.Lot
 ·have hxb:x=b.lot:=by
   obtain⟨i,hi⟩:=qmN (x:=b.lot) (lots:=lots)
   exact qrt hLo.srt hx hi (by rw[q,m.nm.1])
  have g1:gR x.Name a.hold=a.hold.Reserved:=by
   unfold gR
   rw[if_pos (by rw[hacc,qkr.1,q];simp)]
  have g2:gR x.Name b.hold=b.hold.Reserved:=by
   unfold gR
   rw[if_pos (by rw[m.nm.2.1,q];simp)]
  have:=m.sm
  rw[g1,g2,q,hxb]
  omega
 have g1:gR x.Name a.hold=0:=by
  unfold gR
  rw[if_neg (by rw[hacc,qkr.1];intro c;exact q ((by simpa using c:e.Lot=x.Name).symm))]
 have g2:gR x.Name b.hold=0:=by
  unfold gR
  rw[if_neg (by rw[m.nm.2.1];intro c;exact q ((by simpa using c:e.Lot=x.Name).symm))]
 rw[g1,g2]
 rcases qkX (Yn hx)with rfl|hx
 ·exact absurd m.nm.1 q
 obtain⟨i,hi⟩:=List.mem_iff_getElem?.1 hx
 have hf:=o.fr i x hi
 rw[qnX (qmn o.hk) (by have:=o.hl;omega) hst.2.2.2]at hf
 omega
theorem qvh {day:Int} {lots:List qH} {holds:List qp} (o:OKS day lots holds) {e:qw} (k:qlz e) (h:qhB day lots holds e=0):qke qH.Stock (nxL lots holds e)+qeb qp.Taken (nxH lots holds e)=qke qH.Stock lots+qeb qp.Taken holds+if e.Kind=knR then e.Amount else 0:=by
 obtain⟨_,h2,h3,_,_,h6,h7⟩:=qk8 h
 have m:=quD o k h
 have hacc:=qoA (lots:=lots) (holds:=holds) (e:=e)
 have hs:qeb qp.Taken (nxH lots holds e)=qeb qp.Taken holds-(qbX holds (qdL lots holds e).hold.Lot (qdL lots holds e).hold.Order).Taken+(qdL lots holds e).hold.Taken:=qsW o.hk.srt rfl fun z=>z.2
 have hl:qke qH.Stock (nxL lots holds e)=qke qH.Stock lots-((lots.find? (fun y=>y.Name==(qdL lots holds e).lot.Name)).map qH.Stock).getD 0+(qdL lots holds e).lot.Stock:=qsJ o.lk.srt
 rw[m.nm.2.1,m.nm.2.2,<-hacc]at hs
 rw[m.nm.1]at hl
 have ho:((lots.find? (fun y=>y.Name==e.Lot)).map qH.Stock).getD 0=(qed lots holds e).lot.Stock:=by
  unfold qed
  cases lots.find? (fun x=>x.Name==e.Lot)<;>rfl
 rw[ho]at hl
 have:=m.eq
 omega
end Go.Av
end
section
namespace Go.Av
open Go.Proofs Go.RowKit
variable [Glob]
def qpo:List qw->Int
 |[]=>0
 |e::t=>if qpN e=0 then qpo t else qpN e
def qnt (l:List qw):Prop:= ∀e∈l,qlz e
theorem qra: ∀{l:List qw},qpo l=0↔qnt l
 |[]=>⟨fun _ e h=>(by cases h),fun _=>rfl⟩
 |e::t=>by
  unfold qpo
  have ih:=qra (l:=t)
  by_cases c:qpN e=0
  ·rw[if_pos c]
   constructor
   ·intro h x hx
    rcases List.mem_cons.1 hx with rfl|hx
    ·exact qoE.1 c
    exact ih.1 h x hx
   intro h
   exact ih.2 fun x hx=>h x (List.mem_cons_of_mem _ hx)
  rw[if_neg c]
  exact⟨fun h=>absurd h c,fun h=>absurd (qoE.2 (h e List.mem_cons_self)) c⟩
def qoI (l:List qw):Int:=if(l.length:Int)>1000 then 5 else qpo l
theorem qmP {l:List qw}:qoI l=0↔l.length<=1000/\qnt l:=by
 unfold qoI
 by_cases c:(l.length:Int)>1000
 ·rw[if_pos c]
  exact⟨fun h=>(by cases h),fun h=>(by omega)⟩
 rw[if_neg c,qra]
 exact⟨fun h=>⟨by omega,h⟩,fun h=>h.2⟩
def ql4 (l:List qw):Prop:= ∀e∈l,ShE e
theorem qvy {N:Nat} (hN:2000<N) {l:List qw} (hl:l.length<=1000) (sh:ql4 l): ∀(K i:Nat),i<=l.length->l.length<K+i->xK N l K (i:Int)=some (if qpo (l.drop i)=0 then .inl ()else .inr (qpo (l.drop i)))
 |0,i,h,hK=>by omega
 |K+1,i,h,hK=>by
  unfold xK qfy
  by_cases hi:i<l.length
  ·rw[if_pos (by omega),vK,Ya hi,ZB,qmr (by omega),ZB,ychkE hN (sh _ (List.getElem_mem hi)),ZB,ZB,qbM (by omega),qe2 hi]
   unfold qpo
   by_cases c:qpN l[i]=0
   ·rw[if_pos c,if_neg (by simp[c])]
    exact qvy hN hl sh K (i+1) (by omega) (by omega)
   rw[if_neg c,if_pos (by simp[c]),if_neg c]
  rw[if_neg (by omega),List.drop_eq_nil_of_le (by omega)]
  rfl
theorem qwh {N:Nat} (hN:2000<N) {l:List qw} (hl:l.length<=1000) (sh:ql4 l): ∀(K i:Nat),i<=l.length->l.length<K+i->qbF N l K (i:Int)=some (if qpo (l.drop i)=0 then .inl ()else .inr (qpo (l.drop i)))
 |0,i,h,hK=>by omega
 |K+1,i,h,hK=>by
  unfold qbF
  by_cases hi:i<l.length
  ·rw[if_pos (by omega),vK,Ya hi,ZB,rchkE hN (sh _ (List.getElem_mem hi)),ZB,qbM (by omega),qe2 hi]
   unfold qpo
   by_cases c:qpN l[i]=0
   ·rw[if_pos c,if_neg (by simp[c])]
    exact qwh hN hl sh K (i+1) (by omega) (by omega)
   rw[if_neg c,if_pos (by simp[c]),if_neg c]
  rw[if_neg (by omega),List.drop_eq_nil_of_le (by omega)]
  rfl
theorem qxc {N:Nat} (hN:2000<N) {l:List qw} (sh:ql4 l):qfS N l=some (qoI l):=by
 unfold qfS qeJ qoI
 by_cases c:(l.length:Int)>1000
 ·rw[if_pos c,if_pos c];rfl
 rw[if_neg c,if_neg c]
 have:=qvy hN (by omega) sh N 0 (Nat.zero_le _) (by omega)
 rw[show((0:Nat):Int)=0 from rfl]at this
 rw[this,YR]
 by_cases z:qpo l=0
 ·rw[if_pos z,z];rfl
 rw[if_neg z];rfl
theorem qxk {N:Nat} (hN:2000<N) {l:List qw} (sh:ql4 l):qft N l=some (qoI l):=by
 unfold qft qoI
 by_cases c:(l.length:Int)>1000
 ·rw[if_pos c,if_pos c]
 rw[if_neg c,if_neg c]
 have:=qwh hN (by omega) sh N 0 (Nat.zero_le _) (by omega)
 rw[show((0:Nat):Int)=0 from rfl]at this
 rw[this,YR]
 by_cases z:qpo l=0
 ·rw[if_pos z,z];rfl
 rw[if_neg z];rfl
theorem quC {l:List qw} (hl:l.length<=2000): ∀(K i:Nat),i<=l.length->l.length<K+i->(qa7 l K (i:Int)=some (.inl ())/\ ∀(j:Nat) x,i<=j->l[j]? =some x->ShE x)\/qa7 l K (i:Int)=some (.inr false)
 |0,i,h,hK=>by omega
 |K+1,i,h,hK=>by
  unfold qa7
  by_cases hi:i<l.length
  ·have hx:l[i]? =some l[i]:=Ya hi
   rw[if_pos (by omega),vK,hx,ZB]
   generalize l[i]=x at*
   obtain⟨b,hb,hs⟩:=qyB x
   rw[hb,ZB]
   cases b with
   |false=>exact .inr rfl
   |true=>
    rw[if_neg (by decide),qbM (by omega)]
    rcases quC hl K (i+1) (by omega) (by omega)with⟨r1,r2⟩|r
    ·refine .inl ⟨r1,fun j y hj hy=>?_⟩
     by_cases c:j=i
     ·subst c
      rw[hx]at hy
      obtain rfl:=Ye hy
      exact hs rfl
     exact r2 j y (by omega) hy
    exact .inr r
  rw[if_neg (by omega)]
  exact .inl ⟨rfl,fun j x hj hx=>by
   have:=(Yb.1 hx).1
   omega⟩
theorem qvC {N:Nat} (hN:2000<N) (l:List qw) (n:Int): ∃b,qfm N l n=some b/\(b=true->l.length<=1003/\ql4 l):=by
 unfold qfm
 have hc: ∃c:Bool,(if(l.length:Int)>n then
  if(l.length:Int)<=1000 then some true
  else some (decide ((l.length:Int)>1003))
  else some (decide ((l.length:Int)>1003)):Option Bool)=some c/\(c=false->l.length<=1003):=by
  repeat' split
  all_goals refine⟨_,rfl,fun h=>?_⟩
  all_goals first|(exact absurd h (by decide))|(have:=of_decide_eq_false h;omega)
 obtain⟨c,hc1,hc2⟩:=hc
 rw[hc1,ZB]
 cases c with
 |true=>exact⟨false,rfl,fun h=>by cases h⟩
 |false=>
  have l1:=hc2 rfl
  rw[if_neg (by simp)]
  rcases quC (show l.length<=2000 by omega) N 0 (by omega) (by omega)with⟨r1,r2⟩|r1
  ·rw[show((0:Nat):Int)=0 from rfl]at r1
   rw[r1]
   refine⟨true,rfl,fun _=>⟨l1,fun e he=>?_⟩⟩
   obtain⟨j,hj⟩:=List.mem_iff_getElem?.1 he
   exact r2 j e (Nat.zero_le _) hj
  rw[show((0:Nat):Int)=0 from rfl]at r1
  rw[r1]
  exact⟨false,rfl,fun h=>by cases h⟩
theorem qvX {l:List qw} (hb:l.length*96<=140737488355328): ∀(K i:Nat),i<=l.length->l.length<K+i->qb0 l K (l.take i) (i:Int)=some l
 |0,i,h,hK=>by omega
 |K+1,i,h,hK=>by
  unfold qb0
  by_cases hi:i<l.length
  ·have e:(l.take i).length=i:=by rw[Ym];omega
   rw[if_pos (by omega),vK,Ya hi,ZB,qnC (by rw[e,List.length_singleton];omega) (by rw[e,List.length_singleton];omega),ZB,qbM (by omega),<-List.take_succ_eq_append_getElem hi]
   exact qvX hb K (i+1) (by omega) (by omega)
  rw[if_neg (by omega),List.take_of_length_le (by omega)]
theorem qxw {N:Nat} {l:List qw} (h1:l.length<N) (hb:l.length*96<=140737488355328):qfX N l=some l:=by
 unfold qfX
 have:=qvX hb N 0 (by omega) (by omega)
 rw[List.take_zero,show((0:Nat):Int)=0 from rfl]at this
 rw[this,ZB]
end Go.Av
end
section
namespace Go.Av
open Go.Proofs Go.RowKit
variable [Glob]
def qiQ:List qw->Nat->Int->List qH->List qp->List zU->Int×List qH×List qp×List zU
 |[],_,d,l,h,rs=>(d,l,h,rs)
 |e::t,i,d,l,h,rs=>if qhB d l h e=0 then qiQ t (i+1) e.Day (nxL l h e) (nxH l h e) rs else qiQ t (i+1) d l h (rs++[⟨((i+1:Nat):Int),qhB d l h e⟩])
theorem qtw {N:Nat} (hN:2000<N) {l:List qw} (hl:l.length<=1000) (ok:qnt l): ∀(K i:Nat) (d:Int) (lots:List qH) (holds:List qp) (rs:List zU),i<=l.length->l.length<K+i->OKS d lots holds->rs.length<=i->
 qdG N l K d lots holds rs (i:Int)=some (qiQ (l.drop i) i d lots holds rs)
 |0,i,d,lots,holds,rs,h,hK,o,hr=>by omega
 |K+1,i,d,lots,holds,rs,h,hK,o,hr=>by
  unfold qdG
  by_cases hi:i<l.length
  ·have k:=ok _ (List.getElem_mem hi)
   rw[if_pos (by omega),vK,Ya hi,ZB,qsT hN o k,ZB,qbM (by omega),qe2 hi]
   unfold qiQ
   by_cases c:qhB d lots holds l[i]=0
   ·rw[if_pos c,if_neg (by simp[c]),ystep hN o k c,ZB,ZB]
    exact qtw hN hl ok K (i+1) _ _ _ _ (by omega) (by omega) (qpF o k c) (by omega)
   rw[if_neg c,if_pos (by simp[c]),qnC (by rw[List.length_singleton];omega) (by rw[List.length_singleton];omega),ZB,ZB]
   exact qtw hN hl ok K (i+1) _ _ _ _ (by omega) (by omega) o (by simp;omega)
  rw[if_neg (by omega),List.drop_eq_nil_of_le (by omega)]
  rfl
theorem qrO:OKS 0 [] []:=⟨rfl,by decide,fun j x h=>(by simp at h),by decide,fun j x h=>(by simp at h),fun j x h=>(by simp at h)⟩
def qsa (l:List qw):Int×List qH×List qp×List zU:=qiQ l 0 0 [] [] []
theorem qxo {N:Nat} (hN:2000<N) {l:List qw} (hl:l.length<=1000) (ok:qnt l):qhG N l=some (⟨(qsa l).1,(qsa l).2.1,(qsa l).2.2.1⟩,(qsa l).2.2.2):=by
 have:=qtw hN hl ok N 0 0 [] [] [] (Nat.zero_le _) (by omega) qrO (Nat.le_refl _)
 rw[show((0:Nat):Int)=0 from rfl,YR]at this
 unfold qhG
 rw[this]
 rfl
theorem qsi: ∀(l:List qw) (i:Nat) (d:Int) (lots:List qH) (holds:List qp) (rs:List zU),qnt l->OKS d lots holds->OKS (qiQ l i d lots holds rs).1 (qiQ l i d lots holds rs).2.1 (qiQ l i d lots holds rs).2.2.1/\(qiQ l i d lots holds rs).2.2.2.length<=rs.length+l.length
 |[],i,d,lots,holds,rs,ok,o=>⟨o,by simp[qiQ]⟩
 |e::t,i,d,lots,holds,rs,ok,o=>by
  have k:=ok e List.mem_cons_self
  have ok':qnt t:=fun x hx=>ok x (List.mem_cons_of_mem _ hx)
  unfold qiQ
  by_cases c:qhB d lots holds e=0
  ·rw[if_pos c]
   have:=qsi t (i+1) _ _ _ rs ok' (qpF o k c)
   exact⟨this.1,by rw[Yr];omega⟩
  rw[if_neg c]
  have:=qsi t (i+1) d lots holds (rs++[⟨((i+1:Nat):Int),qhB d lots holds e⟩]) ok' o
  refine⟨this.1,?_⟩
  have h2:=this.2
  rw[Yq,List.length_singleton]at h2
  rw[Yr]
  omega
def qo2 (l:List qw):Int×List qH×List qp×List zU:=if qoI l=0 then qsa l else(0,[],[],[])
theorem qvK (l:List qw) (sh:ql4 l):(qo2 l).2.1.length<=1000/\(qo2 l).2.2.1.length<=1000/\(qo2 l).2.2.2.length<=2000:=by
 unfold qo2
 by_cases z:qoI l=0
 ·obtain⟨h1,h2⟩:=qmP.1 z
  rw[if_pos z]
  obtain⟨o,h3⟩:=qsi l 0 0 [] [] [] h2 qrO
  have:=o.ll
  have:=o.hl
  unfold qsa
  simp at h3
  omega
 rw[if_neg z]
 simp
theorem qqC {N:Nat} (hN:2000<N) {l:List qw} (sh:ql4 l):qgq N l=some (⟨(qo2 l).1,(qo2 l).2.1,(qo2 l).2.2.1⟩,(qo2 l).2.2.2,qoI l):=by
 unfold qgq qo2
 rw[qxc hN sh,ZB]
 by_cases z:qoI l=0
 ·obtain⟨h1,h2⟩:=qmP.1 z
  rw[if_neg (by simp[z]),if_pos z,qxo hN h1 h2,z]
  rfl
 rw[if_pos (by simp[z]),if_neg z]
end Go.Av
end
section
namespace Go.Av
open Go.Proofs Go.RowKit
variable [Glob]
theorem qj9 {s:Str} (h:vS s=true):s.length<=24:=by
 unfold vS at h
 simp only[Bool.and_eq_true,decide_eq_true_eq]at h
 exact h.1.2
theorem qvJ {s:Str} (h:qia s=true):s.length<=24:=by
 unfold qia at h
 simp only[Bool.or_eq_true,beq_iff_eq]at h
 rcases h with rfl|h
 ·simp
 exact qj9 h
theorem quT {d:Int} {lots:List qH} {holds:List qp} (o:OKS d lots holds):ShL lots/\ShH holds:=by
 have hL:ShL lots:=fun x hx=>by
  obtain⟨h1,h2,h3,_⟩:=qjB o.lk hx
  have:=qj9 h1
  have:=qj9 h2
  have:=qvJ h3
  omega
 refine⟨hL,fun h hh=>?_⟩
 obtain⟨h1,h2,_⟩:=qhw o.hk hh
 obtain⟨x,hx,e⟩:=qnW.1 h1
 have h3:=qj9 (qjB o.lk hx).1
 have:=qj9 h2
 rw[e]at h3
 omega
theorem qov {N:Nat} (hN:2000<N) {d:Int} {lots:List qH} {holds:List qp} (o:OKS d lots holds):qdf N ⟨d,lots,holds⟩=some 0/\qb9 N ⟨d,lots,holds⟩=some 0:=by
 obtain⟨s1,s2⟩:=quT o
 obtain⟨e,e1,e2,e3⟩:=qtX hN d (by have:=o.ll;omega) (by have:=o.hl;omega) s1 s2
 rw[e3.2 o]at e1 e2
 exact⟨e1,e2⟩
theorem qwj {N:Nat} (hN:2000<N) {d:Int} {lots:List qH} {holds:List qp} (o:OKS d lots holds) {j:Nat} {x:qH} (hx:lots[j]? =some x):qj5 N ⟨d,lots,holds⟩ x.Name=some (frE holds x,0)/\0<=frE holds x/\frE holds x<=x.Stock:=by
 have hh:holds.length<=300:=by have:=o.hl;omega
 have hl:lots.length<=100:=by have:=o.ll;omega
 refine⟨?_,o.fr j x hx,?_⟩
 ·unfold qj5
  rw[(qov hN o).1,ZB,if_neg (by decide)]
  rcases qtF hN d holds hl o.lk x.Name with⟨i,y,g1,g2,g3⟩|⟨p,g1,_,_,_,g5⟩
  ·obtain rfl:=qrt o.lk.srt g2 hx g3
   rw[g1,ZB,if_neg (by simp)]
   simp only
   rw[vK,g2,ZB,free_eq hN hh,ZB]
  exact absurd rfl (g5 j x hx)
 have hst:=(qjB o.lk (Yn hx)).2.2.2
 rw[qnX (qmn o.hk) hh hst]
 have:=qof (qwi (qmn o.hk) x.Name)
 omega
def qpe:List qw->Nat->Int->List qH->List qp->List qw->List zU->Int->Int×List qH×List qp×List qw×List zU×Int
 |[],_,d,l,h,k,rs,c=>(d,l,h,k,rs,c)
 |e::t,i,d,l,h,k,rs,c=>if qhB d l h e=0 then qpe t (i+1) e.Day (nxL l h e) (nxH l h e) (k++[e]) rs (if e.Kind=knR then c+e.Amount else c)else qpe t (i+1) d l h k (rs++[⟨((i+1:Nat):Int),qhB d l h e⟩]) c
theorem qrh (e:qw) (k:List qw) (i:Nat) (d:Int) (l:List qH) (h:List qp) (rs:List zU):qiQ (e::k) i d l h rs=if qhB d l h e=0 then qiQ k (i+1) e.Day (nxL l h e) (nxH l h e) rs else qiQ k (i+1) d l h (rs++[⟨((i+1:Nat):Int),qhB d l h e⟩]):=rfl
theorem qpG: ∀(k:List qw) (i:Nat) (d:Int) (l:List qH) (h:List qp) (rs:List zU) (t:List qw),qiQ (k++t) i d l h rs=qiQ t (i+k.length) (qiQ k i d l h rs).1 (qiQ k i d l h rs).2.1 (qiQ k i d l h rs).2.2.1 (qiQ k i d l h rs).2.2.2
 |[],i,d,l,h,rs,t=>rfl
 |e::k,i,d,l,h,rs,t=>by
  rw[List.cons_append,qrh,qrh,Yr,show i+(k.length+1)=i+1+k.length by omega]
  by_cases c:qhB d l h e=0
  ·rw[if_pos c,if_pos c,qpG k]
  rw[if_neg c,if_neg c,qpG k]
structure qoM (i:Nat) (d:Int) (l:List qH) (h:List qp) (k:List qw) (c:Int):Prop where
 o:OKS d l h
 k1:qnt k
 k2:ql4 k
 k3:k.length<=i
 r:qsa k=(d,l,h,[])
 s:qke qH.Stock l+qeb qp.Taken h=c
 c1:0<=c/\c<=999999999*(i:Int)
theorem qrp {i:Nat} {d:Int} {l:List qH} {h:List qp} {k:List qw} {c:Int} (q:qoM i d l h k c) {e:qw} (ek:qlz e) (es:ShE e) (z:qhB d l h e=0):qoM (i+1) e.Day (nxL l h e) (nxH l h e) (k++[e]) (if e.Kind=knR then c+e.Amount else c):=by
 have ham:=qnB ek.am
 have hf:=qvh q.o ek z
 refine⟨qpF q.o ek z,?_,?_,?_,?_,?_,?_⟩
 ·intro x hx
  rcases List.mem_append.1 hx with hx|hx
  ·exact q.k1 x hx
  rw[List.mem_singleton.1 hx];exact ek
 ·intro x hx
  rcases List.mem_append.1 hx with hx|hx
  ·exact q.k2 x hx
  rw[List.mem_singleton.1 hx];exact es
 ·have:=q.k3
  simp;omega
 ·have:=q.r
  unfold qsa at this⊢
  rw[qpG,this]
  unfold qiQ
  rw[if_pos z]
  rfl
 ·rw[hf,q.s]
  split<;>omega
 have:=q.c1
 split<;>omega
theorem qqG: ∀(t:List qw) (i:Nat) (d:Int) (l:List qH) (h:List qp) (k:List qw) (rs:List zU) (c:Int),qnt t->ql4 t->qoM i d l h k c->
 ∃d' l' h' k' rs' c',qpe t i d l h k rs c=(d',l',h',k',rs',c')/\qoM (i+t.length) d' l' h' k' c'/\qiQ t i d l h rs=(d',l',h',rs')
 |[],i,d,l,h,k,rs,c,_,_,q=>⟨d,l,h,k,rs,c,rfl,q,rfl⟩
 |e::t,i,d,l,h,k,rs,c,ok,sh,q=>by
  have ek:=ok e List.mem_cons_self
  have es:=sh e List.mem_cons_self
  have ok':qnt t:=fun x hx=>ok x (List.mem_cons_of_mem _ hx)
  have sh':ql4 t:=fun x hx=>sh x (List.mem_cons_of_mem _ hx)
  unfold qpe qiQ
  rw[Yr,show i+(t.length+1)=i+1+t.length by omega]
  by_cases z:qhB d l h e=0
  ·rw[if_pos z,if_pos z]
   exact qqG t (i+1) _ _ _ _ _ _ ok' sh' (qrp q ek es z)
  rw[if_neg z,if_neg z]
  refine qqG t (i+1) d l h k _ c ok' sh' ⟨q.o,q.k1,q.k2,by have:=q.k3;omega,q.r,q.s,by have:=q.c1;omega⟩
theorem qt7 {N:Nat} (hN:2000<N) {l:List qw} (hl:l.length<=1000) (ok:qnt l) (sh:ql4 l): ∀(K i:Nat) (d:Int) (lots:List qH) (holds:List qp) (k:List qw) (rs:List zU) (c:Int),i<=l.length->l.length<K+i->qoM i d lots holds k c->rs.length<=i->
 qbB N l K d lots holds k rs (i:Int) c=some (.inl (qpe (l.drop i) i d lots holds k rs c))
 |0,i,d,lots,holds,k,rs,c,h,hK,q,hr=>by omega
 |K+1,i,d,lots,holds,k,rs,c,h,hK,q,hr=>by
  unfold qbB
  by_cases hi:i<l.length
  ·have ek:=ok _ (List.getElem_mem hi)
   have es:=sh _ (List.getElem_mem hi)
   have hll:=q.o.ll
   have hhl:=q.o.hl
   have hcp:qbK N ⟨d,lots,holds⟩=some ⟨d,lots,holds⟩:=qrv (s:=⟨d,lots,holds⟩) (show lots.length<N by omega) (show holds.length<N by omega) (show lots.length*56<=_ by omega) (show holds.length*48<=_ by omega)
   obtain⟨s1,s2⟩:=qov hN q.o
   have hLg:qg2 N ⟨d,lots,holds⟩ l[i]=some (qhB d lots holds l[i],0):=by
    unfold qg2
    rw[s1,ZB,ychkE hN es,ZB,qoE.2 ek,qlp hN (by simp),ZB,if_neg (by decide),qsT hN q.o ek,ZB]
   have hNx:qko N ⟨d,lots,holds⟩ l[i]=some (if qhB d lots holds l[i]=0 then(⟨l[i].Day,nxL lots holds l[i],nxH lots holds l[i]⟩,0)else(⟨0,[],[]⟩,18)):=by
    unfold qko
    rw[hLg,ZB]
    simp only
    rw[qbO,ZB,qlp hN (by simp),ZB]
    by_cases z:qhB d lots holds l[i]=0
    ·rw[z,if_neg (by decide),ystep hN q.o ek z,if_pos rfl]
     rfl
    have hW:qe7 [(0:Int),if(!decide (qhB d lots holds l[i]=0))=true then 18 else 0]=18:=by rw[decide_eq_false z];rfl
    rw[hW,if_pos (by decide),if_neg z]
   have ham:=qnB ek.am
   have hc:=q.c1
   rw[if_pos (by omega),vK,Ya hi,ZB,hcp,ZB,s2,ZB,if_neg (by decide),hLg,ZB,hNx,ZB,qbM (by omega),qe2 hi]
   unfold qpe
   by_cases z:qhB d lots holds l[i]=0
   ·have hks:=qrp q ek es z
    rw[if_pos z,if_pos z]
    simp only[z,decide_true,Bool.not_true,ZF,if_false,if_true,ZB]
    have hcc:((if(l[i].Kind==[114,101,99,101,105,118,101])=true then some (w64 (c+l[i].Amount))else some c:Option Int))=some (if l[i].Kind=knR then c+l[i].Amount else c):=by
     by_cases y:l[i].Kind=knR
     ·rw[if_pos y,if_pos (by rw[y];rfl),qb6 (by omega) (by omega)]
     rw[if_neg y,if_neg (by simpa using y)]
    have hk3:=q.k3
    rw[hcc,ZB,qnC (by rw[List.length_singleton];omega) (by rw[List.length_singleton];omega),ZB,ZB]
    exact qt7 hN hl ok sh K (i+1) _ _ _ _ _ _ (by omega) (by omega) hks (by omega)
   simp only[z,decide_true,decide_false,Bool.not_true,Bool.not_false,ZF,if_false,if_true,ZB]
   rw[qnC (by rw[List.length_singleton];omega) (by rw[List.length_singleton];omega),ZB,ZB]
   exact qt7 hN hl ok sh K (i+1) _ _ _ _ _ _ (by omega) (by omega) ⟨q.o,q.k1,q.k2,by have:=q.k3;omega,q.r,q.s,by omega⟩ (by simp;omega)
  rw[if_neg (by omega),List.drop_eq_nil_of_le (by omega)]
  rfl
theorem qwt {r:StateT×List zU×Int} (hl:r.2.1.length<=2000): ∀(K i:Nat),i<=r.2.1.length->r.2.1.length<K+i->qbp r.2.1 r K (i:Int)=some (.inl ())
 |0,i,h,hK=>by omega
 |K+1,i,h,hK=>by
  unfold qbp
  by_cases hi:i<r.2.1.length
  ·rw[if_pos (by omega),vK,Ya hi,ZB,ZB,if_neg (by simp),qbM (by omega)]
   exact qwt hl K (i+1) (by omega) (by omega)
  rw[if_neg (by omega)]
theorem qs9 {N:Nat} (hN:2000<N) {d:Int} {lots:List qH} {holds:List qp} (o:OKS d lots holds): ∀(K i:Nat) (c:Int),i<=lots.length->lots.length<K+i->0<=c->c<=999999999*(i:Int)->
 qby N holds d lots K (i:Int) c=some (.inl (c+qke qH.Stock (lots.drop i)))
 |0,i,c,h,hK,c0,c1=>by omega
 |K+1,i,c,h,hK,c0,c1=>by
  have hll:=o.ll
  unfold qby
  by_cases hi:i<lots.length
  ·have hx:lots[i]? =some lots[i]:=Ya hi
   obtain⟨f1,f2,f3⟩:=qwj hN o hx
   have hst:=(qjB o.lk (List.getElem_mem hi)).2.2.2
   rw[if_pos (by omega),vK,hx,ZB,f1,ZB,if_neg (by simp),if_neg (by simp;omega)]
   simp only
   rw[decide_eq_false (by omega),ZB,if_neg (by decide),qbM (by omega),qb6 (by omega) (by omega),qe2 hi,qs9 hN o K (i+1) _ (by omega) (by omega) (by omega) (by omega)]
   simp only[qke]
   rw[Int.add_assoc]
  rw[if_neg (by omega),List.drop_eq_nil_of_le (by omega)]
  simp[qke]
theorem qsn {lots:List qH} {holds:List qp} (hk:qf9 lots holds) (hl:holds.length<=256): ∀(K i:Nat) (c:Int),i<=holds.length->holds.length<K+i->0<=c->c<=999999999*((i+64:Nat):Int)->
 qbu holds K (i:Int) c=some (c+qeb qp.Taken (holds.drop i))
 |0,i,c,h,hK,c0,c1=>by omega
 |K+1,i,c,h,hK,c0,c1=>by
  unfold qbu
  by_cases hi:i<holds.length
  ·have hx:holds[i]? =some holds[i]:=Ya hi
   have hst:=(qhw hk (List.getElem_mem hi)).2.2.2.1
   rw[if_pos (by omega),vK,hx,ZB,qbM (by omega),qb6 (by omega) (by omega),qe2 hi,qsn hk hl K (i+1) _ (by omega) (by omega) (by omega) (by omega)]
   simp only[qeb]
   rw[Int.add_assoc]
  rw[if_neg (by omega),List.drop_eq_nil_of_le (by omega)]
  simp[qeb]
theorem qw9 {l:List qH} (h: ∀x∈l,0<=x.Stock/\x.Stock<=999999999):0<=qke qH.Stock l/\qke qH.Stock l<=999999999*(l.length:Int):=by
 induction l with
 |nil=>simp[qke]
 |cons x t ih=>
  have:=h x List.mem_cons_self
  have:=ih fun y hy=>h y (List.mem_cons_of_mem _ hy)
  simp only[qke,Yr]
  omega
theorem qpq {N:Nat} (l:List qw) (hN:600000+l.length<N) (b1:l.length*96<=140737488355328):qf3 N l=some true:=by
 have hN2:2000<N:=by omega
 unfold qf3 awk
 rw[qxw (by omega) b1,ZB]
 by_cases t:(l.length:Int)>24
 ·rw[if_pos t];rfl
 rw[if_neg t]
 obtain⟨b,hb,hsh⟩:=qvC hN2 l 24
 rw[hb,ZB]
 cases b with
 |false=>rfl
 |true=>
  obtain⟨_,sh⟩:=hsh rfl
  rw[if_neg (by decide),qxk hN2 sh,ZB,ZB]
  by_cases z: ¬qoI l=0
  ·rw[if_pos (by simp[z])];rfl
  have z:qoI l=0:=by simpa using z
  obtain⟨hl,ok⟩:=qmP.1 z
  have q0:qoM 0 0 [] [] [] 0:=⟨qrO,fun e h=>(by cases h),fun e h=>(by cases h),Nat.le_refl _,rfl,rfl,by decide⟩
  have hL:=qt7 hN2 hl ok sh N 0 0 [] [] [] [] 0 (Nat.zero_le _) (by omega) q0 (Nat.le_refl _)
  rw[show((0:Nat):Int)=0 from rfl,YR]at hL
  obtain⟨d,lots,holds,k,rs,c,g1,g2,g3⟩:=qqG l 0 0 [] [] [] [] 0 ok sh q0
  have hk3:=g2.k3
  have hkc:qoI k=0:=qmP.2 ⟨by omega,g2.k1⟩
  have hrl:=(qvK l sh).2.2
  have hr1:qo2 l=(d,lots,holds,rs):=by
   unfold qo2 qsa
   rw[if_pos z,g3]
  have hr2:qo2 k=(d,lots,holds,[]):=by
   unfold qo2
   rw[if_pos hkc,g2.r]
  have hll:=g2.o.ll
  have hhl:=g2.o.hl
  have s1:qbK N ⟨d,lots,holds⟩=some ⟨d,lots,holds⟩:=qrv (s:=⟨d,lots,holds⟩) (show lots.length<N by omega) (show holds.length<N by omega) (show lots.length*56<=_ by omega) (show holds.length*48<=_ by omega)
  have s2:qgd N ⟨d,lots,holds⟩ ⟨d,lots,holds⟩=some true:=same_eq (a:=⟨d,lots,holds⟩) hN2 (show lots.length<=_ by omega) (show holds.length<=_ by omega)
  rw[hr1]at hrl
  rw[if_neg (by simp[z]),hL,g1,ZB]
  simp only
  rw[qqC hN2 sh,hr1,z,ZB,qqC hN2 g2.k2,hr2,hkc,ZB]
  simp only
  rw[if_neg (by simp),if_neg (by simp),if_neg (by simp),if_neg (by simp),s1,ZB,ZB,s2,ZB,if_neg (by simp),ZB,ZB,s2,ZB,if_neg (by simp),ZB,(qov hN2 g2.o).2,ZB,ZB,if_neg (by simp)]
  have h1:=qwt (r:=(⟨d,lots,holds⟩,rs,0)) hrl N 0 (Nat.zero_le _) (by show rs.length<_;simp only at hrl;omega)
  have h2:=qs9 hN2 g2.o N 0 0 (Nat.zero_le _) (by omega) (Int.le_refl _) (by decide)
  have hcap:=qw9 fun x hx=>(qjB g2.o.lk hx).2.2.2
  have h3:=qsn g2.o.hk hhl N 0 (qke qH.Stock lots) (Nat.zero_le _) (by omega) hcap.1 (by omega)
  rw[show((0:Nat):Int)=0 from rfl]at h1 h2 h3
  rw[YR,Int.zero_add]at h2
  rw[YR,g2.s]at h3
  simp only at h1
  rw[h1,ZB]
  simp only
  rw[h2,ZB]
  simp only
  rw[h3,ZB,if_pos rfl]
  rfl
end Go.Av
end
