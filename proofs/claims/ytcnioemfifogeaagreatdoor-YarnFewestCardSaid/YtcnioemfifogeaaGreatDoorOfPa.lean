/-
  Names.
-/
import Derived.Test.YtcnioemfifogeaaGreatDoorAvPt
import Derived.Test.YtcnioemfifogeaaGreatDoorQGenA1f
noncomputable section
set_option linter.unusedSimpArgs false
set_option linter.unusedVariables false
set_option maxRecDepth 100000
set_option linter.unusedSectionVars false
section
namespace Go.Av
theorem qyD {s:Str} {k:Nat} {c:UInt8} (h:s[k]? =some c):((⟨s.toArray⟩:ByteArray).get! k)=c:=by
 have hk:=(Yb.1 h).1
 show s.toArray[k]! =c
 rw[getElem!_def]
 simp[h]
theorem qzc {s:Str} {k:Nat} {c:UInt8} (h:s[k]? =some c) (hc:c.toNat<128):qhJ s k=c.toNat/\runeLen s k=1:=by
 have e:=qyD h
 unfold qhJ runeLen Utf8.decode
 simp only[Nat.add_zero,e,if_pos hc,and_self]
theorem qAd {s:Str} {k:Nat} {c:UInt8} (h:s[k]? =some c) (hc:128<=c.toNat):128<=qhJ s k:=by
 have e:=qyD h
 unfold qhJ Utf8.decode
 simp only[Nat.add_zero,e,if_neg (Nat.not_lt.2 hc)]
 have hr:(128:Nat)<=Utf8.runeError:=by decide
 repeat' split
 all_goals first|(simp only[Bool.and_eq_true,decide_eq_true_eq]at*;omega)|(simp;omega)|omega
def qxA (c:Int):Bool:=(decide (97<=c)&&decide (c<=122))||(decide (65<=c)&&decide (c<=90))
theorem qul (c:Int):qhR c=some (qxA c):=by
 unfold qhR qxA
 by_cases h1:c>=97<;>by_cases h2:c<=122<;>by_cases h3:c>=65<;>by_cases h4:c<=90<;>simp[h1,h2,h3,h4]<;>omega
def qyT (k:Nat) (c:Int):Bool:=!qxA c&&(decide (k=0)||(!decide (c=95)&&(decide (c<48)||decide (c>57))))
def qcg (s:Str):Bool:=decide (1<=s.length)&&decide (s.length<=24)&&!((List.range s.length).any fun k=>qyT k (s.getD k 0).toNat)
theorem qAV {k:Nat} {c:Int} (h:128<=c):qyT k c=true:=by
 unfold qyT qxA
 simp
 omega
def qlK (s:Str) (k:Nat):Bool:=(List.range (s.length-k)).any fun j=>qyT (k+j) (s.getD (k+j) 0).toNat
theorem qtz {s:Str} {k:Nat} {c:UInt8} (h:s[k]? =some c):qlK s k=(qyT k c.toNat||qlK s (k+1)):=by
 have hk:=(Yb.1 h).1
 unfold qlK
 rw[show s.length-k=(s.length-(k+1))+1 by omega,List.range_succ_eq_map,List.any_cons,List.any_map]
 congr 1
 ·simp[List.getD,h]
 congr 1
 funext j
 simp only[Function.comp,Nat.succ_eq_add_one]
 rw[show k+(j+1)=k+1+j by omega]
theorem qup {s:Str} {k:Nat} (h:s.length<=k):qlK s k=false:=by
 unfold qlK
 rw[show s.length-k=0 by omega]
 rfl
theorem qwB (s:Str): ∀(K k:Nat),k<=s.length->s.length<K+k->qfH s K k=some (if qlK s k then .inr false else .inl ())
 |0,k,h,hK=>by omega
 |K+1,k,h,hK=>by
  unfold qfH
  by_cases hk:k<s.length
  ·have hc:s[k]? =some s[k]:=Ya hk
   rw[if_pos hk,qul,qtz hc]
   by_cases ha:(s[k]).toNat<128
   ·obtain⟨e1,e2⟩:=qzc hc ha
    rw[e1,e2,qwB s K (k+1) (by omega) (by omega)]
    have ek:((k:Int)=0)↔k=0:=by omega
    unfold qyT
    generalize ((s[k]).toNat:Int)=c
    cases hl:qxA c<;>by_cases h0:k=0<;>by_cases h1:c=95<;>by_cases h2:c<48<;>by_cases h3:57<c<;>
     simp[hl,h0,h1,h2,h3]
   have hw:=qAd hc (by omega)
   rw[qAV (show(128:Int)<=((s[k]).toNat:Int)by omega)]
   have hl:qxA (qhJ s k)=false:=by unfold qxA;simp;omega
   have h1: ¬qhJ s k=95:=by omega
   have h2: ¬qhJ s k<48:=by omega
   have h3:qhJ s k>57:=by omega
   have ek:((k:Int)=0)↔k=0:=by omega
   simp only[hl,ZB,Bool.not_false,if_true,h1,h2,h3,decide_true,decide_false,if_false,Bool.true_or,ek]
   by_cases h0:k=0
   ·simp only[h0,if_true,ZB]
   simp only[h0,if_false,ZB,if_true]
  rw[if_neg hk,qup (by omega)]
  rfl
theorem qyo (s:Str):qcg s=(decide (1<=s.length)&&decide (s.length<=24)&&!qlK s 0):=by
 unfold qcg qlK
 simp
theorem qwC {N:Nat} {s:Str} (h:s.length<N):qjx N s=some (qcg s):=by
 unfold qjx
 rw[qwB s N 0 (Nat.zero_le _) (by omega),qyo]
 cases hb:qlK s 0
 ·cases s with
  |nil=>simp
  |cons x xs=>
   have e:((x::xs)==([]:Str))=false:=rfl
   simp only[ZB,ZF,if_false,e,Bool.not_false,if_true,Bool.and_true,ZI]
   have:(1<=(x::xs).length):=by simp
   rw[Bool.eq_iff_iff]
   simp only[decide_eq_true_eq,Bool.and_eq_true,this,true_and]
   omega
 simp
theorem qu5 (s:Str) (hs:s.length<4611686018427387904): ∀(K k:Nat),k<=s.length->s.length<K+k->qgZ s K (k:Int)=some (if qlK s k then .inr false else .inl ())
 |0,k,h,hK=>by omega
 |K+1,k,h,hK=>by
  unfold qgZ
  by_cases hk:k<s.length
  ·have hc:s[k]? =some s[k]:=Ya hk
   rw[if_pos (by omega),yM,hc,qtz hc,qe5 (by omega),qu5 s hs K (k+1) (by omega) (by omega)]
   simp only[ZB]
   have ek:((k:Int)=0)↔k=0:=by omega
   unfold qyT
   generalize ((s[k]).toNat:Int)=c
   rw[show(if c>=97 then if c<=122 then some true else if c>=65 then some (decide (c<=90))else some false else if c>=65 then some (decide (c<=90))else some false:Option Bool)=some (qxA c)from by
    have:=qul c
    unfold qhR at this
    rw[<-this]
    cases(if c>=97 then if c<=122 then some true else if c>=65 then some (decide (c<=90))else some false else if c>=65 then some (decide (c<=90))else some false:Option Bool)<;>rfl]
   simp only[ZB,ek]
   cases qxA c
   ·by_cases h5:k=0
    ·simp[h5]
    by_cases h6:c>=48
    ·by_cases h7:c<=57
     ·have a1: ¬c<48:=by omega
      have a2: ¬c>57:=by omega
      simp[h5,h6,h7,a1,a2]
     have a1: ¬c<48:=by omega
     have a2:c>57:=by omega
     by_cases h8:c=95<;>simp[h5,h6,h7,h8,a1,a2]
    have a1:c<48:=by omega
    by_cases h8:c=95<;>simp[h5,h6,h8,a1]
   simp
  rw[if_neg (by omega),qup (by omega)]
  rfl
theorem ql9 {N:Nat} {s:Str} (h:s.length<N) (hs:s.length<4611686018427387904):qg6 N s=some (qcg s):=by
 unfold qg6
 rw[show(0:Int)=((0:Nat):Int)from rfl,qu5 s hs N 0 (Nat.zero_le _) (by omega),qyo]
 by_cases h1:s.length<1
 ·rw[if_pos (by omega)]
  simp[show¬1<=s.length by omega]
 by_cases h2:s.length>24
 ·rw[if_neg (by omega)]
  simp only[ZB,show((s.length:Int)>24)by omega,decide_true,if_true,show¬s.length<=24 by omega,decide_false,Bool.and_false,Bool.false_and]
 rw[if_neg (by omega)]
 simp only[ZB,show¬((s.length:Int)>24)by omega,decide_false,ZF,if_false,show 1<=s.length by omega,show s.length<=24 by omega,decide_true,Bool.true_and]
 cases hb:qlK s 0<;>rfl
end Go.Av
end
section
namespace Go.Av
def qfr:List Int->Int
 |[]=>0
 |a::l=>if a=0 then qfr l else a
theorem qk5 {α:Type} {l:List α} {i:Nat} (h:i<l.length):l.drop i=l[i]::l.drop (i+1):=List.drop_eq_getElem_cons h
theorem qCk {l:List Int} (hl:l.length<=1000): ∀(K i:Nat),i<=l.length->l.length<K+i->qih l K (i:Int)=some (if qfr (l.drop i)=0 then .inl ()else .inr (qfr (l.drop i)))
 |0,i,h,hK=>by omega
 |K+1,i,h,hK=>by
  unfold qih
  by_cases hi:i<l.length
  ·rw[if_pos (by omega),yM,Ya hi,ZB,qk5 hi]
   unfold qfr
   by_cases c:l[i]=0
   ·rw[if_neg (by simp[c]),if_pos c,qe5 (by omega)]
    exact qCk hl K (i+1) (by omega) (by omega)
   rw[if_pos (by simp[c]),if_neg c,if_neg c]
  rw[if_neg (by omega),List.drop_eq_nil_of_le (by omega)]
  rfl
theorem qpM {N:Nat} {l:List Int} (hN:2000<N) (hl:l.length<=1000):qdH N l=some (qfr l):=by
 unfold qdH
 rw[show(0:Int)=((0:Nat):Int)from rfl,qCk hl N 0 (by omega) (by omega),YR]
 by_cases c:qfr l=0
 ·rw[if_pos c,ZB,c]
  rfl
 rw[if_neg c,ZB]
theorem qC7 {l:List Int} (hl:l.length<=1000): ∀(K i:Nat),i<=l.length->l.length<K+i->qib l K (i:Int)=some (if qfr (l.drop i)=0 then .inl ()else .inr (qfr (l.drop i)))
 |0,i,h,hK=>by omega
 |K+1,i,h,hK=>by
  unfold qib
  by_cases hi:i<l.length
  ·rw[if_pos (by omega),yM,Ya hi,ZB,qk5 hi]
   unfold qfr
   by_cases c:l[i]=0
   ·rw[if_neg (by simp[c]),if_pos c,qe5 (by omega)]
    exact qC7 hl K (i+1) (by omega) (by omega)
   rw[if_pos (by simp[c]),if_neg c,if_neg c]
  rw[if_neg (by omega),List.drop_eq_nil_of_le (by omega)]
  rfl
theorem qBV {N:Nat} {l:List Int} (hN:2000<N) (hl:l.length<=1000):qmo N l=some (qfr l):=by
 unfold qmo
 rw[show(0:Int)=((0:Nat):Int)from rfl,qC7 hl N 0 (by omega) (by omega),YR]
 by_cases c:qfr l=0
 ·rw[if_pos c,ZB,c]
  rfl
 rw[if_neg c,ZB]
theorem qfb (b:Bool) (e:Int):qcB b e=some (if b=true then e else 0):=by
 unfold qcB
 cases b<;>rfl
theorem qAh (b:Bool) (e:Int):qlY b e=some (if b=true then e else 0):=by
 unfold qlY
 cases b<;>rfl
def qh9 (n a b:Int):Bool:=decide (n<a)||decide (b<n)
theorem quH (n a b:Int):qk9 n a b=some (qh9 n a b):=by
 unfold qk9 qh9
 by_cases c:n<a
 ·rw[if_pos c,decide_eq_true c]
  rfl
 rw[if_neg c,decide_eq_false c,Bool.false_or]
 rfl
theorem qok (n a b:Int):qgz n a b=some (if qh9 n a b=true then 3 else 0):=by
 unfold qgz qh9
 by_cases c:n<a
 ·rw[if_pos c,qfb,decide_eq_true c]
  rfl
 rw[if_neg c,qfb,decide_eq_false c,Bool.false_or]
 rfl
theorem qmq {N:Nat} {s:Str} (h:s.length<N):qhy N s=some (if qcg s=true then 0 else 8):=by
 unfold qhy
 rw[qwC h,ZB,qfb,ZB]
 cases qcg s<;>rfl
def qo4 (s:Str):Bool:=s==[]||qcg s
theorem qxh {N:Nat} {s:Str} (h:s.length<N):qig N s=some (if qo4 s=true then 0 else 8):=by
 unfold qig qo4
 cases c:(s==[]:Bool)with
 |true=>
  rw[if_neg (by simp),qfb]
  rfl
 |false=>
  rw[if_pos (by simp),qwC h,ZB,qfb,Bool.false_or]
  cases qcg s<;>rfl
theorem qwT {N:Nat} {s:Str} (h:s.length<N) (hs:s.length<=100000):qlh N s=some (qo4 s):=by
 unfold qlh qo4
 cases c:(s==[]:Bool)with
 |true=>rfl
 |false=>
  rw[if_neg (by simp),ql9 h (by omega),Bool.false_or]
  rfl
theorem qmf: ∀a b:Str,Lib.compareBytes a b=if ltL a b=true then-1 else if(a==b)=true then 0 else 1
 |[],[]=>rfl
 |[],_::_=>rfl
 |_::_,[]=>rfl
 |a::x,b::y=>by
  unfold Lib.compareBytes
  by_cases h1:a<b
  ·rw[if_pos h1,if_pos (by simp[ltL,h1])]
  rw[if_neg h1]
  by_cases h2:b<a
  ·have hne:a≠b:=fun e=>by subst e;exact h1 h2
   have l:ltL (a::x) (b::y)=false:=by simp[ltL,h1,hne]
   rw[if_pos h2,l,if_neg (by simp),if_neg (by simp[hne])]
  have hab:a=b:=by
   have g1:=UInt8.not_lt.1 h1
   have g2:=UInt8.not_lt.1 h2
   exact UInt8.le_antisymm g2 g1
  subst hab
  rw[if_neg h2,qmf x y]
  have l:ltL (a::x) (a::y)=ltL x y:=by simp[ltL,h1]
  rw[l]
  by_cases e:x=y
  ·subst e
   simp
  have e1:(x==y)=false:=beq_false_of_ne e
  have e2:((a::x)==(a::y))=false:=beq_false_of_ne (fun h=>e (List.cons.inj h).2)
  rw[e1,e2]
def qqD:Option qP->qP->Bool
 |none,_=>false
 |some x,l=>ltL l.Name x.Name||l.Name==x.Name
def qnk (prev:Option qP) (l:qP):Int:=if(qcg l.Name&&qcg l.Yarn&&qo4 l.Dye)=true then if qqD prev l=true then 11 else if qh9 l.Stock 0 999999999=true then 3 else 0 else 8
def qfd {α:Type} (l:List α) (i:Nat):Option α:=if i=0 then none else l[i-1]?
theorem qwF {lots:List qP} {i:Nat} {x:qP} (h:i<=lots.length) (hl:lots.length<=1000):((if((lots.take i).length:Int)>0 then(idx (lots.take i) (w64 (((lots.take i).length:Int)-1))).bind fun x2=>some (ltL x.Name x2.Name||x.Name==x2.Name)else some false:Option Bool))=some (qqD (qfd lots i) x):=by
 have e:(lots.take i).length=i:=by rw[Ym];omega
 rw[e]
 unfold qfd
 by_cases c:i=0
 ·rw[if_neg (by omega),if_pos c]
  rfl
 rw[if_pos (by omega),if_neg c,qu3 (by omega) (by omega),yM,List.getElem?_take_of_lt (by omega),Ya (show i-1<lots.length by omega),ZB]
 rfl
theorem qyt {N:Nat} (hN:2000<N) {lots:List qP} {i:Nat} {x:qP} (h:i<=lots.length) (hl:lots.length<=1000) (h1:x.Name.length<=1000) (h2:x.Yarn.length<=1000) (h3:x.Dye.length<=1000):qkq N x (lots.take i)=some (qnk (qfd lots i) x):=by
 unfold qkq
 rw[qwF h hl,ZB,qmq (by omega),ZB,qmq (by omega),ZB,qxh (by omega),ZB,qfb,ZB,qok,ZB,qpM hN (by simp),ZB]
 unfold qnk
 congr 1
 cases qcg x.Name<;>cases qcg x.Yarn<;>cases qo4 x.Dye<;>cases qqD (qfd lots i) x<;>cases qh9 x.Stock 0 999999999<;>rfl
def ShL (lots:List qP):Prop:= ∀l∈lots,l.Name.length<=60/\l.Yarn.length<=60/\l.Dye.length<=60
theorem qwI {N:Nat} (hN:2000<N) {lots:List qP} (day:Int) (holds:List qG) (hl:lots.length<=100) (hs:ShL lots): ∀(K i:Nat),i<=lots.length->lots.length<K+i->
 ∃r,qez N lots K (i:Int)=some r/\qd8 N ⟨day,lots,holds⟩ K (i:Int)=some r/\(∀e,r= .inr e->e≠0)/\(r= .inl ()↔ ∀(j:Nat) (x:qP),i<=j->lots[j]? =some x->qnk (qfd lots j) x=0)
 |0,i,h,hK=>by omega
 |K+1,i,h,hK=>by
  unfold qez qd8
  simp only
  by_cases hi:i<lots.length
  ·have hx:lots[i]? =some lots[i]:=Ya hi
   obtain⟨s1,s2,s3⟩:=hs _ (List.getElem_mem hi)
   generalize lots[i]=x at*
   have href:((if(i:Int)>0 then(idx lots (w64 ((i:Int)-1))).bind fun x18=>some (ltL x.Name x18.Name||x.Name==x18.Name)else some false:Option Bool))=some (qqD (qfd lots i) x):=by
    have:=qwF (x:=x) h (by omega:lots.length<=1000)
    have e:(lots.take i).length=i:=by rw[Ym];omega
    rw[e]at this
    by_cases c:i=0
    ·rw[if_neg (by omega)]at this⊢
     exact this
    rw[if_pos (by omega),qu3 (by omega) (by omega),yM]at this⊢
    rw[List.getElem?_take_of_lt (by omega)]at this
    exact this
   rw[if_pos (by omega),if_pos (by omega),yM,hx,ZB,ZB,qtD (by omega),ZB,qyt hN h (by omega) (by omega) (by omega) (by omega),ZB,ql9 (by omega) (by omega),href]
   have hrec:=qwI hN day holds hl hs K (i+1) (by omega) (by omega)
   rw[qe5 (by omega)]
   by_cases hz:qnk (qfd lots i) x=0
   ·obtain⟨r,r1,r2,r3,r4⟩:=hrec
    refine⟨r,?_,?_,r3,fun hr j y hj hy=>?_,fun hall=>r4.2 fun j y hj hy=>hall j y (by omega) hy⟩
    ·rw[if_neg (by simp[hz])]
     exact r1
    ·unfold qnk at hz
     cases n1:qcg x.Name<;>cases n2:qcg x.Yarn<;>cases n3:qo4 x.Dye<;>cases n4:qqD (qfd lots i) x<;>cases n5:qh9 x.Stock 0 999999999<;>rw[n1,n2,n3,n4,n5]at hz<;>(first|(exact absurd hz (by decide))|skip)
     rw[ZB,if_neg (by simp),ql9 (by omega) (by omega),ZB,n2,if_neg (by simp),qwT (by omega) (by omega),n3,ZB,ZB,if_neg (by simp),ZB,if_neg (by simp),quH,n5,ZB,if_neg (by simp)]
     exact r2
    by_cases c:j=i
    ·subst c
     rw[hx]at hy
     obtain rfl:=Ye hy
     exact hz
    exact r4.1 hr j y (by omega) hy
   refine⟨.inr (qnk (qfd lots i) x),?_,?_,fun e he=>by cases he;exact hz,fun c=>(by cases c),fun hall=>absurd (hall i x (Nat.le_refl _) hx) hz⟩
   ·rw[if_pos (by simp[hz])]
   unfold qnk at hz⊢
   rw[ql9 (s:=x.Yarn) (by omega) (by omega),qwT (by omega) (by omega),quH]
   cases n1:qcg x.Name<;>cases n2:qcg x.Yarn<;>cases n3:qo4 x.Dye<;>cases n4:qqD (qfd lots i) x<;>cases n5:qh9 x.Stock 0 999999999<;>rw[n1,n2,n3,n4,n5]at hz<;>first|rfl|exact absurd rfl hz
  rw[if_neg (by omega),if_neg (by omega)]
  exact⟨.inl (),rfl,rfl,fun e he=>(by cases he),fun _ j x hj hx=>(by
   have:=(Yb.1 hx).1
   omega),fun _=>rfl⟩
end Go.Av
end
section
namespace Go.Av
theorem qxt (n:Int):w64 n=(if n%18446744073709551616<9223372036854775808 then n%18446744073709551616 else n%18446744073709551616-18446744073709551616):=by
 show IntKind.wrap .i64 n=_
 unfold IntKind.wrap
 have e:(2:Int)^IntKind.i64.bits=18446744073709551616:=by decide
 have e2:(2:Int)^(IntKind.i64.bits-1)=9223372036854775808:=by decide
 have e3:IntKind.i64.signed=true:=by decide
 simp only[e,e2,e3,Bool.true_and,ge_iff_le,decide_eq_true_eq]
 split<;>split<;>omega
theorem qDb {lots:List qP} {name:Str} (hl:lots.length<=100) (day:Int) (holds:List qG) (a2:Str) (a3 a4:Int): ∀(K i:Nat),i<=lots.length->lots.length<K+i->
 (vR lots name a2 a3 a4 K (i:Int)=some (.inl ())/\qbf ⟨day,lots,holds⟩ name K (i:Int)=some (.inl ())/\ ∀(j:Nat) x,i<=j->lots[j]? =some x->x.Name≠name)\/
 (∃(j:Nat) (x:qP),vR lots name a2 a3 a4 K (i:Int)=some (.inr (j:Int))/\qbf ⟨day,lots,holds⟩ name K (i:Int)=some (.inr (j:Int))/\lots[j]? =some x/\x.Name=name)
 |0,i,h,hK=>by omega
 |K+1,i,h,hK=>by
  unfold vR qbf qgN
  simp only
  by_cases hi:i<lots.length
  ·have hx:lots[i]? =some lots[i]:=Ya hi
   rw[if_pos (by omega),if_pos (by omega),yM,hx,ZB,ZB,ZB]
   generalize lots[i]=x at*
   by_cases e:x.Name=name
   ·have e1:(x.Name==name)=true:=by rw[e];exact beq_self_eq_true _
    rw[if_pos e1,if_pos e1]
    exact .inr ⟨i,x,rfl,rfl,hx,e⟩
   have e1: ¬(x.Name==name)=true:=by simpa using e
   rw[if_neg e1,if_neg e1,qe5 (by omega)]
   rcases qDb hl day holds a2 a3 a4 K (i+1) (by omega) (by omega)with⟨r1,r2,r3⟩|r
   ·refine .inl ⟨r1,r2,fun j y hj hy=>?_⟩
    by_cases c:j=i
    ·subst c
     rw[hx]at hy
     obtain rfl:=Ye hy
     exact e
    exact r3 j y (by omega) hy
   exact .inr r
  rw[if_neg (by omega),if_neg (by omega)]
  exact .inl ⟨rfl,rfl,fun j x hj hx=>by
   have:=(Yb.1 hx).1
   omega⟩
def knB (lots:List qP) (name:Str):Bool:=lots.any fun x=>x.Name==name
theorem qBk {lots:List qP} {name:Str} {j:Nat} {x:qP} (h:lots[j]? =some x) (e:x.Name=name):knB lots name=true:=by
 unfold knB
 rw[List.any_eq_true]
 exact⟨x,Yn h,by rw[e];exact beq_self_eq_true _⟩
theorem qAN {lots:List qP} {name:Str} (h: ∀(j:Nat) x,lots[j]? =some x->x.Name≠name):knB lots name=false:=by
 unfold knB
 rw[List.any_eq_false]
 intro x hx
 obtain⟨j,hj,rfl⟩:=List.getElem_of_mem hx
 have:=h j _ (Ya hj)
 simpa using this
theorem qy5 {N:Nat} (hN:2000<N) {lots:List qP} (hl:lots.length<=100) (day:Int) (holds:List qG) (name a2:Str) (a3 a4:Int): ∃(p:Int),qdJ N lots name a2 a3 a4=some (knB lots name)/\qhW N ⟨day,lots,holds⟩ name=some p/\decide (p<0)=!knB lots name:=by
 unfold qdJ qgV qhW
 rcases qDb (name:=name) hl day holds a2 a3 a4 N 0 (by omega) (by omega)with⟨r1,r2,r3⟩|⟨j,x,r1,r2,r3,r4⟩
 ·rw[show((0:Nat):Int)=0 from rfl]at r1 r2
  rw[r1,r2,qAN fun j x hx=>r3 j x (Nat.zero_le _) hx]
  exact⟨-1,rfl,rfl,rfl⟩
 rw[show((0:Nat):Int)=0 from rfl]at r1 r2
 rw[r1,r2,qBk r3 r4]
 refine⟨(j:Int),?_,rfl,?_⟩
 ·simp only[ZB]
  rw[decide_eq_true (by omega)]
 rw[decide_eq_false (by omega)]
 rfl
def qy9 (a b:qG):Bool:=!(ltL a.Lot b.Lot||a.Lot==b.Lot)||(a.Lot==b.Lot&&!(ltL a.Order b.Order||a.Order==b.Order))
theorem qz0 (a b:qG):qk4 a b=some (qy9 a b):=by
 unfold qk4 qy9
 cases ltL a.Lot b.Lot<;>cases(a.Lot==b.Lot)<;>rfl
theorem qxJ {a b:Str}:(Lib.compareBytes a b<0)=(ltL a b=true):=by
 rw[qmf]
 by_cases h:ltL a b=true
 ·rw[if_pos h]
  exact propext ⟨fun _=>h,fun _=>by decide⟩
 rw[if_neg h]
 by_cases e:(a==b)=true
 ·rw[if_pos e]
  exact propext ⟨fun c=>absurd c (by decide),fun c=>absurd c h⟩
 rw[if_neg e]
 exact propext ⟨fun c=>absurd c (by decide),fun c=>absurd c h⟩
theorem qCA {N:Nat} (hN:2000<N) (a b:qG): ∃c,qgP N a b=some c/\decide (c<=0)=!qy9 a b:=by
 unfold qgP tCmp
 rw[ZB,ZB,qBV hN (by simp),ZB]
 refine⟨_,rfl,?_⟩
 rw[qmf a.Lot b.Lot,qmf a.Order b.Order]
 unfold qy9
 by_cases e:a.Lot=b.Lot
 ·rw[e,qi8,beq_self_eq_true]
  cases ltL a.Order b.Order<;>cases(a.Order==b.Order)<;>rfl
 have e1:(a.Lot==b.Lot)=false:=beq_false_of_ne e
 rw[e1]
 cases ltL a.Lot b.Lot<;>rfl
def qsw:Option qG->qG->Bool
 |none,_=>false
 |some x,h=>!qy9 h x
def qlQ (kn:Bool) (prev:Option qG) (h:qG):Int:=if kn=true then if qcg h.Order=true then if qsw prev h=true then 11 else if(qh9 h.Reserved 0 999999999||qh9 h.Taken 0 999999999)=true then 3 else if(decide (h.Reserved=0)&&decide (h.Taken=0))=true then 6 else 0 else 8 else 10
def ShH (holds:List qG):Prop:= ∀h∈holds,h.Lot.length<=60/\h.Order.length<=60
theorem qvM {N:Nat} (hN:2000<N) {lots:List qP} (day:Int) {holds:List qG} (hl:lots.length<=100) (hh:holds.length<=300) (hs:ShH holds): ∀(K i:Nat),i<=holds.length->holds.length<K+i->
 ∃r,qdO N holds day lots holds K (i:Int)=some r/\qet N ⟨day,lots,holds⟩ K (i:Int)=some r/\(∀e,r= .inr e->e≠0)/\(r= .inl ()↔ ∀(j:Nat) (x:qG),i<=j->holds[j]? =some x->qlQ (knB lots x.Lot) (qfd holds j) x=0)
 |0,i,h,hK=>by omega
 |K+1,i,h,hK=>by
  unfold qdO qet
  simp only
  by_cases hi:i<holds.length
  ·have hx:holds[i]? =some holds[i]:=Ya hi
   obtain⟨s1,s2⟩:=hs _ (List.getElem_mem hi)
   generalize holds[i]=x at*
   have e:(holds.take i).length=i:=by rw[Ym];omega
   obtain⟨p,k1,k2,k3⟩:=qy5 hN hl day holds x.Lot x.Order x.Reserved x.Taken
   obtain⟨kn,hkn⟩: ∃kn,kn=knB lots x.Lot:=⟨_,rfl⟩
   rw[<-hkn]at k1 k3
   have lateP:((if((holds.take i).length:Int)>0 then(idx (holds.take i) (w64 (((holds.take i).length:Int)-1))).bind fun x3=>(qgP N x x3).bind fun r4=>some (decide (r4<=0))else some false:Option Bool))=some (qsw (qfd holds i) x):=by
    rw[e]
    unfold qfd
    by_cases c:i=0
    ·rw[if_neg (by omega),if_pos c]
     rfl
    obtain⟨q,q1,q2⟩:=qCA hN x holds[i-1]
    rw[if_pos (by omega),if_neg c,qu3 (by omega) (by omega),yM,List.getElem?_take_of_lt (by omega),Ya (show i-1<holds.length by omega),ZB,q1,ZB,q2]
    rfl
   have lateR:((if(i:Int)>0 then(idx holds (w64 ((i:Int)-1))).bind fun x35=>(qk4 x x35).bind fun r36=>some (!r36)else some false:Option Bool))=some (qsw (qfd holds i) x):=by
    unfold qfd
    by_cases c:i=0
    ·rw[if_neg (by omega),if_pos c]
     rfl
    rw[if_pos (by omega),if_neg c,qu3 (by omega) (by omega),yM,Ya (show i-1<holds.length by omega),ZB,qz0,ZB]
    rfl
   have hP:qfv N x (holds.take i) day lots holds=some (qlQ kn (qfd holds i) x):=by
    unfold qfv
    rw[k1,ZB,lateP,ZB,qfb,ZB,qmq (by omega),ZB,qfb,ZB,qok,ZB,qok,ZB]
    unfold qlQ
    by_cases z:x.Reserved=0
    ·rw[if_pos z,qfb,ZB,qpM hN (by simp),ZB,ZB,decide_eq_true z]
     simp only
     congr 1
     cases kn<;>cases qcg x.Order<;>cases qsw (qfd holds i) x<;>cases qh9 x.Reserved 0 999999999<;>cases qh9 x.Taken 0 999999999<;>cases decide (x.Taken=0)<;>rfl
    rw[if_neg z,qfb,ZB,qpM hN (by simp),ZB,ZB,decide_eq_false z]
    simp only
    congr 1
    cases kn<;>cases qcg x.Order<;>cases qsw (qfd holds i) x<;>cases qh9 x.Reserved 0 999999999<;>cases qh9 x.Taken 0 999999999<;>cases decide (x.Taken=0)<;>rfl
   have hrec:=qvM hN day hl hh hs K (i+1) (by omega) (by omega)
   have zT:((if x.Reserved=0 then some (decide (x.Taken=0))else some false:Option Bool))=some (decide (x.Reserved=0)&&decide (x.Taken=0)):=by
    by_cases z:x.Reserved=0
    ·rw[if_pos z,decide_eq_true z]
     rfl
    rw[if_neg z,decide_eq_false z]
    rfl
   rw[if_pos (by omega),if_pos (by omega),yM,hx,ZB,ZB,qtD (by omega),ZB,hP,ZB,k2,ZB,lateR,zT,qe5 (by omega)]
   obtain⟨r,r1,r2,r3,r4⟩:=hrec
   simp only[ql9 (show x.Order.length<N by omega) (show x.Order.length<4611686018427387904 by omega),quH,ZB]
   have k4:(p<0)=(kn=false):=by
    cases kn
    ·exact propext ⟨fun _=>rfl,fun _=>of_decide_eq_true k3⟩
    exact propext ⟨fun c=>absurd c (of_decide_eq_false k3),fun c=>by cases c⟩
   simp only[k4]
   have hall: ∀{P:Prop},qlQ kn (qfd holds i) x≠0->(∀(j:Nat) (x:qG),i<=j->holds[j]? =some x->qlQ (knB lots x.Lot) (qfd holds j) x=0)->P:=fun hz h=>absurd (hkn▸h i x (Nat.le_refl _) hx) hz
   have hrest:qlQ kn (qfd holds i) x=0->(r= .inl ()↔ ∀(j:Nat) (x:qG),i<=j->holds[j]? =some x->qlQ (knB lots x.Lot) (qfd holds j) x=0):=fun hz=>⟨fun hr j y hj hy=>by
    by_cases c:j=i
    ·subst c
     rw[hx]at hy
     obtain rfl:=Ye hy
     rw[<-hkn]
     exact hz
    exact r4.1 hr j y (by omega) hy,fun h=>r4.2 fun j y hj hy=>h j y (by omega) hy⟩
   unfold qlQ at hall hrest⊢
   cases n1:kn<;>cases n2:qcg x.Order<;>cases n3:qsw (qfd holds i) x<;>cases n4:qh9 x.Reserved 0 999999999<;>cases n5:qh9 x.Taken 0 999999999<;>cases n6:(decide (x.Reserved=0)&&decide (x.Taken=0))<;>rw[n1,n2,n3,n4,n5,n6]at hall hrest<;>
    first
     |exact⟨.inr 10,rfl,rfl,fun e he=>(by cases he;decide),fun c=>(by cases c),hall (by decide)⟩
     |exact⟨.inr 8,rfl,rfl,fun e he=>(by cases he;decide),fun c=>(by cases c),hall (by decide)⟩
     |exact⟨.inr 11,rfl,rfl,fun e he=>(by cases he;decide),fun c=>(by cases c),hall (by decide)⟩
     |exact⟨.inr 3,rfl,rfl,fun e he=>(by cases he;decide),fun c=>(by cases c),hall (by decide)⟩
     |exact⟨.inr 6,rfl,rfl,fun e he=>(by cases he;decide),fun c=>(by cases c),hall (by decide)⟩
     |exact⟨r,r1,r2,r3,hrest rfl⟩
  rw[if_neg (by omega),if_neg (by omega)]
  exact⟨.inl (),rfl,rfl,fun e he=>(by cases he),fun _ j x hj hx=>(by have:=(Yb.1 hx).1;omega),fun _=>rfl⟩
def qxn (name:Str):List qG->Int->Int
 |[],a=>a
 |h::t,a=>qxn name t (if(h.Lot==name)=true then w64 (a+h.Reserved)else a)
def frE (holds:List qG) (x:qP):Int:=w64 (x.Stock-qxn x.Name holds 0)
theorem qAR {holds:List qG} (hh:holds.length<=300) (day:Int) (lots:List qP) (name:Str): ∀(K i:Nat) (a:Int),i<=holds.length->holds.length<K+i->qbk ⟨day,lots,holds⟩ name K (i:Int) a=some (qxn name (holds.drop i) a)
 |0,i,a,h,hK=>by omega
 |K+1,i,a,h,hK=>by
  unfold qbk
  simp only
  by_cases hi:i<holds.length
  ·rw[if_pos (by omega),yM,Ya hi,ZB,qk5 hi,qe5 (by omega)]
   unfold qxn
   by_cases e:(holds[i].Lot==name)=true
   ·rw[if_pos e,ZB,if_pos e]
    exact qAR hh day lots name K (i+1) _ (by omega) (by omega)
   rw[if_neg e,ZB,if_neg e]
   exact qAR hh day lots name K (i+1) _ (by omega) (by omega)
  rw[if_neg (by omega),List.drop_eq_nil_of_le (by omega)]
  rfl
theorem free_eq {N:Nat} (hN:2000<N) {holds:List qG} (hh:holds.length<=300) (day:Int) (lots:List qP) (x:qP):qbI N ⟨day,lots,holds⟩ x=some (frE holds x):=by
 unfold qbI qin
 have:=qAR hh day lots x.Name N 0 0 (by omega) (by omega)
 rw[YR,show((0:Nat):Int)=0 from rfl]at this
 rw[this]
 rfl
theorem qxg {holds:List qG} (hh:holds.length<=300) (day:Int) {lots:List qP} {x:qP} {n:Nat} (hx:lots[n]? =some x) (S:Int): ∀(K i:Nat) (a b:Int),i<=holds.length->holds.length<K+i->w64 b=w64 (S-a)-> -9223372036854775808<=b->b<=9223372036854775807->qeq ⟨day,lots,holds⟩ (n:Int) K b (i:Int)=some (w64 (S-qxn x.Name (holds.drop i) a))
 |0,i,a,b,h,hK,hab,hb1,hb2=>by omega
 |K+1,i,a,b,h,hK,hab,hb1,hb2=>by
  unfold qeq
  simp only
  by_cases hi:i<holds.length
  ·rw[if_pos (by omega),yM,Ya hi,ZB,qk5 hi,qe5 (by omega),yM,hx,ZB]
   unfold qxn
   by_cases e:(holds[i].Lot==x.Name)=true
   ·rw[if_pos e,ZB,if_pos e]
    generalize holds[i].Reserved=R
    refine qxg hh day hx S K (i+1) _ _ (by omega) (by omega) ?_ (by rw[qxt];omega) (by rw[qxt];omega)
    simp only[qxt]at hab⊢
    omega
   rw[if_neg e,ZB,if_neg e]
   exact qxg hh day hx S K (i+1) _ _ (by omega) (by omega) hab hb1 hb2
  rw[if_neg (by omega),List.drop_eq_nil_of_le (by omega)]
  show some b=some (w64 (S-a))
  rw[<-hab,qiB hb1 hb2]
theorem qxV {N:Nat} (hN:2000<N) {holds:List qG} (hh:holds.length<=300) (day:Int) {lots:List qP} {x:qP} {n:Nat} (hx:lots[n]? =some x) (h0:qh9 x.Stock 0 999999999=false):qhs N ⟨day,lots,holds⟩ (n:Int)=some (frE holds x):=by
 have hb:0<=x.Stock/\x.Stock<=999999999:=by
  unfold qh9 at h0
  rw[Bool.or_eq_false_iff]at h0
  have:=of_decide_eq_false h0.1
  have:=of_decide_eq_false h0.2
  omega
 unfold qhs
 simp only
 rw[yM,hx,ZB]
 have:=qxg hh day hx x.Stock N 0 0 x.Stock (by omega) (by omega) (by rw[Int.sub_zero]) (by omega) (by omega)
 rw[YR,show((0:Nat):Int)=0 from rfl]at this
 rw[this]
 rfl
theorem qDa {N:Nat} (hN:2000<N) {lots:List qP} {holds:List qG} (hl:lots.length<=100) (hh:holds.length<=300) (day:Int) (hr: ∀(j:Nat) x,lots[j]? =some x->qh9 x.Stock 0 999999999=false): ∀(K i:Nat),i<=lots.length->lots.length<K+i->
 (vF N lots day lots holds K (i:Int)=some (.inl ())/\qba N ⟨day,lots,holds⟩ K (i:Int)=some (.inl ())/\ ∀(j:Nat) x,i<=j->lots[j]? =some x->0<=frE holds x)\/(∃j:Nat,vF N lots day lots holds K (i:Int)=some (.inr (j:Int))/\qba N ⟨day,lots,holds⟩ K (i:Int)=some (.inr 32)/\ ∃x,lots[j]? =some x/\frE holds x<0)
 |0,i,h,hK=>by omega
 |K+1,i,h,hK=>by
  unfold vF qba qhI
  simp only
  by_cases hi:i<lots.length
  ·have hx:lots[i]? =some lots[i]:=Ya hi
   rw[if_pos (by omega),if_pos (by omega),yM,hx,ZB,free_eq hN hh,ZB,ZB,qxV hN hh day hx (hr i _ hx),ZB,qe5 (by omega)]
   by_cases c:frE holds lots[i]<0
   ·rw[if_pos (decide_eq_true c),if_pos c]
    exact .inr ⟨i,rfl,rfl,_,hx,c⟩
   rw[if_neg (fun z=>c (of_decide_eq_true z)),if_neg c]
   rcases qDa hN hl hh day hr K (i+1) (by omega) (by omega)with⟨l1,l2,l3⟩|h
   ·refine .inl ⟨l1,l2,fun j x hj hxj=>?_⟩
    by_cases e:j=i
    ·subst e
     rw[hx]at hxj
     obtain rfl:=Ye hxj
     omega
    exact l3 j x (by omega) hxj
   exact .inr h
  rw[if_neg (by omega),if_neg (by omega)]
  exact .inl ⟨rfl,rfl,fun j x hj hx=>by have:=(Yb.1 hx).1;omega⟩
def qn9 (lots:List qP):Prop:= ∀(j:Nat) (x:qP),lots[j]? =some x->qnk (qfd lots j) x=0
theorem qnF {p:Option qP} {x:qP} (h:qnk p x=0):qh9 x.Stock 0 999999999=false/\qqD p x=false:=by
 unfold qnk at h
 cases n1:(qcg x.Name&&qcg x.Yarn&&qo4 x.Dye)<;>cases n4:qqD p x<;>cases n5:qh9 x.Stock 0 999999999<;>rw[n1,n4,n5]at h<;>first|(exact absurd h (by decide))|exact⟨rfl,rfl⟩
def qqj (lots:List qP) (holds:List qG):Prop:= ∀(j:Nat) (x:qG),holds[j]? =some x->qlQ (knB lots x.Lot) (qfd holds j) x=0
structure OKS (day:Int) (lots:List qP) (holds:List qG):Prop where
 d:qh9 day 0 99999=false
 ll:lots.length<=64
 lk:qn9 lots
 hl:holds.length<=256
 hk:qqj lots holds
 fr: ∀(j:Nat) (x:qP),lots[j]? =some x->0<=frE holds x
theorem qvL {N:Nat} (hN:2000<N) (day:Int) {lots:List qP} {holds:List qG} (hl:lots.length<=100) (hh:holds.length<=300) (sl:ShL lots) (sh:ShH holds): ∃e,qeP N ⟨day,lots,holds⟩=some e/\qhr N ⟨day,lots,holds⟩=some e/\(e=0↔OKS day lots holds):=by
 unfold qeP qhr qj4 qjC
 simp only
 rw[qok,ZB,quH,ZB]
 obtain⟨r,r1,r2,r3,r4⟩:=qwI hN day holds hl sl N 0 (by omega) (by omega)
 obtain⟨q,q1,q2,q3,q4⟩:=qvM hN (lots:=lots) day hl hh sh N 0 (by omega) (by omega)
 rw[show((0:Nat):Int)=0 from rfl]at r1 r2 q1 q2
 by_cases hd:qh9 day 0 99999=true
 ·refine⟨3,?_,by rw[if_pos hd],fun h=>(by cases h),fun o=>absurd (hd.symm.trans o.d) (by decide)⟩
  rw[if_pos hd]
  by_cases c:(lots.length:Int)>64
  ·rw[if_pos c,ZB,qpM hN (by simp),ZB,if_pos (by decide)]
   rfl
  rw[if_neg c,r1]
  cases r with
  |inl u=>rw[ZB,ZB,qpM hN (by simp),ZB,if_pos (by decide)];rfl
  |inr e=>rw[ZB,ZB,qpM hN (by simp),ZB,if_pos (show(!decide (qfr [3,e]=0))=true from rfl)];rfl
 rw[if_neg hd,if_neg hd]
 by_cases c:(lots.length:Int)>64
 ·refine⟨5,?_,by rw[if_pos c],fun h=>(by cases h),fun o=>absurd o.ll (by omega)⟩
  rw[if_pos c,ZB,qpM hN (by simp),ZB,if_pos (by decide)]
  rfl
 rw[if_neg c,if_neg c,r1,r2]
 cases r with
 |inr e=>
  have he:=r3 e rfl
  refine⟨e,?_,rfl,fun h=>absurd h he,fun o=>(by cases r4.2 fun j x _ hx=>o.lk j x hx)⟩
  rw[ZB,ZB,qpM hN (by simp),ZB]
  have:qfr [0,e]=e:=by
   unfold qfr qfr
   rw[if_pos rfl,if_neg he]
  rw[this,if_pos (by simp[he])]
 |inl u=>
  have ok:qn9 lots:=fun j x hx=>r4.1 rfl j x (by omega) hx
  have hst: ∀(j:Nat) x,lots[j]? =some x->qh9 x.Stock 0 999999999=false:=fun j x hx=>(qnF (ok j x hx)).1
  rw[ZB,ZB,qpM hN (by simp),ZB,if_neg (by decide),ZB]
  simp only
  have low:=qDa hN hl hh day hst N 0 (by omega) (by omega)
  rw[show((0:Nat):Int)=0 from rfl]at low
  have lowB: ∃b:Bool,qdX N lots day lots holds=some b/\qba N ⟨day,lots,holds⟩ N 0=some (if b=true then .inr 32 else .inl ())/\(b=false↔ ∀(j:Nat) (x:qP),lots[j]? =some x->0<=frE holds x):=by
   unfold qdX qgH
   rcases low with⟨l1,l2,l3⟩|⟨j,l1,l2,x,hx,hlow⟩
   ·rw[l1,l2]
    exact⟨false,rfl,rfl,fun _ j x hx=>l3 j x (Nat.zero_le _) hx,fun _=>rfl⟩
   rw[l1,l2]
   refine⟨true,?_,rfl,fun c=>(by cases c),fun h=>absurd (h j x hx) (by omega)⟩
   simp only[ZB]
   rw[decide_eq_true (by omega)]
  obtain⟨b,b1,b2,b3⟩:=lowB
  by_cases g:(holds.length:Int)>256
  ·rw[if_pos g,if_pos g,ZB,b1,ZB,qfb,ZB,qpM hN (by simp),ZB]
   exact⟨5,rfl,rfl,fun h=>(by cases h),fun o=>absurd o.hl (by omega)⟩
  rw[if_neg g,if_neg g,q1,q2]
  cases q with
  |inr e=>
   have he:=q3 e rfl
   rw[ZB,ZB,b1,ZB,qfb,ZB,qpM hN (by simp),ZB,ZB]
   refine⟨e,?_,rfl,fun h=>absurd h he,fun o=>(by cases q4.2 fun j x _ hx=>o.hk j x hx)⟩
   unfold qfr
   rw[if_neg he]
  |inl u=>
   rw[ZB,ZB,b1,ZB,qfb,ZB,qpM hN (by simp),ZB,ZB]
   simp only
   rw[b2]
   cases b with
   |false=>exact⟨0,rfl,rfl,fun _=>⟨by simpa using hd,by omega,ok,by omega,fun j x hx=>q4.1 rfl j x (by omega) hx,b3.1 rfl⟩,fun _=>rfl⟩
   |true=>exact⟨32,rfl,rfl,fun h=>(by cases h),fun o=>(by cases b3.2 o.fr)⟩
end Go.Av
end
section
namespace Go.Av
theorem qB5 {s:StateT} (hb:s.Lots.length*56<=140737488355328): ∀(K i:Nat),i<=s.Lots.length->s.Lots.length<K+i->qhF s K (s.Lots.take i) (i:Int)=some s.Lots
 |0,i,h,hK=>by omega
 |K+1,i,h,hK=>by
  unfold qhF
  by_cases hi:i<s.Lots.length
  ·have e:(s.Lots.take i).length=i:=by rw[Ym];omega
   rw[if_pos (by omega),yM,Ya hi,ZB,qrH (by rw[e,List.length_singleton];omega) (by rw[e,List.length_singleton];omega),ZB,qe5 (by omega),<-List.take_succ_eq_append_getElem hi]
   exact qB5 hb K (i+1) (by omega) (by omega)
  rw[if_neg (by omega),List.take_of_length_le (by omega)]
theorem qAW {s:StateT} (hb:s.Holds.length*48<=140737488355328): ∀(K i:Nat),i<=s.Holds.length->s.Holds.length<K+i->qhD s K (s.Holds.take i) (i:Int)=some s.Holds
 |0,i,h,hK=>by omega
 |K+1,i,h,hK=>by
  unfold qhD
  by_cases hi:i<s.Holds.length
  ·have e:(s.Holds.take i).length=i:=by rw[Ym];omega
   rw[if_pos (by omega),yM,Ya hi,ZB,qrH (by rw[e,List.length_singleton];omega) (by rw[e,List.length_singleton];omega),ZB,qe5 (by omega),<-List.take_succ_eq_append_getElem hi]
   exact qAW hb K (i+1) (by omega) (by omega)
  rw[if_neg (by omega),List.take_of_length_le (by omega)]
theorem qAi {N:Nat} {s:StateT} (h1:s.Lots.length<N) (h2:s.Holds.length<N) (b1:s.Lots.length*56<=140737488355328) (b2:s.Holds.length*48<=140737488355328):qk6 N s=some ⟨s.Day,s.Lots,s.Holds⟩:=by
 unfold qk6
 have e1:=qB5 b1 N 0 (by omega) (by omega)
 have e2:=qAW b2 N 0 (by omega) (by omega)
 rw[List.take_zero,show((0:Nat):Int)=0 from rfl]at e1 e2
 rw[e1,ZB,e2,ZB]
theorem qDi {day:Int} {lots:List qP} {holds:List qG} (hl:lots.length<=100): ∀(K i:Nat),i<=lots.length->lots.length<K+i->(qcK ⟨day,lots,holds⟩ K (i:Int)=some (.inl ())/\ ∀(j:Nat) x,i<=j->lots[j]? =some x->x.Name.length<=60/\x.Yarn.length<=60/\x.Dye.length<=60)\/qcK ⟨day,lots,holds⟩ K (i:Int)=some (.inr false)
 |0,i,h,hK=>by omega
 |K+1,i,h,hK=>by
  unfold qcK
  simp only
  by_cases hi:i<lots.length
  ·have hx:lots[i]? =some lots[i]:=Ya hi
   rw[if_pos (by omega),yM,hx,ZB]
   generalize lots[i]=x at*
   by_cases c1:(x.Name.length:Int)>60
   ·rw[if_pos c1];exact .inr rfl
   by_cases c2:(x.Yarn.length:Int)>60
   ·rw[if_neg c1,if_pos c2];exact .inr rfl
   by_cases c3:(x.Dye.length:Int)>60
   ·rw[if_neg c1,if_neg c2,decide_eq_true c3];exact .inr rfl
   rw[if_neg c1,if_neg c2,decide_eq_false c3,ZB,if_neg (by simp),qe5 (by omega)]
   rcases qDi (day:=day) (holds:=holds) hl K (i+1) (by omega) (by omega)with⟨r1,r2⟩|r
   ·refine .inl ⟨r1,fun j y hj hy=>?_⟩
    by_cases c:j=i
    ·subst c
     rw[hx]at hy
     obtain rfl:=Ye hy
     omega
    exact r2 j y (by omega) hy
   exact .inr r
  rw[if_neg (by omega)]
  exact .inl ⟨rfl,fun j x hj hx=>by
   have:=(Yb.1 hx).1
   omega⟩
theorem qC5 {day:Int} {lots:List qP} {holds:List qG} (hl:holds.length<=300): ∀(K i:Nat),i<=holds.length->holds.length<K+i->(qcG ⟨day,lots,holds⟩ K (i:Int)=some (.inl ())/\ ∀(j:Nat) x,i<=j->holds[j]? =some x->x.Lot.length<=60/\x.Order.length<=60)\/qcG ⟨day,lots,holds⟩ K (i:Int)=some (.inr false)
 |0,i,h,hK=>by omega
 |K+1,i,h,hK=>by
  unfold qcG
  simp only
  by_cases hi:i<holds.length
  ·have hx:holds[i]? =some holds[i]:=Ya hi
   rw[if_pos (by omega),yM,hx,ZB]
   generalize holds[i]=x at*
   by_cases c1:(x.Lot.length:Int)>60
   ·rw[if_pos c1];exact .inr rfl
   by_cases c3:(x.Order.length:Int)>60
   ·rw[if_neg c1,decide_eq_true c3];exact .inr rfl
   rw[if_neg c1,decide_eq_false c3,ZB,if_neg (by simp),qe5 (by omega)]
   rcases qC5 (day:=day) (lots:=lots) hl K (i+1) (by omega) (by omega)with⟨r1,r2⟩|r
   ·refine .inl ⟨r1,fun j y hj hy=>?_⟩
    by_cases c:j=i
    ·subst c
     rw[hx]at hy
     obtain rfl:=Ye hy
     omega
    exact r2 j y (by omega) hy
   exact .inr r
  rw[if_neg (by omega)]
  exact .inl ⟨rfl,fun j x hj hx=>by
   have:=(Yb.1 hx).1
   omega⟩
theorem qAA {N:Nat} (hN:2000<N) (n day:Int) (lots:List qP) (holds:List qG): ∃b,qiu N ⟨day,lots,holds⟩ n=some b/\(b=true->lots.length<=100/\holds.length<=300/\ShL lots/\ShH holds):=by
 unfold qiu
 simp only
 have hc: ∃c:Bool,(if(lots.length:Int)>n then
  if(lots.length:Int)<=64 then some true
  else if(lots.length:Int)>67 then some true
  else if(holds.length:Int)>n then if(holds.length:Int)<=256 then some true else some (decide ((holds.length:Int)>259))
  else some (decide ((holds.length:Int)>259))
  else if(lots.length:Int)>67 then some true
  else if(holds.length:Int)>n then if(holds.length:Int)<=256 then some true else some (decide ((holds.length:Int)>259))
  else some (decide ((holds.length:Int)>259)):Option Bool)=some c/\(c=false->lots.length<=67/\holds.length<=259):=by
  repeat' split
  all_goals refine⟨_,rfl,fun h=>?_⟩
  all_goals first|(exact absurd h (by decide))|(have:=of_decide_eq_false h;omega)
 obtain⟨c,hc1,hc2⟩:=hc
 rw[hc1,ZB]
 cases c with
 |true=>exact⟨false,rfl,fun h=>by cases h⟩
 |false=>
  obtain⟨l1,l2⟩:=hc2 rfl
  rw[if_neg (by simp)]
  rcases qDi (day:=day) (holds:=holds) (show lots.length<=100 by omega) N 0 (by omega) (by omega)with⟨r1,r2⟩|r1
  ·rcases qC5 (day:=day) (lots:=lots) (show holds.length<=300 by omega) N 0 (by omega) (by omega)with⟨q1,q2⟩|q1
   ·rw[show((0:Nat):Int)=0 from rfl]at r1 q1
    rw[r1,ZB]
    simp only
    rw[q1]
    refine⟨true,rfl,fun _=>⟨by omega,by omega,fun l hl=>?_,fun l hl=>?_⟩⟩
    ·obtain⟨j,hj⟩:=List.mem_iff_getElem?.1 hl
     exact r2 j l (by omega) hj
    obtain⟨j,hj⟩:=List.mem_iff_getElem?.1 hl
    exact q2 j l (by omega) hj
   rw[show((0:Nat):Int)=0 from rfl]at r1 q1
   rw[r1,ZB]
   simp only
   rw[q1]
   exact⟨false,rfl,fun h=>by cases h⟩
  rw[show((0:Nat):Int)=0 from rfl]at r1
  rw[r1]
  exact⟨false,rfl,fun h=>by cases h⟩
theorem qzB {lots:List qP} (ok:qn9 lots) {i:Nat} {y:qP} (hy:lots[i]? =some y): ∀(d:Nat) (x:qP),lots[i+d+1]? =some x->ltL y.Name x.Name=true
 |0,x,hx=>by
  have h:=(qnF (ok (i+1) x hx)).2
  unfold qfd at h
  rw[if_neg (by omega),Nat.add_sub_cancel,hy]at h
  unfold qqD at h
  rw[Bool.or_eq_false_iff]at h
  cases c:ltL y.Name x.Name with
  |true=>rfl
  |false=>
   have:=qpd _ _ h.1 c
   rw[this,beq_self_eq_true]at h
   cases h.2
 |d+1,x,hx=>by
  have hl:=(Yb.1 hx).1
  have hz:lots[i+d+1]? =some lots[i+d+1]:=Ya (by omega)
  have h1:=qzB ok hy d _ hz
  have h:=(qnF (ok (i+(d+1)+1) x hx)).2
  unfold qfd at h
  rw[if_neg (by omega),Nat.add_sub_cancel,show i+(d+1)=i+d+1 by omega,hz]at h
  unfold qqD at h
  rw[Bool.or_eq_false_iff]at h
  cases c:ltL lots[i+d+1].Name x.Name with
  |true=>exact qmw h1 c
  |false=>
   have:=qpd _ _ h.1 c
   rw[this,beq_self_eq_true]at h
   cases h.2
theorem qna {lots:List qP} (ok:qn9 lots) {i j:Nat} {x y:qP} (hij:i<j) (hx:lots[i]? =some x) (hy:lots[j]? =some y):ltL x.Name y.Name=true:=by
 obtain⟨d,rfl⟩: ∃d,j=i+d+1:=⟨j-i-1,by omega⟩
 exact qzB ok hx d y hy
theorem qDs {i j:Nat} (hi:i<=1000) (hj:j<=1000):w64 (qyh .u64 (IntKind.wrap .u64 (w64 ((i:Int)+(j:Int)))) 1)=(((i+j)/2:Nat):Int):=by
 have e0:w64 ((i:Int)+(j:Int))=(i:Int)+(j:Int):=qiB (by omega) (by omega)
 rw[e0]
 have e:IntKind.wrap .u64 ((i:Int)+(j:Int))=(i:Int)+(j:Int):=by
  show((i:Int)+(j:Int))%18446744073709551616=_
  omega
 rw[e]
 show w64 (((i:Int)+(j:Int)).fdiv 2)=_
 rw[Int.fdiv_eq_ediv_of_nonneg _ (by omega),qiB (by omega) (by omega)]
 omega
theorem bs_L {lots:List qP} (hl:lots.length<=100) (ok:qn9 lots) (name:Str): ∀(K lo hi:Nat),lo<=hi->hi<=lots.length->hi-lo<K->(∀(k:Nat) x,k<lo->lots[k]? =some x->ltL x.Name name=true)->(∀(k:Nat) x,hi<=k->lots[k]? =some x->ltL x.Name name=false)->
 ∃p:Nat,jI lots name K (hi:Int) (lo:Int)=some (p:Int)/\p<=lots.length/\(∀(k:Nat) x,k<p->lots[k]? =some x->ltL x.Name name=true)/\(∀(k:Nat) x,p<=k->lots[k]? =some x->ltL x.Name name=false)
 |0,lo,hi,h,h2,hK,g1,g2=>by omega
 |K+1,lo,hi,h,h2,hK,g1,g2=>by
  unfold jI qgS tCmp
  by_cases c:lo<hi
  ·have hm:(lo+hi)/2<lots.length:=by omega
   have hx:lots[(lo+hi)/2]? =some lots[(lo+hi)/2]:=Ya hm
   rw[if_pos (by omega),qDs (by omega) (by omega),yM,hx,ZB,ZB,ZB]
   by_cases d:Lib.compareBytes lots[(lo+hi)/2].Name name<0
   ·have d1:=d
    rw[qxJ]at d1
    rw[if_pos d,ZB]
    simp only
    rw[qe5 (by omega)]
    refine bs_L hl ok name K ((lo+hi)/2+1) hi (by omega) h2 (by omega) (fun k x hk hkx=>?_) g2
    by_cases e:k=(lo+hi)/2
    ·subst e
     rw[hx]at hkx
     obtain rfl:=Ye hkx
     exact d1
    exact qmw (qna ok (by omega) hkx hx) d1
   have d1:=d
   rw[qxJ]at d1
   have d2:ltL lots[(lo+hi)/2].Name name=false:=by simpa using d1
   rw[if_neg d,ZB]
   simp only
   refine bs_L hl ok name K lo ((lo+hi)/2) (by omega) (by omega) (by omega) g1 (fun k x hk hkx=>?_)
   by_cases e:k=(lo+hi)/2
   ·subst e
    rw[hx]at hkx
    obtain rfl:=Ye hkx
    exact d2
   cases z:ltL x.Name name with
   |false=>rfl
   |true=>
    rw[qmw (qna ok (by omega) hx hkx) z]at d2
    cases d2
  rw[if_neg (by omega)]
  have:lo=hi:=by omega
  subst this
  exact⟨lo,rfl,h2,g1,g2⟩
end Go.Av
end
section
namespace Go.Av
open Go.Proofs Go.RowKit
variable [Glob]
theorem qtt {a b:Str} (h:ltL a b=true):ltL b a=false:=by
 cases e:ltL b a with
 |false=>rfl
 |true=>have:=qmw h e;rw[qi8]at this;cases this
abbrev SrtL (lots:List qP):Prop:=lots.Pairwise fun a b=>ltL a.Name b.Name=true
theorem qn9.srt {lots:List qP} (h:qn9 lots):SrtL lots:=
 List.pairwise_iff_getElem.2 fun i j hi hj hij=>qna h hij (Ya hi) (Ya hj)
def qpw (x:qP):List qP->List qP
 |[]=>[x]
 |y::l=>if(y.Name==x.Name)=true then x::l else if ltL x.Name y.Name=true then x::y::l else y::qpw x l
theorem qtd {x:qP}: ∀{lots:List qP} {j:Nat} {y:qP},SrtL lots->lots[j]? =some y->y.Name=x.Name->qpw x lots=lots.set j x
 |[],j,y,_,h,_=>by simp at h
 |a::l,0,y,hs,h,e=>by
  simp only[List.getElem?_cons_zero,ZI]at h
  subst h
  rw[qpw,if_pos (by rw[e];exact beq_self_eq_true _)]
  rfl
 |a::l,j+1,y,hs,h,e=>by
  rw[List.getElem?_cons_succ]at h
  have hay:=(List.pairwise_cons.1 hs).1 y (Yn h)
  rw[e]at hay
  rw[qpw,if_neg (by simpa using qsH hay),if_neg (by rw[qtt hay];decide),qtd (List.pairwise_cons.1 hs).2 h e]
  rfl
theorem qvB {x:qP}: ∀{lots:List qP} {p:Nat},p<=lots.length->(∀(k:Nat) y,k<p->lots[k]? =some y->ltL y.Name x.Name=true)->(∀(k:Nat) y,p<=k->lots[k]? =some y->ltL y.Name x.Name=false)->(∀(k:Nat) y,lots[k]? =some y->y.Name≠x.Name)->qpw x lots=lots.take p++[x]++lots.drop p
 |[],p,hp,h1,h2,h3=>by simp[qpw]
 |a::l,0,hp,h1,h2,h3=>by
  have e1:=h2 0 a (Nat.le_refl _) rfl
  have e2:=h3 0 a rfl
  have e3:ltL x.Name a.Name=true:=by
   cases e:ltL x.Name a.Name with
   |true=>rfl
   |false=>exact absurd (qpd _ _ e1 e) e2
  rw[qpw,if_neg (by simpa using e2),if_pos e3]
  rfl
 |a::l,p+1,hp,h1,h2,h3=>by
  have e1:=h1 0 a (by omega) rfl
  rw[qpw,if_neg (by simpa using qsH e1),if_neg (by rw[qtt e1];decide),qvB (p:=p) (by simp at hp;omega) (fun k y hk hy=>h1 (k+1) y (by omega) hy) (fun k y hk hy=>h2 (k+1) y (by omega) hy) (fun k y hy=>h3 (k+1) y hy)]
  rfl
abbrev qsX (a b:qG):Bool:=ltH qG.Lot qG.Order a b
theorem qzF (a b:qG):qy9 a b=qsX b a:=by
 unfold qy9 qsX ltH
 by_cases e:a.Lot=b.Lot
 ·rw[e,qi8,beq_self_eq_true]
  by_cases f:a.Order=b.Order
  ·rw[f,qi8,beq_self_eq_true]
   rfl
  have f1:(a.Order==b.Order)=false:=beq_false_of_ne f
  rw[f1]
  cases h1:ltL a.Order b.Order with
  |true=>rw[qtt h1];rfl
  |false=>
   cases h2:ltL b.Order a.Order with
   |true=>rfl
   |false=>exact absurd (qpd _ _ h1 h2) f
 have e1:(a.Lot==b.Lot)=false:=beq_false_of_ne e
 have e2:(b.Lot==a.Lot)=false:=beq_false_of_ne (fun h=>e h.symm)
 rw[e1,e2]
 cases h1:ltL a.Lot b.Lot with
 |true=>rw[qtt h1];rfl
 |false=>
  cases h2:ltL b.Lot a.Lot with
  |true=>rfl
  |false=>exact absurd (qpd _ _ h1 h2) e
abbrev qx6 (holds:List qG):Prop:=holds.Pairwise fun a b=>qsX a b=true
def kq (lo od:Str) (h:qG):Bool:=h.Lot==lo&&h.Order==od
theorem qBp {lo od:Str} {h:qG}:kq lo od h=true↔h.Lot=lo/\h.Order=od:=by simp[kq]
theorem qCm (a:qG):qsX a a=false:=qqA _ _ a
theorem qsY {a b c:qG} (h:qsX a b=true) (k:qsX b c=true):qsX a c=true:=qpY _ _ h k
theorem qAe {a b:qG} (h:qsX a b=true):qsX b a=false:=by
 cases e:qsX b a with
 |false=>rfl
 |true=>have:=qsY h e;rw[qCm]at this;cases this
theorem qql {k:Bool} {p:Option qG} {x:qG} (h:qlQ k p x=0):k=true/\qcg x.Order=true/\qsw p x=false/\qh9 x.Reserved 0 999999999=false/\qh9 x.Taken 0 999999999=false/\ ¬(x.Reserved=0/\x.Taken=0):=by
 unfold qlQ at h
 cases n1:k<;>cases n2:qcg x.Order<;>cases n3:qsw p x<;>cases n4:qh9 x.Reserved 0 999999999<;>cases n5:qh9 x.Taken 0 999999999<;>cases n6:(decide (x.Reserved=0)&&decide (x.Taken=0))<;>rw[n1,n2,n3,n4,n5,n6]at h<;>first|(exact absurd h (by decide))|skip
 refine⟨rfl,rfl,rfl,rfl,rfl,fun c=>?_⟩
 rw[decide_eq_true c.1,decide_eq_true c.2]at n6
 cases n6
theorem qx0 {lots:List qP} {holds:List qG} (ok:qqj lots holds) {i:Nat} {y:qG} (hy:holds[i]? =some y): ∀(d:Nat) (x:qG),holds[i+d+1]? =some x->qsX y x=true
 |0,x,hx=>by
  have:=(qql (ok _ _ hx)).2.2.1
  unfold qfd at this
  rw[if_neg (by omega),show i+0+1-1=i by omega,hy]at this
  simp only[qsw,qzF,Bool.not_eq_false']at this
  exact this
 |d+1,x,hx=>by
  have hlt:=(Yb.1 hx).1
  have hz:holds[i+d+1]? =some holds[i+d+1]:=Ya (by omega)
  have h1:=qx0 ok hy d _ hz
  have:=(qql (ok _ _ hx)).2.2.1
  unfold qfd at this
  rw[if_neg (by omega),show i+(d+1)+1-1=i+d+1 by omega,hz]at this
  simp only[qsw,qzF,Bool.not_eq_false']at this
  exact qsY h1 this
theorem qqj.srt {lots:List qP} {holds:List qG} (h:qqj lots holds):qx6 holds:=
 List.pairwise_iff_getElem.2 fun i j hi hj hij=>by
  have hx:holds[i+(j-i-1)+1]? =some holds[j]:=by rw[show i+(j-i-1)+1=j by omega];exact Ya hj
  exact qx0 h (Ya hi) (j-i-1) _ hx
def qyF (h:qG):List qG->List qG
 |[]=>[h]
 |y::l=>if qsX h y=true then h::y::l else y::qyF h l
theorem qt8 (h:qG): ∀l,(qyF h l).Perm (h::l)
 |[]=> .refl _
 |y::l=>by
  rw[qyF]
  split
  ·exact .refl _
  exact((qt8 h l).cons y).trans (.swap _ _ _)
theorem qyw {h:qG}: ∀{l:List qG},qx6 l->(∀x∈l,kq h.Lot h.Order x=false)->qx6 (qyF h l)
 |[],_,_=>by simp[qyF,qx6]
 |y::l,hs,hk=>by
  obtain⟨h1,h2⟩:=List.pairwise_cons.1 hs
  rw[qyF]
  by_cases e:qsX h y=true
  ·rw[if_pos e]
   refine List.pairwise_cons.2 ⟨fun b hb=>?_,hs⟩
   rcases List.mem_cons.1 hb with rfl|hb
   ·exact e
   exact qsY e (h1 b hb)
  rw[if_neg e]
  refine List.pairwise_cons.2 ⟨fun b hb=>?_,qyw h2 fun x hx=>hk x (List.mem_cons_of_mem _ hx)⟩
  rcases List.mem_cons.1 ((qt8 h l).mem_iff.1 hb)with rfl|hb
  ·have hk':=hk y List.mem_cons_self
   rcases qtL qG.Lot qG.Order (show ltH qG.Lot qG.Order b y=false by simpa using e)with h'|⟨e1,e2⟩
   ·exact h'
   rw[qBp.2 ⟨e1.symm,e2.symm⟩]at hk'
   cases hk'
  exact h1 b hb
theorem qAo {l m:List qG} (hl:qx6 l) (hm:m.Pairwise fun a b=>qsX b a=false) (hp:m.Perm l):m=l:=by
 refine List.Perm.eq_of_pairwise (le:=fun a b=>qsX b a=false) (fun a b ha hb hab hba=>?_) hm (hl.imp fun h=>qAe h) hp
 have ha':=hp.mem_iff.1 ha
 obtain⟨i,hi,rfl⟩:=List.getElem_of_mem ha'
 obtain⟨j,hj,rfl⟩:=List.getElem_of_mem hb
 have key:=List.pairwise_iff_getElem.1 hl
 rcases Nat.lt_trichotomy i j with c|c|c
 ·have:=key i j hi hj c
  rw[hba]at this;cases this
 ·subst c;rfl
 have:=key j i hj hi c
 rw[hab]at this;cases this
theorem qye {l m:List qG} (hl:qx6 l) (hp:m.Perm l):qoy qG.Lot qG.Order m=l:=by
 obtain⟨f1,f2,f3⟩:=qm5 qG.Lot qG.Order m
 refine qAo hl (List.pairwise_iff_getElem.2 fun i j hi hj hij=>?_) (f2.trans hp)
 have:=f3 i j hij (by omega)
 rw[getElem!_pos _ j hj,getElem!_pos _ i hi]at this
 exact this
def quO (h:qG) (holds:List qG):List qG:=
 if h.Reserved=0/\h.Taken=0 then holds.filter (fun x=>!kq h.Lot h.Order x)else qyF h (holds.filter fun x=>!kq h.Lot h.Order x)
def qkk (holds:List qG) (lo od:Str):qG:=(holds.find? (kq lo od)).getD ⟨lo,od,0,0⟩
theorem qxC {holds:List qG} (h:qx6 holds) (p:qG->Bool):qx6 (holds.filter p):=List.Pairwise.filter p h
theorem qAx {holds:List qG} {lo od:Str}: ∀x∈holds.filter (fun x=>!kq lo od x),kq lo od x=false:=fun x hx=>by simpa using(List.mem_filter.1 hx).2
end Go.Av
end
section
namespace Go.Av
open Go.Proofs Go.RowKit
variable [Glob]
abbrev knR:Str:=[114,101,99,101,105,118,101]
abbrev knV:Str:=[114,101,115,101,114,118,101]
abbrev knL:Str:=[114,101,108,101,97,115,101]
abbrev knT:Str:=[116,97,107,101]
abbrev knU:Str:=[114,101,116,117,114,110]
structure qx3 (e:ky):Prop where
 kind:e.Kind=knR\/e.Kind=knV\/e.Kind=knL\/e.Kind=knT\/e.Kind=knU
 day:qh9 e.Day 0 99999=false
 am:qh9 e.Amount 1 999999999=false
 lot:qcg e.Lot=true
 rc:e.Kind=knR->qcg e.Yarn=true/\qo4 e.Dye=true/\e.Order=[]
 oth:e.Kind≠knR->qcg e.Order=true/\e.Yarn=[]/\e.Dye=[]
def qnU (lots:List qP) (holds:List qG) (e:ky):qo:=
 match lots.find? (fun x=>x.Name==e.Lot)with
 |some x=>⟨x,true,qkk holds e.Lot e.Order,frE holds x⟩
 |none=>⟨⟨e.Lot,e.Yarn,e.Dye,0⟩,false,qkk holds e.Lot e.Order,0⟩
def qxU (k:Str) (a:qo) (n:Int):qo:=
 if k=knR then⟨⟨a.lot.Name,a.lot.Yarn,a.lot.Dye,w64 (a.lot.Stock+n)⟩,a.known,a.hold,a.free⟩
 else if k=knV then⟨a.lot,a.known,⟨a.hold.Lot,a.hold.Order,w64 (a.hold.Reserved+n),a.hold.Taken⟩,a.free⟩
 else if k=knL then⟨a.lot,a.known,⟨a.hold.Lot,a.hold.Order,w64 (a.hold.Reserved+w64 (0-n)),a.hold.Taken⟩,a.free⟩
 else if k=knT then⟨⟨a.lot.Name,a.lot.Yarn,a.lot.Dye,w64 (a.lot.Stock-n)⟩,a.known,⟨a.hold.Lot,a.hold.Order,(if(w64 (a.hold.Reserved-n))>0 then(w64 (a.hold.Reserved-n))else 0),w64 (a.hold.Taken+n)⟩,a.free⟩
 else⟨⟨a.lot.Name,a.lot.Yarn,a.lot.Dye,w64 (a.lot.Stock+n)⟩,a.known,⟨a.hold.Lot,a.hold.Order,a.hold.Reserved,w64 (a.hold.Taken-n)⟩,a.free⟩
def qui (k:Str) (a:qo) (n:Int):Bool:=
 if k=knR then true else if k=knV then decide (n<=a.free)else if k=knL then decide (n<=a.hold.Reserved)else if k=knT then decide (n<=w64 (a.free+a.hold.Reserved))else decide (n<=a.hold.Taken)
def qwv (e:ky) (a:qo):Bool:=if e.Kind=knR then !a.known||(a.lot.Yarn==e.Yarn&&a.lot.Dye==e.Dye)else a.known
def qkA (lots:List qP) (holds:List qG) (e:ky):qo:=qxU e.Kind (qnU lots holds e) e.Amount
def nxL (lots:List qP) (holds:List qG) (e:ky):List qP:=qpw (qkA lots holds e).lot lots
def nxH (lots:List qP) (holds:List qG) (e:ky):List qG:=quO (qkA lots holds e).hold holds
def qB1 (day:Int) (lots:List qP) (holds:List qG) (e:ky):Int:=
 if e.Day<day then 1
 else if qwv e (qnU lots holds e)=false then 2
 else if qui e.Kind (qnU lots holds e) e.Amount=false then 3
 else if 999999999<(qkA lots holds e).lot.Stock\/999999999<(qkA lots holds e).hold.Taken then 4
 else if 64<(nxL lots holds e).length\/256<(nxH lots holds e).length then 5
 else 0
theorem qzv {lots:List qP} (ok:qn9 lots) {j:Nat} {x:qP} {nm:Str} (hx:lots[j]? =some x) (e:x.Name=nm):lots.find? (fun x=>x.Name==nm)=some x:=by
 obtain⟨hj,rfl⟩:=Yb.1 hx
 refine List.find?_eq_some_iff_getElem.2 ⟨by rw[e];exact beq_self_eq_true _,j,hj,rfl,fun i hi=>?_⟩
 have:=qna ok hi (Ya (by omega)) hx
 have hne:=qsH this
 rw[e]at hne
 simpa using hne
theorem qCN {lots:List qP} {nm:Str} (h: ∀(j:Nat) x,lots[j]? =some x->x.Name≠nm):lots.find? (fun x=>x.Name==nm)=none:=by
 rw[List.find?_eq_none]
 intro x hx
 obtain⟨j,hj,rfl⟩:=List.getElem_of_mem hx
 simpa using h j _ (Ya hj)
theorem ixH1 {holds:List qG} (hh:holds.length<=300) (a:qo): ∀(K i:Nat),i<=holds.length->holds.length<K+i->
 (jC holds a K (i:Int)=some (.inl ())/\ ∀(j:Nat) x,i<=j->holds[j]? =some x->kq a.hold.Lot a.hold.Order x=false)\/
 (∃(j:Nat) (x:qG),jC holds a K (i:Int)=some (.inr (j:Int))/\i<=j/\holds[j]? =some x/\kq a.hold.Lot a.hold.Order x=true/\ ∀(k:Nat) y,i<=k->k<j->holds[k]? =some y->kq a.hold.Lot a.hold.Order y=false)
 |0,i,h,hK=>by omega
 |K+1,i,h,hK=>by
  unfold jC qeI qhm
  by_cases hi:i<holds.length
  ·have hx:holds[i]? =some holds[i]:=Ya hi
   rw[if_pos (by omega),yM,hx,ZB]
   simp only[ZB,Bool.and_true]
   generalize holds[i]=x at*
   by_cases e:kq a.hold.Lot a.hold.Order x=true
   ·rw[if_pos (show(x.Lot==a.hold.Lot&&x.Order==a.hold.Order)=true from e)]
    exact .inr ⟨i,x,rfl,Nat.le_refl _,hx,e,fun k y h1 h2 _=>by omega⟩
   rw[if_neg (show¬(x.Lot==a.hold.Lot&&x.Order==a.hold.Order)=true from e),qe5 (by omega)]
   have e':kq a.hold.Lot a.hold.Order x=false:=by simpa using e
   have first: ∀(k:Nat) y,k=i->holds[k]? =some y->kq a.hold.Lot a.hold.Order y=false:=fun k y hk hy=>by
    subst hk;rw[hx]at hy;obtain rfl:=Ye hy;exact e'
   rcases ixH1 hh a K (i+1) (by omega) (by omega)with⟨r1,r2⟩|⟨j,y,r1,r2,r3,r4,r5⟩
   ·refine .inl ⟨r1,fun j y hj hy=>?_⟩
    by_cases c:j=i
    ·exact first j y c hy
    exact r2 j y (by omega) hy
   refine .inr ⟨j,y,r1,by omega,r3,r4,fun k z hk hkj hz=>?_⟩
   by_cases c:k=i
   ·exact first k z c hz
   exact r5 k z (by omega) hkj hz
  rw[if_neg (by omega)]
  exact .inl ⟨rfl,fun j x hj hx=>by have:=(Yb.1 hx).1;omega⟩
theorem ixH2 {holds:List qG} (a:qo): ∀(K:Nat) (i:Int),xD holds a K i=jC holds a K i
 |0,i=>rfl
 |K+1,i=>by
  unfold jC xD qeI qeE
  simp only[ixH2 a K]
theorem qBL {holds:List qG} {lo od:Str} {j:Nat} {x:qG} (hx:holds[j]? =some x) (e:kq lo od x=true) (h: ∀(k:Nat) y,k<j->holds[k]? =some y->kq lo od y=false):qkk holds lo od=x:=by
 obtain⟨hj,rfl⟩:=Yb.1 hx
 unfold qkk
 rw[List.find?_eq_some_iff_getElem.2 ⟨e,j,hj,rfl,fun i hi=>by rw[h i _ hi (Ya (by omega))];rfl⟩]
 rfl
theorem qBU {holds:List qG} {lo od:Str} (h: ∀(j:Nat) x,holds[j]? =some x->kq lo od x=false):qkk holds lo od=⟨lo,od,0,0⟩:=by
 unfold qkk
 rw[List.find?_eq_none.2]
 ·rfl
 intro x hx
 obtain⟨j,hj,rfl⟩:=List.getElem_of_mem hx
 rw[h j _ (Ya hj)]
 decide
theorem qwp {holds:List qG} {lo od:Str}:(qkk holds lo od).Lot=lo/\(qkk holds lo od).Order=od:=by
 unfold qkk
 cases h:holds.find? (kq lo od)with
 |none=>exact⟨rfl,rfl⟩
 |some x=>exact qBp.1 (List.find?_some h)
theorem qAF {holds:List qG} {lo od:Str}:qkk holds lo od∈holds\/qkk holds lo od=⟨lo,od,0,0⟩:=by
 unfold qkk
 cases h:holds.find? (kq lo od)with
 |none=>exact .inr rfl
 |some x=>exact .inl (List.mem_of_find?_eq_some h)
theorem qyL {N:Nat} (hN:2000<N) (day:Int) {lots:List qP} (holds:List qG) (hl:lots.length<=100) (ok:qn9 lots) (name:Str):
 (∃(j:Nat) (x:qP),qfa N ⟨day,lots,holds⟩ name=some ((j:Int),true)/\lots[j]? =some x/\x.Name=name)\/
 (∃p:Nat,qfa N ⟨day,lots,holds⟩ name=some ((p:Int),false)/\p<=lots.length/\(∀(k:Nat) x,k<p->lots[k]? =some x->ltL x.Name name=true)/\(∀(k:Nat) x,p<=k->lots[k]? =some x->ltL x.Name name=false)/\ ∀(k:Nat) x,lots[k]? =some x->x.Name≠name):=by
 unfold qfa qcu qgS tCmp
 simp only
 obtain⟨p,p1,p2,p3,p4⟩:=bs_L hl ok name N 0 lots.length (by omega) (by omega) (by omega) (fun k x hk=>by omega) (fun k x hk hx=>by
  have:=(Yb.1 hx).1
  omega)
 rw[show((0:Nat):Int)=0 from rfl]at p1
 rw[p1,ZB]
 by_cases c:p<lots.length
 ·have hx:lots[p]? =some lots[p]:=Ya c
  rw[if_pos (by omega),yM,hx,ZB,ZB,ZB]
  by_cases e:lots[p].Name=name
  ·refine .inl ⟨p,_,?_,hx,e⟩
   rw[e,qmf,qi8,beq_self_eq_true]
   rfl
  refine .inr ⟨p,?_,p2,p3,p4,fun k x hk=>?_⟩
  ·have hz: ¬Lib.compareBytes lots[p].Name name=0:=by
    rw[qmf,p4 p _ (Nat.le_refl _) hx]
    simp[e]
   rw[decide_eq_false hz]
   rfl
  rcases Nat.lt_trichotomy k p with d|d|d
  ·exact qsH (p3 k x d hk)
  ·subst d
   rw[hx]at hk
   obtain rfl:=Ye hk
   exact e
  intro h
  have h1:=qna ok d hx hk
  rw[h,p4 p _ (Nat.le_refl _) hx]at h1
  cases h1
 refine .inr ⟨p,?_,p2,p3,p4,fun k x hk=>qsH (p3 k x (by have:=(Yb.1 hk).1;omega) hk)⟩
 rw[if_neg (by omega)]
 rfl
theorem qBP {lots:List qP} {holds:List qG} {e:ky}:(qnU lots holds e).lot.Name=e.Lot/\(qnU lots holds e).hold.Lot=e.Lot/\(qnU lots holds e).hold.Order=e.Order:=by
 unfold qnU
 cases h:lots.find? (fun x=>x.Name==e.Lot)with
 |none=>exact⟨rfl,qwp⟩
 |some x=>exact⟨by simpa using List.find?_some h,qwp⟩
theorem qB0 {N:Nat} (hN:2000<N) {day:Int} {lots:List qP} {holds:List qG} (o:OKS day lots holds) (e:ky):jJ N ⟨day,lots,holds⟩ e=some (qnU lots holds e):=by
 have hl:lots.length<=100:=by have:=o.ll;omega
 have hh:holds.length<=300:=by have:=o.hl;omega
 have hold: ∀(a:qo),a.hold.Lot=e.Lot->a.hold.Order=e.Order-> ∃r,qeF N holds a=some r/\((if r>=0 then(idx holds r).bind fun x18=>some (x18.Lot,x18.Order,x18.Reserved,x18.Taken)else some (e.Lot,e.Order,0,0):Option (Str×Str×Int×Int)))=some ((qkk holds e.Lot e.Order).Lot,(qkk holds e.Lot e.Order).Order,(qkk holds e.Lot e.Order).Reserved,(qkk holds e.Lot e.Order).Taken):=by
  intro a h1 h2
  unfold qeF
  rcases ixH1 hh a N 0 (by omega) (by omega)with⟨r1,r2⟩|⟨j,x,r1,r2,r3,r4,r5⟩
  ·rw[show((0:Nat):Int)=0 from rfl]at r1
   rw[r1]
   refine⟨-1,rfl,?_⟩
   rw[h1,h2]at r2
   rw[if_neg (by decide),qBU fun j x hx=>r2 j x (Nat.zero_le _) hx]
  rw[show((0:Nat):Int)=0 from rfl]at r1
  rw[r1]
  refine⟨(j:Int),rfl,?_⟩
  rw[h1,h2]at r4 r5
  rw[if_pos (by omega),yM,r3,qBL r3 r4 fun k y hk hy=>r5 k y (Nat.zero_le _) hk hy]
  rfl
 unfold jJ
 simp only
 rcases qyL hN day holds hl o.lk e.Lot with⟨j,x,h1,h2,h3⟩|⟨p,h1,h2,h3,h4,h5⟩
 ·rw[h1,ZB]
  simp only[if_true]
  rw[yM,h2,ZB,free_eq hN hh,ZB]
  simp only[ZB]
  obtain⟨r,g1,g2⟩:=hold (⟨⟨x.Name,x.Yarn,x.Dye,x.Stock⟩,true,⟨e.Lot,e.Order,0,0⟩,frE holds x⟩:qo) rfl rfl
  rw[g1,ZB,g2,ZB]
  unfold qnU
  rw[qzv o.lk h2 h3]
 rw[h1,ZB]
 simp only[ZF,if_false,ZB]
 obtain⟨r,g1,g2⟩:=hold (⟨⟨e.Lot,e.Yarn,e.Dye,0⟩,false,⟨e.Lot,e.Order,0,0⟩,0⟩:qo) rfl rfl
 rw[g1,ZB,g2,ZB]
 unfold qnU
 rw[qCN h5]
theorem qCb {p:qG->Bool} {a1 a2 a3:Str} {a4:Int} {a5:Bool} {lo od:Str} {a8 a9 a10:Int} {holds:List qG} (hh:holds.length<=300): ∀(K n m:Nat) (l:List qG),l.length=holds.length->n<m->m<=l.length->l.length<K+m->l.drop m=holds.drop m->l.take n=(holds.take m).filter (fun x=>!kq lo od x)->
 ∃l' n',jf a1 a2 a3 a4 a5 lo od a8 a9 a10 K l (n:Int) (m:Int)=some (l',((n':Nat):Int))/\l'.length=holds.length/\n'<holds.length/\l'.take n'=holds.filter (fun x=>!kq lo od x)
 |0,n,m,l,h1,h2,h3,h4,h5,h6=>by omega
 |K+1,n,m,l,h1,h2,h3,h4,h5,h6=>by
  unfold jf qeE qhm
  by_cases hm:m<l.length
  ·have hx:l[m]? =some l[m]:=Ya hm
   have hm2:m<holds.length:=by omega
   have hxx:l[m]=holds[m]:=by
    have e:(l.drop m)[0]? =(holds.drop m)[0]? :=by rw[h5]
    rw[YI,YI,Nat.add_zero,hx,Ya hm2]at e
    exact Ye e
   have htk:holds.take (m+1)=holds.take m++[l[m]]:=by rw[hxx];exact List.take_succ_eq_append_getElem hm2
   rw[if_pos (by omega),yM,hx,ZB]
   simp only[ZB,Bool.and_true]
   have hdr:(l.drop (m+1))=holds.drop (m+1):=by
    have: ∀z:List qG,z.drop (m+1)=(z.drop m).drop 1:=fun z=>by rw[List.drop_drop]
    rw[this l,this holds,h5]
   by_cases e:kq lo od l[m]=true
   ·rw[if_neg (show¬(!(l[m].Lot==lo&&l[m].Order==od))=true by rw[show(l[m].Lot==lo&&l[m].Order==od)=true from e];decide),ZB]
    simp only
    rw[qe5 (by omega)]
    refine qCb (p:=p) hh K n (m+1) l h1 (by omega) (by omega) (by omega) hdr ?_
    rw[htk,List.filter_append,h6]
    simp[e]
   have e':kq lo od l[m]=false:=by simpa using e
   rw[if_pos (show(!(l[m].Lot==lo&&l[m].Order==od))=true by rw[show(l[m].Lot==lo&&l[m].Order==od)=false from e'];rfl),yM,Ya (show n<l.length by omega),ZB,qwQ (by omega),ZB,ZB]
   simp only
   rw[qe5 (by omega),qe5 (by omega)]
   refine qCb (p:=p) hh K (n+1) (m+1) (l.set n l[m]) (by simpa using h1) (by omega) (by simp;omega) (by simp;omega) ?_ ?_
   ·rw[List.drop_set_of_lt (by omega),hdr]
   rw[htk,List.filter_append,<-h6,List.take_set,List.take_succ_eq_append_getElem (show n<l.length by omega),List.set_append_right _ _ (by simp;omega)]
   simp[e']
   rw[show n-min n l.length=0 by omega]
   rfl
  rw[if_neg (by omega)]
  have hm':m=holds.length:=by omega
  refine⟨l,n,rfl,h1,by omega,?_⟩
  rw[h6,hm',List.take_length]
theorem del_eq {N:Nat} (hN:2000<N) {a1 a2 a3:Str} {a4:Int} {a5:Bool} {lo od:Str} {a8 a9 a10:Int} {holds:List qG} (hh:holds.length<=300):
 (xu N holds a1 a2 a3 a4 a5 lo od a8 a9 a10=some (.inl ())/\holds.filter (fun x=>!kq lo od x)=holds)\/xu N holds a1 a2 a3 a4 a5 lo od a8 a9 a10=some (.inr (holds.filter fun x=>!kq lo od x)):=by
 unfold xu qgf
 rw[ixH2]
 rcases ixH1 hh (⟨⟨a1,a2,a3,a4⟩,a5,⟨lo,od,a8,a9⟩,a10⟩:qo) N 0 (by omega) (by omega)with⟨r1,r2⟩|⟨j,x,r1,r2,r3,r4,r5⟩
 ·rw[show((0:Nat):Int)=0 from rfl]at r1
  rw[r1]
  refine .inl ⟨rfl,List.filter_eq_self.2 fun x hx=>?_⟩
  obtain⟨j,hj,rfl⟩:=List.getElem_of_mem hx
  have:=r2 j _ (Nat.zero_le _) (Ya hj)
  simp only at this
  rw[this];rfl
 rw[show((0:Nat):Int)=0 from rfl]at r1
 rw[r1]
 refine .inr ?_
 simp only[ZB]at r4 r5⊢
 have hj:=(Yb.1 r3).1
 rw[if_neg (by omega),qe5 (by omega)]
 have hpre:holds.take j=(holds.take (j+1)).filter (fun x=>!kq lo od x):=by
  rw[List.take_succ_eq_append_getElem hj,List.filter_append]
  have e1:(holds.take j).filter (fun x=>!kq lo od x)=holds.take j:=List.filter_eq_self.2 fun y hy=>by
   obtain⟨k,hk,rfl⟩:=List.getElem_of_mem hy
   have hk':k<j:=by simp at hk;omega
   rw[List.getElem_take,r5 k _ (Nat.zero_le _) hk' (Ya (by omega))];rfl
  have e2:holds[j]=x:=by rw[Ya hj]at r3;exact Ye r3
  rw[e1,e2]
  simp[r4]
 obtain⟨l',n',g1,g2,g3,g4⟩:=qCb (p:=fun _=>true) (a1:=a1) (a2:=a2) (a3:=a3) (a4:=a4) (a5:=a5) (lo:=lo) (od:=od) (a8:=a8) (a9:=a9) (a10:=a10) hh N j (j+1) holds rfl (by omega) (by omega) (by omega) rfl hpre
 rw[g1,ZB]
 simp only
 have hc: ∀k:Nat,k<=holds.length->(qqF l' k (⟨[],[],0,0⟩:qG)).length=holds.length:=fun k hk=>by
  unfold qqF;simp;omega
 have ht:(qqF l' n' (⟨[],[],0,0⟩:qG)).take n'=l'.take n':=by
  unfold qqF
  rw[List.take_append_of_le_length (by simp;omega),List.take_take,Nat.min_self]
 by_cases z:n'=0
 ·subst z
  rw[if_pos (by rfl),if_pos (by omega),ZB,ZB,if_pos (by rw[hc 0 (by omega)];omega),ZB,qtD (Nat.zero_le _),ZB,ht,g4]
 rw[if_neg (by omega),qD5 (by omega),ZB,if_pos (by omega),ZB,ZB,if_pos (by rw[hc n' (by omega)];omega),ZB,qtD (by rw[hc n' (by omega)];omega),ZB,ht,g4]
end Go.Av
end
section
namespace Go.Av
open Go.Proofs Go.RowKit
variable [Glob]
end Go.Av
end
section
namespace Go.Av
open Go.Proofs Go.RowKit
variable [Glob]
theorem qxq {n a b:Int} (h:qh9 n a b=false):a<=n/\n<=b:=by
 unfold qh9 at h
 rw[Bool.or_eq_false_iff]at h
 have:=of_decide_eq_false h.1
 have:=of_decide_eq_false h.2
 omega
theorem qA9 {n a b:Int} (h:a<=n/\n<=b):qh9 n a b=false:=by
 unfold qh9
 rw[decide_eq_false (by omega),decide_eq_false (by omega)]
 rfl
theorem qBn {lots:List qP} {holds:List qG} {e:ky}:(qkA lots holds e).lot.Name=e.Lot/\(qkA lots holds e).hold.Lot=e.Lot/\(qkA lots holds e).hold.Order=e.Order:=by
 obtain⟨h1,h2,h3⟩:=qBP (lots:=lots) (holds:=holds) (e:=e)
 unfold qkA qxU
 repeat' split
 all_goals exact⟨h1,h2,h3⟩
theorem qC4 {N:Nat} (hN:2000<N) {day:Int} {lots:List qP} {holds:List qG} (o:OKS day lots holds) {e:ky} (k:qx3 e) (h1:0<=(qkA lots holds e).hold.Reserved) (h2:0<=(qkA lots holds e).hold.Taken):
 qjt N ⟨day,lots,holds⟩ e=some ⟨e.Day,nxL lots holds e,nxH lots holds e⟩:=by
 have hl:lots.length<=100:=by have:=o.ll;omega
 have hh:holds.length<=300:=by have:=o.hl;omega
 obtain⟨k1,k2,k3⟩:=qBn (lots:=lots) (holds:=holds) (e:=e)
 have hacc: ∀{α:Type} (f:Str×Str×Str×Int×Bool×Str×Str×Int×Int×Int->Option α),(((qh5).bind fun r1=>
  if(e.Kind==[114,101,99,101,105,118,101])=true then
  (jJ N ⟨day,lots,holds⟩ e).bind fun r3=>
  (qkz r3 e.Amount).bind fun r4=>
  some (r4.lot.Name,r4.lot.Yarn,r4.lot.Dye,r4.lot.Stock,r4.known,r4.hold.Lot,r4.hold.Order,r4.hold.Reserved,r4.hold.Taken,r4.free)
  else
  if(e.Kind==[114,101,115,101,114,118,101])=true then
  (jJ N ⟨day,lots,holds⟩ e).bind fun r6=>
  (qkE r6 e.Amount).bind fun r7=>
  some (r7.lot.Name,r7.lot.Yarn,r7.lot.Dye,r7.lot.Stock,r7.known,r7.hold.Lot,r7.hold.Order,r7.hold.Reserved,r7.hold.Taken,r7.free)
  else
  if(e.Kind==[114,101,108,101,97,115,101])=true then
  (jJ N ⟨day,lots,holds⟩ e).bind fun r9=>
  (qky r9 e.Amount).bind fun r10=>
  some (r10.lot.Name,r10.lot.Yarn,r10.lot.Dye,r10.lot.Stock,r10.known,r10.hold.Lot,r10.hold.Order,r10.hold.Reserved,r10.hold.Taken,r10.free)
  else
  if(e.Kind==[116,97,107,101])=true then
  (jJ N ⟨day,lots,holds⟩ e).bind fun r12=>
  (qob r12 e.Amount).bind fun r13=>
  some (r13.lot.Name,r13.lot.Yarn,r13.lot.Dye,r13.lot.Stock,r13.known,r13.hold.Lot,r13.hold.Order,r13.hold.Reserved,r13.hold.Taken,r13.free)
  else
  if(e.Kind==[114,101,116,117,114,110])=true then
  (jJ N ⟨day,lots,holds⟩ e).bind fun r15=>
  (qks r15 e.Amount).bind fun r16=>
  some (r16.lot.Name,r16.lot.Yarn,r16.lot.Dye,r16.lot.Stock,r16.known,r16.hold.Lot,r16.hold.Order,r16.hold.Reserved,r16.hold.Taken,r16.free)
  else
  none:Option (Str×Str×Str×Int×Bool×Str×Str×Int×Int×Int)).bind f)=f ((qkA lots holds e).lot.Name,(qkA lots holds e).lot.Yarn,(qkA lots holds e).lot.Dye,(qkA lots holds e).lot.Stock,(qkA lots holds e).known,(qkA lots holds e).hold.Lot,(qkA lots holds e).hold.Order,(qkA lots holds e).hold.Reserved,(qkA lots holds e).hold.Taken,(qkA lots holds e).free):=by
  intro α f
  unfold qh5 qkA qxU
  rw[qB0 hN o e]
  generalize qnU lots holds e=a
  rcases k.kind with h|h|h|h|h<;>rw[h]<;>rfl
 unfold qjt
 simp only
 rw[hacc]
 simp only
 unfold nxL nxH
 generalize qkA lots holds e=b at*
 obtain⟨⟨nm,ya,dy,st⟩,kn,⟨lo,od,rs,tk⟩,fr⟩:=b
 simp only at k1 k2 k3 h1 h2⊢
 subst k1 k2 k3
 have hcl:qry lots=some ():=by unfold qry;rw[if_pos (by omega)]
 have hch:qpS holds=some ():=by unfold qpS;rw[if_pos (by omega)]
 rw[hcl,ZB]
 have hlot:((qfa N ⟨e.Day,lots,[]⟩ e.Lot).bind fun r29=>((if r29.2=true then(idx lots r29.1).bind fun x33=>(put lots r29.1 (⟨e.Lot,ya,dy,st⟩:qP)).bind fun l34=>some l34 else(qvl lots r29.1 e.Lot ya dy st).bind fun l36=>some l36:Option (List qP))))=some (qpw ⟨e.Lot,ya,dy,st⟩ lots):=by
  rcases qyL hN e.Day [] hl o.lk e.Lot with⟨j,x,g1,g2,g3⟩|⟨p,g1,g2,g3,g4,g5⟩
  ·rw[g1,ZB]
   simp only[if_true]
   have hj:=(Yb.1 g2).1
   have hk:=qtd (x:=(⟨e.Lot,ya,dy,st⟩:qP)) (y:=x) o.lk.srt g2 g3
   rw[yM,g2,ZB,qwQ hj,ZB,hk]
  rw[g1,ZB]
  simp only[ZF,if_false]
  have hk:=qvB (x:=(⟨e.Lot,ya,dy,st⟩:qP)) g2 g3 g4 g5
  unfold qvl
  rw[if_pos ⟨by omega,by omega,by omega⟩,ZB,hk,Int.toNat_natCast]
 have hsort: ∀{b:Bool},b=decide (¬(rs=0/\tk=0))-> ∀l:List qG,l=holds.filter (fun x=>!kq e.Lot e.Order x)-> ∃l43,((if b=true then(app 48 l [(⟨e.Lot,e.Order,rs,tk⟩:qG)]).bind fun l46=>some l46 else some l:Option (List qG)))=some l43/\l43.length<=1000/\qoy qG.Lot qG.Order l43=quO ⟨e.Lot,e.Order,rs,tk⟩ holds:=by
  intro b hb l hlf
  have hlen:l.length<=300:=by
   have:=List.length_filter_le (fun x=>!kq e.Lot e.Order x) holds
   rw[hlf];omega
  by_cases c:rs=0/\tk=0
  ·rw[hb,decide_eq_false (by simpa using c),if_neg (by decide)]
   refine⟨l,rfl,by omega,?_⟩
   unfold quO
   rw[if_pos c,hlf]
   exact qye (qxC o.hk.srt _) (.refl _)
  rw[hb,decide_eq_true (by simpa using c),if_pos rfl,qrH (by simp;omega) (by simp;omega),ZB]
  refine⟨_,rfl,by simp;omega,?_⟩
  unfold quO
  rw[if_neg c,hlf]
  refine qye (qyw (qxC o.hk.srt _) qAx) ?_
  exact List.perm_append_comm.trans (qt8 _ _).symm
 have hb:((if rs>0 then some true else some (decide (tk>0)):Option Bool))=some (decide (¬(rs=0/\tk=0))):=by
  by_cases c:rs>0
  ·rw[if_pos c]
   congr 1
   exact(decide_eq_true (by omega)).symm
  rw[if_neg c]
  congr 1
  exact decide_eq_decide.2 (by omega)
 obtain⟨r,e1,e2⟩:=Option.bind_eq_some_iff.1 hlot
 rw[e1,ZB,e2,ZB,hch,ZB]
 rcases del_eq hN (a1:=e.Lot) (a2:=ya) (a3:=dy) (a4:=st) (a5:=kn) (lo:=e.Lot) (od:=e.Order) (a8:=rs) (a9:=tk) (a10:=fr) hh with⟨g1,g2⟩|g1
 ·rw[g1,ZB]
  simp only
  obtain⟨l43,f1,f2,f3⟩:=hsort rfl holds g2.symm
  rw[hb,ZB,f1,ZB]
  unfold qrV
  rw[if_pos (by omega),ZB,if_pos (qm5 _ _ l43).1.symm,ZB,f3]
 rw[g1,ZB]
 simp only
 obtain⟨l43,f1,f2,f3⟩:=hsort rfl _ rfl
 rw[hb,ZB,f1,ZB]
 unfold qr7
 rw[if_pos (by omega),ZB,if_pos (qm5 _ _ l43).1.symm,ZB,f3]
theorem ix5 {L:Nat->Int->Option (Unit⊕Int)} {f:Int->Option Bool} (hL: ∀K n,L (K+1) n=if n<5 then(f n).bind fun b=>if b=true then some (.inr n)else L K (w64 (n+1))else some (.inl ())) (K:Nat):
 L (K+6) 0=(f 0).bind fun b0=>if b0=true then some (.inr 0)else(f 1).bind fun b1=>if b1=true then some (.inr 1)else(f 2).bind fun b2=>if b2=true then some (.inr 2)else(f 3).bind fun b3=>if b3=true then some (.inr 3)else(f 4).bind fun b4=>if b4=true then some (.inr 4)else some (.inl ()):=by
 have e1:w64 (0+1)=1:=by decide
 have e2:w64 (1+1)=2:=by decide
 have e3:w64 (2+1)=3:=by decide
 have e4:w64 (3+1)=4:=by decide
 have e5:w64 (4+1)=5:=by decide
 rw[hL (K+5),if_pos (by decide),e1,hL (K+4),if_pos (by decide),e2,hL (K+3),if_pos (by decide),e3,hL (K+2),if_pos (by decide),e4,hL (K+1),if_pos (by decide),e5,hL K,if_neg (by decide)]
def rul (b0 b1 b2 b3 b4:Option Bool):Option Int:=
 b0.bind fun x0=>if x0=true then some 1 else b1.bind fun x1=>if x1=true then some 2 else b2.bind fun x2=>if x2=true then some 3 else b3.bind fun x3=>if x3=true then some 4 else b4.bind fun x4=>if x4=true then some 5 else some 0
theorem qD6 {b0 b1 b2 b3 b4:Option Bool}:((b0.bind fun b0=>if b0=true then some (.inr 0)else b1.bind fun b1=>if b1=true then some (.inr 1)else b2.bind fun b2=>if b2=true then some (.inr 2)else b3.bind fun b3=>if b3=true then some (.inr 3)else b4.bind fun b4=>if b4=true then some (.inr 4)else some (.inl ()):Option (Unit⊕Int)).bind (fun
 |(.inl ())=>some (-1)
 |(.inr q18)=>some q18)).bind (fun r1=>some (w64 (1+r1)))=rul b0 b1 b2 b3 b4:=by
 unfold rul
 have e0:w64 (1+ -1)=0:=by decide
 have e1:w64 (1+0)=1:=by decide
 have e2:w64 (1+1)=2:=by decide
 have e3:w64 (1+2)=3:=by decide
 have e4:w64 (1+3)=4:=by decide
 have e5:w64 (1+4)=5:=by decide
 rcases b0 with _|_|_<;>try rfl
 rcases b1 with _|_|_<;>try rfl
 rcases b2 with _|_|_<;>try rfl
 rcases b3 with _|_|_<;>try rfl
 rcases b4 with _|_|_<;>rfl
theorem qoc {N:Nat} (hN:2000<N) {L:Nat->Int->Option (Unit⊕Int)} {b0 b1 b2 b3 b4:Option Bool} (hL: ∀K n,L (K+1) n=if n<5 then(if n=0 then b0.bind fun r=>some r else if n=1 then b1.bind fun r=>some r else if n=2 then b2.bind fun r=>some r else if n=3 then b3.bind fun r=>some r else if n=4 then b4.bind fun r=>some r else none:Option Bool).bind fun b=>if b=true then some (.inr n)else L K (w64 (n+1))else some (.inl ())):
 ((L N 0).bind (fun
 |(.inl ())=>some (-1)
 |(.inr q18)=>some q18)).bind (fun r1=>some (w64 (1+r1)))=rul b0 b1 b2 b3 b4:=by
 obtain⟨K,rfl⟩: ∃K,N=K+6:=⟨N-6,by omega⟩
 have hs: ∀b:Option Bool,(b.bind fun r=>some r)=b:=fun b=>by cases b<;>rfl
 simp only[hs]at hL
 rw[ix5 hL]
 exact qD6
theorem qtf {lots:List qP} {holds:List qG} (hk:qqj lots holds) {x:qG} (hx:x∈holds):knB lots x.Lot=true/\qcg x.Order=true/\(0<=x.Reserved/\x.Reserved<=999999999)/\(0<=x.Taken/\x.Taken<=999999999)/\ ¬(x.Reserved=0/\x.Taken=0):=by
 obtain⟨j,hj,rfl⟩:=List.getElem_of_mem hx
 obtain⟨h1,h2,h3,h4,h5,h6⟩:=qql (hk j _ (Ya hj))
 exact⟨h1,h2,qxq h4,qxq h5,h6⟩
theorem qyJ {p:Option qP} {x:qP} (h:qnk p x=0):qcg x.Name=true/\qcg x.Yarn=true/\qo4 x.Dye=true/\qqD p x=false/\0<=x.Stock/\x.Stock<=999999999:=by
 unfold qnk at h
 cases n1:qcg x.Name<;>cases n2:qcg x.Yarn<;>cases n3:qo4 x.Dye<;>cases n4:qqD p x<;>cases n5:qh9 x.Stock 0 999999999<;>rw[n1,n2,n3,n4,n5]at h<;>first|(exact absurd h (by decide))|exact⟨rfl,rfl,rfl,rfl,qxq n5⟩
theorem qtc {lots:List qP} (ok:qn9 lots) {x:qP} (hx:x∈lots):qcg x.Name=true/\qcg x.Yarn=true/\qo4 x.Dye=true/\0<=x.Stock/\x.Stock<=999999999:=by
 obtain⟨j,hj,rfl⟩:=List.getElem_of_mem hx
 obtain⟨h1,h2,h3,_,h5⟩:=qyJ (ok j _ (Ya hj))
 exact⟨h1,h2,h3,h5⟩
theorem qAU {lots:List qP} {holds:List qG} (hk:qqj lots holds) (lo od:Str):(0<=(qkk holds lo od).Reserved/\(qkk holds lo od).Reserved<=999999999)/\(0<=(qkk holds lo od).Taken/\(qkk holds lo od).Taken<=999999999):=by
 rcases qAF (holds:=holds) (lo:=lo) (od:=od)with h|h
 ·exact⟨(qtf hk h).2.2.1,(qtf hk h).2.2.2.1⟩
 rw[h];exact⟨⟨Int.le_refl _,(by decide:(0:Int)<=999999999)⟩,Int.le_refl _,(by decide:(0:Int)<=999999999)⟩
theorem qz8 {lots:List qP} {holds:List qG} {e:ky}:(qnU lots holds e).hold=qkk holds e.Lot e.Order:=by
 unfold qnU
 split<;>rfl
theorem qD8 {day:Int} {lots:List qP} {holds:List qG} (o:OKS day lots holds) {e:ky} (k:qx3 e) (hf:qui e.Kind (qnU lots holds e) e.Amount=true):0<=(qkA lots holds e).hold.Reserved/\0<=(qkA lots holds e).hold.Taken:=by
 have hin:=qAU o.hk e.Lot e.Order
 have ham:=qxq k.am
 unfold qkA qxU
 unfold qui at hf
 rw[<-qz8 (lots:=lots)]at hin
 generalize qnU lots holds e=a at*
 rcases k.kind with h|h|h|h|h<;>rw[h]at hf⊢
 ·rw[if_pos rfl]
  exact⟨hin.1.1,hin.2.1⟩
 ·rw[if_neg (by decide),if_pos rfl]
  refine⟨?_,hin.2.1⟩
  show 0<=w64 _
  rw[qiB (by omega) (by omega)];omega
 ·rw[if_neg (by decide),if_neg (by decide),if_pos rfl]
  rw[if_neg (by decide),if_neg (by decide),if_pos rfl]at hf
  have hf:e.Amount<=a.hold.Reserved:=of_decide_eq_true hf
  refine⟨?_,hin.2.1⟩
  show 0<=w64 _
  rw[qiB (n:=0-e.Amount) (by omega) (by omega),qiB (by omega) (by omega)];omega
 ·rw[if_neg (by decide),if_neg (by decide),if_neg (by decide),if_pos rfl]
  refine⟨?_,?_⟩
  ·show(0:Int)<=(if w64 (a.hold.Reserved-e.Amount)>0 then w64 (a.hold.Reserved-e.Amount)else 0)
   split<;>omega
  show 0<=w64 _
  rw[qiB (by omega) (by omega)];omega
 rw[if_neg (by decide),if_neg (by decide),if_neg (by decide),if_neg (by decide)]
 rw[if_neg (by decide),if_neg (by decide),if_neg (by decide),if_neg (by decide)]at hf
 have hf:e.Amount<=a.hold.Taken:=of_decide_eq_true hf
 refine⟨hin.1.1,?_⟩
 show 0<=w64 _
 rw[qiB (by omega) (by omega)];omega
theorem qBg {N:Nat} (hN:2000<N) {day:Int} {lots:List qP} {holds:List qG} (o:OKS day lots holds) {e:ky} (k:qx3 e):qiw N ⟨day,lots,holds⟩ e=some (qB1 day lots holds e):=by
 have key: ∀{b3:Option Bool},b3=some (!decide ((if(qkA lots holds e).hold.Taken>(qkA lots holds e).lot.Stock then(qkA lots holds e).hold.Taken else(qkA lots holds e).lot.Stock)<=999999999))->
  rul (qcX e ⟨day,lots,holds⟩) (qbe e (qnU lots holds e)) (some (!qui e.Kind (qnU lots holds e) e.Amount)) b3 (qdq N ⟨day,lots,holds⟩ e)=some (qB1 day lots holds e):=by
  intro b3 hb3
  have h0:qcX e ⟨day,lots,holds⟩=some (!decide (e.Day>=day)):=rfl
  have h1:qbe e (qnU lots holds e)=some (!qwv e (qnU lots holds e)):=by
   unfold qbe qg3 qwv
   generalize qnU lots holds e=a
   by_cases c:e.Kind=knR
   ·rw[if_pos c,c]
    cases a.known<;>cases(a.lot.Yarn==e.Yarn)<;>rfl
   rw[if_neg c,if_pos (by simpa using c)]
   rfl
  rw[h0,h1,hb3]
  unfold rul qB1
  simp only[ZB]
  by_cases c0:e.Day<day
  ·rw[if_pos c0,decide_eq_false (by omega),if_pos (by rfl)]
  rw[if_neg c0,decide_eq_true (by omega),if_neg (by decide)]
  by_cases c1:qwv e (qnU lots holds e)=false
  ·rw[if_pos c1,c1,if_pos (by rfl)]
  rw[if_neg c1,if_neg (by simpa using c1)]
  by_cases c2:qui e.Kind (qnU lots holds e) e.Amount=false
  ·rw[if_pos c2,c2,if_pos (by rfl)]
  rw[if_neg c2,if_neg (by simpa using c2)]
  by_cases c3:999999999<(qkA lots holds e).lot.Stock\/999999999<(qkA lots holds e).hold.Taken
  ·rw[if_pos c3,decide_eq_false (by split<;>omega),if_pos (by rfl)]
  rw[if_neg c3,decide_eq_true (by split<;>omega),if_neg (by decide)]
  obtain⟨n1,n2⟩:=qD8 o k (by simpa using c2)
  unfold qdq qg9
  rw[qC4 hN o k n1 n2]
  simp only[ZB]
  by_cases c4:64<(nxL lots holds e).length
  ·rw[if_pos (show 64<(nxL lots holds e).length\/256<(nxH lots holds e).length from .inl c4),if_neg (show¬((nxL lots holds e).length:Int)<=64 by omega)]
   rfl
  rw[if_pos (show((nxL lots holds e).length:Int)<=64 by omega)]
  simp only[ZB]
  by_cases c5:256<(nxH lots holds e).length
  ·rw[if_pos (show 64<(nxL lots holds e).length\/256<(nxH lots holds e).length from .inr c5),decide_eq_false (by omega)]
   rfl
  rw[if_neg (show¬(64<(nxL lots holds e).length\/256<(nxH lots holds e).length)by omega),decide_eq_true (by omega)]
  rfl
 unfold qiw
 rw[qB0 hN o e,ZB]
 unfold qh5
 simp only[ZB]
 have hs: ∀b:Option Int,(b.bind fun r=>some r)=b:=fun b=>by cases b<;>rfl
 simp only[hs]
 unfold qui qkA qxU at key
 rcases k.kind with h|h|h|h|h<;>rw[h]at key⊢
 ·rw[if_pos (by rfl)]
  refine Eq.trans ?_ (key rfl)
  unfold qlR qgc
  rw[if_pos rfl]
  exact qoc hN (fun K n=>by rw[qaD];rfl)
 ·rw[if_neg (by decide),if_pos (by rfl)]
  refine Eq.trans ?_ (key rfl)
  unfold qli qgh
  rw[if_neg (by decide),if_pos rfl]
  exact qoc hN (fun K n=>by rw[xX];rfl)
 ·rw[if_neg (by decide),if_neg (by decide),if_pos (by rfl)]
  refine Eq.trans ?_ (key rfl)
  unfold qlN qgb
  rw[if_neg (by decide),if_neg (by decide),if_pos rfl]
  exact qoc hN (fun K n=>by rw[qac];rfl)
 ·rw[if_neg (by decide),if_neg (by decide),if_neg (by decide),if_pos (by rfl)]
  refine Eq.trans ?_ (key rfl)
  unfold qlE qf0
  rw[if_neg (by decide),if_neg (by decide),if_neg (by decide),if_pos rfl]
  exact qoc hN (fun K n=>by rw[qae];rfl)
 rw[if_neg (by decide),if_neg (by decide),if_neg (by decide),if_neg (by decide),if_pos (by rfl)]
 refine Eq.trans ?_ (key rfl)
 unfold qlm qf4
 rw[if_neg (by decide),if_neg (by decide),if_neg (by decide),if_neg (by decide)]
 exact qoc hN (fun K n=>by rw[qaw];rfl)
end Go.Av
end
section
namespace Go.Av
open Go.Proofs Go.RowKit
variable [Glob]
theorem qCv {lots:List qP} (ok:qn9 lots) (holds:List qG) {e:ky} {j:Nat} {x:qP} (hx:lots[j]? =some x) (hn:x.Name=e.Lot):qnU lots holds e=⟨x,true,qkk holds e.Lot e.Order,frE holds x⟩:=by
 unfold qnU
 rw[qzv ok hx hn]
theorem qAm {lots:List qP} (hs:SrtL lots) {i j:Nat} {x y:qP} (hx:lots[i]? =some x) (hy:lots[j]? =some y) (e:x.Name=y.Name):x=y:=by
 obtain⟨hi,rfl⟩:=Yb.1 hx
 obtain⟨hj,rfl⟩:=Yb.1 hy
 have key:=List.pairwise_iff_getElem.1 hs
 rcases Nat.lt_trichotomy i j with c|c|c
 ·exact absurd e (qsH (key i j hi hj c))
 ·subst c;rfl
 exact absurd e.symm (qsH (key j i hj hi c))
end Go.Av
end
section
namespace Go.Av
open Go.Proofs Go.RowKit
variable [Glob]
def quq (e:ky):Bool:=e.Kind==knR||(e.Kind==knV||(e.Kind==knL||(e.Kind==knT||e.Kind==knU)))
def chkE (e:ky):Int:=
 if quq e=false then 13 else if(qh9 e.Day 0 99999||qh9 e.Amount 1 999999999)=true then 3 else if qcg e.Lot=false then 8
 else if e.Kind=knR then(if(qcg e.Yarn&&qo4 e.Dye)=false then 8 else if e.Order=[]then 0 else 1)
 else(if qcg e.Order=false then 8 else if(e.Yarn==[]&&e.Dye==[])=true then 0 else 1)
def ShE (e:ky):Prop:=e.Kind.length<=60/\e.Lot.length<=60/\e.Yarn.length<=60/\e.Dye.length<=60/\e.Order.length<=60
theorem qt6 {e:ky}:quq e=true↔e.Kind=knR\/e.Kind=knV\/e.Kind=knL\/e.Kind=knT\/e.Kind=knU:=by
 simp[quq]
theorem qAg {e:ky}:chkE e=0↔qx3 e:=by
 unfold chkE
 constructor
 ·intro h
  by_cases c1:quq e=false
  ·rw[if_pos c1]at h;cases h
  rw[if_neg c1]at h
  by_cases c2:(qh9 e.Day 0 99999||qh9 e.Amount 1 999999999)=true
  ·rw[if_pos c2]at h;cases h
  rw[if_neg c2]at h
  by_cases c3:qcg e.Lot=false
  ·rw[if_pos c3]at h;cases h
  rw[if_neg c3]at h
  have c2':qh9 e.Day 0 99999=false/\qh9 e.Amount 1 999999999=false:=by simpa using c2
  have base:quq e=true:=by simpa using c1
  by_cases c4:e.Kind=knR
  ·rw[if_pos c4]at h
   by_cases c5:(qcg e.Yarn&&qo4 e.Dye)=false
   ·rw[if_pos c5]at h;cases h
   rw[if_neg c5]at h
   by_cases c6:e.Order=[]
   ·have c5':qcg e.Yarn=true/\qo4 e.Dye=true:=by simpa using c5
    exact⟨qt6.1 base,c2'.1,c2'.2,by simpa using c3,fun _=>⟨c5'.1,c5'.2,c6⟩,fun h=>absurd c4 h⟩
   rw[if_neg c6]at h;cases h
  rw[if_neg c4]at h
  by_cases c5:qcg e.Order=false
  ·rw[if_pos c5]at h;cases h
  rw[if_neg c5]at h
  by_cases c6:(e.Yarn==[]&&e.Dye==[])=true
  ·have c6':e.Yarn=[]/\e.Dye=[]:=by simpa using c6
   exact⟨qt6.1 base,c2'.1,c2'.2,by simpa using c3,fun h=>absurd h c4,fun _=>⟨by simpa using c5,c6'.1,c6'.2⟩⟩
  rw[if_neg c6]at h;cases h
 rintro⟨h1,h2,h3,h4,h5,h6⟩
 rw[qt6.2 h1,h2,h3,h4,if_neg (by decide),if_neg (by decide),if_neg (by decide)]
 by_cases c:e.Kind=knR
 ·obtain⟨g1,g2,g3⟩:=h5 c
  rw[if_pos c,g1,g2,g3]
  rfl
 obtain⟨g1,g2,g3⟩:=h6 c
 rw[if_neg c,g1,g2,g3]
 rfl
theorem ychkE {N:Nat} (hN:2000<N) {e:ky} (s:ShE e):qju N e=some (chkE e):=by
 obtain⟨s1,s2,s3,s4,s5⟩:=s
 have hk:((qh5).bind fun r1=>
  if(e.Kind==[114,101,99,101,105,118,101])=true then some true
  else if(e.Kind==[114,101,115,101,114,118,101])=true then some true
  else if(e.Kind==[114,101,108,101,97,115,101])=true then some true
  else if(e.Kind==[116,97,107,101])=true then some true
  else if(e.Kind==[114,101,116,117,114,110])=true then some true
  else some false:Option Bool)=some (quq e):=by
  unfold qh5 quq
  simp only[ZB]
  cases(e.Kind==knR)<;>cases(e.Kind==knV)<;>cases(e.Kind==knL)<;>cases(e.Kind==knT)<;>cases(e.Kind==knU)<;>rfl
 unfold qju
 rw[hk,ZB,qfb,ZB,qok,ZB,qok,ZB,qmq (by omega),ZB,qpM hN (by simp),ZB]
 unfold chkE
 cases c1:quq e with
 |false=>rfl
 |true=>
  cases c2:qh9 e.Day 0 99999 with
  |true=>rfl
  |false=>
   cases c3:qh9 e.Amount 1 999999999 with
   |true=>rfl
   |false=>
    cases c4:qcg e.Lot with
    |false=>rfl
    |true=>
     rw[if_neg (show¬(!decide (qfr [if(!true)=true then 13 else 0,if false=true then 3 else 0,if false=true then 3 else 0,if true=true then 0 else 8]=0))=true by decide),if_neg (show¬(true=false)by decide),if_neg (show¬((false||false)=true)by decide),if_neg (show¬(true=false)by decide)]
     by_cases c5:e.Kind=knR
     ·rw[if_pos (show(e.Kind==[114,101,99,101,105,118,101])=true by rw[c5];rfl),if_pos c5,qmq (by omega),ZB,qxh (by omega),ZB,qfb,ZB,qpM hN (by simp),ZB]
      have ho:(e.Order=[])=((e.Order==[])=true):=by simp
      simp only[ho]
      cases qcg e.Yarn<;>cases qo4 e.Dye<;>cases(e.Order==[])<;>rfl
     rw[if_neg (show¬(e.Kind==[114,101,99,101,105,118,101])=true by simpa using c5),if_neg c5,qmq (by omega),ZB]
     cases hy:(e.Yarn==[])with
     |false=>
      rw[if_pos (by rfl),qfb,ZB,qpM hN (by simp),ZB,ZB]
      cases qcg e.Order<;>rfl
     |true=>
      rw[if_neg (by decide),qfb,ZB,qpM hN (by simp),ZB,ZB]
      cases qcg e.Order<;>cases(e.Dye==[])<;>rfl
end Go.Av
end
section
namespace Go.Av
open Go.Proofs Go.RowKit
variable [Glob]
def qv1 (g:qG->Int):List qG->Int
 |[]=>0
 |h::t=>g h+qv1 g t
theorem quW {g:qG->Int}: ∀{l:List qG},(∀h∈l,0<=g h)->0<=qv1 g l
 |[],_=>Int.le_refl _
 |h::t,k=>by
  have:=k h List.mem_cons_self
  have:=quW fun x hx=>k x (List.mem_cons_of_mem _ hx)
  simp only[qv1];omega
theorem qxK {g:qG->Int}: ∀{l:List qG},(∀h∈l,g h<=999999999)->qv1 g l<=999999999*(l.length:Int)
 |[],_=>by simp[qv1]
 |h::t,k=>by
  have:=k h List.mem_cons_self
  have:=qxK fun x hx=>k x (List.mem_cons_of_mem _ hx)
  simp only[qv1,Yr];omega
def gR (name:Str) (h:qG):Int:=if(h.Lot==name)=true then h.Reserved else 0
theorem qxz {name:Str}: ∀(hs:List qG) (a:Int),(∀h∈hs,0<=h.Reserved/\h.Reserved<=999999999)->0<=a->a+1000000000*(hs.length:Int)<=1000000000000000->qxn name hs a=a+qv1 (gR name) hs
 |[],a,h,h0,hb=>by
  simp[qxn,qv1]
 |x::t,a,h,h0,hb=>by
  unfold qxn
  have hx:=h x (List.mem_cons_self ..)
  rw[Yr]at hb
  simp only[qv1,gR]
  by_cases c:(x.Lot==name)=true
  ·rw[if_pos c,if_pos c,qiB (by omega) (by omega),qxz t _ (fun y hy=>h y (List.mem_cons_of_mem _ hy)) (by omega) (by omega)]
   omega
  rw[if_neg c,if_neg c,qxz t _ (fun y hy=>h y (List.mem_cons_of_mem _ hy)) (by omega) (by omega)]
  omega
def qzP (holds:List qG):Prop:= ∀h∈holds,0<=h.Reserved/\h.Reserved<=999999999
theorem qBl {holds:List qG} (hr:qzP holds) (name:Str): ∀h∈holds,0<=gR name h:=by
 intro h hh
 unfold gR
 split
 ·exact(hr h hh).1
 exact Int.le_refl _
theorem qEa {holds:List qG} (hr:qzP holds) (name:Str): ∀h∈holds,gR name h<=999999999:=by
 intro h hh
 unfold gR
 split
 ·exact(hr h hh).2
 decide
theorem qzS {holds:List qG} (hr:qzP holds) (hl:holds.length<=300) {x:qP} (hx:0<=x.Stock/\x.Stock<=999999999):frE holds x=x.Stock-qv1 (gR x.Name) holds:=by
 have h1:=quW (qBl hr x.Name)
 have h2:=qxK (qEa hr x.Name)
 unfold frE
 rw[qxz _ _ hr (Int.le_refl _) (by omega),qiB (by omega) (by omega)]
 omega
theorem qtK {lots:List qP} {holds:List qG} (hk:qqj lots holds):qzP holds:=fun h hh=>(qtf hk hh).2.2.1
theorem qCU {lots:List qP} {name:Str}:knB lots name=true↔ ∃x∈lots,x.Name=name:=by
 unfold knB
 rw[List.any_eq_true]
 constructor
 ·rintro⟨x,hx,h⟩;exact⟨x,hx,by simpa using h⟩
 rintro⟨x,hx,h⟩;exact⟨x,hx,by simpa using h⟩
end Go.Av
end
section
namespace Go.Av
open Go.Proofs Go.RowKit
variable [Glob]
end Go.Av
end
section
namespace Go.Av
open Go.Proofs Go.RowKit
variable [Glob]
end Go.Av
end
section
namespace Go.Av
open Go.Proofs Go.RowKit
variable [Glob]
end Go.Av
end
section
namespace Go.Av
open Go.Proofs Go.RowKit
variable [Glob]
theorem qn2 {s:Str} (h:qcg s=true):s.length<=24:=by
 unfold qcg at h
 simp only[Bool.and_eq_true,decide_eq_true_eq]at h
 exact h.1.2
theorem qB3 {s:Str} (h:qo4 s=true):s.length<=24:=by
 unfold qo4 at h
 simp only[Bool.or_eq_true,beq_iff_eq]at h
 rcases h with rfl|h
 ·simp
 exact qn2 h
theorem qzX {d:Int} {lots:List qP} {holds:List qG} (o:OKS d lots holds):ShL lots/\ShH holds:=by
 have hL:ShL lots:=fun x hx=>by
  obtain⟨h1,h2,h3,_⟩:=qtc o.lk hx
  have:=qn2 h1
  have:=qn2 h2
  have:=qB3 h3
  omega
 refine⟨hL,fun h hh=>?_⟩
 obtain⟨h1,h2,_⟩:=qtf o.hk hh
 obtain⟨x,hx,e⟩:=qCU.1 h1
 have h3:=qn2 (qtc o.lk hx).1
 have:=qn2 h2
 rw[e]at h3
 omega
theorem qwM {N:Nat} (hN:2000<N) {d:Int} {lots:List qP} {holds:List qG} (o:OKS d lots holds):qeP N ⟨d,lots,holds⟩=some 0/\qhr N ⟨d,lots,holds⟩=some 0:=by
 obtain⟨s1,s2⟩:=qzX o
 obtain⟨e,e1,e2,e3⟩:=qvL hN d (by have:=o.ll;omega) (by have:=o.hl;omega) s1 s2
 rw[e3.2 o]at e1 e2
 exact⟨e1,e2⟩
theorem qAS {N:Nat} (hN:2000<N) {d:Int} {lots:List qP} {holds:List qG} (o:OKS d lots holds) {j:Nat} {x:qP} (hx:lots[j]? =some x):qpH N ⟨d,lots,holds⟩ x.Name=some (frE holds x,0)/\0<=frE holds x/\frE holds x<=x.Stock:=by
 have hh:holds.length<=300:=by have:=o.hl;omega
 have hl:lots.length<=100:=by have:=o.ll;omega
 refine⟨?_,o.fr j x hx,?_⟩
 ·unfold qpH
  rw[(qwM hN o).1,ZB,if_neg (by decide)]
  rcases qyL hN d holds hl o.lk x.Name with⟨i,y,g1,g2,g3⟩|⟨p,g1,_,_,_,g5⟩
  ·obtain rfl:=qAm o.lk.srt g2 hx g3
   rw[g1,ZB,if_neg (by simp)]
   simp only
   rw[yM,g2,ZB,free_eq hN hh,ZB]
  exact absurd rfl (g5 j x hx)
 have hst:=(qtc o.lk (Yn hx)).2.2.2
 rw[qzS (qtK o.hk) hh hst]
 have:=quW (qBl (qtK o.hk) x.Name)
 omega
end Go.Av
end
section
namespace Go.Av
open Go.Proofs Go.RowKit
variable [Glob]
theorem and_one: ∀q:Fin 256,decide (andI .i64 ((q.val:Nat):Int) 1=1)=decide (((q.val:Nat):Int).tmod 2=1):=by decide+kernel
theorem qBr {q:Nat} (h:q<256):(andI .i64 (q:Int) 1=1)=((q:Int).tmod 2=1):=by
 have:=and_one ⟨q,h⟩
 exact propext (decide_eq_decide.1 this)
theorem qCH {m k:Nat} (hm:m<256) (hk:k<8):qBX .i64 (m:Int) (k:Int)=some ((m/2^k:Nat):Int):=by
 have h:k=0\/k=1\/k=2\/k=3\/k=4\/k=5\/k=6\/k=7:=by omega
 unfold qBX
 rcases h with rfl|rfl|rfl|rfl|rfl|rfl|rfl|rfl
 ·show some ((m:Int).fdiv 1)=some ((m/1:Nat):Int)
  rw[Int.fdiv_eq_ediv_of_nonneg _ (by decide)];congr 1
 ·show some ((m:Int).fdiv 2)=some ((m/2:Nat):Int)
  rw[Int.fdiv_eq_ediv_of_nonneg _ (by decide)];congr 1
 ·show some ((m:Int).fdiv 4)=some ((m/4:Nat):Int)
  rw[Int.fdiv_eq_ediv_of_nonneg _ (by decide)];congr 1
 ·show some ((m:Int).fdiv 8)=some ((m/8:Nat):Int)
  rw[Int.fdiv_eq_ediv_of_nonneg _ (by decide)];congr 1
 ·show some ((m:Int).fdiv 16)=some ((m/16:Nat):Int)
  rw[Int.fdiv_eq_ediv_of_nonneg _ (by decide)];congr 1
 ·show some ((m:Int).fdiv 32)=some ((m/32:Nat):Int)
  rw[Int.fdiv_eq_ediv_of_nonneg _ (by decide)];congr 1
 ·show some ((m:Int).fdiv 64)=some ((m/64:Nat):Int)
  rw[Int.fdiv_eq_ediv_of_nonneg _ (by decide)];congr 1
 show some ((m:Int).fdiv 128)=some ((m/128:Nat):Int)
 rw[Int.fdiv_eq_ediv_of_nonneg _ (by decide)];congr 1
theorem qCV {n:Nat} (hn:n<=8):shlO .i64 1 (n:Int)=some ((2^n:Nat):Int):=by
 have h:n=0\/n=1\/n=2\/n=3\/n=4\/n=5\/n=6\/n=7\/n=8:=by omega
 rcases h with rfl|rfl|rfl|rfl|rfl|rfl|rfl|rfl|rfl<;>rfl
theorem qzj {n:Nat} (hn:n<=8):1<=2^n/\2^n<=256:=by
 have h:n=0\/n=1\/n=2\/n=3\/n=4\/n=5\/n=6\/n=7\/n=8:=by omega
 rcases h with rfl|rfl|rfl|rfl|rfl|rfl|rfl|rfl|rfl<;>decide
def qAn (x y:Int):Int:=if x<y then-1 else if x>y then 1 else 0
theorem qzG (x y:Int):cmp_Compare_int x y=some (qAn x y):=by
 unfold cmp_Compare_int cmp_isNaN_int qAn
 rw[ZB,ZB,if_neg (by simp),if_neg (by simp)]
 by_cases h:x<y
 ·rw[if_pos h,if_pos h]
 rw[if_neg h,if_neg h]
 by_cases g:x>y
 ·rw[if_pos g,if_pos g]
 rw[if_neg g,if_neg g]
def qwf:List Int->List Int->Int
 |[],[]=>0
 |[],_::_=> -1
 |_::_,[]=>1
 |x::a,y::b=>if x<y then-1 else if x>y then 1 else qwf a b
def ltW (a b:List Int):Prop:=a.length<b.length\/(a.length=b.length/\qwf a b<0)
theorem qCa {a b:List Int} (ha:a.length<=100) (hb:b.length<=100): ∀(K i:Nat),i<=a.length->i<=b.length->a.length<K+i->((qcU a b K (i:Int)).bind (fun|(.inl (l2,l3))=>if(l2.length:Int)<(l3.length:Int)then some (-1)else some 0|(.inr q13)=>some q13):Option Int)=some (qwf (a.drop i) (b.drop i))
 |0,i,h1,h2,hK=>by omega
 |K+1,i,h1,h2,hK=>by
  unfold qcU
  by_cases hi:i<a.length
  ·rw[if_pos (by omega),yM,Ya hi,ZB,qk5 hi]
   by_cases hj:i<b.length
   ·rw[if_neg (by omega),yM,Ya hj,ZB,qk5 hj,qzG,ZB]
    unfold qwf qAn
    by_cases c:a[i]<b[i]
    ·rw[if_pos c,if_pos c]
     rfl
    rw[if_neg c,if_neg c]
    by_cases d:a[i]>b[i]
    ·rw[if_pos d,if_pos d]
     rfl
    rw[if_neg d,if_neg d,if_neg (by simp),qe5 (by omega)]
    exact qCa ha hb K (i+1) (by omega) (by omega) (by omega)
   rw[if_pos (by omega),List.drop_eq_nil_of_le (show b.length<=i by omega)]
   rfl
  rw[if_neg (by omega),List.drop_eq_nil_of_le (show a.length<=i by omega),ZB]
  simp only
  by_cases hj:i<b.length
  ·rw[if_pos (by omega),qk5 hj]
   rfl
  rw[if_neg (by omega),List.drop_eq_nil_of_le (by omega)]
  rfl
theorem qCy {N:Nat} (hN:2000<N) {a b:List Int} (ha:a.length<=100) (hb:b.length<=100):qjp N a b=some (qwf a b):=by
 have:=qCa ha hb N 0 (by omega) (by omega) (by omega)
 rw[YR,YR,show((0:Nat):Int)=0 from rfl]at this
 exact this
theorem qBW (a b:List Int):(qfr [qAn (a.length:Int) (b.length:Int),qwf a b]<0)=ltW a b:=by
 unfold ltW qAn
 by_cases h:a.length<b.length
 ·rw[if_pos (by omega)]
  exact propext ⟨fun _=> .inl h,fun _=>(by show(-1:Int)<0;decide)⟩
 rw[if_neg (by omega)]
 by_cases g:(a.length:Int)>(b.length:Int)
 ·rw[if_pos g]
  exact propext ⟨fun c=>absurd c (by unfold qfr;rw[if_neg (by decide)];decide),fun c=>by omega⟩
 rw[if_neg g]
 have e:qfr [0,qwf a b]=qwf a b:=by
  unfold qfr qfr
  rw[if_pos rfl]
  by_cases z:qwf a b=0
  ·rw[if_pos z,z]
   rfl
  rw[if_neg z]
 rw[e]
 exact propext ⟨fun c=> .inr ⟨by omega,c⟩,fun c=>by
  rcases c with c|c
  ·omega
  exact c.2⟩
theorem qBK {F:List Int} (h8:F.length<=8):slices_Clone_int F=some F:=by
 cases F with
 |nil=>
  show qhx=some []
  unfold qhx
  rw[qrH (by decide) (by decide),ZB]
  unfold qzJ
  rw[if_pos (show some ([]:List Int)=some ([]++[])from rfl)]
 |cons a t=>
  show qhv a t=some (a::t)
  unfold qhv
  rw[qrH (by simp only[Yr,List.length_nil]at*;omega) (by simp only[Yr,List.length_nil]at*;omega)]
  rfl
def qyU (ya dy:Str):Int:=if qcg ya=true then if qo4 dy=true then 0 else 8 else 8
theorem qDx {N:Nat} (hN:2000<N) {ya dy:Str} (am:Int) (h1:ya.length<=60) (h2:dy.length<=60):qhQ N ⟨ya,dy,am⟩=some (qyU ya dy):=by
 unfold qhQ qyU
 simp only
 rw[ql9 (by omega) (by omega),ZB]
 cases qcg ya with
 |false=>rfl
 |true=>
  rw[if_neg (by simp),qwT (by omega) (by omega),ZB,qAh]
  cases qo4 dy<;>rfl
theorem qCw {N:Nat} (hN:2000<N) {s:StateT} {e:Int} (he:qeP N s=some e) {ya dy:Str} (h1:ya.length<=60) (h2:dy.length<=60):qgl N s ya dy=some (qfr [e,qyU ya dy]):=by
 unfold qgl qyU
 rw[he,ZB,qmq (by omega),ZB,qxh (by omega),ZB,qpM hN (by simp),ZB]
 congr 1
 unfold qfr
 by_cases z:e=0
 ·rw[if_pos z,if_pos z]
  cases qcg ya<;>cases qo4 dy<;>rfl
 rw[if_neg z,if_neg z]
end Go.Av
end
section
namespace Go.Av
open Go.Proofs Go.RowKit
variable [Glob]
def mat (lots:List qP) (ya dy:Str) (k:Nat):Bool:=match lots[k]? with|some x=>x.Yarn==ya&&x.Dye==dy|none=>false
def fN (lots:List qP) (holds:List qG) (k:Nat):Int:=match lots[k]? with|some x=>frE holds x|none=>0
def MI (lots:List qP) (ya dy:Str) (n:Nat):List Nat:=(List.range n).filter (mat lots ya dy)
def FI (lots:List qP) (holds:List qG) (ya dy:Str) (n:Nat):List Nat:=(MI lots ya dy n).filter fun k=>decide (fN lots holds k>0)
def toI (l:List Nat):List Int:=l.map fun(k:Nat)=>(k:Int)
def qdZ (f:Nat->Int):List Nat->Int
 |[]=>0
 |k::t=>f k+qdZ f t
theorem qpK (f:Nat->Int): ∀l m:List Nat,qdZ f (l++m)=qdZ f l+qdZ f m
 |[],m=>by simp[qdZ]
 |k::t,m=>by
  rw[List.cons_append]
  simp only[qdZ,qpK f t m]
  omega
theorem qqx {f:Nat->Int} (h: ∀k,0<=f k): ∀l,0<=qdZ f l
 |[]=>Int.le_refl _
 |k::t=>by
  have:=h k
  have:=qqx h t
  simp only[qdZ];omega
theorem qoo {f:Nat->Int} (h: ∀k,f k<=999999999): ∀l,qdZ f l<=999999999*(l.length:Int)
 |[]=>by simp[qdZ]
 |k::t=>by
  have:=h k
  have:=qoo h t
  simp only[qdZ,Yr];omega
theorem qvd {f:Nat->Int} (h: ∀k,0<=f k): ∀l:List Nat,qdZ f (l.filter fun k=>decide (f k>0))=qdZ f l
 |[]=>rfl
 |k::t=>by
  rw[List.filter_cons]
  have:=qvd h t
  by_cases c:f k>0
  ·rw[if_pos (decide_eq_true c)]
   simp only[qdZ,this]
  rw[if_neg (by simp;omega),this]
  have:=h k
  simp only[qdZ];omega
theorem qng {d:Int} {lots:List qP} {holds:List qG} (o:OKS d lots holds) (k:Nat):0<=fN lots holds k/\fN lots holds k<=999999999:=by
 unfold fN
 cases h:lots[k]? with
 |none=>exact⟨Int.le_refl _,(by decide:(0:Int)<=999999999)⟩
 |some x=>
  have hst:=(qtc o.lk (Yn h)).2.2.2
  have:=quW (qBl (qtK o.hk) x.Name)
  have hf:=o.fr k x h
  refine⟨hf,?_⟩
  show frE holds x<=_
  rw[qzS (qtK o.hk) (by have:=o.hl;omega) hst]
  omega
theorem qyd {lots:List qP} {holds:List qG} {k:Nat} {x:qP} (h:lots[k]? =some x):fN lots holds k=frE holds x:=by unfold fN;rw[h]
theorem qB9 {lots:List qP} {ya dy:Str} {i:Nat}:MI lots ya dy (i+1)=MI lots ya dy i++if mat lots ya dy i=true then[i]else[]:=by
 unfold MI
 rw[List.range_succ,List.filter_append,List.filter_cons]
 rfl
theorem qxf {lots:List qP} {ya dy:Str} {i:Nat}:(MI lots ya dy i).length<=i:=by
 have:=List.length_filter_le (mat lots ya dy) (List.range i)
 rw[List.length_range]at this
 exact this
theorem qDn {lots:List qP} {ya dy:Str} {i k:Nat} (h:k∈MI lots ya dy i):k<i/\mat lots ya dy k=true:=by
 obtain⟨h1,h2⟩:=List.mem_filter.1 h
 exact⟨List.mem_range.1 h1,h2⟩
theorem FI_up {lots:List qP} {holds:List qG} {ya dy:Str} {i:Nat}:FI lots holds ya dy (i+1)=FI lots holds ya dy i++if(mat lots ya dy i&&decide (fN lots holds i>0))=true then[i]else[]:=by
 unfold FI
 rw[qB9,List.filter_append]
 cases mat lots ya dy i with
 |false=>rfl
 |true=>
  rw[if_pos rfl,List.filter_cons,Bool.true_and]
  rfl
theorem qDR {lots:List qP} {holds:List qG} {ya dy:Str} {i:Nat}:(FI lots holds ya dy i).length<=i:=
 Nat.le_trans (List.length_filter_le _ _) qxf
theorem qDo {lots:List qP} {holds:List qG} {ya dy:Str} {i k:Nat} (h:k∈FI lots holds ya dy i):k<i/\mat lots ya dy k=true/\0<fN lots holds k:=by
 obtain⟨h1,h2⟩:=List.mem_filter.1 h
 exact⟨(qDn h1).1,(qDn h1).2,of_decide_eq_true h2⟩
theorem qzs (l m:List Nat):toI (l++m)=toI l++toI m:=List.map_append
theorem qhU (l:List Nat):(toI l).length=l.length:=List.length_map _
theorem qAQ {N:Nat} (hN:2000<N) {d:Int} {lots:List qP} {holds:List qG} (o:OKS d lots holds) (ya dy:Str): ∀(K i:Nat),i<=lots.length->lots.length<K+i->
 qhj N ⟨d,lots,holds⟩ ya dy K (toI (FI lots holds ya dy i)) (qdZ (fN lots holds) (FI lots holds ya dy i)) (i:Int)=some (toI (FI lots holds ya dy lots.length),qdZ (fN lots holds) (FI lots holds ya dy lots.length))
 |0,i,h,hK=>by omega
 |K+1,i,h,hK=>by
  have hll:=o.ll
  have hhl:=o.hl
  unfold qhj
  simp only
  by_cases hi:i<lots.length
  ·have hx:lots[i]? =some lots[i]:=Ya hi
   have hg:=qyd (holds:=holds) hx
   have hin:=qng o i
   have hm:mat lots ya dy i=(lots[i].Yarn==ya&&lots[i].Dye==dy):=by unfold mat;rw[hx]
   have hrec:=qAQ hN o ya dy K (i+1) (by omega) (by omega)
   have hs:=qoo (fun k=>(qng o k).2) (FI lots holds ya dy i)
   have hs0:=qqx (fun k=>(qng o k).1) (FI lots holds ya dy i)
   have hlen:=qDR (lots:=lots) (holds:=holds) (ya:=ya) (dy:=dy) (i:=i)
   have hl2:=qhU (FI lots holds ya dy i)
   rw[FI_up,hm]at hrec
   rw[if_pos (by omega),yM,hx]
   rw[hg]at hrec hin
   generalize lots[i]=x at*
   simp only[ZB,free_eq hN (show holds.length<=300 by omega)]
   rw[qe5 (by omega)]
   have skip:(x.Yarn==ya&&x.Dye==dy&&decide (frE holds x>0))=false->qhj N ⟨d,lots,holds⟩ ya dy K (toI (FI lots holds ya dy i)) (qdZ (fN lots holds) (FI lots holds ya dy i)) ((i+1:Nat):Int)=some (toI (FI lots holds ya dy lots.length),qdZ (fN lots holds) (FI lots holds ya dy lots.length)):=by
    intro c
    rw[c,if_neg (by decide),YQ]at hrec
    exact hrec
   cases c:(x.Yarn==ya)with
   |false=>
    rw[c]at skip
    rw[if_neg (by decide)]
    simp only[ZB,ZF,if_false]
    exact skip rfl
   |true=>
    rw[c]at skip hrec
    rw[if_pos rfl]
    cases e:(x.Dye==dy)with
    |false=>
     rw[e]at skip
     simp only[ZB,ZF,if_false]
     exact skip rfl
    |true=>
     rw[e]at skip hrec
     simp only[ZB,if_true]
     by_cases g:frE holds x>0
     ·rw[decide_eq_true g]at hrec
      rw[decide_eq_true g,if_pos rfl,qrH (by simp only[Yr,List.length_nil];omega) (by simp only[Yr,List.length_nil];omega)]
      simp only[ZB]
      rw[qiB (by omega) (by omega)]
      simp only[Bool.and_self,if_true]at hrec
      rw[qzs,qpK]at hrec
      simp only[qdZ,hg,Int.add_zero]at hrec
      exact hrec
     rw[decide_eq_false g]at skip
     rw[decide_eq_false g]
     simp only[ZB,ZF,if_false]
     exact skip rfl
  have e:i=lots.length:=by omega
  subst e
  rw[if_neg (by omega)]
theorem qxM {N:Nat} (hN:2000<N) {d:Int} {lots:List qP} {holds:List qG} (o:OKS d lots holds) (ya dy:Str): ∀(K i:Nat) (c:Int),i<=lots.length->lots.length<K+i->
 ∃c',qic N ⟨d,lots,holds⟩ ya dy K c (qdZ (fN lots holds) (MI lots ya dy i)) (i:Int)=some (c',qdZ (fN lots holds) (MI lots ya dy lots.length))
 |0,i,c,h,hK=>by omega
 |K+1,i,c,h,hK=>by
  have hll:=o.ll
  have hhl:=o.hl
  unfold qic
  simp only
  by_cases hi:i<lots.length
  ·have hx:lots[i]? =some lots[i]:=Ya hi
   have hg:=qyd (holds:=holds) hx
   have hin:=qng o i
   have hm:mat lots ya dy i=(lots[i].Yarn==ya&&lots[i].Dye==dy):=by unfold mat;rw[hx]
   have hrec:=fun c=>qxM hN o ya dy K (i+1) c (by omega) (by omega)
   have hs:=qoo (fun k=>(qng o k).2) (MI lots ya dy i)
   have hs0:=qqx (fun k=>(qng o k).1) (MI lots ya dy i)
   have hlen:=qxf (lots:=lots) (ya:=ya) (dy:=dy) (i:=i)
   rw[qB9,hm]at hrec
   rw[if_pos (by omega),yM,hx]
   rw[hg]at hin
   generalize lots[i]=x at*
   simp only[ZB,free_eq hN (show holds.length<=300 by omega)]
   rw[qe5 (by omega)]
   cases g:(x.Yarn==ya)with
   |false=>
    rw[g]at hrec
    rw[if_neg (by decide)]
    simp only[ZB,ZF,if_false]
    simp only[Bool.false_and,ZF,if_false,YQ]at hrec
    exact hrec c
   |true=>
    rw[g]at hrec
    rw[if_pos rfl]
    simp only[ZB]
    cases e:(x.Dye==dy)with
    |false=>
     rw[e]at hrec
     simp only[Bool.and_false,ZF,if_false,YQ]at hrec
     simp only[ZF,if_false,ZB]
     exact hrec c
    |true=>
     rw[e]at hrec
     simp only[Bool.and_self,if_true,qpK,qdZ,hg,Int.add_zero]at hrec
     simp only[if_true,ZB]
     rw[qiB (n:=qdZ (fN lots holds) (MI lots ya dy i)+frE holds x) (by omega) (by omega)]
     exact hrec _
  have e:i=lots.length:=by omega
  subst e
  rw[if_neg (by omega)]
  exact⟨c,rfl⟩
def sel {α:Type}:List α->Nat->List α
 |[],_=>[]
 |x::t,m=>if m%2=1 then x::sel t (m/2)else sel t (m/2)
theorem quz {α:Type}: ∀(l:List α) (m:Nat),(sel l m).Sublist l
 |[],_=> .slnil
 |x::t,m=>by
  unfold sel
  split
  ·exact(quz t _).cons_cons x
  exact(quz t _).cons x
theorem qCB {α:Type} {w l:List α} (h:w.Sublist l): ∃m,m<2^l.length/\sel l m=w:=by
 induction h with
 |slnil=>exact⟨0,Nat.two_pow_pos _,rfl⟩
 |cons x _ ih=>
  obtain⟨m,h1,h2⟩:=ih
  refine⟨2*m,by rw[Yr,Nat.pow_succ];omega,?_⟩
  unfold sel
  rw[if_neg (by omega),show 2*m/2=m by omega,h2]
 |cons_cons x _ ih=>
  obtain⟨m,h1,h2⟩:=ih
  refine⟨2*m+1,by rw[Yr,Nat.pow_succ];omega,?_⟩
  unfold sel
  rw[if_pos (by omega),show(2*m+1)/2=m by omega,h2]
theorem qzq {N:Nat} (hN:2000<N) {d:Int} {lots:List qP} {holds:List qG} (o:OKS d lots holds) {F:List Nat} (hF: ∀k∈F,k<lots.length) (h8:F.length<=8) {m:Nat} (hm:m<2^F.length) {amount:Int} (a0:0<=amount) (a1:amount<=999999999): ∀(K t:Nat) (l:List Nat),t<=F.length->F.length<K+t->l.length<=t->
 qh1 N ⟨d,lots,holds⟩ (toI F) (m:Int) K (toI l) (amount-qdZ (fN lots holds) l) (t:Int)=some (toI (l++sel (F.drop t) (m/2^t)),amount-qdZ (fN lots holds) (l++sel (F.drop t) (m/2^t)))
 |0,t,l,h,hK,hlt=>by omega
 |K+1,t,l,h,hK,hlt=>by
  have hll:=o.ll
  have hhl:=o.hl
  have hlI:=qhU F
  have hlI2:=qhU l
  unfold qh1
  simp only
  by_cases ht:t<F.length
  ·have hp:=(qzj h8).2
   have hk:=hF _ (List.getElem_mem ht)
   have hx:(toI F)[t]? =some ((F[t]:Nat):Int):=by unfold toI;rw[YA,Ya ht];rfl
   have hkx:lots[F[t]]? =some lots[F[t]]:=Ya hk
   have hg:=qyd (holds:=holds) hkx
   have hin:=qng o F[t]
   have hs:=qoo (fun k=>(qng o k).2) l
   have hs0:=qqx (fun k=>(qng o k).1) l
   have hq:m/2^t<256:=Nat.lt_of_le_of_lt (Nat.div_le_self _ _) (by omega)
   have hsh:=qCH (m:=m) (k:=t) (by omega) (by omega)
   have hnn:(0:Int)<=((m/2^t:Nat):Int):=Int.natCast_nonneg _
   have hdiv:m/2^t/2=m/2^(t+1):=by rw[Nat.div_div_eq_div_mul,Nat.pow_succ]
   rw[if_pos (by omega),yM,hx,qk5 ht]
   rw[hsh]
   simp only[ZB,qBr hq]
   rw[Int.tmod_eq_emod_of_nonneg hnn,qe5 (by omega)]
   unfold sel
   rw[hdiv]
   by_cases c:m/2^t%2=1
   ·have hrec:=qzq hN o hF h8 hm a0 a1 K (t+1) (l++[F[t]]) (by omega) (by omega) (by simp;omega)
    rw[if_pos (by omega),if_pos c,qrH (by simp only[Yr,List.length_nil];omega) (by simp only[Yr,List.length_nil];omega)]
    simp only[ZB,yM,hkx,free_eq hN (show holds.length<=300 by omega)]
    rw[hg]at hin
    rw[qiB (by omega) (by omega)]
    rw[qzs,qpK]at hrec
    simp only[qdZ,hg,Int.add_zero,Yz,List.singleton_append]at hrec
    rw[show amount-qdZ (fN lots holds) l-frE holds lots[F[t]]=amount-(qdZ (fN lots holds) l+frE holds lots[F[t]])by omega]
    exact hrec
   rw[if_neg (by omega),if_neg c]
   simp only[ZB]
   exact qzq hN o hF h8 hm a0 a1 K (t+1) l (by omega) (by omega) (by omega)
  rw[if_neg (by omega),List.drop_eq_nil_of_le (by omega)]
  unfold sel
  rw[YQ]
theorem qwR {N:Nat} (hN:2000<N) {d:Int} {lots:List qP} {holds:List qG} (o:OKS d lots holds) {F:List Nat} (hF: ∀k∈F,k<lots.length) (h8:F.length<=8) {amount:Int} (a0:0<=amount) (a1:amount<=999999999): ∀(K m:Nat) (p:List Nat),m<=2^F.length->2^F.length<K+m->p.Sublist F->amount<=qdZ (fN lots holds) p->
 ∃q:List Nat,qif N ⟨d,lots,holds⟩ amount (toI F) ((2^F.length:Nat):Int) K (toI p) (m:Int)=some (toI q)/\q.Sublist F/\amount<=qdZ (fN lots holds) q/\q.length<=p.length/\ ∀m',m<=m'->m'<2^F.length->amount<=qdZ (fN lots holds) (sel F m')->q.length<=(sel F m').length
 |0,m,p,hm,hK,hp,hs=>by omega
 |K+1,m,p,hm,hK,hp,hs=>by
  have hpw:=qzj h8
  unfold qif
  by_cases c:m<2^F.length
  ·have hset:=qzq hN o hF h8 c a0 a1 N 0 [] (Nat.zero_le _) (by omega) (Nat.le_refl _)
   rw[show((0:Nat):Int)=0 from rfl,Nat.pow_zero,Nat.div_one,YR,List.nil_append]at hset
   simp only[qdZ,Int.sub_zero]at hset
   rw[show toI []=[]from rfl]at hset
   have hwl:=(quz F m).length_le
   have hpl:=hp.length_le
   rw[if_pos (by omega),hset]
   simp only[ZB]
   by_cases e:amount<=qdZ (fN lots holds) (sel F m)
   ·rw[if_neg (by omega),qzG,ZB,qCy hN (by rw[qhU];omega) (by rw[qhU];omega),ZB,qBV hN (by simp),ZB,qe5 (by omega)]
    by_cases g:qfr [qAn ((toI (sel F m)).length:Int) ((toI p).length:Int),qwf (toI (sel F m)) (toI p)]<0
    ·rw[if_pos g,ZB]
     rw[qBW]at g
     obtain⟨q,q1,q2,q3,q4,q5⟩:=qwR hN o hF h8 a0 a1 K (m+1) (sel F m) (by omega) (by omega) (quz F m) e
     have hle:(sel F m).length<=p.length:=by
      unfold ltW at g
      rw[qhU,qhU]at g
      omega
     refine⟨q,q1,q2,q3,by omega,fun m' h1 h2 h3=>?_⟩
     by_cases z:m'=m
     ·subst z;exact q4
     exact q5 m' (by omega) h2 h3
    rw[if_neg g,ZB]
    rw[qBW]at g
    obtain⟨q,q1,q2,q3,q4,q5⟩:=qwR hN o hF h8 a0 a1 K (m+1) p (by omega) (by omega) hp hs
    have hle:p.length<=(sel F m).length:=by
     unfold ltW at g
     rw[qhU,qhU]at g
     omega
    refine⟨q,q1,q2,q3,q4,fun m' h1 h2 h3=>?_⟩
    by_cases z:m'=m
    ·subst z;omega
    exact q5 m' (by omega) h2 h3
   rw[if_pos (by omega),ZB,qe5 (by omega)]
   obtain⟨q,q1,q2,q3,q4,q5⟩:=qwR hN o hF h8 a0 a1 K (m+1) p (by omega) (by omega) hp hs
   refine⟨q,q1,q2,q3,q4,fun m' h1 h2 h3=>?_⟩
   by_cases z:m'=m
   ·subst z;exact absurd h3 e
   exact q5 m' (by omega) h2 h3
  rw[if_neg (by omega)]
  exact⟨p,rfl,hp,hs,Nat.le_refl _,fun m' h1 h2 _=>by omega⟩
end Go.Av
end
section
namespace Go.Av
open Go.Proofs Go.RowKit
variable [Glob]
def qxp (f:Nat->Int):List (Bool×Nat)->Int
 |[]=>0
 |z::t=>(if z.1=true then f z.2 else 0)+qxp f t
def pkZ (Z:List (Bool×Nat)):List Nat:=(Z.filter fun z=>z.1).map fun z=>z.2
def gZ (f:Nat->Int) (z:Bool×Nat):Int:=if z.1=true then 0 else f z.2
theorem zset (f:Nat->Int): ∀(Z:List (Bool×Nat)) (r:Nat) (z:Bool×Nat),Z[r]? =some z->qxp f (Z.set r (true,z.2))=qxp f Z+gZ f z/\(pkZ (Z.set r (true,z.2))).length<=(pkZ Z).length+1/\(Z.set r (true,z.2)).map (fun z=>z.2)=Z.map (fun z=>z.2)
 |[],r,z,h=>by simp at h
 |y::Z,0,z,h=>by
  obtain rfl:y=z:=by simpa using h
  obtain⟨b,k⟩:=y
  cases b<;>simp[qxp,gZ,pkZ]
  omega
 |y::Z,r+1,z,h=>by
  obtain⟨h1,h2,h3⟩:=zset f Z r z (by simpa using h)
  refine⟨?_,?_,?_⟩
  ·simp only[List.set_cons_succ,qxp,h1];omega
  ·unfold pkZ at h2⊢
   rw[List.set_cons_succ,List.filter_cons,List.filter_cons]
   split<;>simp at h2⊢ <;>omega
  simp only[List.set_cons_succ,List.map_cons,h3]
theorem quJ (f:Nat->Int): ∀Z:List (Bool×Nat),qxp f Z=qdZ f (pkZ Z)
 |[]=>rfl
 |y::Z=>by
  have:=quJ f Z
  unfold pkZ at this⊢
  obtain⟨b,k⟩:=y
  cases b with
  |true=>simp[qxp,qdZ,this]
  |false=>simp[qxp,this]
theorem qCD (Z:List (Bool×Nat)):(pkZ Z).Sublist (Z.map fun z=>z.2):=List.filter_sublist.map _
theorem ix_L {l:List Int} (hl:l.length<=100): ∀(K i b:Nat),i<=l.length->l.length<K+i->b<l.length-> ∃r:Nat,qcR l K (b:Int) (i:Int)=some (r:Int)/\r<l.length
 |0,i,b,h,hK,hb=>by omega
 |K+1,i,b,h,hK,hb=>by
  unfold qcR
  by_cases hi:i<l.length
  ·rw[if_pos (by omega),yM,Ya hi,ZB,yM,Ya hb,ZB,qe5 (by omega)]
   by_cases c:l[i]>l[b]
   ·rw[if_pos c,ZB]
    exact ix_L hl K (i+1) i (by omega) (by omega) hi
   rw[if_neg c,ZB]
   exact ix_L hl K (i+1) b (by omega) (by omega) hb
  rw[if_neg (by omega)]
  exact⟨b,rfl,hb⟩
theorem qu7 {N:Nat} (hN:2000<N) {f:Nat->Int} (hf: ∀k,0<=f k/\f k<=999999999) {r16:List Int×Int} (hr:r16.1.length<=100) (hr1:1<=r16.1.length) {M:List Nat} (hM:M.length<=100): ∀(K i:Nat) (Z:List (Bool×Nat)),i+1<=r16.1.length->r16.1.length<K+i->Z.map (fun z=>z.2)=M->(pkZ Z).length<=i->
 ∃p:List Nat,qea N r16 K (Z.map (gZ f)) (qxp f Z) (i:Int)=some (qdZ f p)/\p.Sublist M/\p.length+1<=r16.1.length
 |0,i,Z,h,hK,hZ,hp=>by omega
 |K+1,i,Z,h,hK,hZ,hp=>by
  have hzl:Z.length=M.length:=by rw[<-hZ,List.length_map]
  have hcap:=qoo (fun k=>(hf k).2) (pkZ Z)
  have hnn:=qqx (fun k=>(hf k).1) (pkZ Z)
  rw[<-quJ]at hcap hnn
  unfold qea
  rw[qiB (n:=(r16.1.length:Int)-1) (by omega) (by omega)]
  by_cases hi:i+1<r16.1.length
  ·rw[if_pos (by omega)]
   by_cases e:Z.length=0
   ·have hZ0:Z=[]:=YL.1 e
    subst hZ0
    have h3:qcR [] N 0 0=some 0:=by
     obtain⟨n,rfl⟩: ∃n,N=n+1:=⟨N-1,by omega⟩
     rfl
    rw[show List.map (gZ f) []=[]from rfl,h3,ZB,if_neg (by simp),ZB,qe5 (by omega)]
    exact qu7 hN hf hr hr1 hM K (i+1) [] (by omega) (by omega) hZ (by simp[pkZ])
   obtain⟨r,g1,g2⟩:=ix_L (l:=Z.map (gZ f)) (by rw[List.length_map];omega) N 0 0 (by omega) (by rw[List.length_map];omega) (by rw[List.length_map];omega)
   rw[show((0:Nat):Int)=0 from rfl]at g1
   rw[List.length_map]at g2
   have hz:Z[r]? =some Z[r]:=Ya g2
   obtain⟨s1,s2,s3⟩:=zset f Z r _ hz
   have hgin:0<=gZ f Z[r]/\gZ f Z[r]<=999999999:=by
    unfold gZ
    split
    ·exact⟨Int.le_refl _,by decide⟩
    exact hf _
   rw[g1,ZB,if_pos (by rw[List.length_map];omega),yM,YA,hz]
   simp only[ZM,ZB]
   rw[qwQ (by rw[List.length_map];omega)]
   simp only[ZB]
   rw[qiB (by omega) (by omega),qe5 (by omega),<-s1]
   have hset:(Z.map (gZ f)).set r 0=(Z.set r (true,Z[r].2)).map (gZ f):=by
    rw[List.map_set]
    rfl
   rw[hset]
   exact qu7 hN hf hr hr1 hM K (i+1) _ (by omega) (by omega) (by rw[s3];exact hZ) (by omega)
  rw[if_neg (by omega)]
  refine⟨pkZ Z,by rw[quJ],?_,by omega⟩
  rw[<-hZ]
  exact qCD Z
theorem qzN {N:Nat} (hN:2000<N) {d:Int} {lots:List qP} {holds:List qG} (o:OKS d lots holds) (a:qvz): ∀(K i:Nat),i<=lots.length->lots.length<K+i->
 qex N a ⟨d,lots,holds⟩ K ((MI lots a.Yarn a.Dye i).map (fN lots holds)) (i:Int)=some ((MI lots a.Yarn a.Dye lots.length).map (fN lots holds))
 |0,i,h,hK=>by omega
 |K+1,i,h,hK=>by
  have hll:=o.ll
  have hhl:=o.hl
  unfold qex
  simp only
  by_cases hi:i<lots.length
  ·have hx:lots[i]? =some lots[i]:=Ya hi
   have hg:=qyd (holds:=holds) hx
   have hm:mat lots a.Yarn a.Dye i=(lots[i].Yarn==a.Yarn&&lots[i].Dye==a.Dye):=by unfold mat;rw[hx]
   have hrec:=qzN hN o a K (i+1) (by omega) (by omega)
   have hlen:=qxf (lots:=lots) (ya:=a.Yarn) (dy:=a.Dye) (i:=i)
   have hst:=(qnF (o.lk i _ hx)).1
   have hr:=qxV hN (show holds.length<=300 by omega) d hx hst
   rw[qB9,hm,List.map_append]at hrec
   rw[if_pos (by omega),yM,hx]
   generalize lots[i]=x at*
   simp only[ZB,hr]
   rw[qe5 (by omega)]
   cases g:(x.Yarn==a.Yarn)with
   |false=>
    rw[g]at hrec
    rw[if_neg (by decide)]
    simp only[ZB,ZF,if_false]
    simp only[Bool.false_and,ZF,if_false,List.map_nil,YQ]at hrec
    exact hrec
   |true=>
    rw[g]at hrec
    rw[if_pos rfl]
    simp only[ZB]
    cases e:(x.Dye==a.Dye)with
    |false=>
     rw[e]at hrec
     simp only[Bool.and_false,ZF,if_false,List.map_nil,YQ]at hrec
     simp only[ZF,if_false,ZB]
     exact hrec
    |true=>
     rw[e]at hrec
     simp only[Bool.and_self,if_true,List.map_cons,List.map_nil,hg]at hrec
     simp only[if_true,ZB]
     rw[qrH (by simp;omega) (by simp;omega),ZB]
     exact hrec
  have e:i=lots.length:=by omega
  subst e
  rw[if_neg (by omega)]
theorem qv4 {N:Nat} (hN:2000<N) {d:Int} {lots:List qP} {holds:List qG} (o:OKS d lots holds) {k:Nat} {x:qP} (hx:lots[k]? =some x) {n:Int} (n1:1<=n) (n2:n<=frE holds x) (n3:n<=999999999):
 ∃r:Int,qn8 N ⟨d,lots,holds⟩ ⟨knV,d,x.Name,n,[],[],[102,117,114,116,104,101,114]⟩=some (r,0)/\(r=0\/r=4\/r=5):=by
 have hl:=qtc o.lk (Yn hx)
 have ek:qx3 ⟨knV,d,x.Name,n,[],[],[102,117,114,116,104,101,114]⟩:=⟨.inr (.inl rfl),o.d,qA9 ⟨n1,n3⟩,hl.1,fun h=>absurd h (show¬knV=knR by decide),fun _=>⟨show qcg [102,117,114,116,104,101,114]=true by decide,rfl,rfl⟩⟩
 have es:ShE ⟨knV,d,x.Name,n,[],[],[102,117,114,116,104,101,114]⟩:=⟨show knV.length<=60 by decide,by have:=qn2 hl.1;show x.Name.length<=60;omega,by simp,by simp,show[102,117,114,116,104,101,114].length<=60 by decide⟩
 refine⟨qB1 d lots holds ⟨knV,d,x.Name,n,[],[],[102,117,114,116,104,101,114]⟩,?_,?_⟩
 ·unfold qn8
  rw[(qwM hN o).1,ZB,ychkE hN es,ZB,qAg.2 ek,qpM hN (by simp),ZB,if_neg (by decide),qBg hN o ek,ZB]
 have ha:=qCv o.lk holds (e:=⟨knV,d,x.Name,n,[],[],[102,117,114,116,104,101,114]⟩) hx rfl
 unfold qB1
 rw[if_neg (show¬d<d by omega),ha]
 rw[if_neg (show¬qwv _ _=false by unfold qwv;rw[if_neg (show¬knV=knR by decide)];simp)]
 rw[if_neg (show¬qui knV _ n=false by unfold qui;rw[if_neg (show¬knV=knR by decide),if_pos rfl];simp;exact n2)]
 split
 ·exact .inr (.inl rfl)
 split
 ·exact .inr (.inr rfl)
 exact .inl rfl
def quh (f:Nat->Int) (q:List Nat):Int:=(q.getLast?.map f).getD 0
theorem qyi {N:Nat} (hN:2000<N) {d:Int} {lots:List qP} {holds:List qG} (o:OKS d lots holds) (a:qvz) (a1:1<=a.Amount) (a2:a.Amount<=999999999) (z:Int) {q:List Nat} (hq: ∀k∈q,k<lots.length/\mat lots a.Yarn a.Dye k=true/\0<fN lots holds k) (hs:q.Pairwise (· < ·)) (hql:q.length<=100): ∀(K i:Nat),i<=q.length->q.length<K+i->
 qen N ⟨d,lots,holds⟩ a (toI q,z) K (i:Int) (qdZ (fN lots holds) (q.take i)) (quh (fN lots holds) (q.take i))=some (.inl (qdZ (fN lots holds) q,quh (fN lots holds) q))
 |0,i,h,hK=>by omega
 |K+1,i,h,hK=>by
  have hll:=o.ll
  have hhl:=o.hl
  have hlI:=qhU q
  unfold qen
  simp only
  by_cases hi:i<q.length
  ·obtain⟨k1,k2,k3⟩:=hq _ (List.getElem_mem hi)
   have hx:(toI q)[i]? =some ((q[i]:Nat):Int):=by unfold toI;rw[YA,Ya hi];rfl
   have hkx:lots[q[i]]? =some lots[q[i]]:=Ya k1
   have hg:=qyd (holds:=holds) hkx
   obtain⟨f1,f2,f3⟩:=qAS hN o hkx
   have hcap:=qoo (fun k=>(qng o k).2) (q.take i)
   have hnn:=qqx (fun k=>(qng o k).1) (q.take i)
   have htl:(q.take i).length=i:=by rw[Ym];omega
   rw[htl]at hcap
   have hin:=qng o q[i]
   have hprev:(if(i:Int)>0 then(idx (toI q) (w64 ((i:Int)-1))).bind fun x39=>if((q[i]:Nat):Int)<=x39 then some true else(idx lots ((q[i]:Nat):Int)).bind fun x41=>if(!(x41.Yarn==a.Yarn))=true then some true else some (!(x41.Dye==a.Dye))
    else(idx lots ((q[i]:Nat):Int)).bind fun x43=>if(!(x43.Yarn==a.Yarn))=true then some true else some (!(x43.Dye==a.Dye)):Option Bool)=some false:=by
    have hm:(lots[q[i]].Yarn==a.Yarn&&lots[q[i]].Dye==a.Dye)=true:=by
     unfold mat at k2
     rw[hkx]at k2
     exact k2
    have hm2:(lots[q[i]].Yarn==a.Yarn)=true/\(lots[q[i]].Dye==a.Dye)=true:=by simpa using hm
    have hY:((idx lots ((q[i]:Nat):Int)).bind fun x43=>if(!(x43.Yarn==a.Yarn))=true then some true else some (!(x43.Dye==a.Dye)))=some false:=by
     rw[yM,hkx,ZB,hm2.1,hm2.2]
     rfl
    by_cases c:i=0
    ·rw[if_neg (by omega)]
     exact hY
    have hlt:q[i-1]<q[i]:=List.pairwise_iff_getElem.1 hs (i-1) i (by omega) hi (by omega)
    have hx2:(toI q)[i-1]? =some ((q[i-1]:Nat):Int):=by unfold toI;rw[YA,Ya (show i-1<q.length by omega)];rfl
    rw[if_pos (by omega),qu3 (by omega) (by omega),yM,hx2,ZB,if_neg (by omega)]
    exact hY
   obtain⟨r,l1,l2⟩:=qv4 hN o hkx (n:=if(if a.Amount<frE holds lots[q[i]]then a.Amount else frE holds lots[q[i]])>1 then(if a.Amount<frE holds lots[q[i]]then a.Amount else frE holds lots[q[i]])else 1) (by repeat' split;all_goals omega) (by repeat' split;all_goals omega) (by repeat' split;all_goals omega)
   have hb:(if(!decide ((r,(0:Int)).2=0))=true then some (w64 (qdZ (fN lots holds) (q.take i)+(frE holds lots[q[i]],(0:Int)).1),true)else if(!decide ((r,(0:Int)).1=0))=true then if(!decide ((r,(0:Int)).1=4))=true then some (w64 (qdZ (fN lots holds) (q.take i)+(frE holds lots[q[i]],(0:Int)).1),!decide ((r,(0:Int)).1=5))else some (w64 (qdZ (fN lots holds) (q.take i)+(frE holds lots[q[i]],(0:Int)).1),false)else some (w64 (qdZ (fN lots holds) (q.take i)+(frE holds lots[q[i]],(0:Int)).1),false):Option (Int×Bool))=some (qdZ (fN lots holds) (q.take i)+frE holds lots[q[i]],false):=by
    rw[qiB (by simp only;omega) (by simp only;omega)]
    rcases l2 with rfl|rfl|rfl<;>rfl
   rw[if_pos (by omega),yM,hx,ZB,if_neg (by omega),if_neg (by omega),hprev,ZB,if_neg (by decide),yM,hkx,ZB,f1,ZB,if_neg (by simp)]
   simp only
   rw[l1,ZB,hb,ZB]
   simp only
   rw[if_neg (by decide),qe5 (by omega)]
   have hrec:=qyi hN o a a1 a2 z hq hs hql K (i+1) (by omega) (by omega)
   have htk:q.take (i+1)=q.take i++[q[i]]:=List.take_succ_eq_append_getElem hi
   rw[htk,qpK]at hrec
   simp only[qdZ,hg,Int.add_zero]at hrec
   have hla:quh (fN lots holds) (q.take i++[q[i]])=frE holds lots[q[i]]:=by
    unfold quh
    rw[List.getLast?_append]
    simp[hg]
   rw[hla]at hrec
   exact hrec
  have e:i=q.length:=by omega
  rw[if_neg (by omega),e,List.take_length]
theorem qy6 (f:Nat->Int): ∀q:List Nat,qdZ f q-quh f q=qdZ f q.dropLast
 |[]=>rfl
 |x::t=>by
  have e:x::t=(x::t).dropLast++[(x::t).getLast (by simp)]:=(List.dropLast_concat_getLast (by simp)).symm
  have h1:qdZ f (x::t)=qdZ f (x::t).dropLast+f ((x::t).getLast (by simp)):=by
   conv=>lhs;rw[e]
   rw[qpK]
   simp[qdZ]
  have h2:quh f (x::t)=f ((x::t).getLast (by simp)):=by
   unfold quh
   rw[List.getLast?_eq_some_getLast (by simp)]
   rfl
  omega
theorem qDu {lots:List qP} {holds:List qG} {ya dy:Str} {n:Nat}:(FI lots holds ya dy n).Pairwise (· < ·):=(List.pairwise_lt_range.filter _).filter _
theorem qAB {N:Nat} (hN:2000<N) {d:Int} {lots:List qP} {holds:List qG} (o:OKS d lots holds) {ya dy:Str} {am:Int} (hdy:qgl N ⟨d,lots,holds⟩ ya dy=some 0) (a1:1<=am) (a2:am<=999999999):
 ∃l f,qol N ⟨d,lots,holds⟩ ya dy am=some (l,f)/\(f=22\/(f=32/\qdZ (fN lots holds) (FI lots holds ya dy lots.length)<am)\/
  (f=0/\ ∃q:List Nat,l=toI q/\q.Sublist (FI lots holds ya dy lots.length)/\q.length<=8/\am<=qdZ (fN lots holds) q/\ ∀p:List Nat,p.Sublist (FI lots holds ya dy lots.length)->am<=qdZ (fN lots holds) p->q.length<=p.length)):=by
 have hfit:=qAQ hN o ya dy N 0 (Nat.zero_le _) (by have:=o.ll;omega)
 have hll:=o.ll
 rw[show FI lots holds ya dy 0=[]from rfl,show toI []=[]from rfl,show((0:Nat):Int)=0 from rfl]at hfit
 simp only[qdZ]at hfit
 have hFin: ∀k∈FI lots holds ya dy lots.length,k<lots.length:=fun k hk=>(qDo hk).1
 unfold qol
 rw[hdy,ZB,qok,qA9 ⟨show 0<=am by omega,a2⟩,ZB,if_neg (by decide),qpM hN (by simp),ZB,if_neg (by decide),hfit,ZB]
 simp only
 generalize FI lots holds ya dy lots.length=F at*
 rw[qhU,qfb,ZB,qfb,ZB,qpM hN (by simp),ZB]
 by_cases g:(F.length:Int)>8
 ·have h26:qfr [if decide ((F.length:Int)>8)=true then 22 else 0,if decide (qdZ (fN lots holds) F<am)=true then 32 else 0]=22:=by
   rw[decide_eq_true g]
   rfl
  rw[h26,if_pos (by decide)]
  exact⟨_,_,rfl,.inl rfl⟩
 have h8:F.length<=8:=by omega
 by_cases q:qdZ (fN lots holds) F<am
 ·have h26:qfr [if decide ((F.length:Int)>8)=true then 22 else 0,if decide (qdZ (fN lots holds) F<am)=true then 32 else 0]=32:=by
   rw[decide_eq_false g,decide_eq_true q]
   rfl
  rw[h26,if_pos (by decide)]
  exact⟨_,_,rfl,.inr (.inl ⟨rfl,q⟩)⟩
 have h26:qfr [if decide ((F.length:Int)>8)=true then 22 else 0,if decide (qdZ (fN lots holds) F<am)=true then 32 else 0]=0:=by
  rw[decide_eq_false g,decide_eq_false q]
  rfl
 have hpw:=qzj h8
 rw[h26,if_neg (by decide),qBK (by rw[qhU];exact h8),ZB,qCV h8,ZB]
 obtain⟨r,r1,r2,r3,r4,r5⟩:=qwR hN o hFin h8 (show 0<=am by omega) a2 N 0 F (Nat.zero_le _) (by omega) (List.Sublist.refl _) (by omega)
 rw[show((0:Nat):Int)=0 from rfl]at r1
 rw[r1,ZB]
 refine⟨_,_,rfl,.inr (.inr ⟨rfl,r,rfl,r2,by omega,r3,fun p hp hs=>?_⟩)⟩
 obtain⟨m,m1,m2⟩:=qCB hp
 have:=r5 m (Nat.zero_le _) m1 (by rw[m2];exact hs)
 rwa [m2]at this
theorem qtW {N:Nat} (s:StateT) (a:qvz) (hN:600000+s.Lots.length+s.Holds.length<N) (b1:s.Lots.length*56<=140737488355328) (b2:s.Holds.length*48<=140737488355328):qj3 N s a=some true:=by
 obtain⟨d,lots,holds⟩:=s
 simp only at hN b1 b2
 have hN2:2000<N:=by omega
 unfold qj3 awk
 have hcp:qk6 N ⟨d,lots,holds⟩=some ⟨d,lots,holds⟩:=qAi (s:=⟨d,lots,holds⟩) (show lots.length<N by omega) (show holds.length<N by omega) b1 b2
 rw[hcp,ZB]
 obtain⟨b,hb,hsh⟩:=qAA hN2 10 d lots holds
 rw[hb,ZB]
 cases b with
 |false=>rfl
 |true=>
  obtain⟨hl,hh,sl,sh⟩:=hsh rfl
  rw[if_neg (by decide)]
  simp only
  by_cases t0:(lots.length:Int)>10
  ·rw[if_pos t0];rfl
  by_cases t1:(a.Yarn.length:Int)>60
  ·rw[if_neg t0,if_pos t1];rfl
  by_cases t2:(a.Dye.length:Int)>60
  ·rw[if_neg t0,if_neg t1,if_pos t2];rfl
  rw[if_neg t0,if_neg t1,if_neg t2]
  obtain⟨e,e1,e2,e3⟩:=qvL hN2 d hl hh sl sh
  rw[e2,ZB]
  by_cases z: ¬e=0
  ·rw[if_pos (by simp[z])];rfl
  have z:e=0:=by simpa using z
  have o:=e3.1 z
  have hask:qhQ N a=some (qyU a.Yarn a.Dye):=qDx hN2 (ya:=a.Yarn) (dy:=a.Dye) a.Amount (by omega) (by omega)
  have hdy:=qCw hN2 e1 (ya:=a.Yarn) (dy:=a.Dye) (by omega) (by omega)
  rw[if_neg (by simp[z]),hask,ZB]
  by_cases y: ¬qyU a.Yarn a.Dye=0
  ·rw[if_pos (by simp[y])];rfl
  have y:qyU a.Yarn a.Dye=0:=by simpa using y
  rw[z,y]at hdy
  have hdy:qgl N ⟨d,lots,holds⟩ a.Yarn a.Dye=some 0:=hdy
  rw[if_neg (by simp[y])]
  by_cases t3:a.Amount<1
  ·rw[if_pos t3];rfl
  by_cases t4:a.Amount>999999999
  ·rw[if_neg t3,decide_eq_true t4];rfl
  rw[if_neg t3,decide_eq_false t4,ZB,if_neg (by decide)]
  obtain⟨l,f,m1,m2⟩:=qAB hN2 o hdy (am:=a.Amount) (by omega) (by omega)
  obtain⟨c',st1⟩:=qxM hN2 o a.Yarn a.Dye N 0 0 (Nat.zero_le _) (by omega)
  rw[show MI lots a.Yarn a.Dye 0=[]from rfl,show((0:Nat):Int)=0 from rfl]at st1
  simp only[qdZ]at st1
  have hst:qod N ⟨d,lots,holds⟩ a.Yarn a.Dye=some (c',qdZ (fN lots holds) (MI lots a.Yarn a.Dye lots.length),0):=by
   unfold qod
   rw[hdy,ZB,if_neg (by decide),st1]
   rfl
  have hpos:qdZ (fN lots holds) (FI lots holds a.Yarn a.Dye lots.length)=qdZ (fN lots holds) (MI lots a.Yarn a.Dye lots.length):=qvd (fun k=>(qng o k).1) _
  rw[m1,ZB,hst,ZB]
  simp only
  rw[if_neg (by decide)]
  rcases m2 with rfl|⟨rfl,g⟩|⟨rfl,q,rfl,q1,q2,q3,q4⟩
  ·rfl
  ·rw[if_pos (by simp),if_neg (by decide),if_pos rfl,if_pos (by rw[<-hpos];exact g)]
   rfl
  have hq: ∀k∈q,k<lots.length/\mat lots a.Yarn a.Dye k=true/\0<fN lots holds k:=fun k hk=>qDo (q1.subset hk)
  have hqs:q.Pairwise (· < ·):=qDu.sublist q1
  have hc:=qyi hN2 o a (by omega) (by omega) 0 hq hqs (by omega) N 0 (Nat.zero_le _) (by omega)
  rw[show((0:Nat):Int)=0 from rfl,List.take_zero]at hc
  rw[show quh (fN lots holds) []=0 from rfl]at hc
  simp only[qdZ]at hc
  have hsp:=qy6 (fN lots holds) q
  have hnn:=qqx (fun k=>(qng o k).1) q.dropLast
  have hcap:=qoo (fun k=>(qng o k).2) q.dropLast
  have hdl:q.dropLast.length=q.length-1:=List.length_dropLast
  have hne:1<=q.length:=by
   cases q with
   |nil=>simp only[qdZ]at q3;omega
   |cons x t=>simp
  have hmin:qdZ (fN lots holds) q.dropLast<a.Amount:=by
   rcases Int.lt_or_le (qdZ (fN lots holds) q.dropLast) a.Amount with h|h
   ·exact h
   have:=q4 q.dropLast ((List.dropLast_sublist q).trans q1) h
   omega
  have hfr:=qzN hN2 o a N 0 (Nat.zero_le _) (by omega)
  rw[show MI lots a.Yarn a.Dye 0=[]from rfl,show((0:Nat):Int)=0 from rfl,List.map_nil]at hfr
  have hml:(MI lots a.Yarn a.Dye lots.length).length<=lots.length:=qxf
  have hZ:((MI lots a.Yarn a.Dye lots.length).map fun k=>(false,k)).map (fun z=>z.2)=MI lots a.Yarn a.Dye lots.length:=by
   rw[List.map_map]
   exact List.map_id _
  have hZp:pkZ ((MI lots a.Yarn a.Dye lots.length).map fun k=>(false,k))=[]:=by
   unfold pkZ
   rw[List.filter_eq_nil_iff.2 (fun z hz=>by obtain⟨k,_,rfl⟩:=List.mem_map.1 hz;simp)]
   rfl
  obtain⟨p,p1,p2,p3⟩:=qu7 hN2 (qng o) (r16:=(toI q,0)) (by rw[qhU];omega) (by rw[qhU];omega) (M:=MI lots a.Yarn a.Dye lots.length) (by omega) N 0 ((MI lots a.Yarn a.Dye lots.length).map fun k=>(false,k)) (by rw[qhU];omega) (by rw[qhU];omega) hZ (by rw[hZp];exact Nat.le_refl _)
  rw[quJ,hZp,show((0:Nat):Int)=0 from rfl,List.map_map]at p1
  rw[show(gZ (fN lots holds)∘fun k=>(false,k))=fN lots holds from rfl]at p1
  rw[qhU]at p3
  have hgre:qdZ (fN lots holds) p<a.Amount:=by
   rcases Int.lt_or_le (qdZ (fN lots holds) p) a.Amount with h|h
   ·exact h
   have h1:(p.filter fun k=>decide (fN lots holds k>0)).Sublist (FI lots holds a.Yarn a.Dye lots.length):=p2.filter _
   have h2:=q4 _ h1 (by rw[qvd (fun k=>(qng o k).1)];exact h)
   have h3:=List.length_filter_le (fun k=>decide (fN lots holds k>0)) p
   omega
  rw[if_neg (by simp),hc,ZB]
  simp only
  rw[if_neg (by omega),hsp,qiB (by omega) (by omega),decide_eq_false (by omega),ZB,if_neg (by decide),hfr,ZB]
  simp only[qdZ]at p1
  rw[p1,ZB,if_pos hgre]
  rfl
end Go.Av
end
