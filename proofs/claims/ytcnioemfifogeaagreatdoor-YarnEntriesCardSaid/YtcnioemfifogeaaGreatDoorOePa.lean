/-
  Names.
-/
import Derived.Test.YtcnioemfifogeaaGreatDoorAvPt
import Derived.Test.YtcnioemfifogeaaGreatDoorQGenA1e
noncomputable section
set_option linter.unusedSimpArgs false
set_option linter.unusedVariables false
set_option maxRecDepth 100000
set_option linter.unusedSectionVars false
section
namespace Go.Av
theorem qhn {s:Str} {k:Nat} {c:UInt8} (h:s[k]? =some c):((⟨s.toArray⟩:ByteArray).get! k)=c:=by
 have hk:=(Yb.1 h).1
 show s.toArray[k]! =c
 rw[getElem!_def]
 simp[h]
theorem qik {s:Str} {k:Nat} {c:UInt8} (h:s[k]? =some c) (hc:c.toNat<128):vL s k=c.toNat/\runeLen s k=1:=by
 have e:=qhn h
 unfold vL runeLen Utf8.decode
 simp only[Nat.add_zero,e,if_pos hc,and_self]
theorem qjK {s:Str} {k:Nat} {c:UInt8} (h:s[k]? =some c) (hc:128<=c.toNat):128<=vL s k:=by
 have e:=qhn h
 unfold vL Utf8.decode
 simp only[Nat.add_zero,e,if_neg (Nat.not_lt.2 hc)]
 have hr:(128:Nat)<=Utf8.runeError:=by decide
 repeat' split
 all_goals first|(simp only[Bool.and_eq_true,decide_eq_true_eq]at*;omega)|(simp;omega)|omega
def qg7 (c:Int):Bool:=(decide (97<=c)&&decide (c<=122))||(decide (65<=c)&&decide (c<=90))
theorem qeY (c:Int):vN c=some (qg7 c):=by
 unfold vN qg7
 by_cases h1:c>=97<;>by_cases h2:c<=122<;>by_cases h3:c>=65<;>by_cases h4:c<=90<;>simp[h1,h2,h3,h4]<;>omega
def qiN (k:Nat) (c:Int):Bool:=!qg7 c&&(decide (k=0)||(!decide (c=95)&&(decide (c<48)||decide (c>57))))
def zm (s:Str):Bool:=decide (1<=s.length)&&decide (s.length<=24)&&!((List.range s.length).any fun k=>qiN k (s.getD k 0).toNat)
theorem qkn {k:Nat} {c:Int} (h:128<=c):qiN k c=true:=by
 unfold qiN qg7
 simp
 omega
def xZ (s:Str) (k:Nat):Bool:=(List.range (s.length-k)).any fun j=>qiN (k+j) (s.getD (k+j) 0).toNat
theorem qev {s:Str} {k:Nat} {c:UInt8} (h:s[k]? =some c):xZ s k=(qiN k c.toNat||xZ s (k+1)):=by
 have hk:=(Yb.1 h).1
 unfold xZ
 rw[show s.length-k=(s.length-(k+1))+1 by omega,List.range_succ_eq_map,List.any_cons,List.any_map]
 congr 1
 ·simp[List.getD,h]
 congr 1
 funext j
 simp only[Function.comp,Nat.succ_eq_add_one]
 rw[show k+(j+1)=k+1+j by omega]
theorem qe1 {s:Str} {k:Nat} (h:s.length<=k):xZ s k=false:=by
 unfold xZ
 rw[show s.length-k=0 by omega]
 rfl
theorem qgn (s:Str): ∀(K k:Nat),k<=s.length->s.length<K+k->jh s K k=some (if xZ s k then .inr false else .inl ())
 |0,k,h,hK=>by omega
 |K+1,k,h,hK=>by
  unfold jh
  by_cases hk:k<s.length
  ·have hc:s[k]? =some s[k]:=Ya hk
   rw[if_pos hk,qeY,qev hc]
   by_cases ha:(s[k]).toNat<128
   ·obtain⟨e1,e2⟩:=qik hc ha
    rw[e1,e2,qgn s K (k+1) (by omega) (by omega)]
    have ek:((k:Int)=0)↔k=0:=by omega
    unfold qiN
    generalize ((s[k]).toNat:Int)=c
    cases hl:qg7 c<;>by_cases h0:k=0<;>by_cases h1:c=95<;>by_cases h2:c<48<;>by_cases h3:57<c<;>
     simp[hl,h0,h1,h2,h3]
   have hw:=qjK hc (by omega)
   rw[qkn (show(128:Int)<=((s[k]).toNat:Int)by omega)]
   have hl:qg7 (vL s k)=false:=by unfold qg7;simp;omega
   have h1: ¬vL s k=95:=by omega
   have h2: ¬vL s k<48:=by omega
   have h3:vL s k>57:=by omega
   have ek:((k:Int)=0)↔k=0:=by omega
   simp only[hl,ZB,Bool.not_false,if_true,h1,h2,h3,decide_true,decide_false,if_false,Bool.true_or,ek]
   by_cases h0:k=0
   ·simp only[h0,if_true,ZB]
   simp only[h0,if_false,ZB,if_true]
  rw[if_neg hk,qe1 (by omega)]
  rfl
theorem qhl (s:Str):zm s=(decide (1<=s.length)&&decide (s.length<=24)&&!xZ s 0):=by
 unfold zm xZ
 simp
theorem qgI {N:Nat} {s:Str} (h:s.length<N):yT N s=some (zm s):=by
 unfold yT
 rw[qgn s N 0 (Nat.zero_le _) (by omega),qhl]
 cases hb:xZ s 0
 ·cases s with
  |nil=>simp
  |cons x xs=>
   have e:((x::xs)==([]:Str))=false:=rfl
   simp only[ZB,ZF,if_false,e,Bool.not_false,if_true,Bool.and_true,ZI]
   have:(1<=(x::xs).length):=by simp
   rw[Bool.eq_iff_iff]
   simp only[decide_eq_true_eq,Bool.and_eq_true,this,true_and]
   omega
 simp
theorem qfN (s:Str) (hs:s.length<4611686018427387904): ∀(K k:Nat),k<=s.length->s.length<K+k->jW s K (k:Int)=some (if xZ s k then .inr false else .inl ())
 |0,k,h,hK=>by omega
 |K+1,k,h,hK=>by
  unfold jW
  by_cases hk:k<s.length
  ·have hc:s[k]? =some s[k]:=Ya hk
   rw[if_pos (by omega),qO,hc,qev hc,jU (by omega),qfN s hs K (k+1) (by omega) (by omega)]
   simp only[ZB]
   have ek:((k:Int)=0)↔k=0:=by omega
   unfold qiN
   generalize ((s[k]).toNat:Int)=c
   rw[show(if c>=97 then if c<=122 then some true else if c>=65 then some (decide (c<=90))else some false else if c>=65 then some (decide (c<=90))else some false:Option Bool)=some (qg7 c)from by
    have:=qeY c
    unfold vN at this
    rw[<-this]
    cases(if c>=97 then if c<=122 then some true else if c>=65 then some (decide (c<=90))else some false else if c>=65 then some (decide (c<=90))else some false:Option Bool)<;>rfl]
   simp only[ZB,ek]
   cases qg7 c
   ·by_cases h5:k=0
    ·simp[h5]
    by_cases h6:c>=48
    ·by_cases h7:c<=57
     ·have a1: ¬c<48:=by omega
      have a2: ¬c>57:=by omega
      simp[h5,h6,h7,a1,a2]
     have a1: ¬c<48:=by omega
     have a2:c>57:=by omega
     by_cases h8:c=95<;>simp[h5,h6,h7,h8,a1,a2]
    have a1:c<48:=by omega
    by_cases h8:c=95<;>simp[h5,h6,h8,a1]
   simp
  rw[if_neg (by omega),qe1 (by omega)]
  rfl
theorem xh {N:Nat} {s:Str} (h:s.length<N) (hs:s.length<4611686018427387904):ja N s=some (zm s):=by
 unfold ja
 rw[show(0:Int)=((0:Nat):Int)from rfl,qfN s hs N 0 (Nat.zero_le _) (by omega),qhl]
 by_cases h1:s.length<1
 ·rw[if_pos (by omega)]
  simp[show¬1<=s.length by omega]
 by_cases h2:s.length>24
 ·rw[if_neg (by omega)]
  simp only[ZB,show((s.length:Int)>24)by omega,decide_true,if_true,show¬s.length<=24 by omega,decide_false,Bool.and_false,Bool.false_and]
 rw[if_neg (by omega)]
 simp only[ZB,show¬((s.length:Int)>24)by omega,decide_false,ZF,if_false,show 1<=s.length by omega,show s.length<=24 by omega,decide_true,Bool.true_and]
 cases hb:xZ s 0<;>rfl
end Go.Av
end
section
namespace Go.Av
def zt:List Int->Int
 |[]=>0
 |a::l=>if a=0 then zt l else a
theorem qao {α:Type} {l:List α} {i:Nat} (h:i<l.length):l.drop i=l[i]::l.drop (i+1):=List.drop_eq_getElem_cons h
theorem qk0 {l:List Int} (hl:l.length<=1000): ∀(K i:Nat),i<=l.length->l.length<K+i->vZ l K (i:Int)=some (if zt (l.drop i)=0 then .inl ()else .inr (zt (l.drop i)))
 |0,i,h,hK=>by omega
 |K+1,i,h,hK=>by
  unfold vZ
  by_cases hi:i<l.length
  ·rw[if_pos (by omega),qO,Ya hi,ZB,qao hi]
   unfold zt
   by_cases c:l[i]=0
   ·rw[if_neg (by simp[c]),if_pos c,jU (by omega)]
    exact qk0 hl K (i+1) (by omega) (by omega)
   rw[if_pos (by simp[c]),if_neg c,if_neg c]
  rw[if_neg (by omega),List.drop_eq_nil_of_le (by omega)]
  rfl
theorem qci {N:Nat} {l:List Int} (hN:2000<N) (hl:l.length<=1000):zF N l=some (zt l):=by
 unfold zF
 rw[show(0:Int)=((0:Nat):Int)from rfl,qk0 hl N 0 (by omega) (by omega),YR]
 by_cases c:zt l=0
 ·rw[if_pos c,ZB,c]
  rfl
 rw[if_neg c,ZB]
theorem qkK {l:List Int} (hl:l.length<=1000): ∀(K i:Nat),i<=l.length->l.length<K+i->vE l K (i:Int)=some (if zt (l.drop i)=0 then .inl ()else .inr (zt (l.drop i)))
 |0,i,h,hK=>by omega
 |K+1,i,h,hK=>by
  unfold vE
  by_cases hi:i<l.length
  ·rw[if_pos (by omega),qO,Ya hi,ZB,qao hi]
   unfold zt
   by_cases c:l[i]=0
   ·rw[if_neg (by simp[c]),if_pos c,jU (by omega)]
    exact qkK hl K (i+1) (by omega) (by omega)
   rw[if_pos (by simp[c]),if_neg c,if_neg c]
  rw[if_neg (by omega),List.drop_eq_nil_of_le (by omega)]
  rfl
theorem lfst {N:Nat} {l:List Int} (hN:2000<N) (hl:l.length<=1000):xS N l=some (zt l):=by
 unfold xS
 rw[show(0:Int)=((0:Nat):Int)from rfl,qkK hl N 0 (by omega) (by omega),YR]
 by_cases c:zt l=0
 ·rw[if_pos c,ZB,c]
  rfl
 rw[if_neg c,ZB]
theorem qmh {l:List Int} (hl:l.length<=1000): ∀(K i:Nat),i<=l.length->l.length<K+i->vX l K (i:Int)=some (if zt (l.drop i)=0 then .inl ()else .inr (zt (l.drop i)))
 |0,i,h,hK=>by omega
 |K+1,i,h,hK=>by
  unfold vX
  by_cases hi:i<l.length
  ·rw[if_pos (by omega),qO,Ya hi,ZB,qao hi]
   unfold zt
   by_cases c:l[i]=0
   ·rw[if_neg (by simp[c]),if_pos c,jU (by omega)]
    exact qmh hl K (i+1) (by omega) (by omega)
   rw[if_pos (by simp[c]),if_neg c,if_neg c]
  rw[if_neg (by omega),List.drop_eq_nil_of_le (by omega)]
  rfl
theorem qm8 {N:Nat} {l:List Int} (hN:2000<N) (hl:l.length<=1000):qbj N l=some (zt l):=by
 unfold qbj
 rw[show(0:Int)=((0:Nat):Int)from rfl,qmh hl N 0 (by omega) (by omega),YR]
 by_cases c:zt l=0
 ·rw[if_pos c,ZB,c]
  rfl
 rw[if_neg c,ZB]
theorem jc (b:Bool) (e:Int):zw b e=some (if b=true then e else 0):=by
 unfold zw
 cases b<;>rfl
theorem qjX (b:Bool) (e:Int):qbA b e=some (if b=true then e else 0):=by
 unfold qbA
 cases b<;>rfl
def vJ (n a b:Int):Bool:=decide (n<a)||decide (b<n)
theorem qds (n a b:Int):yR n a b=some (vJ n a b):=by
 unfold yR vJ
 by_cases c:n<a
 ·rw[if_pos c,decide_eq_true c]
  rfl
 rw[if_neg c,decide_eq_false c,Bool.false_or]
 rfl
theorem qb7 (n a b:Int):j5 n a b=some (if vJ n a b=true then 3 else 0):=by
 unfold j5 vJ
 by_cases c:n<a
 ·rw[if_pos c,jc,decide_eq_true c]
  rfl
 rw[if_neg c,jc,decide_eq_false c,Bool.false_or]
 rfl
theorem qbh {N:Nat} {s:Str} (h:s.length<N):vU N s=some (if zm s=true then 0 else 8):=by
 unfold vU
 rw[qgI h,ZB,jc,ZB]
 cases zm s<;>rfl
def qcM (s:Str):Bool:=s==[]||zm s
theorem qi1 {N:Nat} {s:Str} (h:s.length<N):yP N s=some (if qcM s=true then 0 else 8):=by
 unfold yP qcM
 cases c:(s==[]:Bool)with
 |true=>
  rw[if_neg (by simp),jc]
  rfl
 |false=>
  rw[if_pos (by simp),qgI h,ZB,jc,Bool.false_or]
  cases zm s<;>rfl
theorem qhg {N:Nat} {s:Str} (h:s.length<N) (hs:s.length<=100000):xN N s=some (qcM s):=by
 unfold xN qcM
 cases c:(s==[]:Bool)with
 |true=>rfl
 |false=>
  rw[if_neg (by simp),xh h (by omega),Bool.false_or]
  rfl
theorem qas: ∀a b:Str,Lib.compareBytes a b=if ltL a b=true then-1 else if(a==b)=true then 0 else 1
 |[],[]=>rfl
 |[],_::_=>rfl
 |_::_,[]=>rfl
 |a::x,b::y=>by
  unfold Lib.compareBytes
  by_cases h1:a<b
  ·rw[if_pos h1,if_pos (by simp[ltL,h1])]
  rw[if_neg h1]
  by_cases h2:b<a
  ·have hne:a≠b:=fun e=>by subst e;exact h1 h2
   have l:ltL (a::x) (b::y)=false:=by simp[ltL,h1,hne]
   rw[if_pos h2,l,if_neg (by simp),if_neg (by simp[hne])]
  have hab:a=b:=by
   have g1:=UInt8.not_lt.1 h1
   have g2:=UInt8.not_lt.1 h2
   exact UInt8.le_antisymm g2 g1
  subst hab
  rw[if_neg h2,qas x y]
  have l:ltL (a::x) (a::y)=ltL x y:=by simp[ltL,h1]
  rw[l]
  by_cases e:x=y
  ·subst e
   simp
  have e1:(x==y)=false:=beq_false_of_ne e
  have e2:((a::x)==(a::y))=false:=beq_false_of_ne (fun h=>e (List.cons.inj h).2)
  rw[e1,e2]
def qcF:Option qj->qj->Bool
 |none,_=>false
 |some x,l=>ltL l.Name x.Name||l.Name==x.Name
def qaT (prev:Option qj) (l:qj):Int:=if(zm l.Name&&zm l.Yarn&&qcM l.Dye)=true then if qcF prev l=true then 11 else if vJ l.Stock 0 999999999=true then 3 else 0 else 8
def jb {α:Type} (l:List α) (i:Nat):Option α:=if i=0 then none else l[i-1]?
theorem qgp {lots:List qj} {i:Nat} {x:qj} (h:i<=lots.length) (hl:lots.length<=1000):((if((lots.take i).length:Int)>0 then(idx (lots.take i) (w64 (((lots.take i).length:Int)-1))).bind fun x2=>some (ltL x.Name x2.Name||x.Name==x2.Name)else some false:Option Bool))=some (qcF (jb lots i) x):=by
 have e:(lots.take i).length=i:=by rw[Ym];omega
 rw[e]
 unfold jb
 by_cases c:i=0
 ·rw[if_neg (by omega),if_pos c]
  rfl
 rw[if_pos (by omega),if_neg c,qg1 (by omega) (by omega),qO,List.getElem?_take_of_lt (by omega),Ya (show i-1<lots.length by omega),ZB]
 rfl
theorem qhX {N:Nat} (hN:2000<N) {lots:List qj} {i:Nat} {x:qj} (h:i<=lots.length) (hl:lots.length<=1000) (h1:x.Name.length<=1000) (h2:x.Yarn.length<=1000) (h3:x.Dye.length<=1000):xC N x (lots.take i)=some (qaT (jb lots i) x):=by
 unfold xC
 rw[qgp h hl,ZB,qbh (by omega),ZB,qbh (by omega),ZB,qi1 (by omega),ZB,jc,ZB,qb7,ZB,qci hN (by simp),ZB]
 unfold qaT
 congr 1
 cases zm x.Name<;>cases zm x.Yarn<;>cases qcM x.Dye<;>cases qcF (jb lots i) x<;>cases vJ x.Stock 0 999999999<;>rfl
def ShL (lots:List qj):Prop:= ∀l∈lots,l.Name.length<=60/\l.Yarn.length<=60/\l.Dye.length<=60
theorem qgC {N:Nat} (hN:2000<N) {lots:List qj} (day:Int) (holds:List qd) (hl:lots.length<=100) (hs:ShL lots): ∀(K i:Nat),i<=lots.length->lots.length<K+i->
 ∃r,zG N lots K (i:Int)=some r/\zD N ⟨day,lots,holds⟩ K (i:Int)=some r/\(∀e,r= .inr e->e≠0)/\(r= .inl ()↔ ∀(j:Nat) (x:qj),i<=j->lots[j]? =some x->qaT (jb lots j) x=0)
 |0,i,h,hK=>by omega
 |K+1,i,h,hK=>by
  unfold zG zD
  simp only
  by_cases hi:i<lots.length
  ·have hx:lots[i]? =some lots[i]:=Ya hi
   obtain⟨s1,s2,s3⟩:=hs _ (List.getElem_mem hi)
   generalize lots[i]=x at*
   have href:((if(i:Int)>0 then(idx lots (w64 ((i:Int)-1))).bind fun x18=>some (ltL x.Name x18.Name||x.Name==x18.Name)else some false:Option Bool))=some (qcF (jb lots i) x):=by
    have:=qgp (x:=x) h (by omega:lots.length<=1000)
    have e:(lots.take i).length=i:=by rw[Ym];omega
    rw[e]at this
    by_cases c:i=0
    ·rw[if_neg (by omega)]at this⊢
     exact this
    rw[if_pos (by omega),qg1 (by omega) (by omega),qO]at this⊢
    rw[List.getElem?_take_of_lt (by omega)]at this
    exact this
   rw[if_pos (by omega),if_pos (by omega),qO,hx,ZB,ZB,qer (by omega),ZB,qhX hN h (by omega) (by omega) (by omega) (by omega),ZB,xh (by omega) (by omega),href]
   have hrec:=qgC hN day holds hl hs K (i+1) (by omega) (by omega)
   rw[jU (by omega)]
   by_cases hz:qaT (jb lots i) x=0
   ·obtain⟨r,r1,r2,r3,r4⟩:=hrec
    refine⟨r,?_,?_,r3,fun hr j y hj hy=>?_,fun hall=>r4.2 fun j y hj hy=>hall j y (by omega) hy⟩
    ·rw[if_neg (by simp[hz])]
     exact r1
    ·unfold qaT at hz
     cases n1:zm x.Name<;>cases n2:zm x.Yarn<;>cases n3:qcM x.Dye<;>cases n4:qcF (jb lots i) x<;>cases n5:vJ x.Stock 0 999999999<;>rw[n1,n2,n3,n4,n5]at hz<;>(first|(exact absurd hz (by decide))|skip)
     rw[ZB,if_neg (by simp),xh (by omega) (by omega),ZB,n2,if_neg (by simp),qhg (by omega) (by omega),n3,ZB,ZB,if_neg (by simp),ZB,if_neg (by simp),qds,n5,ZB,if_neg (by simp)]
     exact r2
    by_cases c:j=i
    ·subst c
     rw[hx]at hy
     obtain rfl:=Ye hy
     exact hz
    exact r4.1 hr j y (by omega) hy
   refine⟨.inr (qaT (jb lots i) x),?_,?_,fun e he=>by cases he;exact hz,fun c=>(by cases c),fun hall=>absurd (hall i x (Nat.le_refl _) hx) hz⟩
   ·rw[if_pos (by simp[hz])]
   unfold qaT at hz⊢
   rw[xh (s:=x.Yarn) (by omega) (by omega),qhg (by omega) (by omega),qds]
   cases n1:zm x.Name<;>cases n2:zm x.Yarn<;>cases n3:qcM x.Dye<;>cases n4:qcF (jb lots i) x<;>cases n5:vJ x.Stock 0 999999999<;>rw[n1,n2,n3,n4,n5]at hz<;>first|rfl|exact absurd rfl hz
  rw[if_neg (by omega),if_neg (by omega)]
  exact⟨.inl (),rfl,rfl,fun e he=>(by cases he),fun _ j x hj hx=>(by
   have:=(Yb.1 hx).1
   omega),fun _=>rfl⟩
end Go.Av
end
section
namespace Go.Av
theorem qg5 (n:Int):w64 n=(if n%18446744073709551616<9223372036854775808 then n%18446744073709551616 else n%18446744073709551616-18446744073709551616):=by
 show IntKind.wrap .i64 n=_
 unfold IntKind.wrap
 have e:(2:Int)^IntKind.i64.bits=18446744073709551616:=by decide
 have e2:(2:Int)^(IntKind.i64.bits-1)=9223372036854775808:=by decide
 have e3:IntKind.i64.signed=true:=by decide
 simp only[e,e2,e3,Bool.true_and,ge_iff_le,decide_eq_true_eq]
 split<;>split<;>omega
theorem qkQ {lots:List qj} {name:Str} (hl:lots.length<=100) (day:Int) (holds:List qd) (a2:Str) (a3 a4:Int): ∀(K i:Nat),i<=lots.length->lots.length<K+i->
 (qD lots name a2 a3 a4 K (i:Int)=some (.inl ())/\kg ⟨day,lots,holds⟩ name K (i:Int)=some (.inl ())/\ ∀(j:Nat) x,i<=j->lots[j]? =some x->x.Name≠name)\/
 (∃(j:Nat) (x:qj),qD lots name a2 a3 a4 K (i:Int)=some (.inr (j:Int))/\kg ⟨day,lots,holds⟩ name K (i:Int)=some (.inr (j:Int))/\lots[j]? =some x/\x.Name=name)
 |0,i,h,hK=>by omega
 |K+1,i,h,hK=>by
  unfold qD kg jO
  simp only
  by_cases hi:i<lots.length
  ·have hx:lots[i]? =some lots[i]:=Ya hi
   rw[if_pos (by omega),if_pos (by omega),qO,hx,ZB,ZB,ZB]
   generalize lots[i]=x at*
   by_cases e:x.Name=name
   ·have e1:(x.Name==name)=true:=by rw[e];exact beq_self_eq_true _
    rw[if_pos e1,if_pos e1]
    exact .inr ⟨i,x,rfl,rfl,hx,e⟩
   have e1: ¬(x.Name==name)=true:=by simpa using e
   rw[if_neg e1,if_neg e1,jU (by omega)]
   rcases qkQ hl day holds a2 a3 a4 K (i+1) (by omega) (by omega)with⟨r1,r2,r3⟩|r
   ·refine .inl ⟨r1,r2,fun j y hj hy=>?_⟩
    by_cases c:j=i
    ·subst c
     rw[hx]at hy
     obtain rfl:=Ye hy
     exact e
    exact r3 j y (by omega) hy
   exact .inr r
  rw[if_neg (by omega),if_neg (by omega)]
  exact .inl ⟨rfl,rfl,fun j x hj hx=>by
   have:=(Yb.1 hx).1
   omega⟩
def knB (lots:List qj) (name:Str):Bool:=lots.any fun x=>x.Name==name
theorem qlt {lots:List qj} {name:Str} {j:Nat} {x:qj} (h:lots[j]? =some x) (e:x.Name=name):knB lots name=true:=by
 unfold knB
 rw[List.any_eq_true]
 exact⟨x,Yn h,by rw[e];exact beq_self_eq_true _⟩
theorem qkw {lots:List qj} {name:Str} (h: ∀(j:Nat) x,lots[j]? =some x->x.Name≠name):knB lots name=false:=by
 unfold knB
 rw[List.any_eq_false]
 intro x hx
 obtain⟨j,hj,rfl⟩:=List.getElem_of_mem hx
 have:=h j _ (Ya hj)
 simpa using this
theorem qiP {N:Nat} (hN:2000<N) {lots:List qj} (hl:lots.length<=100) (day:Int) (holds:List qd) (name a2:Str) (a3 a4:Int): ∃(p:Int),zy N lots name a2 a3 a4=some (knB lots name)/\qK N ⟨day,lots,holds⟩ name=some p/\decide (p<0)=!knB lots name:=by
 unfold zy jP qK
 rcases qkQ (name:=name) hl day holds a2 a3 a4 N 0 (by omega) (by omega)with⟨r1,r2,r3⟩|⟨j,x,r1,r2,r3,r4⟩
 ·rw[show((0:Nat):Int)=0 from rfl]at r1 r2
  rw[r1,r2,qkw fun j x hx=>r3 j x (Nat.zero_le _) hx]
  exact⟨-1,rfl,rfl,rfl⟩
 rw[show((0:Nat):Int)=0 from rfl]at r1 r2
 rw[r1,r2,qlt r3 r4]
 refine⟨(j:Int),?_,rfl,?_⟩
 ·simp only[ZB]
  rw[decide_eq_true (by omega)]
 rw[decide_eq_false (by omega)]
 rfl
def qiH (a b:qd):Bool:=!(ltL a.Lot b.Lot||a.Lot==b.Lot)||(a.Lot==b.Lot&&!(ltL a.Order b.Order||a.Order==b.Order))
theorem qgB (a b:qd):yn a b=some (qiH a b):=by
 unfold yn qiH
 cases ltL a.Lot b.Lot<;>cases(a.Lot==b.Lot)<;>rfl
theorem qh3 {a b:Str}:(Lib.compareBytes a b<0)=(ltL a b=true):=by
 rw[qas]
 by_cases h:ltL a b=true
 ·rw[if_pos h]
  exact propext ⟨fun _=>h,fun _=>by decide⟩
 rw[if_neg h]
 by_cases e:(a==b)=true
 ·rw[if_pos e]
  exact propext ⟨fun c=>absurd c (by decide),fun c=>absurd c h⟩
 rw[if_neg e]
 exact propext ⟨fun c=>absurd c (by decide),fun c=>absurd c h⟩
theorem ql3 {N:Nat} (hN:2000<N) (a b:qd): ∃c,jQ N a b=some c/\decide (c<=0)=!qiH a b:=by
 unfold jQ qiC
 rw[ZB,ZB,qm8 hN (by simp),ZB]
 refine⟨_,rfl,?_⟩
 rw[qas a.Lot b.Lot,qas a.Order b.Order]
 unfold qiH
 by_cases e:a.Lot=b.Lot
 ·rw[e,yK,beq_self_eq_true]
  cases ltL a.Order b.Order<;>cases(a.Order==b.Order)<;>rfl
 have e1:(a.Lot==b.Lot)=false:=beq_false_of_ne e
 rw[e1]
 cases ltL a.Lot b.Lot<;>rfl
def qdT:Option qd->qd->Bool
 |none,_=>false
 |some x,h=>!qiH h x
def qai (kn:Bool) (prev:Option qd) (h:qd):Int:=if kn=true then if zm h.Order=true then if qdT prev h=true then 11 else if(vJ h.Reserved 0 999999999||vJ h.Taken 0 999999999)=true then 3 else if(decide (h.Reserved=0)&&decide (h.Taken=0))=true then 6 else 0 else 8 else 10
def ShH (holds:List qd):Prop:= ∀h∈holds,h.Lot.length<=60/\h.Order.length<=60
theorem qfp {N:Nat} (hN:2000<N) {lots:List qj} (day:Int) {holds:List qd} (hl:lots.length<=100) (hh:holds.length<=300) (hs:ShH holds): ∀(K i:Nat),i<=holds.length->holds.length<K+i->
 ∃r,zB N holds day lots holds K (i:Int)=some r/\zH N ⟨day,lots,holds⟩ K (i:Int)=some r/\(∀e,r= .inr e->e≠0)/\(r= .inl ()↔ ∀(j:Nat) (x:qd),i<=j->holds[j]? =some x->qai (knB lots x.Lot) (jb holds j) x=0)
 |0,i,h,hK=>by omega
 |K+1,i,h,hK=>by
  unfold zB zH
  simp only
  by_cases hi:i<holds.length
  ·have hx:holds[i]? =some holds[i]:=Ya hi
   obtain⟨s1,s2⟩:=hs _ (List.getElem_mem hi)
   generalize holds[i]=x at*
   have e:(holds.take i).length=i:=by rw[Ym];omega
   obtain⟨p,k1,k2,k3⟩:=qiP hN hl day holds x.Lot x.Order x.Reserved x.Taken
   obtain⟨kn,hkn⟩: ∃kn,kn=knB lots x.Lot:=⟨_,rfl⟩
   rw[<-hkn]at k1 k3
   have lateP:((if((holds.take i).length:Int)>0 then(idx (holds.take i) (w64 (((holds.take i).length:Int)-1))).bind fun x3=>(jQ N x x3).bind fun r4=>some (decide (r4<=0))else some false:Option Bool))=some (qdT (jb holds i) x):=by
    rw[e]
    unfold jb
    by_cases c:i=0
    ·rw[if_neg (by omega),if_pos c]
     rfl
    obtain⟨q,q1,q2⟩:=ql3 hN x holds[i-1]
    rw[if_pos (by omega),if_neg c,qg1 (by omega) (by omega),qO,List.getElem?_take_of_lt (by omega),Ya (show i-1<holds.length by omega),ZB,q1,ZB,q2]
    rfl
   have lateR:((if(i:Int)>0 then(idx holds (w64 ((i:Int)-1))).bind fun x35=>(yn x x35).bind fun r36=>some (!r36)else some false:Option Bool))=some (qdT (jb holds i) x):=by
    unfold jb
    by_cases c:i=0
    ·rw[if_neg (by omega),if_pos c]
     rfl
    rw[if_pos (by omega),if_neg c,qg1 (by omega) (by omega),qO,Ya (show i-1<holds.length by omega),ZB,qgB,ZB]
    rfl
   have hP:jg N x (holds.take i) day lots holds=some (qai kn (jb holds i) x):=by
    unfold jg
    rw[k1,ZB,lateP,ZB,jc,ZB,qbh (by omega),ZB,jc,ZB,qb7,ZB,qb7,ZB]
    unfold qai
    by_cases z:x.Reserved=0
    ·rw[if_pos z,jc,ZB,qci hN (by simp),ZB,ZB,decide_eq_true z]
     simp only
     congr 1
     cases kn<;>cases zm x.Order<;>cases qdT (jb holds i) x<;>cases vJ x.Reserved 0 999999999<;>cases vJ x.Taken 0 999999999<;>cases decide (x.Taken=0)<;>rfl
    rw[if_neg z,jc,ZB,qci hN (by simp),ZB,ZB,decide_eq_false z]
    simp only
    congr 1
    cases kn<;>cases zm x.Order<;>cases qdT (jb holds i) x<;>cases vJ x.Reserved 0 999999999<;>cases vJ x.Taken 0 999999999<;>cases decide (x.Taken=0)<;>rfl
   have hrec:=qfp hN day hl hh hs K (i+1) (by omega) (by omega)
   have zT:((if x.Reserved=0 then some (decide (x.Taken=0))else some false:Option Bool))=some (decide (x.Reserved=0)&&decide (x.Taken=0)):=by
    by_cases z:x.Reserved=0
    ·rw[if_pos z,decide_eq_true z]
     rfl
    rw[if_neg z,decide_eq_false z]
    rfl
   rw[if_pos (by omega),if_pos (by omega),qO,hx,ZB,ZB,qer (by omega),ZB,hP,ZB,k2,ZB,lateR,zT,jU (by omega)]
   obtain⟨r,r1,r2,r3,r4⟩:=hrec
   simp only[xh (show x.Order.length<N by omega) (show x.Order.length<4611686018427387904 by omega),qds,ZB]
   have k4:(p<0)=(kn=false):=by
    cases kn
    ·exact propext ⟨fun _=>rfl,fun _=>of_decide_eq_true k3⟩
    exact propext ⟨fun c=>absurd c (of_decide_eq_false k3),fun c=>by cases c⟩
   simp only[k4]
   have hall: ∀{P:Prop},qai kn (jb holds i) x≠0->(∀(j:Nat) (x:qd),i<=j->holds[j]? =some x->qai (knB lots x.Lot) (jb holds j) x=0)->P:=fun hz h=>absurd (hkn▸h i x (Nat.le_refl _) hx) hz
   have hrest:qai kn (jb holds i) x=0->(r= .inl ()↔ ∀(j:Nat) (x:qd),i<=j->holds[j]? =some x->qai (knB lots x.Lot) (jb holds j) x=0):=fun hz=>⟨fun hr j y hj hy=>by
    by_cases c:j=i
    ·subst c
     rw[hx]at hy
     obtain rfl:=Ye hy
     rw[<-hkn]
     exact hz
    exact r4.1 hr j y (by omega) hy,fun h=>r4.2 fun j y hj hy=>h j y (by omega) hy⟩
   unfold qai at hall hrest⊢
   cases n1:kn<;>cases n2:zm x.Order<;>cases n3:qdT (jb holds i) x<;>cases n4:vJ x.Reserved 0 999999999<;>cases n5:vJ x.Taken 0 999999999<;>cases n6:(decide (x.Reserved=0)&&decide (x.Taken=0))<;>rw[n1,n2,n3,n4,n5,n6]at hall hrest<;>
    first
     |exact⟨.inr 10,rfl,rfl,fun e he=>(by cases he;decide),fun c=>(by cases c),hall (by decide)⟩
     |exact⟨.inr 8,rfl,rfl,fun e he=>(by cases he;decide),fun c=>(by cases c),hall (by decide)⟩
     |exact⟨.inr 11,rfl,rfl,fun e he=>(by cases he;decide),fun c=>(by cases c),hall (by decide)⟩
     |exact⟨.inr 3,rfl,rfl,fun e he=>(by cases he;decide),fun c=>(by cases c),hall (by decide)⟩
     |exact⟨.inr 6,rfl,rfl,fun e he=>(by cases he;decide),fun c=>(by cases c),hall (by decide)⟩
     |exact⟨r,r1,r2,r3,hrest rfl⟩
  rw[if_neg (by omega),if_neg (by omega)]
  exact⟨.inl (),rfl,rfl,fun e he=>(by cases he),fun _ j x hj hx=>(by have:=(Yb.1 hx).1;omega),fun _=>rfl⟩
def qjM (name:Str):List qd->Int->Int
 |[],a=>a
 |h::t,a=>qjM name t (if(h.Lot==name)=true then w64 (a+h.Reserved)else a)
def frE (holds:List qd) (x:qj):Int:=w64 (x.Stock-qjM x.Name holds 0)
theorem qlG {holds:List qd} (hh:holds.length<=300) (day:Int) (lots:List qj) (name:Str): ∀(K i:Nat) (a:Int),i<=holds.length->holds.length<K+i->kr ⟨day,lots,holds⟩ name K (i:Int) a=some (qjM name (holds.drop i) a)
 |0,i,a,h,hK=>by omega
 |K+1,i,a,h,hK=>by
  unfold kr
  simp only
  by_cases hi:i<holds.length
  ·rw[if_pos (by omega),qO,Ya hi,ZB,qao hi,jU (by omega)]
   unfold qjM
   by_cases e:(holds[i].Lot==name)=true
   ·rw[if_pos e,ZB,if_pos e]
    exact qlG hh day lots name K (i+1) _ (by omega) (by omega)
   rw[if_neg e,ZB,if_neg e]
   exact qlG hh day lots name K (i+1) _ (by omega) (by omega)
  rw[if_neg (by omega),List.drop_eq_nil_of_le (by omega)]
  rfl
theorem free_eq {N:Nat} (hN:2000<N) {holds:List qd} (hh:holds.length<=300) (day:Int) (lots:List qj) (x:qj):vM N ⟨day,lots,holds⟩ x=some (frE holds x):=by
 unfold vM yg
 have:=qlG hh day lots x.Name N 0 0 (by omega) (by omega)
 rw[YR,show((0:Nat):Int)=0 from rfl]at this
 rw[this]
 rfl
theorem qgW {holds:List qd} (hh:holds.length<=300) (day:Int) {lots:List qj} {x:qj} {n:Nat} (hx:lots[n]? =some x) (S:Int): ∀(K i:Nat) (a b:Int),i<=holds.length->holds.length<K+i->w64 b=w64 (S-a)-> -9223372036854775808<=b->b<=9223372036854775807->zJ ⟨day,lots,holds⟩ (n:Int) K b (i:Int)=some (w64 (S-qjM x.Name (holds.drop i) a))
 |0,i,a,b,h,hK,hab,hb1,hb2=>by omega
 |K+1,i,a,b,h,hK,hab,hb1,hb2=>by
  unfold zJ
  simp only
  by_cases hi:i<holds.length
  ·rw[if_pos (by omega),qO,Ya hi,ZB,qao hi,jU (by omega),qO,hx,ZB]
   unfold qjM
   by_cases e:(holds[i].Lot==x.Name)=true
   ·rw[if_pos e,ZB,if_pos e]
    generalize holds[i].Reserved=R
    refine qgW hh day hx S K (i+1) _ _ (by omega) (by omega) ?_ (by rw[qg5];omega) (by rw[qg5];omega)
    simp only[qg5]at hab⊢
    omega
   rw[if_neg e,ZB,if_neg e]
   exact qgW hh day hx S K (i+1) _ _ (by omega) (by omega) hab hb1 hb2
  rw[if_neg (by omega),List.drop_eq_nil_of_le (by omega)]
  show some b=some (w64 (S-a))
  rw[<-hab,qaV hb1 hb2]
theorem qhq {N:Nat} (hN:2000<N) {holds:List qd} (hh:holds.length<=300) (day:Int) {lots:List qj} {x:qj} {n:Nat} (hx:lots[n]? =some x) (h0:vJ x.Stock 0 999999999=false):vz N ⟨day,lots,holds⟩ (n:Int)=some (frE holds x):=by
 have hb:0<=x.Stock/\x.Stock<=999999999:=by
  unfold vJ at h0
  rw[Bool.or_eq_false_iff]at h0
  have:=of_decide_eq_false h0.1
  have:=of_decide_eq_false h0.2
  omega
 unfold vz
 simp only
 rw[qO,hx,ZB]
 have:=qgW hh day hx x.Stock N 0 0 x.Stock (by omega) (by omega) (by rw[Int.sub_zero]) (by omega) (by omega)
 rw[YR,show((0:Nat):Int)=0 from rfl]at this
 rw[this]
 rfl
theorem qmm {N:Nat} (hN:2000<N) {lots:List qj} {holds:List qd} (hl:lots.length<=100) (hh:holds.length<=300) (day:Int) (hr: ∀(j:Nat) x,lots[j]? =some x->vJ x.Stock 0 999999999=false): ∀(K i:Nat),i<=lots.length->lots.length<K+i->
 (qC N lots day lots holds K (i:Int)=some (.inl ())/\qX N ⟨day,lots,holds⟩ K (i:Int)=some (.inl ())/\ ∀(j:Nat) x,i<=j->lots[j]? =some x->0<=frE holds x)\/(∃j:Nat,qC N lots day lots holds K (i:Int)=some (.inr (j:Int))/\qX N ⟨day,lots,holds⟩ K (i:Int)=some (.inr 32)/\ ∃x,lots[j]? =some x/\frE holds x<0)
 |0,i,h,hK=>by omega
 |K+1,i,h,hK=>by
  unfold qC qX vI
  simp only
  by_cases hi:i<lots.length
  ·have hx:lots[i]? =some lots[i]:=Ya hi
   rw[if_pos (by omega),if_pos (by omega),qO,hx,ZB,free_eq hN hh,ZB,ZB,qhq hN hh day hx (hr i _ hx),ZB,jU (by omega)]
   by_cases c:frE holds lots[i]<0
   ·rw[if_pos (decide_eq_true c),if_pos c]
    exact .inr ⟨i,rfl,rfl,_,hx,c⟩
   rw[if_neg (fun z=>c (of_decide_eq_true z)),if_neg c]
   rcases qmm hN hl hh day hr K (i+1) (by omega) (by omega)with⟨l1,l2,l3⟩|h
   ·refine .inl ⟨l1,l2,fun j x hj hxj=>?_⟩
    by_cases e:j=i
    ·subst e
     rw[hx]at hxj
     obtain rfl:=Ye hxj
     omega
    exact l3 j x (by omega) hxj
   exact .inr h
  rw[if_neg (by omega),if_neg (by omega)]
  exact .inl ⟨rfl,rfl,fun j x hj hx=>by have:=(Yb.1 hx).1;omega⟩
def qap (lots:List qj):Prop:= ∀(j:Nat) (x:qj),lots[j]? =some x->qaT (jb lots j) x=0
theorem qcz {p:Option qj} {x:qj} (h:qaT p x=0):vJ x.Stock 0 999999999=false/\qcF p x=false:=by
 unfold qaT at h
 cases n1:(zm x.Name&&zm x.Yarn&&qcM x.Dye)<;>cases n4:qcF p x<;>cases n5:vJ x.Stock 0 999999999<;>rw[n1,n4,n5]at h<;>first|(exact absurd h (by decide))|exact⟨rfl,rfl⟩
def qbS (lots:List qj) (holds:List qd):Prop:= ∀(j:Nat) (x:qd),holds[j]? =some x->qai (knB lots x.Lot) (jb holds j) x=0
structure OKS (day:Int) (lots:List qj) (holds:List qd):Prop where
 d:vJ day 0 99999=false
 ll:lots.length<=64
 lk:qap lots
 hl:holds.length<=256
 hk:qbS lots holds
 fr: ∀(j:Nat) (x:qj),lots[j]? =some x->0<=frE holds x
theorem qil {N:Nat} (hN:2000<N) (day:Int) {lots:List qj} {holds:List qd} (hl:lots.length<=100) (hh:holds.length<=300) (sl:ShL lots) (sh:ShH holds): ∃e,vO N ⟨day,lots,holds⟩=some e/\vB N ⟨day,lots,holds⟩=some e/\(e=0↔OKS day lots holds):=by
 unfold vO vB xm yY
 simp only
 rw[qb7,ZB,qds,ZB]
 obtain⟨r,r1,r2,r3,r4⟩:=qgC hN day holds hl sl N 0 (by omega) (by omega)
 obtain⟨q,q1,q2,q3,q4⟩:=qfp hN (lots:=lots) day hl hh sh N 0 (by omega) (by omega)
 rw[show((0:Nat):Int)=0 from rfl]at r1 r2 q1 q2
 by_cases hd:vJ day 0 99999=true
 ·refine⟨3,?_,by rw[if_pos hd],fun h=>(by cases h),fun o=>absurd (hd.symm.trans o.d) (by decide)⟩
  rw[if_pos hd]
  by_cases c:(lots.length:Int)>64
  ·rw[if_pos c,ZB,qci hN (by simp),ZB,if_pos (by decide)]
   rfl
  rw[if_neg c,r1]
  cases r with
  |inl u=>rw[ZB,ZB,qci hN (by simp),ZB,if_pos (by decide)];rfl
  |inr e=>rw[ZB,ZB,qci hN (by simp),ZB,if_pos (show(!decide (zt [3,e]=0))=true from rfl)];rfl
 rw[if_neg hd,if_neg hd]
 by_cases c:(lots.length:Int)>64
 ·refine⟨5,?_,by rw[if_pos c],fun h=>(by cases h),fun o=>absurd o.ll (by omega)⟩
  rw[if_pos c,ZB,qci hN (by simp),ZB,if_pos (by decide)]
  rfl
 rw[if_neg c,if_neg c,r1,r2]
 cases r with
 |inr e=>
  have he:=r3 e rfl
  refine⟨e,?_,rfl,fun h=>absurd h he,fun o=>(by cases r4.2 fun j x _ hx=>o.lk j x hx)⟩
  rw[ZB,ZB,qci hN (by simp),ZB]
  have:zt [0,e]=e:=by
   unfold zt zt
   rw[if_pos rfl,if_neg he]
  rw[this,if_pos (by simp[he])]
 |inl u=>
  have ok:qap lots:=fun j x hx=>r4.1 rfl j x (by omega) hx
  have hst: ∀(j:Nat) x,lots[j]? =some x->vJ x.Stock 0 999999999=false:=fun j x hx=>(qcz (ok j x hx)).1
  rw[ZB,ZB,qci hN (by simp),ZB,if_neg (by decide),ZB]
  simp only
  have low:=qmm hN hl hh day hst N 0 (by omega) (by omega)
  rw[show((0:Nat):Int)=0 from rfl]at low
  have lowB: ∃b:Bool,zC N lots day lots holds=some b/\qX N ⟨day,lots,holds⟩ N 0=some (if b=true then .inr 32 else .inl ())/\(b=false↔ ∀(j:Nat) (x:qj),lots[j]? =some x->0<=frE holds x):=by
   unfold zC jS
   rcases low with⟨l1,l2,l3⟩|⟨j,l1,l2,x,hx,hlow⟩
   ·rw[l1,l2]
    exact⟨false,rfl,rfl,fun _ j x hx=>l3 j x (Nat.zero_le _) hx,fun _=>rfl⟩
   rw[l1,l2]
   refine⟨true,?_,rfl,fun c=>(by cases c),fun h=>absurd (h j x hx) (by omega)⟩
   simp only[ZB]
   rw[decide_eq_true (by omega)]
  obtain⟨b,b1,b2,b3⟩:=lowB
  by_cases g:(holds.length:Int)>256
  ·rw[if_pos g,if_pos g,ZB,b1,ZB,jc,ZB,qci hN (by simp),ZB]
   exact⟨5,rfl,rfl,fun h=>(by cases h),fun o=>absurd o.hl (by omega)⟩
  rw[if_neg g,if_neg g,q1,q2]
  cases q with
  |inr e=>
   have he:=q3 e rfl
   rw[ZB,ZB,b1,ZB,jc,ZB,qci hN (by simp),ZB,ZB]
   refine⟨e,?_,rfl,fun h=>absurd h he,fun o=>(by cases q4.2 fun j x _ hx=>o.hk j x hx)⟩
   unfold zt
   rw[if_neg he]
  |inl u=>
   rw[ZB,ZB,b1,ZB,jc,ZB,qci hN (by simp),ZB,ZB]
   simp only
   rw[b2]
   cases b with
   |false=>exact⟨0,rfl,rfl,fun _=>⟨by simpa using hd,by omega,ok,by omega,fun j x hx=>q4.1 rfl j x (by omega) hx,b3.1 rfl⟩,fun _=>rfl⟩
   |true=>exact⟨32,rfl,rfl,fun h=>(by cases h),fun o=>(by cases b3.2 o.fr)⟩
end Go.Av
end
section
namespace Go.Av
theorem qkM {s:qm} (hb:s.Lots.length*56<=140737488355328): ∀(K i:Nat),i<=s.Lots.length->s.Lots.length<K+i->vG s K (s.Lots.take i) (i:Int)=some s.Lots
 |0,i,h,hK=>by omega
 |K+1,i,h,hK=>by
  unfold vG
  by_cases hi:i<s.Lots.length
  ·have e:(s.Lots.take i).length=i:=by rw[Ym];omega
   rw[if_pos (by omega),qO,Ya hi,ZB,qbs (by rw[e,List.length_singleton];omega) (by rw[e,List.length_singleton];omega),ZB,jU (by omega),<-List.take_succ_eq_append_getElem hi]
   exact qkM hb K (i+1) (by omega) (by omega)
  rw[if_neg (by omega),List.take_of_length_le (by omega)]
theorem qln {s:qm} (hb:s.Holds.length*48<=140737488355328): ∀(K i:Nat),i<=s.Holds.length->s.Holds.length<K+i->vC s K (s.Holds.take i) (i:Int)=some s.Holds
 |0,i,h,hK=>by omega
 |K+1,i,h,hK=>by
  unfold vC
  by_cases hi:i<s.Holds.length
  ·have e:(s.Holds.take i).length=i:=by rw[Ym];omega
   rw[if_pos (by omega),qO,Ya hi,ZB,qbs (by rw[e,List.length_singleton];omega) (by rw[e,List.length_singleton];omega),ZB,jU (by omega),<-List.take_succ_eq_append_getElem hi]
   exact qln hb K (i+1) (by omega) (by omega)
  rw[if_neg (by omega),List.take_of_length_le (by omega)]
theorem qgm {N:Nat} {s:qm} (h1:s.Lots.length<N) (h2:s.Holds.length<N) (b1:s.Lots.length*56<=140737488355328) (b2:s.Holds.length*48<=140737488355328):yo N s=some ⟨s.Day,s.Lots,s.Holds⟩:=by
 unfold yo
 have e1:=qkM b1 N 0 (by omega) (by omega)
 have e2:=qln b2 N 0 (by omega) (by omega)
 rw[List.take_zero,show((0:Nat):Int)=0 from rfl]at e1 e2
 rw[e1,ZB,e2,ZB]
theorem qmi {day:Int} {lots:List qj} {holds:List qd} (hl:lots.length<=100): ∀(K i:Nat),i<=lots.length->lots.length<K+i->(zh ⟨day,lots,holds⟩ K (i:Int)=some (.inl ())/\ ∀(j:Nat) x,i<=j->lots[j]? =some x->x.Name.length<=60/\x.Yarn.length<=60/\x.Dye.length<=60)\/zh ⟨day,lots,holds⟩ K (i:Int)=some (.inr false)
 |0,i,h,hK=>by omega
 |K+1,i,h,hK=>by
  unfold zh
  simp only
  by_cases hi:i<lots.length
  ·have hx:lots[i]? =some lots[i]:=Ya hi
   rw[if_pos (by omega),qO,hx,ZB]
   generalize lots[i]=x at*
   by_cases c1:(x.Name.length:Int)>60
   ·rw[if_pos c1];exact .inr rfl
   by_cases c2:(x.Yarn.length:Int)>60
   ·rw[if_neg c1,if_pos c2];exact .inr rfl
   by_cases c3:(x.Dye.length:Int)>60
   ·rw[if_neg c1,if_neg c2,decide_eq_true c3];exact .inr rfl
   rw[if_neg c1,if_neg c2,decide_eq_false c3,ZB,if_neg (by simp),jU (by omega)]
   rcases qmi (day:=day) (holds:=holds) hl K (i+1) (by omega) (by omega)with⟨r1,r2⟩|r
   ·refine .inl ⟨r1,fun j y hj hy=>?_⟩
    by_cases c:j=i
    ·subst c
     rw[hx]at hy
     obtain rfl:=Ye hy
     omega
    exact r2 j y (by omega) hy
   exact .inr r
  rw[if_neg (by omega)]
  exact .inl ⟨rfl,fun j x hj hx=>by
   have:=(Yb.1 hx).1
   omega⟩
theorem qml {day:Int} {lots:List qj} {holds:List qd} (hl:holds.length<=300): ∀(K i:Nat),i<=holds.length->holds.length<K+i->(zf ⟨day,lots,holds⟩ K (i:Int)=some (.inl ())/\ ∀(j:Nat) x,i<=j->holds[j]? =some x->x.Lot.length<=60/\x.Order.length<=60)\/zf ⟨day,lots,holds⟩ K (i:Int)=some (.inr false)
 |0,i,h,hK=>by omega
 |K+1,i,h,hK=>by
  unfold zf
  simp only
  by_cases hi:i<holds.length
  ·have hx:holds[i]? =some holds[i]:=Ya hi
   rw[if_pos (by omega),qO,hx,ZB]
   generalize holds[i]=x at*
   by_cases c1:(x.Lot.length:Int)>60
   ·rw[if_pos c1];exact .inr rfl
   by_cases c3:(x.Order.length:Int)>60
   ·rw[if_neg c1,decide_eq_true c3];exact .inr rfl
   rw[if_neg c1,decide_eq_false c3,ZB,if_neg (by simp),jU (by omega)]
   rcases qml (day:=day) (lots:=lots) hl K (i+1) (by omega) (by omega)with⟨r1,r2⟩|r
   ·refine .inl ⟨r1,fun j y hj hy=>?_⟩
    by_cases c:j=i
    ·subst c
     rw[hx]at hy
     obtain rfl:=Ye hy
     omega
    exact r2 j y (by omega) hy
   exact .inr r
  rw[if_neg (by omega)]
  exact .inl ⟨rfl,fun j x hj hx=>by
   have:=(Yb.1 hx).1
   omega⟩
theorem qlv {N:Nat} (hN:2000<N) (day:Int) (lots:List qj) (holds:List qd): ∃b,yj N ⟨day,lots,holds⟩ 20=some b/\(b=true->lots.length<=100/\holds.length<=300/\ShL lots/\ShH holds):=by
 unfold yj
 simp only
 have hc: ∃c:Bool,(if(lots.length:Int)>20 then
  if(lots.length:Int)<=64 then some true
  else if(lots.length:Int)>67 then some true
  else if(holds.length:Int)>20 then if(holds.length:Int)<=256 then some true else some (decide ((holds.length:Int)>259))
  else some (decide ((holds.length:Int)>259))
  else if(lots.length:Int)>67 then some true
  else if(holds.length:Int)>20 then if(holds.length:Int)<=256 then some true else some (decide ((holds.length:Int)>259))
  else some (decide ((holds.length:Int)>259)):Option Bool)=some c/\(c=false->lots.length<=67/\holds.length<=259):=by
  repeat' split
  all_goals refine⟨_,rfl,fun h=>?_⟩
  all_goals first|(exact absurd h (by decide))|(have:=of_decide_eq_false h;omega)
 obtain⟨c,hc1,hc2⟩:=hc
 rw[hc1,ZB]
 cases c with
 |true=>exact⟨false,rfl,fun h=>by cases h⟩
 |false=>
  obtain⟨l1,l2⟩:=hc2 rfl
  rw[if_neg (by simp)]
  rcases qmi (day:=day) (holds:=holds) (show lots.length<=100 by omega) N 0 (by omega) (by omega)with⟨r1,r2⟩|r1
  ·rcases qml (day:=day) (lots:=lots) (show holds.length<=300 by omega) N 0 (by omega) (by omega)with⟨q1,q2⟩|q1
   ·rw[show((0:Nat):Int)=0 from rfl]at r1 q1
    rw[r1,ZB]
    simp only
    rw[q1]
    refine⟨true,rfl,fun _=>⟨by omega,by omega,fun l hl=>?_,fun l hl=>?_⟩⟩
    ·obtain⟨j,hj⟩:=List.mem_iff_getElem?.1 hl
     exact r2 j l (by omega) hj
    obtain⟨j,hj⟩:=List.mem_iff_getElem?.1 hl
    exact q2 j l (by omega) hj
   rw[show((0:Nat):Int)=0 from rfl]at r1 q1
   rw[r1,ZB]
   simp only
   rw[q1]
   exact⟨false,rfl,fun h=>by cases h⟩
  rw[show((0:Nat):Int)=0 from rfl]at r1
  rw[r1]
  exact⟨false,rfl,fun h=>by cases h⟩
theorem qjm {lots:List qj} (ok:qap lots) {i:Nat} {y:qj} (hy:lots[i]? =some y): ∀(d:Nat) (x:qj),lots[i+d+1]? =some x->ltL y.Name x.Name=true
 |0,x,hx=>by
  have h:=(qcz (ok (i+1) x hx)).2
  unfold jb at h
  rw[if_neg (by omega),Nat.add_sub_cancel,hy]at h
  unfold qcF at h
  rw[Bool.or_eq_false_iff]at h
  cases c:ltL y.Name x.Name with
  |true=>rfl
  |false=>
   have:=qaE _ _ h.1 c
   rw[this,beq_self_eq_true]at h
   cases h.2
 |d+1,x,hx=>by
  have hl:=(Yb.1 hx).1
  have hz:lots[i+d+1]? =some lots[i+d+1]:=Ya (by omega)
  have h1:=qjm ok hy d _ hz
  have h:=(qcz (ok (i+(d+1)+1) x hx)).2
  unfold jb at h
  rw[if_neg (by omega),Nat.add_sub_cancel,show i+(d+1)=i+d+1 by omega,hz]at h
  unfold qcF at h
  rw[Bool.or_eq_false_iff]at h
  cases c:ltL lots[i+d+1].Name x.Name with
  |true=>exact xR h1 c
  |false=>
   have:=qaE _ _ h.1 c
   rw[this,beq_self_eq_true]at h
   cases h.2
theorem qaN {lots:List qj} (ok:qap lots) {i j:Nat} {x y:qj} (hij:i<j) (hx:lots[i]? =some x) (hy:lots[j]? =some y):ltL x.Name y.Name=true:=by
 obtain⟨d,rfl⟩: ∃d,j=i+d+1:=⟨j-i-1,by omega⟩
 exact qjm ok hx d y hy
theorem qnd {i j:Nat} (hi:i<=1000) (hj:j<=1000):w64 (qh4 .u64 (IntKind.wrap .u64 (w64 ((i:Int)+(j:Int)))) 1)=(((i+j)/2:Nat):Int):=by
 have e0:w64 ((i:Int)+(j:Int))=(i:Int)+(j:Int):=qaV (by omega) (by omega)
 rw[e0]
 have e:IntKind.wrap .u64 ((i:Int)+(j:Int))=(i:Int)+(j:Int):=by
  show((i:Int)+(j:Int))%18446744073709551616=_
  omega
 rw[e]
 show w64 (((i:Int)+(j:Int)).fdiv 2)=_
 rw[Int.fdiv_eq_ediv_of_nonneg _ (by omega),qaV (by omega) (by omega)]
 omega
theorem bs_L {lots:List qj} (hl:lots.length<=100) (ok:qap lots) (name:Str): ∀(K lo hi:Nat),lo<=hi->hi<=lots.length->hi-lo<K->(∀(k:Nat) x,k<lo->lots[k]? =some x->ltL x.Name name=true)->(∀(k:Nat) x,hi<=k->lots[k]? =some x->ltL x.Name name=false)->
 ∃p:Nat,qz lots name K (hi:Int) (lo:Int)=some (p:Int)/\p<=lots.length/\(∀(k:Nat) x,k<p->lots[k]? =some x->ltL x.Name name=true)/\(∀(k:Nat) x,p<=k->lots[k]? =some x->ltL x.Name name=false)
 |0,lo,hi,h,h2,hK,g1,g2=>by omega
 |K+1,lo,hi,h,h2,hK,g1,g2=>by
  unfold qz jN qiC
  by_cases c:lo<hi
  ·have hm:(lo+hi)/2<lots.length:=by omega
   have hx:lots[(lo+hi)/2]? =some lots[(lo+hi)/2]:=Ya hm
   rw[if_pos (by omega),qnd (by omega) (by omega),qO,hx,ZB,ZB,ZB]
   by_cases d:Lib.compareBytes lots[(lo+hi)/2].Name name<0
   ·have d1:=d
    rw[qh3]at d1
    rw[if_pos d,ZB]
    simp only
    rw[jU (by omega)]
    refine bs_L hl ok name K ((lo+hi)/2+1) hi (by omega) h2 (by omega) (fun k x hk hkx=>?_) g2
    by_cases e:k=(lo+hi)/2
    ·subst e
     rw[hx]at hkx
     obtain rfl:=Ye hkx
     exact d1
    exact xR (qaN ok (by omega) hkx hx) d1
   have d1:=d
   rw[qh3]at d1
   have d2:ltL lots[(lo+hi)/2].Name name=false:=by simpa using d1
   rw[if_neg d,ZB]
   simp only
   refine bs_L hl ok name K lo ((lo+hi)/2) (by omega) (by omega) (by omega) g1 (fun k x hk hkx=>?_)
   by_cases e:k=(lo+hi)/2
   ·subst e
    rw[hx]at hkx
    obtain rfl:=Ye hkx
    exact d2
   cases z:ltL x.Name name with
   |false=>rfl
   |true=>
    rw[xR (qaN ok (by omega) hx hkx) z]at d2
    cases d2
  rw[if_neg (by omega)]
  have:lo=hi:=by omega
  subst this
  exact⟨lo,rfl,h2,g1,g2⟩
end Go.Av
end
section
namespace Go.Av
open Go.Proofs Go.RowKit
variable [Glob]
theorem qcW {a b:Str} (h:ltL a b=true):ltL b a=false:=by
 cases e:ltL b a with
 |false=>rfl
 |true=>have:=xR h e;rw[yK]at this;cases this
abbrev qiD (lots:List qj):Prop:=lots.Pairwise fun a b=>ltL a.Name b.Name=true
theorem qap.srt {lots:List qj} (h:qap lots):qiD lots:=
 List.pairwise_iff_getElem.2 fun i j hi hj hij=>qaN h hij (Ya hi) (Ya hj)
def jX (x:qj):List qj->List qj
 |[]=>[x]
 |y::l=>if(y.Name==x.Name)=true then x::l else if ltL x.Name y.Name=true then x::y::l else y::jX x l
theorem qa9 {x:qj}: ∀{lots:List qj} {j:Nat} {y:qj},qiD lots->lots[j]? =some y->y.Name=x.Name->jX x lots=lots.set j x
 |[],j,y,_,h,_=>by simp at h
 |a::l,0,y,hs,h,e=>by
  simp only[Yj,ZI]at h
  subst h
  rw[jX,if_pos (by rw[e];exact beq_self_eq_true _)]
  rfl
 |a::l,j+1,y,hs,h,e=>by
  rw[List.getElem?_cons_succ]at h
  have hay:=(List.pairwise_cons.1 hs).1 y (Yn h)
  rw[e]at hay
  rw[jX,if_neg (by simpa using qcx hay),if_neg (by rw[qcW hay];decide),qa9 (List.pairwise_cons.1 hs).2 h e]
  rfl
theorem qfw {x:qj}: ∀{lots:List qj} {p:Nat},p<=lots.length->(∀(k:Nat) y,k<p->lots[k]? =some y->ltL y.Name x.Name=true)->(∀(k:Nat) y,p<=k->lots[k]? =some y->ltL y.Name x.Name=false)->(∀(k:Nat) y,lots[k]? =some y->y.Name≠x.Name)->jX x lots=lots.take p++[x]++lots.drop p
 |[],p,hp,h1,h2,h3=>by simp[jX]
 |a::l,0,hp,h1,h2,h3=>by
  have e1:=h2 0 a (Nat.le_refl _) rfl
  have e2:=h3 0 a rfl
  have e3:ltL x.Name a.Name=true:=by
   cases e:ltL x.Name a.Name with
   |true=>rfl
   |false=>exact absurd (qaE _ _ e1 e) e2
  rw[jX,if_neg (by simpa using e2),if_pos e3]
  rfl
 |a::l,p+1,hp,h1,h2,h3=>by
  have e1:=h1 0 a (by omega) rfl
  rw[jX,if_neg (by simpa using qcx e1),if_neg (by rw[qcW e1];decide),qfw (p:=p) (by simp at hp;omega) (fun k y hk hy=>h1 (k+1) y (by omega) hy) (fun k y hk hy=>h2 (k+1) y (by omega) hy) (fun k y hy=>h3 (k+1) y hy)]
  rfl
theorem qfA {x y:qj}: ∀{lots:List qj},y∈jX x lots->y=x\/y∈lots
 |[],h=>by simp[jX]at h;exact .inl h
 |a::l,h=>by
  rw[jX]at h
  split at h
  ·rcases List.mem_cons.1 h with h|h
   ·exact .inl h
   exact .inr (List.mem_cons_of_mem _ h)
  split at h
  ·rcases List.mem_cons.1 h with h|h
   ·exact .inl h
   exact .inr h
  rcases List.mem_cons.1 h with h|h
  ·exact .inr (h▸List.mem_cons_self)
  rcases qfA h with h|h
  ·exact .inl h
  exact .inr (List.mem_cons_of_mem _ h)
theorem qfl {x:qj}: ∀{lots:List qj},qiD lots->qiD (jX x lots)
 |[],h=>by simp[jX,qiD]
 |a::l,h=>by
  obtain⟨h1,h2⟩:=List.pairwise_cons.1 h
  rw[jX]
  by_cases e1:(a.Name==x.Name)=true
  ·rw[if_pos e1]
   have:a.Name=x.Name:=by simpa using e1
   exact List.pairwise_cons.2 ⟨fun b hb=>this▸h1 b hb,h2⟩
  rw[if_neg e1]
  by_cases e2:ltL x.Name a.Name=true
  ·rw[if_pos e2]
   refine List.pairwise_cons.2 ⟨fun b hb=>?_,h⟩
   rcases List.mem_cons.1 hb with rfl|hb
   ·exact e2
   exact xR e2 (h1 b hb)
  rw[if_neg e2]
  refine List.pairwise_cons.2 ⟨fun b hb=>?_,qfl h2⟩
  rcases qfA hb with rfl|hb
  ·cases e:ltL a.Name b.Name with
   |true=>rfl
   |false=>exact absurd (qaE _ _ e (by simpa using e2)) (by simpa using e1)
  exact h1 b hb
theorem qcl {x:qj}: ∀{lots:List qj},(jX x lots).length<=lots.length+1
 |[]=>by simp[jX]
 |a::l=>by
  rw[jX]
  split
  ·simp
  split
  ·simp
  have:=qcl (x:=x) (lots:=l)
  simp;omega
theorem qgo {x:qj}: ∀{lots:List qj},∃j:Nat,(jX x lots)[j]? =some x
 |[]=>⟨0,rfl⟩
 |a::l=>by
  rw[jX]
  split
  ·exact⟨0,rfl⟩
  split
  ·exact⟨0,rfl⟩
  obtain⟨j,hj⟩:=qgo (x:=x) (lots:=l)
  exact⟨j+1,hj⟩
abbrev qb5 (a b:qd):Bool:=ltH qd.Lot qd.Order a b
theorem qha (a b:qd):qiH a b=qb5 b a:=by
 unfold qiH qb5 ltH
 by_cases e:a.Lot=b.Lot
 ·rw[e,yK,beq_self_eq_true]
  by_cases f:a.Order=b.Order
  ·rw[f,yK,beq_self_eq_true]
   rfl
  have f1:(a.Order==b.Order)=false:=beq_false_of_ne f
  rw[f1]
  cases h1:ltL a.Order b.Order with
  |true=>rw[qcW h1];rfl
  |false=>
   cases h2:ltL b.Order a.Order with
   |true=>rfl
   |false=>exact absurd (qaE _ _ h1 h2) f
 have e1:(a.Lot==b.Lot)=false:=beq_false_of_ne e
 have e2:(b.Lot==a.Lot)=false:=beq_false_of_ne (fun h=>e h.symm)
 rw[e1,e2]
 cases h1:ltL a.Lot b.Lot with
 |true=>rw[qcW h1];rfl
 |false=>
  cases h2:ltL b.Lot a.Lot with
  |true=>rfl
  |false=>exact absurd (qaE _ _ h1 h2) e
abbrev qhz (holds:List qd):Prop:=holds.Pairwise fun a b=>qb5 a b=true
def kq (lo od:Str) (h:qd):Bool:=h.Lot==lo&&h.Order==od
theorem qfq {lo od:Str} {h:qd}:kq lo od h=true↔h.Lot=lo/\h.Order=od:=by simp[kq]
theorem qlg (a:qd):qb5 a a=false:=qcm _ _ a
theorem qd1 {a b c:qd} (h:qb5 a b=true) (k:qb5 b c=true):qb5 a c=true:=qcc _ _ h k
theorem qj6 {a b:qd} (h:qb5 a b=true):qb5 b a=false:=by
 cases e:qb5 b a with
 |false=>rfl
 |true=>have:=qd1 h e;rw[qlg]at this;cases this
theorem qcr {k:Bool} {p:Option qd} {x:qd} (h:qai k p x=0):k=true/\zm x.Order=true/\qdT p x=false/\vJ x.Reserved 0 999999999=false/\vJ x.Taken 0 999999999=false/\ ¬(x.Reserved=0/\x.Taken=0):=by
 unfold qai at h
 cases n1:k<;>cases n2:zm x.Order<;>cases n3:qdT p x<;>cases n4:vJ x.Reserved 0 999999999<;>cases n5:vJ x.Taken 0 999999999<;>cases n6:(decide (x.Reserved=0)&&decide (x.Taken=0))<;>rw[n1,n2,n3,n4,n5,n6]at h<;>first|(exact absurd h (by decide))|skip
 refine⟨rfl,rfl,rfl,rfl,rfl,fun c=>?_⟩
 rw[decide_eq_true c.1,decide_eq_true c.2]at n6
 cases n6
theorem qho {lots:List qj} {holds:List qd} (ok:qbS lots holds) {i:Nat} {y:qd} (hy:holds[i]? =some y): ∀(d:Nat) (x:qd),holds[i+d+1]? =some x->qb5 y x=true
 |0,x,hx=>by
  have:=(qcr (ok _ _ hx)).2.2.1
  unfold jb at this
  rw[if_neg (by omega),show i+0+1-1=i by omega,hy]at this
  simp only[qdT,qha,Bool.not_eq_false']at this
  exact this
 |d+1,x,hx=>by
  have hlt:=(Yb.1 hx).1
  have hz:holds[i+d+1]? =some holds[i+d+1]:=Ya (by omega)
  have h1:=qho ok hy d _ hz
  have:=(qcr (ok _ _ hx)).2.2.1
  unfold jb at this
  rw[if_neg (by omega),show i+(d+1)+1-1=i+d+1 by omega,hz]at this
  simp only[qdT,qha,Bool.not_eq_false']at this
  exact qd1 h1 this
theorem qbS.srt {lots:List qj} {holds:List qd} (h:qbS lots holds):qhz holds:=
 List.pairwise_iff_getElem.2 fun i j hi hj hij=>by
  have hx:holds[i+(j-i-1)+1]? =some holds[j]:=by rw[show i+(j-i-1)+1=j by omega];exact Ya hj
  exact qho h (Ya hi) (j-i-1) _ hx
def qe3 (h:qd):List qd->List qd
 |[]=>[h]
 |y::l=>if qb5 h y=true then h::y::l else y::qe3 h l
theorem qcf (h:qd): ∀l,(qe3 h l).Perm (h::l)
 |[]=> .refl _
 |y::l=>by
  rw[qe3]
  split
  ·exact .refl _
  exact((qcf h l).cons y).trans (.swap _ _ _)
theorem qhN {h:qd}: ∀{l:List qd},qhz l->(∀x∈l,kq h.Lot h.Order x=false)->qhz (qe3 h l)
 |[],_,_=>by simp[qe3,qhz]
 |y::l,hs,hk=>by
  obtain⟨h1,h2⟩:=List.pairwise_cons.1 hs
  rw[qe3]
  by_cases e:qb5 h y=true
  ·rw[if_pos e]
   refine List.pairwise_cons.2 ⟨fun b hb=>?_,hs⟩
   rcases List.mem_cons.1 hb with rfl|hb
   ·exact e
   exact qd1 e (h1 b hb)
  rw[if_neg e]
  refine List.pairwise_cons.2 ⟨fun b hb=>?_,qhN h2 fun x hx=>hk x (List.mem_cons_of_mem _ hx)⟩
  rcases List.mem_cons.1 ((qcf h l).mem_iff.1 hb)with rfl|hb
  ·have hk':=hk y List.mem_cons_self
   rcases qeK qd.Lot qd.Order (show ltH qd.Lot qd.Order b y=false by simpa using e)with h'|⟨e1,e2⟩
   ·exact h'
   rw[qfq.2 ⟨e1.symm,e2.symm⟩]at hk'
   cases hk'
  exact h1 b hb
theorem qj2 {l m:List qd} (hl:qhz l) (hm:m.Pairwise fun a b=>qb5 b a=false) (hp:m.Perm l):m=l:=by
 refine List.Perm.eq_of_pairwise (le:=fun a b=>qb5 b a=false) (fun a b ha hb hab hba=>?_) hm (hl.imp fun h=>qj6 h) hp
 have ha':=hp.mem_iff.1 ha
 obtain⟨i,hi,rfl⟩:=List.getElem_of_mem ha'
 obtain⟨j,hj,rfl⟩:=List.getElem_of_mem hb
 have key:=List.pairwise_iff_getElem.1 hl
 rcases Nat.lt_trichotomy i j with c|c|c
 ·have:=key i j hi hj c
  rw[hba]at this;cases this
 ·subst c;rfl
 have:=key j i hj hi c
 rw[hab]at this;cases this
theorem qhk {l m:List qd} (hl:qhz l) (hp:m.Perm l):qbq qd.Lot qd.Order m=l:=by
 obtain⟨f1,f2,f3⟩:=qaH qd.Lot qd.Order m
 refine qj2 hl (List.pairwise_iff_getElem.2 fun i j hi hj hij=>?_) (f2.trans hp)
 have:=f3 i j hij (by omega)
 rw[getElem!_pos _ j hj,getElem!_pos _ i hi]at this
 exact this
def yZ (h:qd) (holds:List qd):List qd:=
 if h.Reserved=0/\h.Taken=0 then holds.filter (fun x=>!kq h.Lot h.Order x)else qe3 h (holds.filter fun x=>!kq h.Lot h.Order x)
def jR (holds:List qd) (lo od:Str):qd:=(holds.find? (kq lo od)).getD ⟨lo,od,0,0⟩
theorem qhZ {holds:List qd} (h:qhz holds) (p:qd->Bool):qhz (holds.filter p):=List.Pairwise.filter p h
theorem qeB {holds:List qd} {lo od:Str}: ∀x∈holds.filter (fun x=>!kq lo od x),kq lo od x=false:=fun x hx=>by simpa using(List.mem_filter.1 hx).2
theorem qeZ {h:qd} {holds:List qd}:(yZ h holds).length<=holds.length+1:=by
 have:=List.length_filter_le (fun x=>!kq h.Lot h.Order x) holds
 unfold yZ
 split
 ·omega
 rw[(qcf _ _).length_eq,Yr];omega
end Go.Av
end
section
namespace Go.Av
open Go.Proofs Go.RowKit
variable [Glob]
abbrev knR:Str:=[114,101,99,101,105,118,101]
abbrev knV:Str:=[114,101,115,101,114,118,101]
abbrev knL:Str:=[114,101,108,101,97,115,101]
abbrev knT:Str:=[116,97,107,101]
abbrev knU:Str:=[114,101,116,117,114,110]
structure qe0 (e:qh):Prop where
 kind:e.Kind=knR\/e.Kind=knV\/e.Kind=knL\/e.Kind=knT\/e.Kind=knU
 day:vJ e.Day 0 99999=false
 am:vJ e.Amount 1 999999999=false
 lot:zm e.Lot=true
 rc:e.Kind=knR->zm e.Yarn=true/\qcM e.Dye=true/\e.Order=[]
 oth:e.Kind≠knR->zm e.Order=true/\e.Yarn=[]/\e.Dye=[]
def vw (lots:List qj) (holds:List qd) (e:qh):qc:=
 match lots.find? (fun x=>x.Name==e.Lot)with
 |some x=>⟨x,true,jR holds e.Lot e.Order,frE holds x⟩
 |none=>⟨⟨e.Lot,e.Yarn,e.Dye,0⟩,false,jR holds e.Lot e.Order,0⟩
def qfE (k:Str) (a:qc) (n:Int):qc:=
 if k=knR then⟨⟨a.lot.Name,a.lot.Yarn,a.lot.Dye,w64 (a.lot.Stock+n)⟩,a.known,a.hold,a.free⟩
 else if k=knV then⟨a.lot,a.known,⟨a.hold.Lot,a.hold.Order,w64 (a.hold.Reserved+n),a.hold.Taken⟩,a.free⟩
 else if k=knL then⟨a.lot,a.known,⟨a.hold.Lot,a.hold.Order,w64 (a.hold.Reserved+w64 (0-n)),a.hold.Taken⟩,a.free⟩
 else if k=knT then⟨⟨a.lot.Name,a.lot.Yarn,a.lot.Dye,w64 (a.lot.Stock-n)⟩,a.known,⟨a.hold.Lot,a.hold.Order,(if(w64 (a.hold.Reserved-n))>0 then(w64 (a.hold.Reserved-n))else 0),w64 (a.hold.Taken+n)⟩,a.free⟩
 else⟨⟨a.lot.Name,a.lot.Yarn,a.lot.Dye,w64 (a.lot.Stock+n)⟩,a.known,⟨a.hold.Lot,a.hold.Order,a.hold.Reserved,w64 (a.hold.Taken-n)⟩,a.free⟩
def qaF (k:Str) (a:qc) (n:Int):Bool:=
 if k=knR then true else if k=knV then decide (n<=a.free)else if k=knL then decide (n<=a.hold.Reserved)else if k=knT then decide (n<=w64 (a.free+a.hold.Reserved))else decide (n<=a.hold.Taken)
def qaW (e:qh) (a:qc):Bool:=if e.Kind=knR then !a.known||(a.lot.Yarn==e.Yarn&&a.lot.Dye==e.Dye)else a.known
def jd (lots:List qj) (holds:List qd) (e:qh):qc:=qfE e.Kind (vw lots holds e) e.Amount
def nxL (lots:List qj) (holds:List qd) (e:qh):List qj:=jX (jd lots holds e).lot lots
def nxH (lots:List qj) (holds:List qd) (e:qh):List qd:=yZ (jd lots holds e).hold holds
def qf8 (day:Int) (lots:List qj) (holds:List qd) (e:qh):Int:=
 if e.Day<day then 1
 else if qaW e (vw lots holds e)=false then 2
 else if qaF e.Kind (vw lots holds e) e.Amount=false then 3
 else if 999999999<(jd lots holds e).lot.Stock\/999999999<(jd lots holds e).hold.Taken then 4
 else if 64<(nxL lots holds e).length\/256<(nxH lots holds e).length then 5
 else 0
theorem qg0 {lots:List qj} (ok:qap lots) {j:Nat} {x:qj} {nm:Str} (hx:lots[j]? =some x) (e:x.Name=nm):lots.find? (fun x=>x.Name==nm)=some x:=by
 obtain⟨hj,rfl⟩:=Yb.1 hx
 refine List.find?_eq_some_iff_getElem.2 ⟨by rw[e];exact beq_self_eq_true _,j,hj,rfl,fun i hi=>?_⟩
 have:=qaN ok hi (Ya (by omega)) hx
 have hne:=qcx this
 rw[e]at hne
 simpa using hne
theorem qhd {lots:List qj} {nm:Str} (h: ∀(j:Nat) x,lots[j]? =some x->x.Name≠nm):lots.find? (fun x=>x.Name==nm)=none:=by
 rw[List.find?_eq_none]
 intro x hx
 obtain⟨j,hj,rfl⟩:=List.getElem_of_mem hx
 simpa using h j _ (Ya hj)
theorem ixH1 {holds:List qd} (hh:holds.length<=300) (a:qc): ∀(K i:Nat),i<=holds.length->holds.length<K+i->
 (qy holds a K (i:Int)=some (.inl ())/\ ∀(j:Nat) x,i<=j->holds[j]? =some x->kq a.hold.Lot a.hold.Order x=false)\/
 (∃(j:Nat) (x:qd),qy holds a K (i:Int)=some (.inr (j:Int))/\i<=j/\holds[j]? =some x/\kq a.hold.Lot a.hold.Order x=true/\ ∀(k:Nat) y,i<=k->k<j->holds[k]? =some y->kq a.hold.Lot a.hold.Order y=false)
 |0,i,h,hK=>by omega
 |K+1,i,h,hK=>by
  unfold qy zP j6
  by_cases hi:i<holds.length
  ·have hx:holds[i]? =some holds[i]:=Ya hi
   rw[if_pos (by omega),qO,hx,ZB]
   simp only[ZB,Bool.and_true]
   generalize holds[i]=x at*
   by_cases e:kq a.hold.Lot a.hold.Order x=true
   ·rw[if_pos (show(x.Lot==a.hold.Lot&&x.Order==a.hold.Order)=true from e)]
    exact .inr ⟨i,x,rfl,Nat.le_refl _,hx,e,fun k y h1 h2 _=>by omega⟩
   rw[if_neg (show¬(x.Lot==a.hold.Lot&&x.Order==a.hold.Order)=true from e),jU (by omega)]
   have e':kq a.hold.Lot a.hold.Order x=false:=by simpa using e
   have first: ∀(k:Nat) y,k=i->holds[k]? =some y->kq a.hold.Lot a.hold.Order y=false:=fun k y hk hy=>by
    subst hk;rw[hx]at hy;obtain rfl:=Ye hy;exact e'
   rcases ixH1 hh a K (i+1) (by omega) (by omega)with⟨r1,r2⟩|⟨j,y,r1,r2,r3,r4,r5⟩
   ·refine .inl ⟨r1,fun j y hj hy=>?_⟩
    by_cases c:j=i
    ·exact first j y c hy
    exact r2 j y (by omega) hy
   refine .inr ⟨j,y,r1,by omega,r3,r4,fun k z hk hkj hz=>?_⟩
   by_cases c:k=i
   ·exact first k z c hz
   exact r5 k z (by omega) hkj hz
  rw[if_neg (by omega)]
  exact .inl ⟨rfl,fun j x hj hx=>by have:=(Yb.1 hx).1;omega⟩
theorem ixH2 {holds:List qd} (a:qc): ∀(K:Nat) (i:Int),qI holds a K i=qy holds a K i
 |0,i=>rfl
 |K+1,i=>by
  unfold qy qI zP zL
  simp only[ixH2 a K]
theorem qhE {holds:List qd} {lo od:Str} {j:Nat} {x:qd} (hx:holds[j]? =some x) (e:kq lo od x=true) (h: ∀(k:Nat) y,k<j->holds[k]? =some y->kq lo od y=false):jR holds lo od=x:=by
 obtain⟨hj,rfl⟩:=Yb.1 hx
 unfold jR
 rw[List.find?_eq_some_iff_getElem.2 ⟨e,j,hj,rfl,fun i hi=>by rw[h i _ hi (Ya (by omega))];rfl⟩]
 rfl
theorem qep {holds:List qd} {lo od:Str} (h: ∀(j:Nat) x,holds[j]? =some x->kq lo od x=false):jR holds lo od=⟨lo,od,0,0⟩:=by
 unfold jR
 rw[List.find?_eq_none.2]
 ·rfl
 intro x hx
 obtain⟨j,hj,rfl⟩:=List.getElem_of_mem hx
 rw[h j _ (Ya hj)]
 decide
theorem qeD {holds:List qd} {lo od:Str}:(jR holds lo od).Lot=lo/\(jR holds lo od).Order=od:=by
 unfold jR
 cases h:holds.find? (kq lo od)with
 |none=>exact⟨rfl,rfl⟩
 |some x=>exact qfq.1 (List.find?_some h)
theorem qj0 {holds:List qd} {lo od:Str}:jR holds lo od∈holds\/jR holds lo od=⟨lo,od,0,0⟩:=by
 unfold jR
 cases h:holds.find? (kq lo od)with
 |none=>exact .inr rfl
 |some x=>exact .inl (List.mem_of_find?_eq_some h)
theorem qlx {N:Nat} (hN:2000<N) (day:Int) {lots:List qj} (holds:List qd) (hl:lots.length<=100) (ok:qap lots) (name:Str):
 (∃(j:Nat) (x:qj),jG N ⟨day,lots,holds⟩ name=some ((j:Int),true)/\lots[j]? =some x/\x.Name=name)\/
 (∃p:Nat,jG N ⟨day,lots,holds⟩ name=some ((p:Int),false)/\p<=lots.length/\(∀(k:Nat) x,k<p->lots[k]? =some x->ltL x.Name name=true)/\(∀(k:Nat) x,p<=k->lots[k]? =some x->ltL x.Name name=false)/\ ∀(k:Nat) x,lots[k]? =some x->x.Name≠name):=by
 unfold jG za jN qiC
 simp only
 obtain⟨p,p1,p2,p3,p4⟩:=bs_L hl ok name N 0 lots.length (by omega) (by omega) (by omega) (fun k x hk=>by omega) (fun k x hk hx=>by
  have:=(Yb.1 hx).1
  omega)
 rw[show((0:Nat):Int)=0 from rfl]at p1
 rw[p1,ZB]
 by_cases c:p<lots.length
 ·have hx:lots[p]? =some lots[p]:=Ya c
  rw[if_pos (by omega),qO,hx,ZB,ZB,ZB]
  by_cases e:lots[p].Name=name
  ·refine .inl ⟨p,_,?_,hx,e⟩
   rw[e,qas,yK,beq_self_eq_true]
   rfl
  refine .inr ⟨p,?_,p2,p3,p4,fun k x hk=>?_⟩
  ·have hz: ¬Lib.compareBytes lots[p].Name name=0:=by
    rw[qas,p4 p _ (Nat.le_refl _) hx]
    simp[e]
   rw[decide_eq_false hz]
   rfl
  rcases Nat.lt_trichotomy k p with d|d|d
  ·exact qcx (p3 k x d hk)
  ·subst d
   rw[hx]at hk
   obtain rfl:=Ye hk
   exact e
  intro h
  have h1:=qaN ok d hx hk
  rw[h,p4 p _ (Nat.le_refl _) hx]at h1
  cases h1
 refine .inr ⟨p,?_,p2,p3,p4,fun k x hk=>qcx (p3 k x (by have:=(Yb.1 hk).1;omega) hk)⟩
 rw[if_neg (by omega)]
 rfl
theorem qkD {lots:List qj} {holds:List qd} {e:qh}:(vw lots holds e).lot.Name=e.Lot/\(vw lots holds e).hold.Lot=e.Lot/\(vw lots holds e).hold.Order=e.Order:=by
 unfold vw
 cases h:lots.find? (fun x=>x.Name==e.Lot)with
 |none=>exact⟨rfl,qeD⟩
 |some x=>exact⟨by simpa using List.find?_some h,qeD⟩
theorem qki {N:Nat} (hN:2000<N) {day:Int} {lots:List qj} {holds:List qd} (o:OKS day lots holds) (e:qh):qA N ⟨day,lots,holds⟩ e=some (vw lots holds e):=by
 have hl:lots.length<=100:=by have:=o.ll;omega
 have hh:holds.length<=300:=by have:=o.hl;omega
 have hold: ∀(a:qc),a.hold.Lot=e.Lot->a.hold.Order=e.Order-> ∃r,zS N holds a=some r/\((if r>=0 then(idx holds r).bind fun x18=>some (x18.Lot,x18.Order,x18.Reserved,x18.Taken)else some (e.Lot,e.Order,0,0):Option (Str×Str×Int×Int)))=some ((jR holds e.Lot e.Order).Lot,(jR holds e.Lot e.Order).Order,(jR holds e.Lot e.Order).Reserved,(jR holds e.Lot e.Order).Taken):=by
  intro a h1 h2
  unfold zS
  rcases ixH1 hh a N 0 (by omega) (by omega)with⟨r1,r2⟩|⟨j,x,r1,r2,r3,r4,r5⟩
  ·rw[show((0:Nat):Int)=0 from rfl]at r1
   rw[r1]
   refine⟨-1,rfl,?_⟩
   rw[h1,h2]at r2
   rw[if_neg (by decide),qep fun j x hx=>r2 j x (Nat.zero_le _) hx]
  rw[show((0:Nat):Int)=0 from rfl]at r1
  rw[r1]
  refine⟨(j:Int),rfl,?_⟩
  rw[h1,h2]at r4 r5
  rw[if_pos (by omega),qO,r3,qhE r3 r4 fun k y hk hy=>r5 k y (Nat.zero_le _) hk hy]
  rfl
 unfold qA
 simp only
 rcases qlx hN day holds hl o.lk e.Lot with⟨j,x,h1,h2,h3⟩|⟨p,h1,h2,h3,h4,h5⟩
 ·rw[h1,ZB]
  simp only[if_true]
  rw[qO,h2,ZB,free_eq hN hh,ZB]
  simp only[ZB]
  obtain⟨r,g1,g2⟩:=hold (⟨⟨x.Name,x.Yarn,x.Dye,x.Stock⟩,true,⟨e.Lot,e.Order,0,0⟩,frE holds x⟩:qc) rfl rfl
  rw[g1,ZB,g2,ZB]
  unfold vw
  rw[qg0 o.lk h2 h3]
 rw[h1,ZB]
 simp only[ZF,if_false,ZB]
 obtain⟨r,g1,g2⟩:=hold (⟨⟨e.Lot,e.Yarn,e.Dye,0⟩,false,⟨e.Lot,e.Order,0,0⟩,0⟩:qc) rfl rfl
 rw[g1,ZB,g2,ZB]
 unfold vw
 rw[qhd h5]
theorem qld {p:qd->Bool} {a1 a2 a3:Str} {a4:Int} {a5:Bool} {lo od:Str} {a8 a9 a10:Int} {holds:List qd} (hh:holds.length<=300): ∀(K n m:Nat) (l:List qd),l.length=holds.length->n<m->m<=l.length->l.length<K+m->l.drop m=holds.drop m->l.take n=(holds.take m).filter (fun x=>!kq lo od x)->
 ∃l' n',qx a1 a2 a3 a4 a5 lo od a8 a9 a10 K l (n:Int) (m:Int)=some (l',((n':Nat):Int))/\l'.length=holds.length/\n'<holds.length/\l'.take n'=holds.filter (fun x=>!kq lo od x)
 |0,n,m,l,h1,h2,h3,h4,h5,h6=>by omega
 |K+1,n,m,l,h1,h2,h3,h4,h5,h6=>by
  unfold qx zL j6
  by_cases hm:m<l.length
  ·have hx:l[m]? =some l[m]:=Ya hm
   have hm2:m<holds.length:=by omega
   have hxx:l[m]=holds[m]:=by
    have e:(l.drop m)[0]? =(holds.drop m)[0]? :=by rw[h5]
    rw[YI,YI,Nat.add_zero,hx,Ya hm2]at e
    exact Ye e
   have htk:holds.take (m+1)=holds.take m++[l[m]]:=by rw[hxx];exact List.take_succ_eq_append_getElem hm2
   rw[if_pos (by omega),qO,hx,ZB]
   simp only[ZB,Bool.and_true]
   have hdr:(l.drop (m+1))=holds.drop (m+1):=by
    have: ∀z:List qd,z.drop (m+1)=(z.drop m).drop 1:=fun z=>by rw[List.drop_drop]
    rw[this l,this holds,h5]
   by_cases e:kq lo od l[m]=true
   ·rw[if_neg (show¬(!(l[m].Lot==lo&&l[m].Order==od))=true by rw[show(l[m].Lot==lo&&l[m].Order==od)=true from e];decide),ZB]
    simp only
    rw[jU (by omega)]
    refine qld (p:=p) hh K n (m+1) l h1 (by omega) (by omega) (by omega) hdr ?_
    rw[htk,List.filter_append,h6]
    simp[e]
   have e':kq lo od l[m]=false:=by simpa using e
   rw[if_pos (show(!(l[m].Lot==lo&&l[m].Order==od))=true by rw[show(l[m].Lot==lo&&l[m].Order==od)=false from e'];rfl),qO,Ya (show n<l.length by omega),ZB,qiZ (by omega),ZB,ZB]
   simp only
   rw[jU (by omega),jU (by omega)]
   refine qld (p:=p) hh K (n+1) (m+1) (l.set n l[m]) (by simpa using h1) (by omega) (by simp;omega) (by simp;omega) ?_ ?_
   ·rw[List.drop_set_of_lt (by omega),hdr]
   rw[htk,List.filter_append,<-h6,List.take_set,List.take_succ_eq_append_getElem (show n<l.length by omega),List.set_append_right _ _ (by simp;omega)]
   simp[e']
   rw[show n-min n l.length=0 by omega]
   rfl
  rw[if_neg (by omega)]
  have hm':m=holds.length:=by omega
  refine⟨l,n,rfl,h1,by omega,?_⟩
  rw[h6,hm',List.take_length]
theorem del_eq {N:Nat} (hN:2000<N) {a1 a2 a3:Str} {a4:Int} {a5:Bool} {lo od:Str} {a8 a9 a10:Int} {holds:List qd} (hh:holds.length<=300):
 (qF N holds a1 a2 a3 a4 a5 lo od a8 a9 a10=some (.inl ())/\holds.filter (fun x=>!kq lo od x)=holds)\/qF N holds a1 a2 a3 a4 a5 lo od a8 a9 a10=some (.inr (holds.filter fun x=>!kq lo od x)):=by
 unfold qF jD
 rw[ixH2]
 rcases ixH1 hh (⟨⟨a1,a2,a3,a4⟩,a5,⟨lo,od,a8,a9⟩,a10⟩:qc) N 0 (by omega) (by omega)with⟨r1,r2⟩|⟨j,x,r1,r2,r3,r4,r5⟩
 ·rw[show((0:Nat):Int)=0 from rfl]at r1
  rw[r1]
  refine .inl ⟨rfl,List.filter_eq_self.2 fun x hx=>?_⟩
  obtain⟨j,hj,rfl⟩:=List.getElem_of_mem hx
  have:=r2 j _ (Nat.zero_le _) (Ya hj)
  simp only at this
  rw[this];rfl
 rw[show((0:Nat):Int)=0 from rfl]at r1
 rw[r1]
 refine .inr ?_
 simp only[ZB]at r4 r5⊢
 have hj:=(Yb.1 r3).1
 rw[if_neg (by omega),jU (by omega)]
 have hpre:holds.take j=(holds.take (j+1)).filter (fun x=>!kq lo od x):=by
  rw[List.take_succ_eq_append_getElem hj,List.filter_append]
  have e1:(holds.take j).filter (fun x=>!kq lo od x)=holds.take j:=List.filter_eq_self.2 fun y hy=>by
   obtain⟨k,hk,rfl⟩:=List.getElem_of_mem hy
   have hk':k<j:=by simp at hk;omega
   rw[List.getElem_take,r5 k _ (Nat.zero_le _) hk' (Ya (by omega))];rfl
  have e2:holds[j]=x:=by rw[Ya hj]at r3;exact Ye r3
  rw[e1,e2]
  simp[r4]
 obtain⟨l',n',g1,g2,g3,g4⟩:=qld (p:=fun _=>true) (a1:=a1) (a2:=a2) (a3:=a3) (a4:=a4) (a5:=a5) (lo:=lo) (od:=od) (a8:=a8) (a9:=a9) (a10:=a10) hh N j (j+1) holds rfl (by omega) (by omega) (by omega) rfl hpre
 rw[g1,ZB]
 simp only
 have hc: ∀k:Nat,k<=holds.length->(qcE l' k (⟨[],[],0,0⟩:qd)).length=holds.length:=fun k hk=>by
  unfold qcE;simp;omega
 have ht:(qcE l' n' (⟨[],[],0,0⟩:qd)).take n'=l'.take n':=by
  unfold qcE
  rw[List.take_append_of_le_length (by simp;omega),List.take_take,Nat.min_self]
 by_cases z:n'=0
 ·subst z
  rw[if_pos (by rfl),if_pos (by omega),ZB,ZB,if_pos (by rw[hc 0 (by omega)];omega),ZB,qer (Nat.zero_le _),ZB,ht,g4]
 rw[if_neg (by omega),qnc (by omega),ZB,if_pos (by omega),ZB,ZB,if_pos (by rw[hc n' (by omega)];omega),ZB,qer (by rw[hc n' (by omega)];omega),ZB,ht,g4]
end Go.Av
end
section
namespace Go.Av
open Go.Proofs Go.RowKit
variable [Glob]
theorem qim {N:Nat} (hN:2000<N) (day:Int) {lots:List qj} (holds:List qd) (hl:lots.length<=100) (name:Str):
 (∃(j:Nat) (x:qj),qK N ⟨day,lots,holds⟩ name=some (j:Int)/\lots[j]? =some x/\x.Name=name)\/
 (qK N ⟨day,lots,holds⟩ name=some (-1)/\ ∀(j:Nat) x,lots[j]? =some x->x.Name≠name):=by
 unfold qK
 rcases qkQ (name:=name) hl day holds [] 0 0 N 0 (by omega) (by omega)with⟨r1,r2,r3⟩|⟨j,x,r1,r2,r3,r4⟩
 ·rw[show((0:Nat):Int)=0 from rfl]at r2
  rw[r2]
  exact .inr ⟨rfl,fun j x hx=>r3 j x (Nat.zero_le _) hx⟩
 rw[show((0:Nat):Int)=0 from rfl]at r2
 rw[r2]
 exact .inl ⟨j,x,rfl,r3,r4⟩
theorem qi7 {day:Int} {lots:List qj} {holds:List qd} (hh:holds.length<=300) (lo od:Str): ∀(K i:Nat),i<=holds.length->holds.length<K+i->
 (zk ⟨day,lots,holds⟩ lo od K (i:Int)=some (.inl ())/\ ∀(j:Nat) x,i<=j->holds[j]? =some x->kq lo od x=false)\/
 (∃(j:Nat) (x:qd),zk ⟨day,lots,holds⟩ lo od K (i:Int)=some (.inr x)/\i<=j/\holds[j]? =some x/\kq lo od x=true/\ ∀(k:Nat) y,i<=k->k<j->holds[k]? =some y->kq lo od y=false)
 |0,i,h,hK=>by omega
 |K+1,i,h,hK=>by
  unfold zk
  simp only
  by_cases hi:i<holds.length
  ·have hx:holds[i]? =some holds[i]:=Ya hi
   rw[if_pos (by omega),qO,hx,ZB]
   generalize holds[i]=x at*
   have hb:((if(x.Lot==lo)=true then some (x.Order==od)else some false:Option Bool))=some (kq lo od x):=by
    unfold kq
    cases(x.Lot==lo)<;>rfl
   rw[hb,ZB]
   by_cases e:kq lo od x=true
   ·rw[if_pos e,ZB]
    exact .inr ⟨i,x,rfl,Nat.le_refl _,hx,e,fun k y h1 h2 _=>by omega⟩
   rw[if_neg e,jU (by omega)]
   have e':kq lo od x=false:=by simpa using e
   have first: ∀(k:Nat) y,k=i->holds[k]? =some y->kq lo od y=false:=fun k y hk hy=>by
    subst hk;rw[hx]at hy;obtain rfl:=Ye hy;exact e'
   rcases qi7 hh lo od K (i+1) (by omega) (by omega)with⟨r1,r2⟩|⟨j,y,r1,r2,r3,r4,r5⟩
   ·refine .inl ⟨r1,fun j y hj hy=>?_⟩
    by_cases c:j=i
    ·exact first j y c hy
    exact r2 j y (by omega) hy
   refine .inr ⟨j,y,r1,by omega,r3,r4,fun k z hk hkj hz=>?_⟩
   by_cases c:k=i
   ·exact first k z c hz
   exact r5 k z (by omega) hkj hz
  rw[if_neg (by omega)]
  exact .inl ⟨rfl,fun j x hj hx=>by have:=(Yb.1 hx).1;omega⟩
theorem qfj {N:Nat} (hN:2000<N) (day:Int) (lots:List qj) {holds:List qd} (hh:holds.length<=300) (lo od:Str):zZ N ⟨day,lots,holds⟩ lo od=some (jR holds lo od):=by
 unfold zZ
 rcases qi7 (day:=day) (lots:=lots) hh lo od N 0 (by omega) (by omega)with⟨r1,r2⟩|⟨j,x,r1,r2,r3,r4,r5⟩
 ·rw[show((0:Nat):Int)=0 from rfl]at r1
  rw[r1,qep fun j x hx=>r2 j x (Nat.zero_le _) hx]
  rfl
 rw[show((0:Nat):Int)=0 from rfl]at r1
 rw[r1,qhE r3 r4 fun k y hk hy=>r5 k y (Nat.zero_le _) hk hy]
 rfl
def grF (nm:Str) (am:Int) (x:qj):qj:=⟨x.Name,x.Yarn,x.Dye,if(x.Name==nm)=true then w64 (x.Stock+am)else x.Stock⟩
def qbn (e:qh) (am:Int):Bool->List qj->List qj×Bool
 |put,[]=>([],put)
 |put,x::l=>if(!put&&!(ltL x.Name e.Lot||x.Name==e.Lot))=true then(⟨e.Lot,e.Yarn,e.Dye,am⟩::grF e.Lot am x::(qbn e am true l).1,(qbn e am true l).2)else(grF e.Lot am x::(qbn e am put l).1,(qbn e am put l).2)
theorem qgU {day:Int} {lots:List qj} {holds:List qd} (hl:lots.length<=100) (e:qh) (am:Int): ∀(K i:Nat) (acc:List qj) (put:Bool),i<=lots.length->lots.length<K+i->acc.length<=2*i->
 zz ⟨day,lots,holds⟩ e am K acc put (i:Int)=some (acc++(qbn e am put (lots.drop i)).1,(qbn e am put (lots.drop i)).2)
 |0,i,acc,put,h,hK,ha=>by omega
 |K+1,i,acc,put,h,hK,ha=>by
  unfold zz
  simp only
  by_cases hi:i<lots.length
  ·rw[if_pos (by omega),qO,Ya hi,ZB,qao hi,jU (by omega)]
   generalize lots[i]=x at*
   have hb:((if(!put)=true then some (!(ltL x.Name e.Lot||x.Name==e.Lot))else some false:Option Bool))=some (!put&&!(ltL x.Name e.Lot||x.Name==e.Lot)):=by
    cases put<;>rfl
   have hs:((if(x.Name==e.Lot)=true then some (w64 (x.Stock+am))else some x.Stock:Option Int))=some (if(x.Name==e.Lot)=true then w64 (x.Stock+am)else x.Stock):=by
    split<;>rfl
   rw[hb,ZB,qbn]
   by_cases c:(!put&&!(ltL x.Name e.Lot||x.Name==e.Lot))=true
   ·rw[if_pos c,if_pos c,qbs (by simp;omega) (by simp;omega),ZB,ZB]
    simp only
    rw[hs,ZB,qbs (by simp;omega) (by simp;omega),ZB,qgU hl e am K (i+1) _ true (by omega) (by omega) (by simp;omega)]
    simp[grF,List.append_assoc]
   rw[if_neg c,if_neg c,ZB]
   simp only
   rw[hs,ZB,qbs (by simp;omega) (by simp;omega),ZB,qgU hl e am K (i+1) _ put (by omega) (by omega) (by simp;omega)]
   simp[grF,List.append_assoc]
  rw[if_neg (by omega),List.drop_eq_nil_of_le (by omega)]
  simp[qbn]
theorem qdY {e:qh} {am:Int}: ∀{l:List qj},qbn e am true l=(l.map (grF e.Lot am),true)
 |[]=>rfl
 |x::l=>by
  rw[qbn,if_neg (by simp),qdY]
  rfl
theorem qk3 {nm:Str} {am:Int}: ∀{lots:List qj} {j:Nat} {x:qj},qiD lots->lots[j]? =some x->x.Name=nm->lots.map (grF nm am)=lots.set j ⟨x.Name,x.Yarn,x.Dye,w64 (x.Stock+am)⟩
 |[],j,x,_,h,_=>by simp at h
 |a::l,0,x,hs,h,e=>by
  simp only[Yj,ZI]at h
  subst h
  have hrest:l.map (grF nm am)=l:=by
   rw[List.map_congr_left (g:=id),List.map_id]
   intro b hb
   have:=(List.pairwise_cons.1 hs).1 b hb
   rw[e]at this
   have hne: ¬(b.Name==nm)=true:=by simpa using fun h:b.Name=nm=>qcx this h.symm
   show(⟨b.Name,b.Yarn,b.Dye,if(b.Name==nm)=true then w64 (b.Stock+am)else b.Stock⟩:qj)=b
   rw[if_neg hne]
  rw[List.map_cons,hrest]
  show grF nm am a::l=_
  unfold grF
  rw[if_pos (by rw[e];exact beq_self_eq_true _)]
  rfl
 |a::l,j+1,x,hs,h,e=>by
  rw[List.getElem?_cons_succ]at h
  have:=(List.pairwise_cons.1 hs).1 x (Yn h)
  rw[e]at this
  have hne: ¬(a.Name==nm)=true:=by simpa using qcx this
  rw[List.map_cons,qk3 (List.pairwise_cons.1 hs).2 h e]
  show grF nm am a::_=a::_
  congr 1
  show(⟨a.Name,a.Yarn,a.Dye,if(a.Name==nm)=true then w64 (a.Stock+am)else a.Stock⟩:qj)=a
  rw[if_neg hne]
theorem qgF {e:qh} {am:Int}: ∀{l:List qj},(∀(k:Nat) y,l[k]? =some y->y.Name≠e.Lot)->((qbn e am false l).1++if(!(qbn e am false l).2)=true then[⟨e.Lot,e.Yarn,e.Dye,am⟩]else[])=jX ⟨e.Lot,e.Yarn,e.Dye,am⟩ l
 |[],_=>rfl
 |x::l,h=>by
  have hne: ¬(x.Name==e.Lot)=true:=by simpa using h 0 x rfl
  have hg:grF e.Lot am x=x:=by
   show(⟨x.Name,x.Yarn,x.Dye,if(x.Name==e.Lot)=true then w64 (x.Stock+am)else x.Stock⟩:qj)=x
   rw[if_neg hne]
  have hid:l.map (grF e.Lot am)=l:=by
   rw[List.map_congr_left (g:=id),List.map_id]
   intro b hb
   obtain⟨k,hk,rfl⟩:=List.getElem_of_mem hb
   have:=h (k+1) l[k] (by rw[List.getElem?_cons_succ];exact Ya hk)
   show(⟨l[k].Name,l[k].Yarn,l[k].Dye,if(l[k].Name==e.Lot)=true then w64 (l[k].Stock+am)else l[k].Stock⟩:qj)=l[k]
   rw[if_neg (by simpa using this)]
  have hne':(x.Name==e.Lot)=false:=by simpa using hne
  simp only[qbn,jX,hne',hg,ZF,if_false]
  by_cases c:ltL x.Name e.Lot=true
  ·simp only[c,Bool.true_or,Bool.not_true,Bool.and_false,ZF,if_false,qcW c,List.cons_append]
   rw[qgF fun k y hy=>h (k+1) y hy]
  have c':ltL x.Name e.Lot=false:=by simpa using c
  have c2:ltL e.Lot x.Name=true:=by
   cases z:ltL e.Lot x.Name with
   |true=>rfl
   |false=>exact absurd (qaE _ _ c' z) (h 0 x rfl)
  simp only[c',c2,qdY,hid,Bool.or_self,Bool.not_false,Bool.and_self,if_true,Bool.not_true,ZF,if_false,List.append_nil]
theorem qeO {N:Nat} (hN:2000<N) (day:Int) {lots:List qj} (holds:List qd) (hl:lots.length<=64) (ok:qap lots) (e:qh) (am:Int):
 z8 N ⟨day,lots,holds⟩ e am=some ⟨day,jX (match lots.find? (fun x=>x.Name==e.Lot)with|some x=>⟨x.Name,x.Yarn,x.Dye,w64 (x.Stock+am)⟩|none=>⟨e.Lot,e.Yarn,e.Dye,am⟩) lots,holds⟩:=by
 unfold z8
 rcases qim hN day holds (by omega:lots.length<=100) e.Lot with⟨j,x,h1,h2,h3⟩|⟨h1,h2⟩
 ·have:=qgU (day:=day) (holds:=holds) (by omega:lots.length<=100) e am N 0 [] (decide ((j:Int)>=0)) (by omega) (by omega) (by simp)
  rw[show((0:Nat):Int)=0 from rfl,YR,decide_eq_true (by omega),qdY]at this
  rw[h1,ZB,decide_eq_true (by omega),this,ZB]
  simp only[Bool.not_true,ZF,if_false,ZB,List.nil_append]
  rw[qk3 ok.srt h2 h3,qg0 ok h2 h3]
  simp only
  have hk:=qa9 (x:=(⟨x.Name,x.Yarn,x.Dye,w64 (x.Stock+am)⟩:qj)) (y:=x) ok.srt h2 rfl
  rw[hk]
 have:=qgU (day:=day) (holds:=holds) (by omega:lots.length<=100) e am N 0 [] false (by omega) (by omega) (by simp)
 rw[show((0:Nat):Int)=0 from rfl,YR]at this
 have hg:=qgF (e:=e) (am:=am) h2
 have hlen:((qbn e am false lots).1).length<=66:=by
  have h5:=congrArg List.length hg
  rw[Yq]at h5
  have:=qcl (x:=(⟨e.Lot,e.Yarn,e.Dye,am⟩:qj)) (lots:=lots)
  omega
 rw[h1,ZB,decide_eq_false (by decide),this,ZB]
 simp only[List.nil_append]
 rw[qhd h2]
 simp only
 by_cases c:(!(qbn e am false lots).2)=true
 ·rw[if_pos c,qbs (by simp;omega) (by simp;omega),ZB,ZB]
  rw[if_pos c]at hg
  rw[hg]
 rw[if_neg c,ZB]
 rw[if_neg c,List.append_nil]at hg
 rw[hg]
def qcS (h:qd):Bool->List qd->List qd×Bool
 |put,[]=>([],put)
 |put,x::l=>if kq h.Lot h.Order x=true then qcS h put l else if(!put&&qb5 h x)=true then(h::x::(qcS h true l).1,(qcS h true l).2)else(x::(qcS h put l).1,(qcS h put l).2)
theorem qi6 {day:Int} {lots:List qj} {holds:List qd} (hh:holds.length<=300) (h:qd): ∀(K i:Nat) (acc:List qd) (put:Bool),i<=holds.length->holds.length<K+i->acc.length<=2*i->
 zX ⟨day,lots,holds⟩ h K acc put (i:Int)=some (acc++(qcS h put (holds.drop i)).1,(qcS h put (holds.drop i)).2)
 |0,i,acc,put,hi0,hK,ha=>by omega
 |K+1,i,acc,put,hi0,hK,ha=>by
  unfold zX
  simp only
  by_cases hi:i<holds.length
  ·rw[if_pos (by omega),qO,Ya hi,ZB,qao hi,jU (by omega)]
   generalize holds[i]=x at*
   have hb:((if(x.Lot==h.Lot)=true then some (x.Order==h.Order)else some false:Option Bool))=some (kq h.Lot h.Order x):=by
    unfold kq
    cases(x.Lot==h.Lot)<;>rfl
   have hc:((if(!put)=true then(yn x h).bind fun r20=>some r20 else some false:Option Bool))=some (!put&&qb5 h x):=by
    rw[qgB,qha]
    cases put<;>rfl
   rw[hb,ZB,qcS]
   by_cases c:kq h.Lot h.Order x=true
   ·rw[if_pos c,if_pos c,ZB]
    exact qi6 hh h K (i+1) acc put (by omega) (by omega) (by omega)
   rw[if_neg c,if_neg c,hc,ZB]
   by_cases d:(!put&&qb5 h x)=true
   ·rw[if_pos d,if_pos d,qbs (by simp;omega) (by simp;omega),ZB,ZB]
    simp only
    rw[qbs (by simp;omega) (by simp;omega),ZB,ZB]
    simp only
    rw[qi6 hh h K (i+1) _ true (by omega) (by omega) (by simp;omega)]
    simp[List.append_assoc]
   rw[if_neg d,if_neg d,ZB]
   simp only
   rw[qbs (by simp;omega) (by simp;omega),ZB,ZB]
   simp only
   rw[qi6 hh h K (i+1) _ put (by omega) (by omega) (by simp;omega)]
   simp[List.append_assoc]
  rw[if_neg (by omega),List.drop_eq_nil_of_le (by omega)]
  simp[qcS]
theorem qdA {h:qd}: ∀{l:List qd},qcS h true l=(l.filter (fun x=>!kq h.Lot h.Order x),true)
 |[]=>rfl
 |x::l=>by
  rw[qcS,List.filter_cons]
  by_cases c:kq h.Lot h.Order x=true
  ·rw[if_pos c,qdA,if_neg (by simp[c])]
  rw[if_neg c,if_neg (by simp),qdA,if_pos (by simpa using c)]
theorem qef {h:qd}: ∀{l:List qd},((qcS h false l).1++if(!(qcS h false l).2)=true then[h]else[])=qe3 h (l.filter fun x=>!kq h.Lot h.Order x)
 |[]=>rfl
 |x::l=>by
  by_cases c:kq h.Lot h.Order x=true
  ·simp only[qcS,List.filter_cons,c,if_true,Bool.not_true,ZF,if_false]
   exact qef
  have c':kq h.Lot h.Order x=false:=by simpa using c
  simp only[qcS,List.filter_cons,c',ZF,if_false,Bool.not_false,if_true,qe3,Bool.true_and]
  by_cases d:qb5 h x=true
  ·simp only[d,if_true,qdA,Bool.not_true,ZF,if_false,List.append_nil]
  have d':qb5 h x=false:=by simpa using d
  simp only[d',ZF,if_false,List.cons_append,qef (l:=l)]
theorem qfe {N:Nat} (hN:2000<N) (day:Int) (lots:List qj) {holds:List qd} (hh:holds.length<=256) (h:qd):yN N ⟨day,lots,holds⟩ h=some ⟨day,lots,yZ h holds⟩:=by
 unfold yN yZ
 have hz:((if h.Reserved=0 then some (decide (h.Taken=0))else some false:Option Bool))=some (decide (h.Reserved=0/\h.Taken=0)):=by
  by_cases c:h.Reserved=0<;>simp[c]
 rw[hz,ZB]
 have:=qi6 (day:=day) (lots:=lots) (by omega:holds.length<=300) h N 0 [] (decide (h.Reserved=0/\h.Taken=0)) (by omega) (by omega) (by simp)
 rw[show((0:Nat):Int)=0 from rfl,YR]at this
 rw[this,ZB]
 simp only[List.nil_append]
 by_cases c:h.Reserved=0/\h.Taken=0
 ·rw[decide_eq_true c,qdA,if_pos c]
  simp
 rw[decide_eq_false c,if_neg c,<-qef]
 have hlen:((qcS h false holds).1).length<=258:=by
  have h5:=congrArg List.length (qef (h:=h) (l:=holds))
  rw[Yq,(qcf _ _).length_eq,Yr]at h5
  have:=List.length_filter_le (fun x=>!kq h.Lot h.Order x) holds
  omega
 by_cases d:(!(qcS h false holds).2)=true
 ·rw[if_pos d,if_pos d,qbs (by simp;omega) (by simp;omega)]
  rfl
 rw[if_neg d,if_neg d,List.append_nil]
 rfl
end Go.Av
end
section
namespace Go.Av
open Go.Proofs Go.RowKit
variable [Glob]
theorem qfu {n a b:Int} (h:vJ n a b=false):a<=n/\n<=b:=by
 unfold vJ at h
 rw[Bool.or_eq_false_iff]at h
 have:=of_decide_eq_false h.1
 have:=of_decide_eq_false h.2
 omega
theorem qmJ {n a b:Int} (h:a<=n/\n<=b):vJ n a b=false:=by
 unfold vJ
 rw[decide_eq_false (by omega),decide_eq_false (by omega)]
 rfl
theorem qhC {lots:List qj} {holds:List qd} {e:qh}:(jd lots holds e).lot.Name=e.Lot/\(jd lots holds e).hold.Lot=e.Lot/\(jd lots holds e).hold.Order=e.Order:=by
 obtain⟨h1,h2,h3⟩:=qkD (lots:=lots) (holds:=holds) (e:=e)
 unfold jd qfE
 repeat' split
 all_goals exact⟨h1,h2,h3⟩
theorem qjf {N:Nat} (hN:2000<N) {day:Int} {lots:List qj} {holds:List qd} (o:OKS day lots holds) {e:qh} (k:qe0 e) (h1:0<=(jd lots holds e).hold.Reserved) (h2:0<=(jd lots holds e).hold.Taken):
 jV N ⟨day,lots,holds⟩ e=some ⟨e.Day,nxL lots holds e,nxH lots holds e⟩:=by
 have hl:lots.length<=100:=by have:=o.ll;omega
 have hh:holds.length<=300:=by have:=o.hl;omega
 obtain⟨k1,k2,k3⟩:=qhC (lots:=lots) (holds:=holds) (e:=e)
 have hacc: ∀{α:Type} (f:Str×Str×Str×Int×Bool×Str×Str×Int×Int×Int->Option α),(((vT).bind fun r1=>
  if(e.Kind==[114,101,99,101,105,118,101])=true then
  (qA N ⟨day,lots,holds⟩ e).bind fun r3=>
  (xx r3 e.Amount).bind fun r4=>
  some (r4.lot.Name,r4.lot.Yarn,r4.lot.Dye,r4.lot.Stock,r4.known,r4.hold.Lot,r4.hold.Order,r4.hold.Reserved,r4.hold.Taken,r4.free)
  else
  if(e.Kind==[114,101,115,101,114,118,101])=true then
  (qA N ⟨day,lots,holds⟩ e).bind fun r6=>
  (xy r6 e.Amount).bind fun r7=>
  some (r7.lot.Name,r7.lot.Yarn,r7.lot.Dye,r7.lot.Stock,r7.known,r7.hold.Lot,r7.hold.Order,r7.hold.Reserved,r7.hold.Taken,r7.free)
  else
  if(e.Kind==[114,101,108,101,97,115,101])=true then
  (qA N ⟨day,lots,holds⟩ e).bind fun r9=>
  (xz r9 e.Amount).bind fun r10=>
  some (r10.lot.Name,r10.lot.Yarn,r10.lot.Dye,r10.lot.Stock,r10.known,r10.hold.Lot,r10.hold.Order,r10.hold.Reserved,r10.hold.Taken,r10.free)
  else
  if(e.Kind==[116,97,107,101])=true then
  (qA N ⟨day,lots,holds⟩ e).bind fun r12=>
  (qbv r12 e.Amount).bind fun r13=>
  some (r13.lot.Name,r13.lot.Yarn,r13.lot.Dye,r13.lot.Stock,r13.known,r13.hold.Lot,r13.hold.Order,r13.hold.Reserved,r13.hold.Taken,r13.free)
  else
  if(e.Kind==[114,101,116,117,114,110])=true then
  (qA N ⟨day,lots,holds⟩ e).bind fun r15=>
  (xB r15 e.Amount).bind fun r16=>
  some (r16.lot.Name,r16.lot.Yarn,r16.lot.Dye,r16.lot.Stock,r16.known,r16.hold.Lot,r16.hold.Order,r16.hold.Reserved,r16.hold.Taken,r16.free)
  else
  none:Option (Str×Str×Str×Int×Bool×Str×Str×Int×Int×Int)).bind f)=f ((jd lots holds e).lot.Name,(jd lots holds e).lot.Yarn,(jd lots holds e).lot.Dye,(jd lots holds e).lot.Stock,(jd lots holds e).known,(jd lots holds e).hold.Lot,(jd lots holds e).hold.Order,(jd lots holds e).hold.Reserved,(jd lots holds e).hold.Taken,(jd lots holds e).free):=by
  intro α f
  unfold vT jd qfE
  rw[qki hN o e]
  generalize vw lots holds e=a
  rcases k.kind with h|h|h|h|h<;>rw[h]<;>rfl
 unfold jV
 simp only
 rw[hacc]
 simp only
 unfold nxL nxH
 generalize jd lots holds e=b at*
 obtain⟨⟨nm,ya,dy,st⟩,kn,⟨lo,od,rs,tk⟩,fr⟩:=b
 simp only at k1 k2 k3 h1 h2⊢
 subst k1 k2 k3
 have hcl:qc8 lots=some ():=by unfold qc8;rw[if_pos (by omega)]
 have hch:qcb holds=some ():=by unfold qcb;rw[if_pos (by omega)]
 rw[hcl,ZB]
 have hlot:((jG N ⟨e.Day,lots,[]⟩ e.Lot).bind fun r29=>((if r29.2=true then(idx lots r29.1).bind fun x33=>(put lots r29.1 (⟨e.Lot,ya,dy,st⟩:qj)).bind fun l34=>some l34 else(qfn lots r29.1 e.Lot ya dy st).bind fun l36=>some l36:Option (List qj))))=some (jX ⟨e.Lot,ya,dy,st⟩ lots):=by
  rcases qlx hN e.Day [] hl o.lk e.Lot with⟨j,x,g1,g2,g3⟩|⟨p,g1,g2,g3,g4,g5⟩
  ·rw[g1,ZB]
   simp only[if_true]
   have hj:=(Yb.1 g2).1
   have hk:=qa9 (x:=(⟨e.Lot,ya,dy,st⟩:qj)) (y:=x) o.lk.srt g2 g3
   rw[qO,g2,ZB,qiZ hj,ZB,hk]
  rw[g1,ZB]
  simp only[ZF,if_false]
  have hk:=qfw (x:=(⟨e.Lot,ya,dy,st⟩:qj)) g2 g3 g4 g5
  unfold qfn
  rw[if_pos ⟨by omega,by omega,by omega⟩,ZB,hk,Int.toNat_natCast]
 have hsort: ∀{b:Bool},b=decide (¬(rs=0/\tk=0))-> ∀l:List qd,l=holds.filter (fun x=>!kq e.Lot e.Order x)-> ∃l43,((if b=true then(app 48 l [(⟨e.Lot,e.Order,rs,tk⟩:qd)]).bind fun l46=>some l46 else some l:Option (List qd)))=some l43/\l43.length<=1000/\qbq qd.Lot qd.Order l43=yZ ⟨e.Lot,e.Order,rs,tk⟩ holds:=by
  intro b hb l hlf
  have hlen:l.length<=300:=by
   have:=List.length_filter_le (fun x=>!kq e.Lot e.Order x) holds
   rw[hlf];omega
  by_cases c:rs=0/\tk=0
  ·rw[hb,decide_eq_false (by simpa using c),if_neg (by decide)]
   refine⟨l,rfl,by omega,?_⟩
   unfold yZ
   rw[if_pos c,hlf]
   exact qhk (qhZ o.hk.srt _) (.refl _)
  rw[hb,decide_eq_true (by simpa using c),if_pos rfl,qbs (by simp;omega) (by simp;omega),ZB]
  refine⟨_,rfl,by simp;omega,?_⟩
  unfold yZ
  rw[if_neg c,hlf]
  refine qhk (qhN (qhZ o.hk.srt _) qeB) ?_
  exact List.perm_append_comm.trans (qcf _ _).symm
 have hb:((if rs>0 then some true else some (decide (tk>0)):Option Bool))=some (decide (¬(rs=0/\tk=0))):=by
  by_cases c:rs>0
  ·rw[if_pos c]
   congr 1
   exact(decide_eq_true (by omega)).symm
  rw[if_neg c]
  congr 1
  exact decide_eq_decide.2 (by omega)
 obtain⟨r,e1,e2⟩:=Option.bind_eq_some_iff.1 hlot
 rw[e1,ZB,e2,ZB,hch,ZB]
 rcases del_eq hN (a1:=e.Lot) (a2:=ya) (a3:=dy) (a4:=st) (a5:=kn) (lo:=e.Lot) (od:=e.Order) (a8:=rs) (a9:=tk) (a10:=fr) hh with⟨g1,g2⟩|g1
 ·rw[g1,ZB]
  simp only
  obtain⟨l43,f1,f2,f3⟩:=hsort rfl holds g2.symm
  rw[hb,ZB,f1,ZB]
  unfold qdv
  rw[if_pos (by omega),ZB,if_pos (qaH _ _ l43).1.symm,ZB,f3]
 rw[g1,ZB]
 simp only
 obtain⟨l43,f1,f2,f3⟩:=hsort rfl _ rfl
 rw[hb,ZB,f1,ZB]
 unfold qdr
 rw[if_pos (by omega),ZB,if_pos (qaH _ _ l43).1.symm,ZB,f3]
theorem ix5 {L:Nat->Int->Option (Unit⊕Int)} {f:Int->Option Bool} (hL: ∀K n,L (K+1) n=if n<5 then(f n).bind fun b=>if b=true then some (.inr n)else L K (w64 (n+1))else some (.inl ())) (K:Nat):
 L (K+6) 0=(f 0).bind fun b0=>if b0=true then some (.inr 0)else(f 1).bind fun b1=>if b1=true then some (.inr 1)else(f 2).bind fun b2=>if b2=true then some (.inr 2)else(f 3).bind fun b3=>if b3=true then some (.inr 3)else(f 4).bind fun b4=>if b4=true then some (.inr 4)else some (.inl ()):=by
 have e1:w64 (0+1)=1:=by decide
 have e2:w64 (1+1)=2:=by decide
 have e3:w64 (2+1)=3:=by decide
 have e4:w64 (3+1)=4:=by decide
 have e5:w64 (4+1)=5:=by decide
 rw[hL (K+5),if_pos (by decide),e1,hL (K+4),if_pos (by decide),e2,hL (K+3),if_pos (by decide),e3,hL (K+2),if_pos (by decide),e4,hL (K+1),if_pos (by decide),e5,hL K,if_neg (by decide)]
def rul (b0 b1 b2 b3 b4:Option Bool):Option Int:=
 b0.bind fun x0=>if x0=true then some 1 else b1.bind fun x1=>if x1=true then some 2 else b2.bind fun x2=>if x2=true then some 3 else b3.bind fun x3=>if x3=true then some 4 else b4.bind fun x4=>if x4=true then some 5 else some 0
theorem qmE {b0 b1 b2 b3 b4:Option Bool}:((b0.bind fun b0=>if b0=true then some (.inr 0)else b1.bind fun b1=>if b1=true then some (.inr 1)else b2.bind fun b2=>if b2=true then some (.inr 2)else b3.bind fun b3=>if b3=true then some (.inr 3)else b4.bind fun b4=>if b4=true then some (.inr 4)else some (.inl ()):Option (Unit⊕Int)).bind (fun
 |(.inl ())=>some (-1)
 |(.inr q18)=>some q18)).bind (fun r1=>some (w64 (1+r1)))=rul b0 b1 b2 b3 b4:=by
 unfold rul
 have e0:w64 (1+ -1)=0:=by decide
 have e1:w64 (1+0)=1:=by decide
 have e2:w64 (1+1)=2:=by decide
 have e3:w64 (1+2)=3:=by decide
 have e4:w64 (1+3)=4:=by decide
 have e5:w64 (1+4)=5:=by decide
 rcases b0 with _|_|_<;>try rfl
 rcases b1 with _|_|_<;>try rfl
 rcases b2 with _|_|_<;>try rfl
 rcases b3 with _|_|_<;>try rfl
 rcases b4 with _|_|_<;>rfl
theorem qbw {N:Nat} (hN:2000<N) {L:Nat->Int->Option (Unit⊕Int)} {b0 b1 b2 b3 b4:Option Bool} (hL: ∀K n,L (K+1) n=if n<5 then(if n=0 then b0.bind fun r=>some r else if n=1 then b1.bind fun r=>some r else if n=2 then b2.bind fun r=>some r else if n=3 then b3.bind fun r=>some r else if n=4 then b4.bind fun r=>some r else none:Option Bool).bind fun b=>if b=true then some (.inr n)else L K (w64 (n+1))else some (.inl ())):
 ((L N 0).bind (fun
 |(.inl ())=>some (-1)
 |(.inr q18)=>some q18)).bind (fun r1=>some (w64 (1+r1)))=rul b0 b1 b2 b3 b4:=by
 obtain⟨K,rfl⟩: ∃K,N=K+6:=⟨N-6,by omega⟩
 have hs: ∀b:Option Bool,(b.bind fun r=>some r)=b:=fun b=>by cases b<;>rfl
 simp only[hs]at hL
 rw[ix5 hL]
 exact qmE
theorem qfi {lots:List qj} {holds:List qd} (hk:qbS lots holds) {x:qd} (hx:x∈holds):knB lots x.Lot=true/\zm x.Order=true/\(0<=x.Reserved/\x.Reserved<=999999999)/\(0<=x.Taken/\x.Taken<=999999999)/\ ¬(x.Reserved=0/\x.Taken=0):=by
 obtain⟨j,hj,rfl⟩:=List.getElem_of_mem hx
 obtain⟨h1,h2,h3,h4,h5,h6⟩:=qcr (hk j _ (Ya hj))
 exact⟨h1,h2,qfu h4,qfu h5,h6⟩
theorem qit {p:Option qj} {x:qj} (h:qaT p x=0):zm x.Name=true/\zm x.Yarn=true/\qcM x.Dye=true/\qcF p x=false/\0<=x.Stock/\x.Stock<=999999999:=by
 unfold qaT at h
 cases n1:zm x.Name<;>cases n2:zm x.Yarn<;>cases n3:qcM x.Dye<;>cases n4:qcF p x<;>cases n5:vJ x.Stock 0 999999999<;>rw[n1,n2,n3,n4,n5]at h<;>first|(exact absurd h (by decide))|exact⟨rfl,rfl,rfl,rfl,qfu n5⟩
theorem qjo {lots:List qj} (ok:qap lots) {x:qj} (hx:x∈lots):zm x.Name=true/\zm x.Yarn=true/\qcM x.Dye=true/\0<=x.Stock/\x.Stock<=999999999:=by
 obtain⟨j,hj,rfl⟩:=List.getElem_of_mem hx
 obtain⟨h1,h2,h3,_,h5⟩:=qit (ok j _ (Ya hj))
 exact⟨h1,h2,h3,h5⟩
theorem qhh {lots:List qj} {holds:List qd} (hk:qbS lots holds) (lo od:Str):(0<=(jR holds lo od).Reserved/\(jR holds lo od).Reserved<=999999999)/\(0<=(jR holds lo od).Taken/\(jR holds lo od).Taken<=999999999):=by
 rcases qj0 (holds:=holds) (lo:=lo) (od:=od)with h|h
 ·exact⟨(qfi hk h).2.2.1,(qfi hk h).2.2.2.1⟩
 rw[h];exact⟨⟨Int.le_refl _,(by decide:(0:Int)<=999999999)⟩,Int.le_refl _,(by decide:(0:Int)<=999999999)⟩
theorem qgJ {lots:List qj} {holds:List qd} {e:qh}:(vw lots holds e).hold=jR holds e.Lot e.Order:=by
 unfold vw
 split<;>rfl
theorem qlH {day:Int} {lots:List qj} {holds:List qd} (o:OKS day lots holds) {e:qh} (k:qe0 e) (hf:qaF e.Kind (vw lots holds e) e.Amount=true):0<=(jd lots holds e).hold.Reserved/\0<=(jd lots holds e).hold.Taken:=by
 have hin:=qhh o.hk e.Lot e.Order
 have ham:=qfu k.am
 unfold jd qfE
 unfold qaF at hf
 rw[<-qgJ (lots:=lots)]at hin
 generalize vw lots holds e=a at*
 rcases k.kind with h|h|h|h|h<;>rw[h]at hf⊢
 ·rw[if_pos rfl]
  exact⟨hin.1.1,hin.2.1⟩
 ·rw[if_neg (by decide),if_pos rfl]
  refine⟨?_,hin.2.1⟩
  show 0<=w64 _
  rw[qaV (by omega) (by omega)];omega
 ·rw[if_neg (by decide),if_neg (by decide),if_pos rfl]
  rw[if_neg (by decide),if_neg (by decide),if_pos rfl]at hf
  have hf:e.Amount<=a.hold.Reserved:=of_decide_eq_true hf
  refine⟨?_,hin.2.1⟩
  show 0<=w64 _
  rw[qaV (n:=0-e.Amount) (by omega) (by omega),qaV (by omega) (by omega)];omega
 ·rw[if_neg (by decide),if_neg (by decide),if_neg (by decide),if_pos rfl]
  refine⟨?_,?_⟩
  ·show(0:Int)<=(if w64 (a.hold.Reserved-e.Amount)>0 then w64 (a.hold.Reserved-e.Amount)else 0)
   split<;>omega
  show 0<=w64 _
  rw[qaV (by omega) (by omega)];omega
 rw[if_neg (by decide),if_neg (by decide),if_neg (by decide),if_neg (by decide)]
 rw[if_neg (by decide),if_neg (by decide),if_neg (by decide),if_neg (by decide)]at hf
 have hf:e.Amount<=a.hold.Taken:=of_decide_eq_true hf
 refine⟨hin.1.1,?_⟩
 show 0<=w64 _
 rw[qaV (by omega) (by omega)];omega
theorem qkN {N:Nat} (hN:2000<N) {day:Int} {lots:List qj} {holds:List qd} (o:OKS day lots holds) {e:qh} (k:qe0 e):vo N ⟨day,lots,holds⟩ e=some (qf8 day lots holds e):=by
 have key: ∀{b3:Option Bool},b3=some (!decide ((if(jd lots holds e).hold.Taken>(jd lots holds e).lot.Stock then(jd lots holds e).hold.Taken else(jd lots holds e).lot.Stock)<=999999999))->
  rul (zq e ⟨day,lots,holds⟩) (q9 e (vw lots holds e)) (some (!qaF e.Kind (vw lots holds e) e.Amount)) b3 (zo N ⟨day,lots,holds⟩ e)=some (qf8 day lots holds e):=by
  intro b3 hb3
  have h0:zq e ⟨day,lots,holds⟩=some (!decide (e.Day>=day)):=rfl
  have h1:q9 e (vw lots holds e)=some (!qaW e (vw lots holds e)):=by
   unfold q9 j3 qaW
   generalize vw lots holds e=a
   by_cases c:e.Kind=knR
   ·rw[if_pos c,c]
    cases a.known<;>cases(a.lot.Yarn==e.Yarn)<;>rfl
   rw[if_neg c,if_pos (by simpa using c)]
   rfl
  rw[h0,h1,hb3]
  unfold rul qf8
  simp only[ZB]
  by_cases c0:e.Day<day
  ·rw[if_pos c0,decide_eq_false (by omega),if_pos (by rfl)]
  rw[if_neg c0,decide_eq_true (by omega),if_neg (by decide)]
  by_cases c1:qaW e (vw lots holds e)=false
  ·rw[if_pos c1,c1,if_pos (by rfl)]
  rw[if_neg c1,if_neg (by simpa using c1)]
  by_cases c2:qaF e.Kind (vw lots holds e) e.Amount=false
  ·rw[if_pos c2,c2,if_pos (by rfl)]
  rw[if_neg c2,if_neg (by simpa using c2)]
  by_cases c3:999999999<(jd lots holds e).lot.Stock\/999999999<(jd lots holds e).hold.Taken
  ·rw[if_pos c3,decide_eq_false (by split<;>omega),if_pos (by rfl)]
  rw[if_neg c3,decide_eq_true (by split<;>omega),if_neg (by decide)]
  obtain⟨n1,n2⟩:=qlH o k (by simpa using c2)
  unfold zo j4
  rw[qjf hN o k n1 n2]
  simp only[ZB]
  by_cases c4:64<(nxL lots holds e).length
  ·rw[if_pos (show 64<(nxL lots holds e).length\/256<(nxH lots holds e).length from .inl c4),if_neg (show¬((nxL lots holds e).length:Int)<=64 by omega)]
   rfl
  rw[if_pos (show((nxL lots holds e).length:Int)<=64 by omega)]
  simp only[ZB]
  by_cases c5:256<(nxH lots holds e).length
  ·rw[if_pos (show 64<(nxL lots holds e).length\/256<(nxH lots holds e).length from .inr c5),decide_eq_false (by omega)]
   rfl
  rw[if_neg (show¬(64<(nxL lots holds e).length\/256<(nxH lots holds e).length)by omega),decide_eq_true (by omega)]
  rfl
 unfold vo
 rw[qki hN o e,ZB]
 unfold vT
 simp only[ZB]
 have hs: ∀b:Option Int,(b.bind fun r=>some r)=b:=fun b=>by cases b<;>rfl
 simp only[hs]
 unfold qaF jd qfE at key
 rcases k.kind with h|h|h|h|h<;>rw[h]at key⊢
 ·rw[if_pos (by rfl)]
  refine Eq.trans ?_ (key rfl)
  unfold xY jB
  rw[if_pos rfl]
  exact qbw hN (fun K n=>by rw[qU];rfl)
 ·rw[if_neg (by decide),if_pos (by rfl)]
  refine Eq.trans ?_ (key rfl)
  unfold xW jA
  rw[if_neg (by decide),if_pos rfl]
  exact qbw hN (fun K n=>by rw[qV];rfl)
 ·rw[if_neg (by decide),if_neg (by decide),if_pos (by rfl)]
  refine Eq.trans ?_ (key rfl)
  unfold qag jw
  rw[if_neg (by decide),if_neg (by decide),if_pos rfl]
  exact qbw hN (fun K n=>by rw[qW];rfl)
 ·rw[if_neg (by decide),if_neg (by decide),if_neg (by decide),if_pos (by rfl)]
  refine Eq.trans ?_ (key rfl)
  unfold qaj jy
  rw[if_neg (by decide),if_neg (by decide),if_neg (by decide),if_pos rfl]
  exact qbw hN (fun K n=>by rw[qQ];rfl)
 rw[if_neg (by decide),if_neg (by decide),if_neg (by decide),if_neg (by decide),if_pos (by rfl)]
 refine Eq.trans ?_ (key rfl)
 unfold qaa jv
 rw[if_neg (by decide),if_neg (by decide),if_neg (by decide),if_neg (by decide)]
 exact qbw hN (fun K n=>by rw[qR];rfl)
end Go.Av
end
section
namespace Go.Av
open Go.Proofs Go.RowKit
variable [Glob]
theorem qlc {s:Str} (h:zm s=true):s≠[]:=fun e=>by rw[e]at h;cases h
theorem qhT {lots:List qj} {holds:List qd} (hk:qbS lots holds) {x:qd} (hx:x∈holds) (lo:Str):kq lo [] x=false:=by
 cases c:kq lo [] x with
 |false=>rfl
 |true=>exact absurd (qfq.1 c).2 (qlc (qfi hk hx).2.1)
theorem qir {lots:List qj} {holds:List qd} (hk:qbS lots holds) (lo:Str):jR holds lo []=⟨lo,[],0,0⟩:=
 qep fun j x hx=>qhT hk (Yn hx) lo
theorem qi4 {lots:List qj} (ok:qap lots) (holds:List qd) {e:qh} {j:Nat} {x:qj} (hx:lots[j]? =some x) (hn:x.Name=e.Lot):vw lots holds e=⟨x,true,jR holds e.Lot e.Order,frE holds x⟩:=by
 unfold vw
 rw[qg0 ok hx hn]
theorem qmb {lots:List qj} (holds:List qd) {e:qh} (h: ∀(j:Nat) x,lots[j]? =some x->x.Name≠e.Lot):vw lots holds e=⟨⟨e.Lot,e.Yarn,e.Dye,0⟩,false,jR holds e.Lot e.Order,0⟩:=by
 unfold vw
 rw[qhd h]
theorem qeX {lots:List qj} (ok:qap lots) {j:Nat} {x:qj} (hx:lots[j]? =some x):jX x lots=lots:=by
 rw[qa9 ok.srt hx rfl]
 obtain⟨hj,rfl⟩:=Yb.1 hx
 exact List.set_getElem_self hj
theorem qjd {a n:Int} (ha:0<=a/\a<=999999999) (hn:1<=n/\n<=999999999):w64 (a+w64 (0-n))=w64 (a-n):=by
 rw[qaV (n:=0-n) (by omega) (by omega)]
 congr 1
 omega
theorem qiT {lots:List qj} {holds:List qd} {e:qh} (h:(vw lots holds e).known=true): ∃x,lots.find? (fun x=>x.Name==e.Lot)=some x:=by
 unfold vw at h
 cases c:lots.find? (fun x=>x.Name==e.Lot)with
 |some x=>exact⟨x,rfl⟩
 |none=>rw[c]at h;cases h
theorem qlT {lots:List qj} {nm:Str} {x:qj} (h:lots.find? (fun x=>x.Name==nm)=some x): ∃j:Nat,lots[j]? =some x/\x.Name=nm:=by
 obtain⟨h1,j,hj,h2,_⟩:=List.find?_eq_some_iff_getElem.1 h
 exact⟨j,by rw[<-h2];exact Ya hj,by simpa using h1⟩
theorem qhL {N:Nat} (hN:2000<N) {day:Int} {lots:List qj} {holds:List qd} (o:OKS day lots holds) {e:qh} (k:qe0 e) (hkn:e.Kind≠knR->(vw lots holds e).known=true):
 xg N ⟨day,lots,holds⟩ e=some ⟨e.Day,nxL lots holds e,nxH lots holds e⟩:=by
 have hh:holds.length<=300:=by have:=o.hl;omega
 have ham:=qfu k.am
 unfold xg
 by_cases c:e.Kind=knR
 ·rw[if_pos (by rw[c];rfl),qeO hN e.Day holds o.ll o.lk,ZB]
  unfold nxL nxH jd qfE
  rw[if_pos c]
  have ho:=(k.rc c).2.2
  have h1:yZ (vw lots holds e).hold holds=holds:=by
   rw[qgJ,ho,qir o.hk]
   unfold yZ
   rw[if_pos ⟨rfl,rfl⟩]
   exact List.filter_eq_self.2 fun x hx=>by rw[qhT o.hk hx];rfl
  simp only
  rw[h1]
  congr 2
  congr 1
  unfold vw
  cases hf:lots.find? (fun x=>x.Name==e.Lot)with
  |some x=>rfl
  |none=>
   show(⟨e.Lot,e.Yarn,e.Dye,e.Amount⟩:qj)=⟨e.Lot,e.Yarn,e.Dye,w64 (0+e.Amount)⟩
   rw[qaV (by omega) (by omega),Int.zero_add]
 rw[if_neg (by simpa using c)]
 simp only
 rw[qfj hN e.Day lots hh,ZB]
 obtain⟨x,hx⟩:=qiT (hkn c)
 obtain⟨j,hj,hn⟩:=qlT hx
 have hin:=qhh o.hk e.Lot e.Order
 have hk:=qeD (holds:=holds) (lo:=e.Lot) (od:=e.Order)
 have hst:=(qjo o.lk (Yn hj)).2.2.2
 unfold nxL nxH jd
 rw[qi4 o.lk holds hj hn]
 unfold qfE
 rw[if_neg c]
 generalize jR holds e.Lot e.Order=H at*
 rcases k.kind with h|h|h|h|h
 ·exact absurd h c
 ·rw[h,if_pos (by rfl),if_pos rfl,ZB]
  simp only
  rw[qfe hN e.Day lots o.hl,ZB,qeX o.lk hj]
 ·rw[h,if_neg (by decide),if_pos (by rfl),if_neg (show¬knL=knV by decide),if_pos rfl,ZB]
  simp only
  rw[qfe hN e.Day lots o.hl,ZB,qeX o.lk hj,qjd hin.1 ham]
 ·rw[h,if_neg (by decide),if_neg (by decide),if_pos (by rfl),if_neg (show¬knT=knV by decide),if_neg (show¬knT=knL by decide),if_pos rfl,qeO hN e.Day holds o.ll o.lk,hx,ZB,ZB]
  simp only
  rw[qfe hN e.Day _ o.hl,ZB,qjd hst ham]
 rw[h,if_neg (by decide),if_neg (by decide),if_neg (by decide),if_neg (show¬knU=knV by decide),if_neg (show¬knU=knL by decide),if_neg (show¬knU=knT by decide),qeO hN e.Day holds o.ll o.lk,hx,ZB,ZB]
 simp only
 rw[qfe hN e.Day _ o.hl,ZB]
theorem qj1 {lots:List qj} (hs:qiD lots) {i j:Nat} {x y:qj} (hx:lots[i]? =some x) (hy:lots[j]? =some y) (e:x.Name=y.Name):x=y:=by
 obtain⟨hi,rfl⟩:=Yb.1 hx
 obtain⟨hj,rfl⟩:=Yb.1 hy
 have key:=List.pairwise_iff_getElem.1 hs
 rcases Nat.lt_trichotomy i j with c|c|c
 ·exact absurd e (qcx (key i j hi hj c))
 ·subst c;rfl
 exact absurd e.symm (qcx (key j i hj hi c))
theorem qgE {h:qd}: ∀{l:List qd},(∀x∈l,kq h.Lot h.Order x=false)->(qe3 h l).find? (kq h.Lot h.Order)=some h
 |[],_=>by
  rw[qe3,List.find?_cons,qfq.2 ⟨rfl,rfl⟩]
 |y::l,hk=>by
  rw[qe3]
  split
  ·rw[List.find?_cons,qfq.2 ⟨rfl,rfl⟩]
  rw[List.find?_cons,hk y List.mem_cons_self]
  exact qgE fun x hx=>hk x (List.mem_cons_of_mem _ hx)
theorem qjv {h:qd} {holds:List qd}:(jR (yZ h holds) h.Lot h.Order).Taken=h.Taken/\(jR (yZ h holds) h.Lot h.Order).Reserved=h.Reserved:=by
 unfold yZ
 by_cases c:h.Reserved=0/\h.Taken=0
 ·rw[if_pos c,qep fun j x hx=>qeB x (Yn hx)]
  exact⟨c.2.symm,c.1.symm⟩
 rw[if_neg c]
 unfold jR
 rw[qgE qeB]
 exact⟨rfl,rfl⟩
theorem qjL {N:Nat} (hN:2000<N) {day:Int} {lots:List qj} {holds:List qd} (o:OKS day lots holds) {e:qh} (k:qe0 e):xP N ⟨day,lots,holds⟩ e=some (qf8 day lots holds e):=by
 have hl:lots.length<=100:=by have:=o.ll;omega
 have hh:holds.length<=300:=by have:=o.hl;omega
 unfold xP qf8
 simp only
 by_cases c0:e.Day<day
 ·rw[if_pos c0,if_pos c0]
 rw[if_neg c0,if_neg c0]
 have last:(e.Kind≠knR->(vw lots holds e).known=true)->((xg N ⟨day,lots,holds⟩ e).bind fun r40=>
  (qK N r40 e.Lot).bind fun r41=>
  ((idx r40.Lots r41).bind fun x42=>
  if x42.Stock>999999999 then
  some true
  else
  (zZ N r40 e.Lot e.Order).bind fun r44=>
  some (decide (r44.Taken>999999999)):Option Bool).bind fun b45=>
  if b45=true then
  some 4
  else
  (if(r40.Lots.length:Int)>64 then
  some true
  else
  some (decide ((r40.Holds.length:Int)>256)):Option Bool).bind fun b49=>
  if b49=true then
  some 5
  else
  some (0:Int))=some (if 999999999<(jd lots holds e).lot.Stock\/999999999<(jd lots holds e).hold.Taken then 4 else if 64<(nxL lots holds e).length\/256<(nxH lots holds e).length then 5 else 0):=by
  intro hkn
  obtain⟨k1,k2,k3⟩:=qhC (lots:=lots) (holds:=holds) (e:=e)
  have hnl:(nxL lots holds e).length<=100:=by
   have:=qcl (x:=(jd lots holds e).lot) (lots:=lots)
   have:=o.ll
   unfold nxL;omega
  have hnh:(nxH lots holds e).length<=300:=by
   have:=qeZ (h:=(jd lots holds e).hold) (holds:=holds)
   have:=o.hl
   unfold nxH;omega
  rw[qhL hN o k hkn,ZB]
  obtain⟨j0,hj0⟩:=qgo (x:=(jd lots holds e).lot) (lots:=lots)
  rcases qim hN e.Day (nxH lots holds e) hnl e.Lot with⟨j,x,h1,h2,h3⟩|⟨h1,h2⟩
  ·have hx:x=(jd lots holds e).lot:=qj1 (qfl o.lk.srt) h2 hj0 (h3.trans k1.symm)
   subst hx
   rw[h1,ZB]
   simp only
   rw[qO,h2,ZB,qfj hN e.Day _ hnh,ZB]
   have ht:=(qjv (h:=(jd lots holds e).hold) (holds:=holds)).1
   rw[k2,k3]at ht
   rw[show jR (nxH lots holds e) e.Lot e.Order=jR (yZ (jd lots holds e).hold holds) e.Lot e.Order from rfl,ht]
   by_cases c1:999999999<(jd lots holds e).lot.Stock
   ·rw[if_pos (show(jd lots holds e).lot.Stock>999999999 from c1),ZB,if_pos rfl,if_pos (.inl c1)]
   rw[if_neg (show¬(jd lots holds e).lot.Stock>999999999 from c1),ZB]
   by_cases c2:999999999<(jd lots holds e).hold.Taken
   ·rw[decide_eq_true (show(jd lots holds e).hold.Taken>999999999 from c2),if_pos rfl,if_pos (.inr c2)]
   rw[decide_eq_false (show¬(jd lots holds e).hold.Taken>999999999 from c2),if_neg (by decide),if_neg (show¬(999999999<(jd lots holds e).lot.Stock\/999999999<(jd lots holds e).hold.Taken)by omega)]
   by_cases c3:64<(nxL lots holds e).length
   ·rw[if_pos (show((nxL lots holds e).length:Int)>64 by omega),ZB,if_pos rfl,if_pos (.inl c3)]
   rw[if_neg (show¬((nxL lots holds e).length:Int)>64 by omega),ZB]
   by_cases c4:256<(nxH lots holds e).length
   ·rw[decide_eq_true (show((nxH lots holds e).length:Int)>256 by omega),if_pos rfl,if_pos (.inr c4)]
   rw[decide_eq_false (show¬((nxH lots holds e).length:Int)>256 by omega),if_neg (by decide),if_neg (show¬(64<(nxL lots holds e).length\/256<(nxH lots holds e).length)by omega)]
  exact absurd k1 (h2 j0 _ hj0)
 have second: ∀{α:Type} {q:Option (Unit⊕Int)} (f:Unit⊕Int->Option Int),q=some (.inl ())->q.bind f=f (.inl ()):=fun f h=>by rw[h];rfl
 rcases qim hN day holds hl e.Lot with⟨j,x,h1,h2,h3⟩|⟨h1,h2⟩
 ·rw[h1,ZB]
  have ha:=qi4 o.lk holds h2 h3
  have hst:=(qjo o.lk (Yn h2)).2.2.2
  have last:=last (fun _=>by rw[ha])
  by_cases c:e.Kind=knR
  ·rw[if_pos (by rw[c];rfl),if_pos (show(j:Int)>=0 by omega),qO,h2,ZB]
   have hr:qaW e (vw lots holds e)=(x.Yarn==e.Yarn&&x.Dye==e.Dye):=by
    unfold qaW
    rw[if_pos c,ha]
    rfl
   have hf:qaF e.Kind (vw lots holds e) e.Amount=true:=by
    unfold qaF
    rw[if_pos c]
   have hb:((if(!(x.Yarn==e.Yarn))=true then some true else some (!(x.Dye==e.Dye)):Option Bool))=some (!(x.Yarn==e.Yarn&&x.Dye==e.Dye)):=by
    cases(x.Yarn==e.Yarn)<;>rfl
   rw[hb,ZB,hr,hf]
   cases hq:(x.Yarn==e.Yarn&&x.Dye==e.Dye)with
   |false=>rfl
   |true=>
    rw[if_neg (by decide),ZB,if_neg (by decide),if_neg (by decide)]
    exact last
  have hr:qaW e (vw lots holds e)=true:=by
   unfold qaW
   rw[if_neg c,ha]
  rw[if_neg (by simpa using c),if_neg (show¬(j:Int)<0 by omega),qfj hN day lots hh,ZB,qhq hN hh day h2 (qmJ hst),ZB,hr]
  have hf:qaF e.Kind (vw lots holds e) e.Amount=(if e.Kind=knV then decide (e.Amount<=frE holds x)else if e.Kind=knL then decide (e.Amount<=(jR holds e.Lot e.Order).Reserved)else if e.Kind=knT then decide (e.Amount<=w64 (frE holds x+(jR holds e.Lot e.Order).Reserved))else decide (e.Amount<=(jR holds e.Lot e.Order).Taken)):=by
   unfold qaF
   rw[if_neg c,ha]
  rw[if_neg (show¬(true=false)by decide)]
  have fin: ∀{q:Option Bool},q=some (!qaF e.Kind (vw lots holds e) e.Amount)-> ∀{F:Unit⊕Int->Option Int},F (.inl ())=some (if 999999999<(jd lots holds e).lot.Stock\/999999999<(jd lots holds e).hold.Taken then 4 else if 64<(nxL lots holds e).length\/256<(nxH lots holds e).length then 5 else 0)->F (.inr 3)=some 3->
   (q.bind fun b37=>if b37=true then some (.inr 3)else some (.inl ())).bind F=some (if qaF e.Kind (vw lots holds e) e.Amount=false then 3 else if 999999999<(jd lots holds e).lot.Stock\/999999999<(jd lots holds e).hold.Taken then 4 else if 64<(nxL lots holds e).length\/256<(nxH lots holds e).length then 5 else 0):=by
   intro q hq F f1 f2
   rw[hq,ZB]
   cases hz:qaF e.Kind (vw lots holds e) e.Amount with
   |false=>
    rw[if_pos (show(!false)=true from rfl),ZB,f2,if_pos rfl]
   |true=>
    rw[if_neg (by decide),ZB,f1,if_neg (show¬(true=false)by decide)]
  refine fin ?_ last rfl
  rw[hf]
  have dn: ∀{a b:Int},decide (a>b)=!decide (a<=b):=fun {a b}=>by
   by_cases h:a<=b
   ·rw[decide_eq_true h,decide_eq_false (by omega)];rfl
   rw[decide_eq_false h,decide_eq_true (by omega)];rfl
  have it: ∀{a b:Int},(if a>b then some true else some false:Option Bool)=some (!decide (a<=b)):=fun {a b}=>by
   by_cases h:a>b
   ·rw[if_pos h,decide_eq_false (by omega)];rfl
   rw[if_neg h,decide_eq_true (by omega)];rfl
  rcases k.kind with h|h|h|h|h
  ·exact absurd h c
  ·rw[h,if_pos rfl,if_pos (show(knV==[114,101,115,101,114,118,101])=true from rfl),if_neg (show¬(knV==[114,101,108,101,97,115,101])=true by decide),if_neg (show¬(knV==[116,97,107,101])=true by decide),if_neg (show¬(knV==[114,101,116,117,114,110])=true by decide),it]
  ·rw[h,if_neg (show¬knL=knV by decide),if_pos rfl,if_neg (show¬(knL==[114,101,115,101,114,118,101])=true by decide),if_pos (show(knL==[114,101,108,101,97,115,101])=true from rfl),if_neg (show¬(knL==[116,97,107,101])=true by decide),if_neg (show¬(knL==[114,101,116,117,114,110])=true by decide),it]
  ·rw[h,if_neg (show¬knT=knV by decide),if_neg (show¬knT=knL by decide),if_pos rfl,if_neg (show¬(knT==[114,101,115,101,114,118,101])=true by decide),if_neg (show¬(knT==[114,101,108,101,97,115,101])=true by decide),if_pos (show(knT==[116,97,107,101])=true from rfl),if_neg (show¬(knT==[114,101,116,117,114,110])=true by decide),it]
  rw[h,if_neg (show¬knU=knV by decide),if_neg (show¬knU=knL by decide),if_neg (show¬knU=knT by decide),if_neg (show¬(knU==[114,101,115,101,114,118,101])=true by decide),if_neg (show¬(knU==[114,101,108,101,97,115,101])=true by decide),if_neg (show¬(knU==[116,97,107,101])=true by decide),if_pos (show(knU==[114,101,116,117,114,110])=true from rfl),dn]
 rw[h1,ZB]
 have ha:=qmb holds h2
 by_cases c:e.Kind=knR
 ·have last:=last (fun h=>absurd c h)
  have hr:qaW e (vw lots holds e)=true:=by
   unfold qaW
   rw[if_pos c,ha]
   rfl
  have hf:qaF e.Kind (vw lots holds e) e.Amount=true:=by
   unfold qaF
   rw[if_pos c]
  rw[if_pos (by rw[c];rfl),if_neg (by decide),ZB,if_neg (by decide),ZB,hr,hf,if_neg (by decide),if_neg (by decide)]
  exact last
 have hr:qaW e (vw lots holds e)=false:=by
  unfold qaW
  rw[if_neg c,ha]
 rw[if_neg (by simpa using c),if_pos (by decide),ZB,hr,if_pos rfl]
end Go.Av
end
section
namespace Go.Av
open Go.Proofs Go.RowKit
variable [Glob]
def qdl (e:qh):Bool:=e.Kind==knR||(e.Kind==knV||(e.Kind==knL||(e.Kind==knT||e.Kind==knU)))
def qd7 (e:qh):Int:=
 if qdl e=false then 13 else if(vJ e.Day 0 99999||vJ e.Amount 1 999999999)=true then 3 else if zm e.Lot=false then 8
 else if e.Kind=knR then(if(zm e.Yarn&&qcM e.Dye)=false then 8 else if e.Order=[]then 0 else 1)
 else(if zm e.Order=false then 8 else if(e.Yarn==[]&&e.Dye==[])=true then 0 else 1)
def ShE (e:qh):Prop:=e.Kind.length<=60/\e.Lot.length<=60/\e.Yarn.length<=60/\e.Dye.length<=60/\e.Order.length<=60
theorem qm7 (e:qh): ∃b,yl e=some b/\(b=true->ShE e):=by
 unfold yl ShE
 repeat' split
 all_goals (refine⟨_,rfl,fun h=>?_⟩)
 all_goals first|(exact absurd h (by decide))|(have:=of_decide_eq_true h;omega)
theorem qeT {e:qh}:qdl e=true↔e.Kind=knR\/e.Kind=knV\/e.Kind=knL\/e.Kind=knT\/e.Kind=knU:=by
 simp[qdl]
theorem qjw {e:qh}:qd7 e=0↔qe0 e:=by
 unfold qd7
 constructor
 ·intro h
  by_cases c1:qdl e=false
  ·rw[if_pos c1]at h;cases h
  rw[if_neg c1]at h
  by_cases c2:(vJ e.Day 0 99999||vJ e.Amount 1 999999999)=true
  ·rw[if_pos c2]at h;cases h
  rw[if_neg c2]at h
  by_cases c3:zm e.Lot=false
  ·rw[if_pos c3]at h;cases h
  rw[if_neg c3]at h
  have c2':vJ e.Day 0 99999=false/\vJ e.Amount 1 999999999=false:=by simpa using c2
  have base:qdl e=true:=by simpa using c1
  by_cases c4:e.Kind=knR
  ·rw[if_pos c4]at h
   by_cases c5:(zm e.Yarn&&qcM e.Dye)=false
   ·rw[if_pos c5]at h;cases h
   rw[if_neg c5]at h
   by_cases c6:e.Order=[]
   ·have c5':zm e.Yarn=true/\qcM e.Dye=true:=by simpa using c5
    exact⟨qeT.1 base,c2'.1,c2'.2,by simpa using c3,fun _=>⟨c5'.1,c5'.2,c6⟩,fun h=>absurd c4 h⟩
   rw[if_neg c6]at h;cases h
  rw[if_neg c4]at h
  by_cases c5:zm e.Order=false
  ·rw[if_pos c5]at h;cases h
  rw[if_neg c5]at h
  by_cases c6:(e.Yarn==[]&&e.Dye==[])=true
  ·have c6':e.Yarn=[]/\e.Dye=[]:=by simpa using c6
   exact⟨qeT.1 base,c2'.1,c2'.2,by simpa using c3,fun h=>absurd h c4,fun _=>⟨by simpa using c5,c6'.1,c6'.2⟩⟩
  rw[if_neg c6]at h;cases h
 rintro⟨h1,h2,h3,h4,h5,h6⟩
 rw[qeT.2 h1,h2,h3,h4,if_neg (by decide),if_neg (by decide),if_neg (by decide)]
 by_cases c:e.Kind=knR
 ·obtain⟨g1,g2,g3⟩:=h5 c
  rw[if_pos c,g1,g2,g3]
  rfl
 obtain⟨g1,g2,g3⟩:=h6 c
 rw[if_neg c,g1,g2,g3]
 rfl
theorem ychkE {N:Nat} (hN:2000<N) {e:qh} (s:ShE e):vP N e=some (qd7 e):=by
 obtain⟨s1,s2,s3,s4,s5⟩:=s
 have hk:((vT).bind fun r1=>
  if(e.Kind==[114,101,99,101,105,118,101])=true then some true
  else if(e.Kind==[114,101,115,101,114,118,101])=true then some true
  else if(e.Kind==[114,101,108,101,97,115,101])=true then some true
  else if(e.Kind==[116,97,107,101])=true then some true
  else if(e.Kind==[114,101,116,117,114,110])=true then some true
  else some false:Option Bool)=some (qdl e):=by
  unfold vT qdl
  simp only[ZB]
  cases(e.Kind==knR)<;>cases(e.Kind==knV)<;>cases(e.Kind==knL)<;>cases(e.Kind==knT)<;>cases(e.Kind==knU)<;>rfl
 unfold vP
 rw[hk,ZB,jc,ZB,qb7,ZB,qb7,ZB,qbh (by omega),ZB,qci hN (by simp),ZB]
 unfold qd7
 cases c1:qdl e with
 |false=>rfl
 |true=>
  cases c2:vJ e.Day 0 99999 with
  |true=>rfl
  |false=>
   cases c3:vJ e.Amount 1 999999999 with
   |true=>rfl
   |false=>
    cases c4:zm e.Lot with
    |false=>rfl
    |true=>
     rw[if_neg (show¬(!decide (zt [if(!true)=true then 13 else 0,if false=true then 3 else 0,if false=true then 3 else 0,if true=true then 0 else 8]=0))=true by decide),if_neg (show¬(true=false)by decide),if_neg (show¬((false||false)=true)by decide),if_neg (show¬(true=false)by decide)]
     by_cases c5:e.Kind=knR
     ·rw[if_pos (show(e.Kind==[114,101,99,101,105,118,101])=true by rw[c5];rfl),if_pos c5,qbh (by omega),ZB,qi1 (by omega),ZB,jc,ZB,qci hN (by simp),ZB]
      have ho:(e.Order=[])=((e.Order==[])=true):=by simp
      simp only[ho]
      cases zm e.Yarn<;>cases qcM e.Dye<;>cases(e.Order==[])<;>rfl
     rw[if_neg (show¬(e.Kind==[114,101,99,101,105,118,101])=true by simpa using c5),if_neg c5,qbh (by omega),ZB]
     cases hy:(e.Yarn==[])with
     |false=>
      rw[if_pos (by rfl),jc,ZB,qci hN (by simp),ZB,ZB]
      cases zm e.Order<;>rfl
     |true=>
      rw[if_neg (by decide),jc,ZB,qci hN (by simp),ZB,ZB]
      cases zm e.Order<;>cases(e.Dye==[])<;>rfl
theorem rchkE {N:Nat} (hN:2000<N) {e:qh} (s:ShE e):vg N e=some (qd7 e):=by
 obtain⟨s1,s2,s3,s4,s5⟩:=s
 have hk:((if(!(e.Kind==[114,101,99,101,105,118,101]))=true then
  if(!(e.Kind==[114,101,115,101,114,118,101]))=true then
  if(!(e.Kind==[114,101,108,101,97,115,101]))=true then
  if(!(e.Kind==[116,97,107,101]))=true then
  some (!(e.Kind==[114,101,116,117,114,110]))
  else some false
  else some false
  else some false
  else some false:Option Bool))=some (!qdl e):=by
  unfold qdl
  cases(e.Kind==knR)<;>cases(e.Kind==knV)<;>cases(e.Kind==knL)<;>cases(e.Kind==knT)<;>cases(e.Kind==knU)<;>rfl
 unfold vg
 rw[hk,ZB,qds,ZB]
 simp only[qds]
 unfold qd7
 cases c1:qdl e with
 |false=>rfl
 |true=>
  cases c2:vJ e.Day 0 99999 with
  |true=>rfl
  |false=>
   cases c3:vJ e.Amount 1 999999999 with
   |true=>rfl
   |false=>
    rw[if_neg (by decide),if_neg (by decide),ZB,ZB,if_neg (by decide),xh (by omega) (by omega),ZB,if_neg (show¬(true=false)by decide),if_neg (show¬((false||false)=true)by decide)]
    cases c4:zm e.Lot with
    |false=>rfl
    |true=>
     rw[if_neg (by decide),if_neg (show¬(true=false)by decide)]
     by_cases c5:e.Kind=knR
     ·rw[if_pos (show(e.Kind==[114,101,99,101,105,118,101])=true by rw[c5];rfl),if_pos c5,xh (by omega) (by omega),ZB,qhg (by omega) (by omega),ZB]
      have ho:(e.Order=[])=((e.Order==[])=true):=by simp
      simp only[ho]
      cases zm e.Yarn<;>cases qcM e.Dye<;>cases(e.Order==[])<;>rfl
     rw[if_neg (show¬(e.Kind==[114,101,99,101,105,118,101])=true by simpa using c5),if_neg c5,xh (by omega) (by omega),ZB]
     cases zm e.Order<;>cases(e.Yarn==[])<;>cases(e.Dye==[])<;>rfl
theorem qjn {a:StateT} (h:a.Lots.length<=1000): ∀(K i:Nat),i<=a.Lots.length->a.Lots.length<K+i->vY a a K (i:Int)=some (.inl ())
 |0,i,h1,h2=>by omega
 |K+1,i,h1,h2=>by
  unfold vY
  by_cases hi:i<a.Lots.length
  ·rw[if_pos (by omega),qO,Ya hi,ZB,ZB,if_neg (by simp),jU (by omega)]
   exact qjn h K (i+1) (by omega) (by omega)
  rw[if_neg (by omega)]
theorem qjj {a:StateT} (h:a.Holds.length<=1000): ∀(K i:Nat),i<=a.Holds.length->a.Holds.length<K+i->vV a a K (i:Int)=some (.inl ())
 |0,i,h1,h2=>by omega
 |K+1,i,h1,h2=>by
  unfold vV
  by_cases hi:i<a.Holds.length
  ·rw[if_pos (by omega),qO,Ya hi,ZB,ZB,if_neg (by simp),jU (by omega)]
   exact qjj h K (i+1) (by omega) (by omega)
  rw[if_neg (by omega)]
theorem same_eq {N:Nat} (hN:2000<N) {a:StateT} (h1:a.Lots.length<=1000) (h2:a.Holds.length<=1000):qax N a a=some true:=by
 unfold qax
 rw[decide_eq_true rfl,decide_eq_true rfl,decide_eq_true rfl,if_neg (by decide),if_neg (by decide),ZB,if_neg (by decide)]
 have g1:=qjn h1 N 0 (by omega) (by omega)
 have g2:=qjj h2 N 0 (by omega) (by omega)
 rw[show((0:Nat):Int)=0 from rfl]at g1 g2
 rw[g1,ZB]
 simp only
 rw[g2]
 rfl
theorem qid {day:Int} {lots:List qj} {holds:List qd} {e:qh} (h:qf8 day lots holds e=0):day<=e.Day/\qaW e (vw lots holds e)=true/\qaF e.Kind (vw lots holds e) e.Amount=true/\(jd lots holds e).lot.Stock<=999999999/\(jd lots holds e).hold.Taken<=999999999/\(nxL lots holds e).length<=64/\(nxH lots holds e).length<=256:=by
 unfold qf8 at h
 by_cases c1:e.Day<day
 ·rw[if_pos c1]at h;cases h
 rw[if_neg c1]at h
 by_cases c2:qaW e (vw lots holds e)=false
 ·rw[if_pos c2]at h;cases h
 rw[if_neg c2]at h
 by_cases c3:qaF e.Kind (vw lots holds e) e.Amount=false
 ·rw[if_pos c3]at h;cases h
 rw[if_neg c3]at h
 by_cases c4:999999999<(jd lots holds e).lot.Stock\/999999999<(jd lots holds e).hold.Taken
 ·rw[if_pos c4]at h;cases h
 rw[if_neg c4]at h
 by_cases c5:64<(nxL lots holds e).length\/256<(nxH lots holds e).length
 ·rw[if_pos c5]at h;cases h
 exact⟨by omega,by simpa using c2,by simpa using c3,by omega,by omega,by omega,by omega⟩
theorem qh7 {lots:List qj} {holds:List qd} {e:qh} (h:qaW e (vw lots holds e)=true):e.Kind≠knR->(vw lots holds e).known=true:=by
 intro c
 unfold qaW at h
 rwa [if_neg c]at h
theorem qkC {a b:Int}:zt [a,b]=if a=0 then b else a:=by
 unfold zt zt zt
 by_cases h:a=0
 ·rw[if_pos h,if_pos h]
  by_cases g:b=0
  ·rw[if_pos g,g]
  rw[if_neg g]
 rw[if_neg h,if_neg h]
theorem qjZ {N:Nat} (hN:2000<N) {day:Int} {lots:List qj} {holds:List qd} (o:OKS day lots holds) {e:qh} (k:qe0 e) (h:qf8 day lots holds e=0):
 jV N ⟨day,lots,holds⟩ e=some ⟨e.Day,nxL lots holds e,nxH lots holds e⟩/\xg N ⟨day,lots,holds⟩ e=some ⟨e.Day,nxL lots holds e,nxH lots holds e⟩:=by
 obtain⟨h1,h2,h3,_⟩:=qid h
 obtain⟨n1,n2⟩:=qlH o k h3
 exact⟨qjf hN o k n1 n2,qhL hN o k (qh7 h2)⟩
end Go.Av
end
section
namespace Go.Av
open Go.Proofs Go.RowKit
variable [Glob]
theorem qm0 {lots:List qj} {holds:List qd} {e:qh}:(nxL lots holds e).length<=lots.length+1/\(nxH lots holds e).length<=holds.length+1:=⟨qcl,qeZ⟩
theorem qec {N:Nat} (s:qm) (e:qh) (hN:600000+s.Lots.length+s.Holds.length<N) (b1:s.Lots.length*56<=140737488355328) (b2:s.Holds.length*48<=140737488355328):yU N s e=some true:=by
 obtain⟨day,lots,holds⟩:=s
 simp only at hN b1 b2
 have hN2:2000<N:=by omega
 unfold yU awk
 have hcp:yo N ⟨day,lots,holds⟩=some ⟨day,lots,holds⟩:=qgm (s:=⟨day,lots,holds⟩) (show lots.length<N by omega) (show holds.length<N by omega) b1 b2
 rw[hcp,ZB]
 obtain⟨b,hb,hsh⟩:=qlv hN2 day lots holds
 rw[hb]
 simp only[ZB]
 cases b with
 |false=>rfl
 |true=>
  obtain⟨hl,hh,sl,sh⟩:=hsh rfl
  obtain⟨b',hb',hse⟩:=qm7 e
  rw[hb']
  cases b' with
  |false=>rfl
  |true=>
   have se:=hse rfl
   obtain⟨E,e1,e2,e3⟩:=qil hN2 day hl hh sl sh
   have c1:=ychkE hN2 se
   have c2:=rchkE hN2 se
   have f1:zF N [E,qd7 e]=some (zt [E,qd7 e]):=qci hN2 (by simp)
   have f2:xS N [E,qd7 e]=some (zt [E,qd7 e]):=lfst hN2 (by simp)
   simp only[Bool.not_true,ZF,if_false,ZB]
   have hck: ∀(d:Int) (l:List qj) (h:List qd),l.length<=1000->h.length<=1000->yo N ⟨d,l,h⟩=some ⟨d,l,h⟩/\qax N ⟨d,l,h⟩ ⟨d,l,h⟩=some true:=by
    intro d l h g4 g5
    exact⟨qgm (s:=⟨d,l,h⟩) (show l.length<N by omega) (show h.length<N by omega) (show l.length*56<=_ by omega) (show h.length*48<=_ by omega),same_eq (a:=⟨d,l,h⟩) hN2 g4 g5⟩
   have hLg: ∃L,qaq N ⟨day,lots,holds⟩ e=some (if zt [E,qd7 e]=0 then(L,0)else(0,zt [E,qd7 e]))/\(zt [E,qd7 e]=0->OKS day lots holds/\qe0 e/\L=qf8 day lots holds e/\vo N ⟨day,lots,holds⟩ e=some L/\xP N ⟨day,lots,holds⟩ e=some L):=by
    unfold qaq
    rw[e1,ZB,c1,ZB,f1,ZB]
    by_cases z:zt [E,qd7 e]=0
    ·have z':=z
     rw[qkC]at z'
     have hE:E=0:=by
      by_cases q:E=0
      ·exact q
      rw[if_neg q]at z';exact z'
     rw[if_pos hE]at z'
     have o:=e3.1 hE
     have k:=qjw.1 z'
     have l1:=qkN hN2 o k
     have l2:=qjL hN2 o k
     rw[if_neg (by simp[z])]
     refine⟨qf8 day lots holds e,?_,fun _=>⟨o,k,rfl,l1,l2⟩⟩
     rw[l1,if_pos z]
     rfl
    rw[if_pos (by simp[z])]
    refine⟨0,?_,fun q=>absurd q z⟩
    rw[if_neg z]
   obtain⟨L,l1,l2⟩:=hLg
   unfold qdu
   rw[l1,e2]
   simp only[ZB]
   rw[c2]
   simp only[ZB]
   rw[f2]
   simp only[ZB]
   generalize hF:zt [E,qd7 e]=F at*
   by_cases z:F=0
   ·obtain⟨o,k,hL,g1,g2⟩:=l2 z
    subst z
    rw[if_pos rfl,if_pos rfl,g2]
    simp only[ZB]
    rw[jc]
    simp only[ZB]
    rw[qci hN2 (by simp),qjX]
    simp only[ZB]
    by_cases y:L=0
    ·have hW:zt [(0:Int),if(!decide (L=0))=true then 18 else 0]=0:=by rw[y];rfl
     have hV:(if(!decide (L=0))=true then(18:Int)else 0)=0:=by rw[y];rfl
     obtain⟨n1,n2⟩:=qjZ hN2 o k (hL▸y)
     rw[hW,hV,if_neg (by decide),if_pos rfl,n1,n2]
     have hn:=qm0 (lots:=lots) (holds:=holds) (e:=e)
     obtain⟨q1,q2⟩:=hck e.Day (nxL lots holds e) (nxH lots holds e) (by omega) (by omega)
     simp only[ZB,e1,c1,eq_self,if_true,q1,q2]
    have hW:zt [(0:Int),if(!decide (L=0))=true then 18 else 0]=18:=by rw[decide_eq_false y];rfl
    have hV:(if(!decide (L=0))=true then(18:Int)else 0)=18:=by rw[decide_eq_false y];rfl
    rw[hW,hV,if_pos (by decide),if_neg (by decide)]
    obtain⟨q1,q2⟩:=hck 0 [] [] (Nat.zero_le _) (Nat.zero_le _)
    simp only[ZB,e1,c1,eq_self,if_true,q1,q2]
   rw[if_neg z,if_neg z]
   simp only[ZB]
   rw[jc]
   simp only[ZB]
   rw[qci hN2 (by simp)]
   simp only[ZB]
   have hW:zt [F,if(!decide True)=true then 18 else 0]=F:=by rw[qkC,if_neg z]
   rw[hW,if_pos (by simp[z]),if_neg z]
   obtain⟨q1,q2⟩:=hck 0 [] [] (Nat.zero_le _) (Nat.zero_le _)
   simp only[ZB,e1,c1,eq_self,if_true,q1,q2]
end Go.Av
end
