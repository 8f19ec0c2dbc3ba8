/-
  Names.
-/
import Derived.Test.YtcnioemfifogeaaGreatDoorAvPt
import Derived.Test.YtcnioemfifogeaaGreatDoorQGenTs
noncomputable section
set_option linter.unusedSimpArgs false
set_option linter.unusedVariables false
set_option maxRecDepth 100000
set_option linter.unusedSectionVars false
section
namespace Go.Av
structure qub where
 Day:Int
 Lots:List zY
 Holds:List qE
def qla (s_:qub) (name:Str):Nat->Int->Option (Unit⊕Int)
 |0,_=>none
 |K+1,n1=>
  if n1<(s_.Lots.length:Int)then
  (idx s_.Lots n1).bind fun x5=>
  if(x5.Name==name)=true then
  some (.inr n1)
  else
  qla s_ name K (w64 (n1+1))
  else
  some (.inl ())
def qqS (N:Nat) (s_:qub) (name:Str):Option Int:=
 (qla s_ name N 0).bind (fun
 |(.inl ())=>
 some (-1)
 |(.inr q7)=>
 some q7)
def qud (a:qE) (b:qE):Option Bool:=
 (if(!(ltL a.Lot b.Lot||a.Lot==b.Lot))=true then
 some true
 else
 if(a.Lot==b.Lot)=true then
 some (!(ltL a.Order b.Order||a.Order==b.Order))
 else
 some false:Option Bool).bind fun b3=>
 some b3
def qnn (s_:qub) (i:Int):Nat->Int->Int->Option Int
 |0,_,_=>none
 |K+1,n2,n3=>
  if n3<(s_.Holds.length:Int)then
  (((idx s_.Holds n3).bind fun x9=>
  (idx s_.Lots i).bind fun x10=>
  if(x9.Lot==x10.Name)=true then
  some (w64 (n2-x9.Reserved))
  else
  some n2:Option Int)).bind fun n7=>
  qnn s_ i K n7 (w64 (n3+1))
  else
  some n2
def qru (N:Nat) (s_:qub) (i:Int):Option Int:=
 (idx s_.Lots i).bind fun x1=>
 (qnn s_ i N x1.Stock 0).bind fun n4=>
 some n4
def qnw (N:Nat) (s_:qub):Nat->Int->Option (Unit⊕Int)
 |0,_=>none
 |K+1,n4=>
  if n4<(s_.Lots.length:Int)then
  (idx s_.Lots n4).bind fun x8=>
  ((qji N x8.Name).bind fun r9=>
  if(!r9)=true then
  some true
  else
  (qji N x8.Yarn).bind fun r11=>
  if(!r11)=true then
  some true
  else
  (qqu N x8.Dye).bind fun r13=>
  some (!r13):Option Bool).bind fun b14=>
  if b14=true then
  some (.inr 8)
  else
  (if n4>0 then
  (idx s_.Lots (w64 (n4-1))).bind fun x18=>
  some (ltL x8.Name x18.Name||x8.Name==x18.Name)
  else
  some false:Option Bool).bind fun b19=>
  if b19=true then
  some (.inr 11)
  else
  (qoN x8.Stock 0 999999999).bind fun r22=>
  if r22=true then
  some (.inr 3)
  else
  qnw N s_ K (w64 (n4+1))
  else
  some (.inl ())
def qnu (N:Nat) (s_:qub):Nat->Int->Option (Unit⊕Int)
 |0,_=>none
 |K+1,n25=>
  if n25<(s_.Holds.length:Int)then
  (idx s_.Holds n25).bind fun x29=>
  (qqS N s_ x29.Lot).bind fun r30=>
  if r30<0 then
  some (.inr 10)
  else
  (qji N x29.Order).bind fun r32=>
  if(!r32)=true then
  some (.inr 8)
  else
  (if n25>0 then
  (idx s_.Holds (w64 (n25-1))).bind fun x35=>
  (qud x29 x35).bind fun r36=>
  some (!r36)
  else
  some false:Option Bool).bind fun b37=>
  if b37=true then
  some (.inr 11)
  else
  ((qoN x29.Reserved 0 999999999).bind fun r40=>
  if r40=true then
  some true
  else
  (qoN x29.Taken 0 999999999).bind fun r42=>
  some r42:Option Bool).bind fun b43=>
  if b43=true then
  some (.inr 3)
  else
  (if x29.Reserved=0 then
  some (decide (x29.Taken=0))
  else
  some false:Option Bool).bind fun b47=>
  if b47=true then
  some (.inr 6)
  else
  qnu N s_ K (w64 (n25+1))
  else
  some (.inl ())
def qjl (N:Nat) (s_:qub):Nat->Int->Option (Unit⊕Int)
 |0,_=>none
 |K+1,n50=>
  if n50<(s_.Lots.length:Int)then
  (qru N s_ n50).bind fun r54=>
  if r54<0 then
  some (.inr 32)
  else
  qjl N s_ K (w64 (n50+1))
  else
  some (.inl ())
def qro (N:Nat) (s_:qub):Option Int:=
 (qoN s_.Day 0 99999).bind fun r1=>
 if r1=true then
 some 3
 else
 if(s_.Lots.length:Int)>64 then
 some 5
 else
 (qnw N s_ N 0).bind (fun
 |(.inl ())=>
 if(s_.Holds.length:Int)>256 then
 some 5
 else
 (qnu N s_ N 0).bind (fun
 |(.inl ())=>
 (qjl N s_ N 0).bind (fun
 |(.inl ())=>
 some 0
 |(.inr q56)=>
 some q56)
 |(.inr q57)=>
 some q57)
 |(.inr q58)=>
 some q58)
theorem qC9 {s:Str} {k:Nat} {c:UInt8} (h:s[k]? =some c):((⟨s.toArray⟩:ByteArray).get! k)=c:=by
 have hk:=(Yb.1 h).1
 show s.toArray[k]! =c
 rw[getElem!_def]
 simp[h]
theorem qEU {s:Str} {k:Nat} {c:UInt8} (h:s[k]? =some c) (hc:c.toNat<128):qmW s k=c.toNat/\runeLen s k=1:=by
 have e:=qC9 h
 unfold qmW runeLen Utf8.decode
 simp only[Nat.add_zero,e,if_pos hc,and_self]
theorem qFO {s:Str} {k:Nat} {c:UInt8} (h:s[k]? =some c) (hc:128<=c.toNat):128<=qmW s k:=by
 have e:=qC9 h
 unfold qmW Utf8.decode
 simp only[Nat.add_zero,e,if_neg (Nat.not_lt.2 hc)]
 have hr:(128:Nat)<=Utf8.runeError:=by decide
 repeat' split
 all_goals first|(simp only[Bool.and_eq_true,decide_eq_true_eq]at*;omega)|(simp;omega)|omega
def qCs (c:Int):Bool:=(decide (97<=c)&&decide (c<=122))||(decide (65<=c)&&decide (c<=90))
theorem qzT (c:Int):qm2 c=some (qCs c):=by
 unfold qm2 qCs
 by_cases h1:c>=97<;>by_cases h2:c<=122<;>by_cases h3:c>=65<;>by_cases h4:c<=90<;>simp[h1,h2,h3,h4]<;>omega
def qDj (k:Nat) (c:Int):Bool:=!qCs c&&(decide (k=0)||(!decide (c=95)&&(decide (c<48)||decide (c>57))))
def qeC (s:Str):Bool:=decide (1<=s.length)&&decide (s.length<=24)&&!((List.range s.length).any fun k=>qDj k (s.getD k 0).toNat)
theorem qGv {k:Nat} {c:Int} (h:128<=c):qDj k c=true:=by
 unfold qDj qCs
 simp
 omega
def qq3 (s:Str) (k:Nat):Bool:=(List.range (s.length-k)).any fun j=>qDj (k+j) (s.getD (k+j) 0).toNat
theorem qy4 {s:Str} {k:Nat} {c:UInt8} (h:s[k]? =some c):qq3 s k=(qDj k c.toNat||qq3 s (k+1)):=by
 have hk:=(Yb.1 h).1
 unfold qq3
 rw[show s.length-k=(s.length-(k+1))+1 by omega,List.range_succ_eq_map,List.any_cons,List.any_map]
 congr 1
 ·simp[List.getD,h]
 congr 1
 funext j
 simp only[Function.comp,Nat.succ_eq_add_one]
 rw[show k+(j+1)=k+1+j by omega]
theorem qzR {s:Str} {k:Nat} (h:s.length<=k):qq3 s k=false:=by
 unfold qq3
 rw[show s.length-k=0 by omega]
 rfl
theorem qB4 (s:Str): ∀(K k:Nat),k<=s.length->s.length<K+k->qjN s K k=some (if qq3 s k then .inr false else .inl ())
 |0,k,h,hK=>by omega
 |K+1,k,h,hK=>by
  unfold qjN
  by_cases hk:k<s.length
  ·have hc:s[k]? =some s[k]:=Ya hk
   rw[if_pos hk,qzT,qy4 hc]
   by_cases ha:(s[k]).toNat<128
   ·obtain⟨e1,e2⟩:=qEU hc ha
    rw[e1,e2,qB4 s K (k+1) (by omega) (by omega)]
    have ek:((k:Int)=0)↔k=0:=by omega
    unfold qDj
    generalize ((s[k]).toNat:Int)=c
    cases hl:qCs c<;>by_cases h0:k=0<;>by_cases h1:c=95<;>by_cases h2:c<48<;>by_cases h3:57<c<;>
     simp[hl,h0,h1,h2,h3]
   have hw:=qFO hc (by omega)
   rw[qGv (show(128:Int)<=((s[k]).toNat:Int)by omega)]
   have hl:qCs (qmW s k)=false:=by unfold qCs;simp;omega
   have h1: ¬qmW s k=95:=by omega
   have h2: ¬qmW s k<48:=by omega
   have h3:qmW s k>57:=by omega
   have ek:((k:Int)=0)↔k=0:=by omega
   simp only[hl,ZB,Bool.not_false,if_true,h1,h2,h3,decide_true,decide_false,if_false,Bool.true_or,ek]
   by_cases h0:k=0
   ·simp only[h0,if_true,ZB]
   simp only[h0,if_false,ZB,if_true]
  rw[if_neg hk,qzR (by omega)]
  rfl
theorem qDp (s:Str):qeC s=(decide (1<=s.length)&&decide (s.length<=24)&&!qq3 s 0):=by
 unfold qeC qq3
 simp
theorem qB7 {N:Nat} {s:Str} (h:s.length<N):qoG N s=some (qeC s):=by
 unfold qoG
 rw[qB4 s N 0 (Nat.zero_le _) (by omega),qDp]
 cases hb:qq3 s 0
 ·cases s with
  |nil=>simp
  |cons x xs=>
   have e:((x::xs)==([]:Str))=false:=rfl
   simp only[ZB,ZF,if_false,e,Bool.not_false,if_true,Bool.and_true,ZI]
   have:(1<=(x::xs).length):=by simp
   rw[Bool.eq_iff_iff]
   simp only[decide_eq_true_eq,Bool.and_eq_true,this,true_and]
   omega
 simp
theorem qAp (s:Str) (hs:s.length<4611686018427387904): ∀(K k:Nat),k<=s.length->s.length<K+k->qlB s K (k:Int)=some (if qq3 s k then .inr false else .inl ())
 |0,k,h,hK=>by omega
 |K+1,k,h,hK=>by
  unfold qlB
  by_cases hk:k<s.length
  ·have hc:s[k]? =some s[k]:=Ya hk
   rw[if_pos (by omega),qfc,hc,qy4 hc,qmz (by omega),qAp s hs K (k+1) (by omega) (by omega)]
   simp only[ZB]
   have ek:((k:Int)=0)↔k=0:=by omega
   unfold qDj
   generalize ((s[k]).toNat:Int)=c
   rw[show(if c>=97 then if c<=122 then some true else if c>=65 then some (decide (c<=90))else some false else if c>=65 then some (decide (c<=90))else some false:Option Bool)=some (qCs c)from by
    have:=qzT c
    unfold qm2 at this
    rw[<-this]
    cases(if c>=97 then if c<=122 then some true else if c>=65 then some (decide (c<=90))else some false else if c>=65 then some (decide (c<=90))else some false:Option Bool)<;>rfl]
   simp only[ZB,ek]
   cases qCs c
   ·by_cases h5:k=0
    ·simp[h5]
    by_cases h6:c>=48
    ·by_cases h7:c<=57
     ·have a1: ¬c<48:=by omega
      have a2: ¬c>57:=by omega
      simp[h5,h6,h7,a1,a2]
     have a1: ¬c<48:=by omega
     have a2:c>57:=by omega
     by_cases h8:c=95<;>simp[h5,h6,h7,h8,a1,a2]
    have a1:c<48:=by omega
    by_cases h8:c=95<;>simp[h5,h6,h8,a1]
   simp
  rw[if_neg (by omega),qzR (by omega)]
  rfl
theorem qo7 {N:Nat} {s:Str} (h:s.length<N) (hs:s.length<4611686018427387904):qji N s=some (qeC s):=by
 unfold qji
 rw[show(0:Int)=((0:Nat):Int)from rfl,qAp s hs N 0 (Nat.zero_le _) (by omega),qDp]
 by_cases h1:s.length<1
 ·rw[if_pos (by omega)]
  simp[show¬1<=s.length by omega]
 by_cases h2:s.length>24
 ·rw[if_neg (by omega)]
  simp only[ZB,show((s.length:Int)>24)by omega,decide_true,if_true,show¬s.length<=24 by omega,decide_false,Bool.and_false,Bool.false_and]
 rw[if_neg (by omega)]
 simp only[ZB,show¬((s.length:Int)>24)by omega,decide_false,ZF,if_false,show 1<=s.length by omega,show s.length<=24 by omega,decide_true,Bool.true_and]
 cases hb:qq3 s 0<;>rfl
end Go.Av
end
section
namespace Go.Av
def qo3:List Int->Int
 |[]=>0
 |a::l=>if a=0 then qo3 l else a
theorem qpu {α:Type} {l:List α} {i:Nat} (h:i<l.length):l.drop i=l[i]::l.drop (i+1):=List.drop_eq_getElem_cons h
theorem qGE {l:List Int} (hl:l.length<=1000): ∀(K i:Nat),i<=l.length->l.length<K+i->qnj l K (i:Int)=some (if qo3 (l.drop i)=0 then .inl ()else .inr (qo3 (l.drop i)))
 |0,i,h,hK=>by omega
 |K+1,i,h,hK=>by
  unfold qnj
  by_cases hi:i<l.length
  ·rw[if_pos (by omega),qfc,Ya hi,ZB,qpu hi]
   unfold qo3
   by_cases c:l[i]=0
   ·rw[if_neg (by simp[c]),if_pos c,qmz (by omega)]
    exact qGE hl K (i+1) (by omega) (by omega)
   rw[if_pos (by simp[c]),if_neg c,if_neg c]
  rw[if_neg (by omega),List.drop_eq_nil_of_le (by omega)]
  rfl
theorem qxG {N:Nat} {l:List Int} (hN:2000<N) (hl:l.length<=1000):qjz N l=some (qo3 l):=by
 unfold qjz
 rw[show(0:Int)=((0:Nat):Int)from rfl,qGE hl N 0 (by omega) (by omega),YR]
 by_cases c:qo3 l=0
 ·rw[if_pos c,ZB,c]
  rfl
 rw[if_neg c,ZB]
theorem qIQ {l:List Int} (hl:l.length<=1000): ∀(K i:Nat),i<=l.length->l.length<K+i->qni l K (i:Int)=some (if qo3 (l.drop i)=0 then .inl ()else .inr (qo3 (l.drop i)))
 |0,i,h,hK=>by omega
 |K+1,i,h,hK=>by
  unfold qni
  by_cases hi:i<l.length
  ·rw[if_pos (by omega),qfc,Ya hi,ZB,qpu hi]
   unfold qo3
   by_cases c:l[i]=0
   ·rw[if_neg (by simp[c]),if_pos c,qmz (by omega)]
    exact qIQ hl K (i+1) (by omega) (by omega)
   rw[if_pos (by simp[c]),if_neg c,if_neg c]
  rw[if_neg (by omega),List.drop_eq_nil_of_le (by omega)]
  rfl
theorem qJM {N:Nat} {l:List Int} (hN:2000<N) (hl:l.length<=1000):qtM N l=some (qo3 l):=by
 unfold qtM
 rw[show(0:Int)=((0:Nat):Int)from rfl,qIQ hl N 0 (by omega) (by omega),YR]
 by_cases c:qo3 l=0
 ·rw[if_pos c,ZB,c]
  rfl
 rw[if_neg c,ZB]
theorem qkG (b:Bool) (e:Int):qhS b e=some (if b=true then e else 0):=by
 unfold qhS
 cases b<;>rfl
def qmM (n a b:Int):Bool:=decide (n<a)||decide (b<n)
theorem qw7 (n a b:Int):qoN n a b=some (qmM n a b):=by
 unfold qoN qmM
 by_cases c:n<a
 ·rw[if_pos c,decide_eq_true c]
  rfl
 rw[if_neg c,decide_eq_false c,Bool.false_or]
 rfl
theorem qu9 (n a b:Int):qmg n a b=some (if qmM n a b=true then 3 else 0):=by
 unfold qmg qmM
 by_cases c:n<a
 ·rw[if_pos c,qkG,decide_eq_true c]
  rfl
 rw[if_neg c,qkG,decide_eq_false c,Bool.false_or]
 rfl
theorem qtm {N:Nat} {s:Str} (h:s.length<N):qnb N s=some (if qeC s=true then 0 else 8):=by
 unfold qnb
 rw[qB7 h,ZB,qkG,ZB]
 cases qeC s<;>rfl
def qs1 (s:Str):Bool:=s==[]||qeC s
theorem qFF {N:Nat} {s:Str} (h:s.length<N):qoB N s=some (if qs1 s=true then 0 else 8):=by
 unfold qoB qs1
 cases c:(s==[]:Bool)with
 |true=>
  rw[if_neg (by simp),qkG]
  rfl
 |false=>
  rw[if_pos (by simp),qB7 h,ZB,qkG,Bool.false_or]
  cases qeC s<;>rfl
theorem qCi {N:Nat} {s:Str} (h:s.length<N) (hs:s.length<=100000):qqu N s=some (qs1 s):=by
 unfold qqu qs1
 cases c:(s==[]:Bool)with
 |true=>rfl
 |false=>
  rw[if_neg (by simp),qo7 h (by omega),Bool.false_or]
  rfl
theorem qrQ: ∀a b:Str,Lib.compareBytes a b=if ltL a b=true then-1 else if(a==b)=true then 0 else 1
 |[],[]=>rfl
 |[],_::_=>rfl
 |_::_,[]=>rfl
 |a::x,b::y=>by
  unfold Lib.compareBytes
  by_cases h1:a<b
  ·rw[if_pos h1,if_pos (by simp[ltL,h1])]
  rw[if_neg h1]
  by_cases h2:b<a
  ·have hne:a≠b:=fun e=>by subst e;exact h1 h2
   have l:ltL (a::x) (b::y)=false:=by simp[ltL,h1,hne]
   rw[if_pos h2,l,if_neg (by simp),if_neg (by simp[hne])]
  have hab:a=b:=by
   have g1:=UInt8.not_lt.1 h1
   have g2:=UInt8.not_lt.1 h2
   exact UInt8.le_antisymm g2 g1
  subst hab
  rw[if_neg h2,qrQ x y]
  have l:ltL (a::x) (a::y)=ltL x y:=by simp[ltL,h1]
  rw[l]
  by_cases e:x=y
  ·subst e
   simp
  have e1:(x==y)=false:=beq_false_of_ne e
  have e2:((a::x)==(a::y))=false:=beq_false_of_ne (fun h=>e (List.cons.inj h).2)
  rw[e1,e2]
def qvc:Option zY->zY->Bool
 |none,_=>false
 |some x,l=>ltL l.Name x.Name||l.Name==x.Name
def qrs (prev:Option zY) (l:zY):Int:=if(qeC l.Name&&qeC l.Yarn&&qs1 l.Dye)=true then if qvc prev l=true then 11 else if qmM l.Stock 0 999999999=true then 3 else 0 else 8
def qh8 {α:Type} (l:List α) (i:Nat):Option α:=if i=0 then none else l[i-1]?
theorem qBS {lots:List zY} {i:Nat} {x:zY} (h:i<=lots.length) (hl:lots.length<=1000):((if((lots.take i).length:Int)>0 then(idx (lots.take i) (w64 (((lots.take i).length:Int)-1))).bind fun x2=>some (ltL x.Name x2.Name||x.Name==x2.Name)else some false:Option Bool))=some (qvc (qh8 lots i) x):=by
 have e:(lots.take i).length=i:=by rw[Ym];omega
 rw[e]
 unfold qh8
 by_cases c:i=0
 ·rw[if_neg (by omega),if_pos c]
  rfl
 rw[if_pos (by omega),if_neg c,qCS (by omega) (by omega),qfc,List.getElem?_take_of_lt (by omega),Ya (show i-1<lots.length by omega),ZB]
 rfl
theorem qEi {N:Nat} (hN:2000<N) {lots:List zY} {i:Nat} {x:zY} (h:i<=lots.length) (hl:lots.length<=1000) (h1:x.Name.length<=1000) (h2:x.Yarn.length<=1000) (h3:x.Dye.length<=1000):qpE N x (lots.take i)=some (qrs (qh8 lots i) x):=by
 unfold qpE
 rw[qBS h hl,ZB,qtm (by omega),ZB,qtm (by omega),ZB,qFF (by omega),ZB,qkG,ZB,qu9,ZB,qxG hN (by simp),ZB]
 unfold qrs
 congr 1
 cases qeC x.Name<;>cases qeC x.Yarn<;>cases qs1 x.Dye<;>cases qvc (qh8 lots i) x<;>cases qmM x.Stock 0 999999999<;>rfl
def ShL (lots:List zY):Prop:= ∀l∈lots,l.Name.length<=60/\l.Yarn.length<=60/\l.Dye.length<=60
theorem qCf {N:Nat} (hN:2000<N) {lots:List zY} (day:Int) (holds:List qE) (hl:lots.length<=100) (hs:ShL lots): ∀(K i:Nat),i<=lots.length->lots.length<K+i->
 ∃r,qh0 N lots K (i:Int)=some r/\qnw N ⟨day,lots,holds⟩ K (i:Int)=some r/\(∀e,r= .inr e->e≠0)/\(r= .inl ()↔ ∀(j:Nat) (x:zY),i<=j->lots[j]? =some x->qrs (qh8 lots j) x=0)
 |0,i,h,hK=>by omega
 |K+1,i,h,hK=>by
  unfold qh0 qnw
  simp only
  by_cases hi:i<lots.length
  ·have hx:lots[i]? =some lots[i]:=Ya hi
   obtain⟨s1,s2,s3⟩:=hs _ (List.getElem_mem hi)
   generalize lots[i]=x at*
   have href:((if(i:Int)>0 then(idx lots (w64 ((i:Int)-1))).bind fun x18=>some (ltL x.Name x18.Name||x.Name==x18.Name)else some false:Option Bool))=some (qvc (qh8 lots i) x):=by
    have:=qBS (x:=x) h (by omega:lots.length<=1000)
    have e:(lots.take i).length=i:=by rw[Ym];omega
    rw[e]at this
    by_cases c:i=0
    ·rw[if_neg (by omega)]at this⊢
     exact this
    rw[if_pos (by omega),qCS (by omega) (by omega),qfc]at this⊢
    rw[List.getElem?_take_of_lt (by omega)]at this
    exact this
   rw[if_pos (by omega),if_pos (by omega),qfc,hx,ZB,ZB,quR (by omega),ZB,qEi hN h (by omega) (by omega) (by omega) (by omega),ZB,qo7 (by omega) (by omega),href]
   have hrec:=qCf hN day holds hl hs K (i+1) (by omega) (by omega)
   rw[qmz (by omega)]
   by_cases hz:qrs (qh8 lots i) x=0
   ·obtain⟨r,r1,r2,r3,r4⟩:=hrec
    refine⟨r,?_,?_,r3,fun hr j y hj hy=>?_,fun hall=>r4.2 fun j y hj hy=>hall j y (by omega) hy⟩
    ·rw[if_neg (by simp[hz])]
     exact r1
    ·unfold qrs at hz
     cases n1:qeC x.Name<;>cases n2:qeC x.Yarn<;>cases n3:qs1 x.Dye<;>cases n4:qvc (qh8 lots i) x<;>cases n5:qmM x.Stock 0 999999999<;>rw[n1,n2,n3,n4,n5]at hz<;>(first|(exact absurd hz (by decide))|skip)
     rw[ZB,if_neg (by simp),qo7 (by omega) (by omega),ZB,n2,if_neg (by simp),qCi (by omega) (by omega),n3,ZB,ZB,if_neg (by simp),ZB,if_neg (by simp),qw7,n5,ZB,if_neg (by simp)]
     exact r2
    by_cases c:j=i
    ·subst c
     rw[hx]at hy
     obtain rfl:=Ye hy
     exact hz
    exact r4.1 hr j y (by omega) hy
   refine⟨.inr (qrs (qh8 lots i) x),?_,?_,fun e he=>by cases he;exact hz,fun c=>(by cases c),fun hall=>absurd (hall i x (Nat.le_refl _) hx) hz⟩
   ·rw[if_pos (by simp[hz])]
   unfold qrs at hz⊢
   rw[qo7 (s:=x.Yarn) (by omega) (by omega),qCi (by omega) (by omega),qw7]
   cases n1:qeC x.Name<;>cases n2:qeC x.Yarn<;>cases n3:qs1 x.Dye<;>cases n4:qvc (qh8 lots i) x<;>cases n5:qmM x.Stock 0 999999999<;>rw[n1,n2,n3,n4,n5]at hz<;>first|rfl|exact absurd rfl hz
  rw[if_neg (by omega),if_neg (by omega)]
  exact⟨.inl (),rfl,rfl,fun e he=>(by cases he),fun _ j x hj hx=>(by
   have:=(Yb.1 hx).1
   omega),fun _=>rfl⟩
end Go.Av
end
section
namespace Go.Av
theorem qC1 (n:Int):w64 n=(if n%18446744073709551616<9223372036854775808 then n%18446744073709551616 else n%18446744073709551616-18446744073709551616):=by
 show IntKind.wrap .i64 n=_
 unfold IntKind.wrap
 have e:(2:Int)^IntKind.i64.bits=18446744073709551616:=by decide
 have e2:(2:Int)^(IntKind.i64.bits-1)=9223372036854775808:=by decide
 have e3:IntKind.i64.signed=true:=by decide
 simp only[e,e2,e3,Bool.true_and,ge_iff_le,decide_eq_true_eq]
 split<;>split<;>omega
theorem qIX {lots:List zY} {name:Str} (hl:lots.length<=100) (day:Int) (holds:List qE) (a2:Str) (a3 a4:Int): ∀(K i:Nat),i<=lots.length->lots.length<K+i->
 (qcd lots name a2 a3 a4 K (i:Int)=some (.inl ())/\qla ⟨day,lots,holds⟩ name K (i:Int)=some (.inl ())/\ ∀(j:Nat) x,i<=j->lots[j]? =some x->x.Name≠name)\/
 (∃(j:Nat) (x:zY),qcd lots name a2 a3 a4 K (i:Int)=some (.inr (j:Int))/\qla ⟨day,lots,holds⟩ name K (i:Int)=some (.inr (j:Int))/\lots[j]? =some x/\x.Name=name)
 |0,i,h,hK=>by omega
 |K+1,i,h,hK=>by
  unfold qcd qla qls
  simp only
  by_cases hi:i<lots.length
  ·have hx:lots[i]? =some lots[i]:=Ya hi
   rw[if_pos (by omega),if_pos (by omega),qfc,hx,ZB,ZB,ZB]
   generalize lots[i]=x at*
   by_cases e:x.Name=name
   ·have e1:(x.Name==name)=true:=by rw[e];exact beq_self_eq_true _
    rw[if_pos e1,if_pos e1]
    exact .inr ⟨i,x,rfl,rfl,hx,e⟩
   have e1: ¬(x.Name==name)=true:=by simpa using e
   rw[if_neg e1,if_neg e1,qmz (by omega)]
   rcases qIX hl day holds a2 a3 a4 K (i+1) (by omega) (by omega)with⟨r1,r2,r3⟩|r
   ·refine .inl ⟨r1,r2,fun j y hj hy=>?_⟩
    by_cases c:j=i
    ·subst c
     rw[hx]at hy
     obtain rfl:=Ye hy
     exact e
    exact r3 j y (by omega) hy
   exact .inr r
  rw[if_neg (by omega),if_neg (by omega)]
  exact .inl ⟨rfl,rfl,fun j x hj hx=>by
   have:=(Yb.1 hx).1
   omega⟩
def knB (lots:List zY) (name:Str):Bool:=lots.any fun x=>x.Name==name
theorem qGq {lots:List zY} {name:Str} {j:Nat} {x:zY} (h:lots[j]? =some x) (e:x.Name=name):knB lots name=true:=by
 unfold knB
 rw[List.any_eq_true]
 exact⟨x,Yn h,by rw[e];exact beq_self_eq_true _⟩
theorem qDz {lots:List zY} {name:Str} (h: ∀(j:Nat) x,lots[j]? =some x->x.Name≠name):knB lots name=false:=by
 unfold knB
 rw[List.any_eq_false]
 intro x hx
 obtain⟨j,hj,rfl⟩:=List.getElem_of_mem hx
 have:=h j _ (Ya hj)
 simpa using this
theorem qEx {N:Nat} (hN:2000<N) {lots:List zY} (hl:lots.length<=100) (day:Int) (holds:List qE) (name a2:Str) (a3 a4:Int): ∃(p:Int),qhH N lots name a2 a3 a4=some (knB lots name)/\qqS N ⟨day,lots,holds⟩ name=some p/\decide (p<0)=!knB lots name:=by
 unfold qhH qlj qqS
 rcases qIX (name:=name) hl day holds a2 a3 a4 N 0 (by omega) (by omega)with⟨r1,r2,r3⟩|⟨j,x,r1,r2,r3,r4⟩
 ·rw[show((0:Nat):Int)=0 from rfl]at r1 r2
  rw[r1,r2,qDz fun j x hx=>r3 j x (Nat.zero_le _) hx]
  exact⟨-1,rfl,rfl,rfl⟩
 rw[show((0:Nat):Int)=0 from rfl]at r1 r2
 rw[r1,r2,qGq r3 r4]
 refine⟨(j:Int),?_,rfl,?_⟩
 ·simp only[ZB]
  rw[decide_eq_true (by omega)]
 rw[decide_eq_false (by omega)]
 rfl
def qD1 (a b:qE):Bool:=!(ltL a.Lot b.Lot||a.Lot==b.Lot)||(a.Lot==b.Lot&&!(ltL a.Order b.Order||a.Order==b.Order))
theorem qF5 (a b:qE):qud a b=some (qD1 a b):=by
 unfold qud qD1
 cases ltL a.Lot b.Lot<;>cases(a.Lot==b.Lot)<;>rfl
theorem qDg {a b:Str}:(Lib.compareBytes a b<0)=(ltL a b=true):=by
 rw[qrQ]
 by_cases h:ltL a b=true
 ·rw[if_pos h]
  exact propext ⟨fun _=>h,fun _=>by decide⟩
 rw[if_neg h]
 by_cases e:(a==b)=true
 ·rw[if_pos e]
  exact propext ⟨fun c=>absurd c (by decide),fun c=>absurd c h⟩
 rw[if_neg e]
 exact propext ⟨fun c=>absurd c (by decide),fun c=>absurd c h⟩
theorem qIB {N:Nat} (hN:2000<N) (a b:qE): ∃c,qlq N a b=some c/\decide (c<=0)=!qD1 a b:=by
 unfold qlq tCmp
 rw[ZB,ZB,qJM hN (by simp),ZB]
 refine⟨_,rfl,?_⟩
 rw[qrQ a.Lot b.Lot,qrQ a.Order b.Order]
 unfold qD1
 by_cases e:a.Lot=b.Lot
 ·rw[e,qlC,beq_self_eq_true]
  cases ltL a.Order b.Order<;>cases(a.Order==b.Order)<;>rfl
 have e1:(a.Lot==b.Lot)=false:=beq_false_of_ne e
 rw[e1]
 cases ltL a.Lot b.Lot<;>rfl
def qwe:Option qE->qE->Bool
 |none,_=>false
 |some x,h=>!qD1 h x
def qp7 (kn:Bool) (prev:Option qE) (h:qE):Int:=if kn=true then if qeC h.Order=true then if qwe prev h=true then 11 else if(qmM h.Reserved 0 999999999||qmM h.Taken 0 999999999)=true then 3 else if(decide (h.Reserved=0)&&decide (h.Taken=0))=true then 6 else 0 else 8 else 10
def ShH (holds:List qE):Prop:= ∀h∈holds,h.Lot.length<=60/\h.Order.length<=60
theorem qBq {N:Nat} (hN:2000<N) {lots:List zY} (day:Int) {holds:List qE} (hl:lots.length<=100) (hh:holds.length<=300) (hs:ShH holds): ∀(K i:Nat),i<=holds.length->holds.length<K+i->
 ∃r,qhM N holds day lots holds K (i:Int)=some r/\qnu N ⟨day,lots,holds⟩ K (i:Int)=some r/\(∀e,r= .inr e->e≠0)/\(r= .inl ()↔ ∀(j:Nat) (x:qE),i<=j->holds[j]? =some x->qp7 (knB lots x.Lot) (qh8 holds j) x=0)
 |0,i,h,hK=>by omega
 |K+1,i,h,hK=>by
  unfold qhM qnu
  simp only
  by_cases hi:i<holds.length
  ·have hx:holds[i]? =some holds[i]:=Ya hi
   obtain⟨s1,s2⟩:=hs _ (List.getElem_mem hi)
   generalize holds[i]=x at*
   have e:(holds.take i).length=i:=by rw[Ym];omega
   obtain⟨p,k1,k2,k3⟩:=qEx hN hl day holds x.Lot x.Order x.Reserved x.Taken
   obtain⟨kn,hkn⟩: ∃kn,kn=knB lots x.Lot:=⟨_,rfl⟩
   rw[<-hkn]at k1 k3
   have lateP:((if((holds.take i).length:Int)>0 then(idx (holds.take i) (w64 (((holds.take i).length:Int)-1))).bind fun x3=>(qlq N x x3).bind fun r4=>some (decide (r4<=0))else some false:Option Bool))=some (qwe (qh8 holds i) x):=by
    rw[e]
    unfold qh8
    by_cases c:i=0
    ·rw[if_neg (by omega),if_pos c]
     rfl
    obtain⟨q,q1,q2⟩:=qIB hN x holds[i-1]
    rw[if_pos (by omega),if_neg c,qCS (by omega) (by omega),qfc,List.getElem?_take_of_lt (by omega),Ya (show i-1<holds.length by omega),ZB,q1,ZB,q2]
    rfl
   have lateR:((if(i:Int)>0 then(idx holds (w64 ((i:Int)-1))).bind fun x35=>(qud x x35).bind fun r36=>some (!r36)else some false:Option Bool))=some (qwe (qh8 holds i) x):=by
    unfold qh8
    by_cases c:i=0
    ·rw[if_neg (by omega),if_pos c]
     rfl
    rw[if_pos (by omega),if_neg c,qCS (by omega) (by omega),qfc,Ya (show i-1<holds.length by omega),ZB,qF5,ZB]
    rfl
   have hP:qjy N x (holds.take i) day lots holds=some (qp7 kn (qh8 holds i) x):=by
    unfold qjy
    rw[k1,ZB,lateP,ZB,qkG,ZB,qtm (by omega),ZB,qkG,ZB,qu9,ZB,qu9,ZB]
    unfold qp7
    by_cases z:x.Reserved=0
    ·rw[if_pos z,qkG,ZB,qxG hN (by simp),ZB,ZB,decide_eq_true z]
     simp only
     congr 1
     cases kn<;>cases qeC x.Order<;>cases qwe (qh8 holds i) x<;>cases qmM x.Reserved 0 999999999<;>cases qmM x.Taken 0 999999999<;>cases decide (x.Taken=0)<;>rfl
    rw[if_neg z,qkG,ZB,qxG hN (by simp),ZB,ZB,decide_eq_false z]
    simp only
    congr 1
    cases kn<;>cases qeC x.Order<;>cases qwe (qh8 holds i) x<;>cases qmM x.Reserved 0 999999999<;>cases qmM x.Taken 0 999999999<;>cases decide (x.Taken=0)<;>rfl
   have hrec:=qBq hN day hl hh hs K (i+1) (by omega) (by omega)
   have zT:((if x.Reserved=0 then some (decide (x.Taken=0))else some false:Option Bool))=some (decide (x.Reserved=0)&&decide (x.Taken=0)):=by
    by_cases z:x.Reserved=0
    ·rw[if_pos z,decide_eq_true z]
     rfl
    rw[if_neg z,decide_eq_false z]
    rfl
   rw[if_pos (by omega),if_pos (by omega),qfc,hx,ZB,ZB,quR (by omega),ZB,hP,ZB,k2,ZB,lateR,zT,qmz (by omega)]
   obtain⟨r,r1,r2,r3,r4⟩:=hrec
   simp only[qo7 (show x.Order.length<N by omega) (show x.Order.length<4611686018427387904 by omega),qw7,ZB]
   have k4:(p<0)=(kn=false):=by
    cases kn
    ·exact propext ⟨fun _=>rfl,fun _=>of_decide_eq_true k3⟩
    exact propext ⟨fun c=>absurd c (of_decide_eq_false k3),fun c=>by cases c⟩
   simp only[k4]
   have hall: ∀{P:Prop},qp7 kn (qh8 holds i) x≠0->(∀(j:Nat) (x:qE),i<=j->holds[j]? =some x->qp7 (knB lots x.Lot) (qh8 holds j) x=0)->P:=fun hz h=>absurd (hkn▸h i x (Nat.le_refl _) hx) hz
   have hrest:qp7 kn (qh8 holds i) x=0->(r= .inl ()↔ ∀(j:Nat) (x:qE),i<=j->holds[j]? =some x->qp7 (knB lots x.Lot) (qh8 holds j) x=0):=fun hz=>⟨fun hr j y hj hy=>by
    by_cases c:j=i
    ·subst c
     rw[hx]at hy
     obtain rfl:=Ye hy
     rw[<-hkn]
     exact hz
    exact r4.1 hr j y (by omega) hy,fun h=>r4.2 fun j y hj hy=>h j y (by omega) hy⟩
   unfold qp7 at hall hrest⊢
   cases n1:kn<;>cases n2:qeC x.Order<;>cases n3:qwe (qh8 holds i) x<;>cases n4:qmM x.Reserved 0 999999999<;>cases n5:qmM x.Taken 0 999999999<;>cases n6:(decide (x.Reserved=0)&&decide (x.Taken=0))<;>rw[n1,n2,n3,n4,n5,n6]at hall hrest<;>
    first
     |exact⟨.inr 10,rfl,rfl,fun e he=>(by cases he;decide),fun c=>(by cases c),hall (by decide)⟩
     |exact⟨.inr 8,rfl,rfl,fun e he=>(by cases he;decide),fun c=>(by cases c),hall (by decide)⟩
     |exact⟨.inr 11,rfl,rfl,fun e he=>(by cases he;decide),fun c=>(by cases c),hall (by decide)⟩
     |exact⟨.inr 3,rfl,rfl,fun e he=>(by cases he;decide),fun c=>(by cases c),hall (by decide)⟩
     |exact⟨.inr 6,rfl,rfl,fun e he=>(by cases he;decide),fun c=>(by cases c),hall (by decide)⟩
     |exact⟨r,r1,r2,r3,hrest rfl⟩
  rw[if_neg (by omega),if_neg (by omega)]
  exact⟨.inl (),rfl,rfl,fun e he=>(by cases he),fun _ j x hj hx=>(by have:=(Yb.1 hx).1;omega),fun _=>rfl⟩
def qCj (name:Str):List qE->Int->Int
 |[],a=>a
 |h::t,a=>qCj name t (if(h.Lot==name)=true then w64 (a+h.Reserved)else a)
def frE (holds:List qE) (x:zY):Int:=w64 (x.Stock-qCj x.Name holds 0)
theorem qH1 {holds:List qE} (hh:holds.length<=300) (day:Int) (lots:List zY) (name:Str): ∀(K i:Nat) (a:Int),i<=holds.length->holds.length<K+i->qfP ⟨day,lots,holds⟩ name K (i:Int) a=some (qCj name (holds.drop i) a)
 |0,i,a,h,hK=>by omega
 |K+1,i,a,h,hK=>by
  unfold qfP
  simp only
  by_cases hi:i<holds.length
  ·rw[if_pos (by omega),qfc,Ya hi,ZB,qpu hi,qmz (by omega)]
   unfold qCj
   by_cases e:(holds[i].Lot==name)=true
   ·rw[if_pos e,ZB,if_pos e]
    exact qH1 hh day lots name K (i+1) _ (by omega) (by omega)
   rw[if_neg e,ZB,if_neg e]
   exact qH1 hh day lots name K (i+1) _ (by omega) (by omega)
  rw[if_neg (by omega),List.drop_eq_nil_of_le (by omega)]
  rfl
theorem free_eq {N:Nat} (hN:2000<N) {holds:List qE} (hh:holds.length<=300) (day:Int) (lots:List zY) (x:zY):qlA N ⟨day,lots,holds⟩ x=some (frE holds x):=by
 unfold qlA qnq
 have:=qH1 hh day lots x.Name N 0 0 (by omega) (by omega)
 rw[YR,show((0:Nat):Int)=0 from rfl]at this
 rw[this]
 rfl
theorem qCX {holds:List qE} (hh:holds.length<=300) (day:Int) {lots:List zY} {x:zY} {n:Nat} (hx:lots[n]? =some x) (S:Int): ∀(K i:Nat) (a b:Int),i<=holds.length->holds.length<K+i->w64 b=w64 (S-a)-> -9223372036854775808<=b->b<=9223372036854775807->qnn ⟨day,lots,holds⟩ (n:Int) K b (i:Int)=some (w64 (S-qCj x.Name (holds.drop i) a))
 |0,i,a,b,h,hK,hab,hb1,hb2=>by omega
 |K+1,i,a,b,h,hK,hab,hb1,hb2=>by
  unfold qnn
  simp only
  by_cases hi:i<holds.length
  ·rw[if_pos (by omega),qfc,Ya hi,ZB,qpu hi,qmz (by omega),qfc,hx,ZB]
   unfold qCj
   by_cases e:(holds[i].Lot==x.Name)=true
   ·rw[if_pos e,ZB,if_pos e]
    generalize holds[i].Reserved=R
    refine qCX hh day hx S K (i+1) _ _ (by omega) (by omega) ?_ (by rw[qC1];omega) (by rw[qC1];omega)
    simp only[qC1]at hab⊢
    omega
   rw[if_neg e,ZB,if_neg e]
   exact qCX hh day hx S K (i+1) _ _ (by omega) (by omega) hab hb1 hb2
  rw[if_neg (by omega),List.drop_eq_nil_of_le (by omega)]
  show some b=some (w64 (S-a))
  rw[<-hab,qi2 hb1 hb2]
theorem qHD {N:Nat} (hN:2000<N) {holds:List qE} (hh:holds.length<=300) (day:Int) {lots:List zY} {x:zY} {n:Nat} (hx:lots[n]? =some x) (h0:qmM x.Stock 0 999999999=false):qru N ⟨day,lots,holds⟩ (n:Int)=some (frE holds x):=by
 have hb:0<=x.Stock/\x.Stock<=999999999:=by
  unfold qmM at h0
  rw[Bool.or_eq_false_iff]at h0
  have:=of_decide_eq_false h0.1
  have:=of_decide_eq_false h0.2
  omega
 unfold qru
 simp only
 rw[qfc,hx,ZB]
 have:=qCX hh day hx x.Stock N 0 0 x.Stock (by omega) (by omega) (by rw[Int.sub_zero]) (by omega) (by omega)
 rw[YR,show((0:Nat):Int)=0 from rfl]at this
 rw[this]
 rfl
theorem qIT {N:Nat} (hN:2000<N) {lots:List zY} {holds:List qE} (hl:lots.length<=100) (hh:holds.length<=300) (day:Int) (hr: ∀(j:Nat) x,lots[j]? =some x->qmM x.Stock 0 999999999=false): ∀(K i:Nat),i<=lots.length->lots.length<K+i->
 (qbN N lots day lots holds K (i:Int)=some (.inl ())/\qjl N ⟨day,lots,holds⟩ K (i:Int)=some (.inl ())/\ ∀(j:Nat) x,i<=j->lots[j]? =some x->0<=frE holds x)\/(∃j:Nat,qbN N lots day lots holds K (i:Int)=some (.inr (j:Int))/\qjl N ⟨day,lots,holds⟩ K (i:Int)=some (.inr 32)/\ ∃x,lots[j]? =some x/\frE holds x<0)
 |0,i,h,hK=>by omega
 |K+1,i,h,hK=>by
  unfold qbN qjl qmD
  simp only
  by_cases hi:i<lots.length
  ·have hx:lots[i]? =some lots[i]:=Ya hi
   rw[if_pos (by omega),if_pos (by omega),qfc,hx,ZB,free_eq hN hh,ZB,ZB,qHD hN hh day hx (hr i _ hx),ZB,qmz (by omega)]
   by_cases c:frE holds lots[i]<0
   ·rw[if_pos (decide_eq_true c),if_pos c]
    exact .inr ⟨i,rfl,rfl,_,hx,c⟩
   rw[if_neg (fun z=>c (of_decide_eq_true z)),if_neg c]
   rcases qIT hN hl hh day hr K (i+1) (by omega) (by omega)with⟨l1,l2,l3⟩|h
   ·refine .inl ⟨l1,l2,fun j x hj hxj=>?_⟩
    by_cases e:j=i
    ·subst e
     rw[hx]at hxj
     obtain rfl:=Ye hxj
     omega
    exact l3 j x (by omega) hxj
   exact .inr h
  rw[if_neg (by omega),if_neg (by omega)]
  exact .inl ⟨rfl,rfl,fun j x hj hx=>by have:=(Yb.1 hx).1;omega⟩
def qrL (lots:List zY):Prop:= ∀(j:Nat) (x:zY),lots[j]? =some x->qrs (qh8 lots j) x=0
theorem qvp {p:Option zY} {x:zY} (h:qrs p x=0):qmM x.Stock 0 999999999=false/\qvc p x=false:=by
 unfold qrs at h
 cases n1:(qeC x.Name&&qeC x.Yarn&&qs1 x.Dye)<;>cases n4:qvc p x<;>cases n5:qmM x.Stock 0 999999999<;>rw[n1,n4,n5]at h<;>first|(exact absurd h (by decide))|exact⟨rfl,rfl⟩
def qqN (lots:List zY) (holds:List qE):Prop:= ∀(j:Nat) (x:qE),holds[j]? =some x->qp7 (knB lots x.Lot) (qh8 holds j) x=0
structure OKS (day:Int) (lots:List zY) (holds:List qE):Prop where
 d:qmM day 0 99999=false
 ll:lots.length<=64
 lk:qrL lots
 hl:holds.length<=256
 hk:qqN lots holds
 fr: ∀(j:Nat) (x:zY),lots[j]? =some x->0<=frE holds x
theorem qEX {N:Nat} (hN:2000<N) (day:Int) {lots:List zY} {holds:List qE} (hl:lots.length<=100) (hh:holds.length<=300) (sl:ShL lots) (sh:ShH holds): ∃e,qm3 N ⟨day,lots,holds⟩=some e/\qro N ⟨day,lots,holds⟩=some e/\(e=0↔OKS day lots holds):=by
 unfold qm3 qro qpv qoX
 simp only
 rw[qu9,ZB,qw7,ZB]
 obtain⟨r,r1,r2,r3,r4⟩:=qCf hN day holds hl sl N 0 (by omega) (by omega)
 obtain⟨q,q1,q2,q3,q4⟩:=qBq hN (lots:=lots) day hl hh sh N 0 (by omega) (by omega)
 rw[show((0:Nat):Int)=0 from rfl]at r1 r2 q1 q2
 by_cases hd:qmM day 0 99999=true
 ·refine⟨3,?_,by rw[if_pos hd],fun h=>(by cases h),fun o=>absurd (hd.symm.trans o.d) (by decide)⟩
  rw[if_pos hd]
  by_cases c:(lots.length:Int)>64
  ·rw[if_pos c,ZB,qxG hN (by simp),ZB,if_pos (by decide)]
   rfl
  rw[if_neg c,r1]
  cases r with
  |inl u=>rw[ZB,ZB,qxG hN (by simp),ZB,if_pos (by decide)];rfl
  |inr e=>rw[ZB,ZB,qxG hN (by simp),ZB,if_pos (show(!decide (qo3 [3,e]=0))=true from rfl)];rfl
 rw[if_neg hd,if_neg hd]
 by_cases c:(lots.length:Int)>64
 ·refine⟨5,?_,by rw[if_pos c],fun h=>(by cases h),fun o=>absurd o.ll (by omega)⟩
  rw[if_pos c,ZB,qxG hN (by simp),ZB,if_pos (by decide)]
  rfl
 rw[if_neg c,if_neg c,r1,r2]
 cases r with
 |inr e=>
  have he:=r3 e rfl
  refine⟨e,?_,rfl,fun h=>absurd h he,fun o=>(by cases r4.2 fun j x _ hx=>o.lk j x hx)⟩
  rw[ZB,ZB,qxG hN (by simp),ZB]
  have:qo3 [0,e]=e:=by
   unfold qo3 qo3
   rw[if_pos rfl,if_neg he]
  rw[this,if_pos (by simp[he])]
 |inl u=>
  have ok:qrL lots:=fun j x hx=>r4.1 rfl j x (by omega) hx
  have hst: ∀(j:Nat) x,lots[j]? =some x->qmM x.Stock 0 999999999=false:=fun j x hx=>(qvp (ok j x hx)).1
  rw[ZB,ZB,qxG hN (by simp),ZB,if_neg (by decide),ZB]
  simp only
  have low:=qIT hN hl hh day hst N 0 (by omega) (by omega)
  rw[show((0:Nat):Int)=0 from rfl]at low
  have lowB: ∃b:Bool,qhu N lots day lots holds=some b/\qjl N ⟨day,lots,holds⟩ N 0=some (if b=true then .inr 32 else .inl ())/\(b=false↔ ∀(j:Nat) (x:zY),lots[j]? =some x->0<=frE holds x):=by
   unfold qhu qlr
   rcases low with⟨l1,l2,l3⟩|⟨j,l1,l2,x,hx,hlow⟩
   ·rw[l1,l2]
    exact⟨false,rfl,rfl,fun _ j x hx=>l3 j x (Nat.zero_le _) hx,fun _=>rfl⟩
   rw[l1,l2]
   refine⟨true,?_,rfl,fun c=>(by cases c),fun h=>absurd (h j x hx) (by omega)⟩
   simp only[ZB]
   rw[decide_eq_true (by omega)]
  obtain⟨b,b1,b2,b3⟩:=lowB
  by_cases g:(holds.length:Int)>256
  ·rw[if_pos g,if_pos g,ZB,b1,ZB,qkG,ZB,qxG hN (by simp),ZB]
   exact⟨5,rfl,rfl,fun h=>(by cases h),fun o=>absurd o.hl (by omega)⟩
  rw[if_neg g,if_neg g,q1,q2]
  cases q with
  |inr e=>
   have he:=q3 e rfl
   rw[ZB,ZB,b1,ZB,qkG,ZB,qxG hN (by simp),ZB,ZB]
   refine⟨e,?_,rfl,fun h=>absurd h he,fun o=>(by cases q4.2 fun j x _ hx=>o.hk j x hx)⟩
   unfold qo3
   rw[if_neg he]
  |inl u=>
   rw[ZB,ZB,b1,ZB,qkG,ZB,qxG hN (by simp),ZB,ZB]
   simp only
   rw[b2]
   cases b with
   |false=>exact⟨0,rfl,rfl,fun _=>⟨by simpa using hd,by omega,ok,by omega,fun j x hx=>q4.1 rfl j x (by omega) hx,b3.1 rfl⟩,fun _=>rfl⟩
   |true=>exact⟨32,rfl,rfl,fun h=>(by cases h),fun o=>(by cases b3.2 o.fr)⟩
end Go.Av
end
section
namespace Go.Av
theorem qFB {lots:List zY} (ok:qrL lots) {i:Nat} {y:zY} (hy:lots[i]? =some y): ∀(d:Nat) (x:zY),lots[i+d+1]? =some x->ltL y.Name x.Name=true
 |0,x,hx=>by
  have h:=(qvp (ok (i+1) x hx)).2
  unfold qh8 at h
  rw[if_neg (by omega),Nat.add_sub_cancel,hy]at h
  unfold qvc at h
  rw[Bool.or_eq_false_iff]at h
  cases c:ltL y.Name x.Name with
  |true=>rfl
  |false=>
   have:=qsF _ _ h.1 c
   rw[this,beq_self_eq_true]at h
   cases h.2
 |d+1,x,hx=>by
  have hl:=(Yb.1 hx).1
  have hz:lots[i+d+1]? =some lots[i+d+1]:=Ya (by omega)
  have h1:=qFB ok hy d _ hz
  have h:=(qvp (ok (i+(d+1)+1) x hx)).2
  unfold qh8 at h
  rw[if_neg (by omega),Nat.add_sub_cancel,show i+(d+1)=i+d+1 by omega,hz]at h
  unfold qvc at h
  rw[Bool.or_eq_false_iff]at h
  cases c:ltL lots[i+d+1].Name x.Name with
  |true=>exact qpx h1 c
  |false=>
   have:=qsF _ _ h.1 c
   rw[this,beq_self_eq_true]at h
   cases h.2
theorem qr2 {lots:List zY} (ok:qrL lots) {i j:Nat} {x y:zY} (hij:i<j) (hx:lots[i]? =some x) (hy:lots[j]? =some y):ltL x.Name y.Name=true:=by
 obtain⟨d,rfl⟩: ∃d,j=i+d+1:=⟨j-i-1,by omega⟩
 exact qFB ok hx d y hy
theorem qJl {i j:Nat} (hi:i<=1000) (hj:j<=1000):w64 (qEb .u64 (IntKind.wrap .u64 (w64 ((i:Int)+(j:Int)))) 1)=(((i+j)/2:Nat):Int):=by
 have e0:w64 ((i:Int)+(j:Int))=(i:Int)+(j:Int):=qi2 (by omega) (by omega)
 rw[e0]
 have e:IntKind.wrap .u64 ((i:Int)+(j:Int))=(i:Int)+(j:Int):=by
  show((i:Int)+(j:Int))%18446744073709551616=_
  omega
 rw[e]
 show w64 (((i:Int)+(j:Int)).fdiv 2)=_
 rw[Int.fdiv_eq_ediv_of_nonneg _ (by omega),qi2 (by omega) (by omega)]
 omega
theorem bs_L {lots:List zY} (hl:lots.length<=100) (ok:qrL lots) (name:Str): ∀(K lo hi:Nat),lo<=hi->hi<=lots.length->hi-lo<K->(∀(k:Nat) x,k<lo->lots[k]? =some x->ltL x.Name name=true)->(∀(k:Nat) x,hi<=k->lots[k]? =some x->ltL x.Name name=false)->
 ∃p:Nat,xH lots name K (hi:Int) (lo:Int)=some (p:Int)/\p<=lots.length/\(∀(k:Nat) x,k<p->lots[k]? =some x->ltL x.Name name=true)/\(∀(k:Nat) x,p<=k->lots[k]? =some x->ltL x.Name name=false)
 |0,lo,hi,h,h2,hK,g1,g2=>by omega
 |K+1,lo,hi,h,h2,hK,g1,g2=>by
  unfold xH qlw tCmp
  by_cases c:lo<hi
  ·have hm:(lo+hi)/2<lots.length:=by omega
   have hx:lots[(lo+hi)/2]? =some lots[(lo+hi)/2]:=Ya hm
   rw[if_pos (by omega),qJl (by omega) (by omega),qfc,hx,ZB,ZB,ZB]
   by_cases d:Lib.compareBytes lots[(lo+hi)/2].Name name<0
   ·have d1:=d
    rw[qDg]at d1
    rw[if_pos d,ZB]
    simp only
    rw[qmz (by omega)]
    refine bs_L hl ok name K ((lo+hi)/2+1) hi (by omega) h2 (by omega) (fun k x hk hkx=>?_) g2
    by_cases e:k=(lo+hi)/2
    ·subst e
     rw[hx]at hkx
     obtain rfl:=Ye hkx
     exact d1
    exact qpx (qr2 ok (by omega) hkx hx) d1
   have d1:=d
   rw[qDg]at d1
   have d2:ltL lots[(lo+hi)/2].Name name=false:=by simpa using d1
   rw[if_neg d,ZB]
   simp only
   refine bs_L hl ok name K lo ((lo+hi)/2) (by omega) (by omega) (by omega) g1 (fun k x hk hkx=>?_)
   by_cases e:k=(lo+hi)/2
   ·subst e
    rw[hx]at hkx
    obtain rfl:=Ye hkx
    exact d2
   cases z:ltL x.Name name with
   |false=>rfl
   |true=>
    rw[qpx (qr2 ok (by omega) hx hkx) z]at d2
    cases d2
  rw[if_neg (by omega)]
  have:lo=hi:=by omega
  subst this
  exact⟨lo,rfl,h2,g1,g2⟩
end Go.Av
end
section
namespace Go.Av
open Go.Proofs Go.RowKit
variable [Glob]
theorem qww {a b:Str} (h:ltL a b=true):ltL b a=false:=by
 cases e:ltL b a with
 |false=>rfl
 |true=>have:=qpx h e;rw[qlC]at this;cases this
abbrev SrtL (lots:List zY):Prop:=lots.Pairwise fun a b=>ltL a.Name b.Name=true
theorem qrL.srt {lots:List zY} (h:qrL lots):SrtL lots:=
 List.pairwise_iff_getElem.2 fun i j hi hj hij=>qr2 h hij (Ya hi) (Ya hj)
def qi5 (x:zY):List zY->List zY
 |[]=>[x]
 |y::l=>if(y.Name==x.Name)=true then x::l else if ltL x.Name y.Name=true then x::y::l else y::qi5 x l
theorem qyO {x:zY}: ∀{lots:List zY} {j:Nat} {y:zY},SrtL lots->lots[j]? =some y->y.Name=x.Name->qi5 x lots=lots.set j x
 |[],j,y,_,h,_=>by simp at h
 |a::l,0,y,hs,h,e=>by
  simp only[List.getElem?_cons_zero,ZI]at h
  subst h
  rw[qi5,if_pos (by rw[e];exact beq_self_eq_true _)]
  rfl
 |a::l,j+1,y,hs,h,e=>by
  rw[List.getElem?_cons_succ]at h
  have hay:=(List.pairwise_cons.1 hs).1 y (Yn h)
  rw[e]at hay
  rw[qi5,if_neg (by simpa using qvg hay),if_neg (by rw[qww hay];decide),qyO (List.pairwise_cons.1 hs).2 h e]
  rfl
theorem qAt {x:zY}: ∀{lots:List zY} {p:Nat},p<=lots.length->(∀(k:Nat) y,k<p->lots[k]? =some y->ltL y.Name x.Name=true)->(∀(k:Nat) y,p<=k->lots[k]? =some y->ltL y.Name x.Name=false)->(∀(k:Nat) y,lots[k]? =some y->y.Name≠x.Name)->qi5 x lots=lots.take p++[x]++lots.drop p
 |[],p,hp,h1,h2,h3=>by simp[qi5]
 |a::l,0,hp,h1,h2,h3=>by
  have e1:=h2 0 a (Nat.le_refl _) rfl
  have e2:=h3 0 a rfl
  have e3:ltL x.Name a.Name=true:=by
   cases e:ltL x.Name a.Name with
   |true=>rfl
   |false=>exact absurd (qsF _ _ e1 e) e2
  rw[qi5,if_neg (by simpa using e2),if_pos e3]
  rfl
 |a::l,p+1,hp,h1,h2,h3=>by
  have e1:=h1 0 a (by omega) rfl
  rw[qi5,if_neg (by simpa using qvg e1),if_neg (by rw[qww e1];decide),qAt (p:=p) (by simp at hp;omega) (fun k y hk hy=>h1 (k+1) y (by omega) hy) (fun k y hk hy=>h2 (k+1) y (by omega) hy) (fun k y hy=>h3 (k+1) y hy)]
  rfl
theorem qrr {x y:zY}: ∀{lots:List zY},y∈qi5 x lots->y=x\/y∈lots
 |[],h=>by simp[qi5]at h;exact .inl h
 |a::l,h=>by
  rw[qi5]at h
  split at h
  ·rcases List.mem_cons.1 h with h|h
   ·exact .inl h
   exact .inr (List.mem_cons_of_mem _ h)
  split at h
  ·rcases List.mem_cons.1 h with h|h
   ·exact .inl h
   exact .inr h
  rcases List.mem_cons.1 h with h|h
  ·exact .inr (h▸List.mem_cons_self)
  rcases qrr h with h|h
  ·exact .inl h
  exact .inr (List.mem_cons_of_mem _ h)
theorem qAE {x:zY}: ∀{lots:List zY},SrtL lots->SrtL (qi5 x lots)
 |[],h=>by simp[qi5,SrtL]
 |a::l,h=>by
  obtain⟨h1,h2⟩:=List.pairwise_cons.1 h
  rw[qi5]
  by_cases e1:(a.Name==x.Name)=true
  ·rw[if_pos e1]
   have:a.Name=x.Name:=by simpa using e1
   exact List.pairwise_cons.2 ⟨fun b hb=>this▸h1 b hb,h2⟩
  rw[if_neg e1]
  by_cases e2:ltL x.Name a.Name=true
  ·rw[if_pos e2]
   refine List.pairwise_cons.2 ⟨fun b hb=>?_,h⟩
   rcases List.mem_cons.1 hb with rfl|hb
   ·exact e2
   exact qpx e2 (h1 b hb)
  rw[if_neg e2]
  refine List.pairwise_cons.2 ⟨fun b hb=>?_,qAE h2⟩
  rcases qrr hb with rfl|hb
  ·cases e:ltL a.Name b.Name with
   |true=>rfl
   |false=>exact absurd (qsF _ _ e (by simpa using e2)) (by simpa using e1)
  exact h1 b hb
theorem qvq {x:zY}: ∀{lots:List zY},(qi5 x lots).length<=lots.length+1
 |[]=>by simp[qi5]
 |a::l=>by
  rw[qi5]
  split
  ·simp
  split
  ·simp
  have:=qvq (x:=x) (lots:=l)
  simp;omega
theorem qxs {x:zY}: ∀{lots:List zY},∃j:Nat,(qi5 x lots)[j]? =some x
 |[]=>⟨0,rfl⟩
 |a::l=>by
  rw[qi5]
  split
  ·exact⟨0,rfl⟩
  split
  ·exact⟨0,rfl⟩
  obtain⟨j,hj⟩:=qxs (x:=x) (lots:=l)
  exact⟨j+1,hj⟩
theorem qzL {x y:zY} (hne:y.Name≠x.Name): ∀{lots:List zY},y∈lots->y∈qi5 x lots
 |[],h=>by cases h
 |a::l,h=>by
  rw[qi5]
  split
  ·rename_i e
   rcases List.mem_cons.1 h with rfl|h
   ·exact absurd (by simpa using e) hne
   exact List.mem_cons_of_mem _ h
  split
  ·exact List.mem_cons_of_mem _ h
  rcases List.mem_cons.1 h with rfl|h
  ·exact List.mem_cons_self
  exact List.mem_cons_of_mem _ (qzL hne h)
abbrev qwX (a b:qE):Bool:=ltH qE.Lot qE.Order a b
theorem qC2 (a b:qE):qD1 a b=qwX b a:=by
 unfold qD1 qwX ltH
 by_cases e:a.Lot=b.Lot
 ·rw[e,qlC,beq_self_eq_true]
  by_cases f:a.Order=b.Order
  ·rw[f,qlC,beq_self_eq_true]
   rfl
  have f1:(a.Order==b.Order)=false:=beq_false_of_ne f
  rw[f1]
  cases h1:ltL a.Order b.Order with
  |true=>rw[qww h1];rfl
  |false=>
   cases h2:ltL b.Order a.Order with
   |true=>rfl
   |false=>exact absurd (qsF _ _ h1 h2) f
 have e1:(a.Lot==b.Lot)=false:=beq_false_of_ne e
 have e2:(b.Lot==a.Lot)=false:=beq_false_of_ne (fun h=>e h.symm)
 rw[e1,e2]
 cases h1:ltL a.Lot b.Lot with
 |true=>rw[qww h1];rfl
 |false=>
  cases h2:ltL b.Lot a.Lot with
  |true=>rfl
  |false=>exact absurd (qsF _ _ h1 h2) e
abbrev qwO (holds:List qE):Prop:=holds.Pairwise fun a b=>qwX a b=true
def kq (lo od:Str) (h:qE):Bool:=h.Lot==lo&&h.Order==od
theorem qrz {lo od:Str} {h:qE}:kq lo od h=true↔h.Lot=lo/\h.Order=od:=by simp[kq]
theorem qGJ (a:qE):qwX a a=false:=qvv _ _ a
theorem qyk {a b c:qE} (h:qwX a b=true) (k:qwX b c=true):qwX a c=true:=qu2 _ _ h k
theorem qFP {a b:qE} (h:qwX a b=true):qwX b a=false:=by
 cases e:qwX b a with
 |false=>rfl
 |true=>have:=qyk h e;rw[qGJ]at this;cases this
theorem qCI {a b:qE} (h:qwX a b=true):kq a.Lot a.Order b=false:=by
 cases e:kq a.Lot a.Order b with
 |false=>rfl
 |true=>
  obtain⟨e1,e2⟩:=qrz.1 e
  unfold qwX ltH at h
  rw[e1,e2,qlC,qlC]at h
  simp at h
theorem qvx {k:Bool} {p:Option qE} {x:qE} (h:qp7 k p x=0):k=true/\qeC x.Order=true/\qwe p x=false/\qmM x.Reserved 0 999999999=false/\qmM x.Taken 0 999999999=false/\ ¬(x.Reserved=0/\x.Taken=0):=by
 unfold qp7 at h
 cases n1:k<;>cases n2:qeC x.Order<;>cases n3:qwe p x<;>cases n4:qmM x.Reserved 0 999999999<;>cases n5:qmM x.Taken 0 999999999<;>cases n6:(decide (x.Reserved=0)&&decide (x.Taken=0))<;>rw[n1,n2,n3,n4,n5,n6]at h<;>first|(exact absurd h (by decide))|skip
 refine⟨rfl,rfl,rfl,rfl,rfl,fun c=>?_⟩
 rw[decide_eq_true c.1,decide_eq_true c.2]at n6
 cases n6
theorem qDE {lots:List zY} {holds:List qE} (ok:qqN lots holds) {i:Nat} {y:qE} (hy:holds[i]? =some y): ∀(d:Nat) (x:qE),holds[i+d+1]? =some x->qwX y x=true
 |0,x,hx=>by
  have:=(qvx (ok _ _ hx)).2.2.1
  unfold qh8 at this
  rw[if_neg (by omega),show i+0+1-1=i by omega,hy]at this
  simp only[qwe,qC2,Bool.not_eq_false']at this
  exact this
 |d+1,x,hx=>by
  have hlt:=(Yb.1 hx).1
  have hz:holds[i+d+1]? =some holds[i+d+1]:=Ya (by omega)
  have h1:=qDE ok hy d _ hz
  have:=(qvx (ok _ _ hx)).2.2.1
  unfold qh8 at this
  rw[if_neg (by omega),show i+(d+1)+1-1=i+d+1 by omega,hz]at this
  simp only[qwe,qC2,Bool.not_eq_false']at this
  exact qyk h1 this
theorem qqN.srt {lots:List zY} {holds:List qE} (h:qqN lots holds):qwO holds:=
 List.pairwise_iff_getElem.2 fun i j hi hj hij=>by
  have hx:holds[i+(j-i-1)+1]? =some holds[j]:=by rw[show i+(j-i-1)+1=j by omega];exact Ya hj
  exact qDE h (Ya hi) (j-i-1) _ hx
def qEA (h:qE):List qE->List qE
 |[]=>[h]
 |y::l=>if qwX h y=true then h::y::l else y::qEA h l
theorem qrN (h:qE): ∀l,(qEA h l).Perm (h::l)
 |[]=> .refl _
 |y::l=>by
  rw[qEA]
  split
  ·exact .refl _
  exact((qrN h l).cons y).trans (.swap _ _ _)
theorem qAy {h:qE}: ∀{l:List qE},qwO l->(∀x∈l,kq h.Lot h.Order x=false)->qwO (qEA h l)
 |[],_,_=>by simp[qEA,qwO]
 |y::l,hs,hk=>by
  obtain⟨h1,h2⟩:=List.pairwise_cons.1 hs
  rw[qEA]
  by_cases e:qwX h y=true
  ·rw[if_pos e]
   refine List.pairwise_cons.2 ⟨fun b hb=>?_,hs⟩
   rcases List.mem_cons.1 hb with rfl|hb
   ·exact e
   exact qyk e (h1 b hb)
  rw[if_neg e]
  refine List.pairwise_cons.2 ⟨fun b hb=>?_,qAy h2 fun x hx=>hk x (List.mem_cons_of_mem _ hx)⟩
  rcases List.mem_cons.1 ((qrN h l).mem_iff.1 hb)with rfl|hb
  ·have hk':=hk y List.mem_cons_self
   rcases qzE qE.Lot qE.Order (show ltH qE.Lot qE.Order b y=false by simpa using e)with h'|⟨e1,e2⟩
   ·exact h'
   rw[qrz.2 ⟨e1.symm,e2.symm⟩]at hk'
   cases hk'
  exact h1 b hb
theorem qFH {l m:List qE} (hl:qwO l) (hm:m.Pairwise fun a b=>qwX b a=false) (hp:m.Perm l):m=l:=by
 refine List.Perm.eq_of_pairwise (le:=fun a b=>qwX b a=false) (fun a b ha hb hab hba=>?_) hm (hl.imp fun h=>qFP h) hp
 have ha':=hp.mem_iff.1 ha
 obtain⟨i,hi,rfl⟩:=List.getElem_of_mem ha'
 obtain⟨j,hj,rfl⟩:=List.getElem_of_mem hb
 have key:=List.pairwise_iff_getElem.1 hl
 rcases Nat.lt_trichotomy i j with c|c|c
 ·have:=key i j hi hj c
  rw[hba]at this;cases this
 ·subst c;rfl
 have:=key j i hj hi c
 rw[hab]at this;cases this
theorem qD0 {l m:List qE} (hl:qwO l) (hp:m.Perm l):qtB qE.Lot qE.Order m=l:=by
 obtain⟨f1,f2,f3⟩:=qr6 qE.Lot qE.Order m
 refine qFH hl (List.pairwise_iff_getElem.2 fun i j hi hj hij=>?_) (f2.trans hp)
 have:=f3 i j hij (by omega)
 rw[getElem!_pos _ j hj,getElem!_pos _ i hi]at this
 exact this
def qno (h:qE) (holds:List qE):List qE:=
 if h.Reserved=0/\h.Taken=0 then holds.filter (fun x=>!kq h.Lot h.Order x)else qEA h (holds.filter fun x=>!kq h.Lot h.Order x)
def qiz (holds:List qE) (lo od:Str):qE:=(holds.find? (kq lo od)).getD ⟨lo,od,0,0⟩
theorem qyS {holds:List qE} (h:qwO holds) (p:qE->Bool):qwO (holds.filter p):=List.Pairwise.filter p h
theorem qxa {holds:List qE} {lo od:Str}: ∀x∈holds.filter (fun x=>!kq lo od x),kq lo od x=false:=fun x hx=>by simpa using(List.mem_filter.1 hx).2
theorem qDD {h:qE} {holds:List qE} (hs:qwO holds):qwO (qno h holds):=by
 unfold qno
 split
 ·exact qyS hs _
 exact qAy (qyS hs _) qxa
theorem qwm {h:qE} {holds:List qE}:(qno h holds).length<=holds.length+1:=by
 have:=List.length_filter_le (fun x=>!kq h.Lot h.Order x) holds
 unfold qno
 split
 ·omega
 rw[(qrN _ _).length_eq,Yr];omega
theorem qD9 {h x:qE} {holds:List qE} (hx:x∈qno h holds):(x=h/\ ¬(h.Reserved=0/\h.Taken=0))\/(x∈holds/\kq h.Lot h.Order x=false):=by
 unfold qno at hx
 split at hx
 ·exact .inr ⟨(List.mem_filter.1 hx).1,qxa x hx⟩
 rename_i hn
 rcases List.mem_cons.1 ((qrN _ _).mem_iff.1 hx)with rfl|hx
 ·exact .inl ⟨rfl,hn⟩
 exact .inr ⟨(List.mem_filter.1 hx).1,qxa x hx⟩
end Go.Av
end
section
namespace Go.Av
open Go.Proofs Go.RowKit
variable [Glob]
abbrev knR:Str:=[114,101,99,101,105,118,101]
abbrev knV:Str:=[114,101,115,101,114,118,101]
abbrev knL:Str:=[114,101,108,101,97,115,101]
abbrev knT:Str:=[116,97,107,101]
abbrev knU:Str:=[114,101,116,117,114,110]
structure qsm (e:zi):Prop where
 kind:e.Kind=knR\/e.Kind=knV\/e.Kind=knL\/e.Kind=knT\/e.Kind=knU
 day:qmM e.Day 0 99999=false
 am:qmM e.Amount 1 999999999=false
 lot:qeC e.Lot=true
 rc:e.Kind=knR->qeC e.Yarn=true/\qs1 e.Dye=true/\e.Order=[]
 oth:e.Kind≠knR->qeC e.Order=true/\e.Yarn=[]/\e.Dye=[]
def qm4 (lots:List zY) (holds:List qE) (e:zi):qg:=
 match lots.find? (fun x=>x.Name==e.Lot)with
 |some x=>⟨x,true,qiz holds e.Lot e.Order,frE holds x⟩
 |none=>⟨⟨e.Lot,e.Yarn,e.Dye,0⟩,false,qiz holds e.Lot e.Order,0⟩
def qoQ (k:Str) (a:qg) (n:Int):qg:=
 if k=knR then⟨⟨a.lot.Name,a.lot.Yarn,a.lot.Dye,w64 (a.lot.Stock+n)⟩,a.known,a.hold,a.free⟩
 else if k=knV then⟨a.lot,a.known,⟨a.hold.Lot,a.hold.Order,w64 (a.hold.Reserved+n),a.hold.Taken⟩,a.free⟩
 else if k=knL then⟨a.lot,a.known,⟨a.hold.Lot,a.hold.Order,w64 (a.hold.Reserved+w64 (0-n)),a.hold.Taken⟩,a.free⟩
 else if k=knT then⟨⟨a.lot.Name,a.lot.Yarn,a.lot.Dye,w64 (a.lot.Stock-n)⟩,a.known,⟨a.hold.Lot,a.hold.Order,(if(w64 (a.hold.Reserved-n))>0 then(w64 (a.hold.Reserved-n))else 0),w64 (a.hold.Taken+n)⟩,a.free⟩
 else⟨⟨a.lot.Name,a.lot.Yarn,a.lot.Dye,w64 (a.lot.Stock+n)⟩,a.known,⟨a.hold.Lot,a.hold.Order,a.hold.Reserved,w64 (a.hold.Taken-n)⟩,a.free⟩
def qwA (k:Str) (a:qg) (n:Int):Bool:=
 if k=knR then true else if k=knV then decide (n<=a.free)else if k=knL then decide (n<=a.hold.Reserved)else if k=knT then decide (n<=w64 (a.free+a.hold.Reserved))else decide (n<=a.hold.Taken)
def qv0 (e:zi) (a:qg):Bool:=if e.Kind=knR then !a.known||(a.lot.Yarn==e.Yarn&&a.lot.Dye==e.Dye)else a.known
def qhP (lots:List zY) (holds:List qE) (e:zi):qg:=qoQ e.Kind (qm4 lots holds e) e.Amount
def nxL (lots:List zY) (holds:List qE) (e:zi):List zY:=qi5 (qhP lots holds e).lot lots
def nxH (lots:List zY) (holds:List qE) (e:zi):List qE:=qno (qhP lots holds e).hold holds
def qpP (day:Int) (lots:List zY) (holds:List qE) (e:zi):Int:=
 if e.Day<day then 1
 else if qv0 e (qm4 lots holds e)=false then 2
 else if qwA e.Kind (qm4 lots holds e) e.Amount=false then 3
 else if 999999999<(qhP lots holds e).lot.Stock\/999999999<(qhP lots holds e).hold.Taken then 4
 else if 64<(nxL lots holds e).length\/256<(nxH lots holds e).length then 5
 else 0
theorem qFG {lots:List zY} (ok:qrL lots) {j:Nat} {x:zY} {nm:Str} (hx:lots[j]? =some x) (e:x.Name=nm):lots.find? (fun x=>x.Name==nm)=some x:=by
 obtain⟨hj,rfl⟩:=Yb.1 hx
 refine List.find?_eq_some_iff_getElem.2 ⟨by rw[e];exact beq_self_eq_true _,j,hj,rfl,fun i hi=>?_⟩
 have:=qr2 ok hi (Ya (by omega)) hx
 have hne:=qvg this
 rw[e]at hne
 simpa using hne
theorem qFu {lots:List zY} {nm:Str} (h: ∀(j:Nat) x,lots[j]? =some x->x.Name≠nm):lots.find? (fun x=>x.Name==nm)=none:=by
 rw[List.find?_eq_none]
 intro x hx
 obtain⟨j,hj,rfl⟩:=List.getElem_of_mem hx
 simpa using h j _ (Ya hj)
theorem ixH1 {holds:List qE} (hh:holds.length<=300) (a:qg): ∀(K i:Nat),i<=holds.length->holds.length<K+i->
 (xG holds a K (i:Int)=some (.inl ())/\ ∀(j:Nat) x,i<=j->holds[j]? =some x->kq a.hold.Lot a.hold.Order x=false)\/
 (∃(j:Nat) (x:qE),xG holds a K (i:Int)=some (.inr (j:Int))/\i<=j/\holds[j]? =some x/\kq a.hold.Lot a.hold.Order x=true/\ ∀(k:Nat) y,i<=k->k<j->holds[k]? =some y->kq a.hold.Lot a.hold.Order y=false)
 |0,i,h,hK=>by omega
 |K+1,i,h,hK=>by
  unfold xG qiK qme
  by_cases hi:i<holds.length
  ·have hx:holds[i]? =some holds[i]:=Ya hi
   rw[if_pos (by omega),qfc,hx,ZB]
   simp only[ZB,Bool.and_true]
   generalize holds[i]=x at*
   by_cases e:kq a.hold.Lot a.hold.Order x=true
   ·rw[if_pos (show(x.Lot==a.hold.Lot&&x.Order==a.hold.Order)=true from e)]
    exact .inr ⟨i,x,rfl,Nat.le_refl _,hx,e,fun k y h1 h2 _=>by omega⟩
   rw[if_neg (show¬(x.Lot==a.hold.Lot&&x.Order==a.hold.Order)=true from e),qmz (by omega)]
   have e':kq a.hold.Lot a.hold.Order x=false:=by simpa using e
   have first: ∀(k:Nat) y,k=i->holds[k]? =some y->kq a.hold.Lot a.hold.Order y=false:=fun k y hk hy=>by
    subst hk;rw[hx]at hy;obtain rfl:=Ye hy;exact e'
   rcases ixH1 hh a K (i+1) (by omega) (by omega)with⟨r1,r2⟩|⟨j,y,r1,r2,r3,r4,r5⟩
   ·refine .inl ⟨r1,fun j y hj hy=>?_⟩
    by_cases c:j=i
    ·exact first j y c hy
    exact r2 j y (by omega) hy
   refine .inr ⟨j,y,r1,by omega,r3,r4,fun k z hk hkj hz=>?_⟩
   by_cases c:k=i
   ·exact first k z c hz
   exact r5 k z (by omega) hkj hz
  rw[if_neg (by omega)]
  exact .inl ⟨rfl,fun j x hj hx=>by have:=(Yb.1 hx).1;omega⟩
theorem ixH2 {holds:List qE} (a:qg): ∀(K:Nat) (i:Int),qdg holds a K i=xG holds a K i
 |0,i=>rfl
 |K+1,i=>by
  unfold xG qdg qiK qiq
  simp only[ixH2 a K]
theorem qHI {holds:List qE} {lo od:Str} {j:Nat} {x:qE} (hx:holds[j]? =some x) (e:kq lo od x=true) (h: ∀(k:Nat) y,k<j->holds[k]? =some y->kq lo od y=false):qiz holds lo od=x:=by
 obtain⟨hj,rfl⟩:=Yb.1 hx
 unfold qiz
 rw[List.find?_eq_some_iff_getElem.2 ⟨e,j,hj,rfl,fun i hi=>by rw[h i _ hi (Ya (by omega))];rfl⟩]
 rfl
theorem qBi {holds:List qE} {lo od:Str} (h: ∀(j:Nat) x,holds[j]? =some x->kq lo od x=false):qiz holds lo od=⟨lo,od,0,0⟩:=by
 unfold qiz
 rw[List.find?_eq_none.2]
 ·rfl
 intro x hx
 obtain⟨j,hj,rfl⟩:=List.getElem_of_mem hx
 rw[h j _ (Ya hj)]
 decide
theorem quU {holds:List qE} {lo od:Str}:(qiz holds lo od).Lot=lo/\(qiz holds lo od).Order=od:=by
 unfold qiz
 cases h:holds.find? (kq lo od)with
 |none=>exact⟨rfl,rfl⟩
 |some x=>exact qrz.1 (List.find?_some h)
theorem qCc {holds:List qE} {lo od:Str}:qiz holds lo od∈holds\/qiz holds lo od=⟨lo,od,0,0⟩:=by
 unfold qiz
 cases h:holds.find? (kq lo od)with
 |none=>exact .inr rfl
 |some x=>exact .inl (List.mem_of_find?_eq_some h)
theorem qEN {N:Nat} (hN:2000<N) (day:Int) {lots:List zY} (holds:List qE) (hl:lots.length<=100) (ok:qrL lots) (name:Str):
 (∃(j:Nat) (x:zY),qjh N ⟨day,lots,holds⟩ name=some ((j:Int),true)/\lots[j]? =some x/\x.Name=name)\/
 (∃p:Nat,qjh N ⟨day,lots,holds⟩ name=some ((p:Int),false)/\p<=lots.length/\(∀(k:Nat) x,k<p->lots[k]? =some x->ltL x.Name name=true)/\(∀(k:Nat) x,p<=k->lots[k]? =some x->ltL x.Name name=false)/\ ∀(k:Nat) x,lots[k]? =some x->x.Name≠name):=by
 unfold qjh qge qlw tCmp
 simp only
 obtain⟨p,p1,p2,p3,p4⟩:=bs_L hl ok name N 0 lots.length (by omega) (by omega) (by omega) (fun k x hk=>by omega) (fun k x hk hx=>by
  have:=(Yb.1 hx).1
  omega)
 rw[show((0:Nat):Int)=0 from rfl]at p1
 rw[p1,ZB]
 by_cases c:p<lots.length
 ·have hx:lots[p]? =some lots[p]:=Ya c
  rw[if_pos (by omega),qfc,hx,ZB,ZB,ZB]
  by_cases e:lots[p].Name=name
  ·refine .inl ⟨p,_,?_,hx,e⟩
   rw[e,qrQ,qlC,beq_self_eq_true]
   rfl
  refine .inr ⟨p,?_,p2,p3,p4,fun k x hk=>?_⟩
  ·have hz: ¬Lib.compareBytes lots[p].Name name=0:=by
    rw[qrQ,p4 p _ (Nat.le_refl _) hx]
    simp[e]
   rw[decide_eq_false hz]
   rfl
  rcases Nat.lt_trichotomy k p with d|d|d
  ·exact qvg (p3 k x d hk)
  ·subst d
   rw[hx]at hk
   obtain rfl:=Ye hk
   exact e
  intro h
  have h1:=qr2 ok d hx hk
  rw[h,p4 p _ (Nat.le_refl _) hx]at h1
  cases h1
 refine .inr ⟨p,?_,p2,p3,p4,fun k x hk=>qvg (p3 k x (by have:=(Yb.1 hk).1;omega) hk)⟩
 rw[if_neg (by omega)]
 rfl
theorem qH4 {lots:List zY} {holds:List qE} {e:zi}:(qm4 lots holds e).lot.Name=e.Lot/\(qm4 lots holds e).hold.Lot=e.Lot/\(qm4 lots holds e).hold.Order=e.Order:=by
 unfold qm4
 cases h:lots.find? (fun x=>x.Name==e.Lot)with
 |none=>exact⟨rfl,quU⟩
 |some x=>exact⟨by simpa using List.find?_some h,quU⟩
theorem qH5 {N:Nat} (hN:2000<N) {day:Int} {lots:List zY} {holds:List qE} (o:OKS day lots holds) (e:zi):qbb N ⟨day,lots,holds⟩ e=some (qm4 lots holds e):=by
 have hl:lots.length<=100:=by have:=o.ll;omega
 have hh:holds.length<=300:=by have:=o.hl;omega
 have hold: ∀(a:qg),a.hold.Lot=e.Lot->a.hold.Order=e.Order-> ∃r,qiL N holds a=some r/\((if r>=0 then(idx holds r).bind fun x18=>some (x18.Lot,x18.Order,x18.Reserved,x18.Taken)else some (e.Lot,e.Order,0,0):Option (Str×Str×Int×Int)))=some ((qiz holds e.Lot e.Order).Lot,(qiz holds e.Lot e.Order).Order,(qiz holds e.Lot e.Order).Reserved,(qiz holds e.Lot e.Order).Taken):=by
  intro a h1 h2
  unfold qiL
  rcases ixH1 hh a N 0 (by omega) (by omega)with⟨r1,r2⟩|⟨j,x,r1,r2,r3,r4,r5⟩
  ·rw[show((0:Nat):Int)=0 from rfl]at r1
   rw[r1]
   refine⟨-1,rfl,?_⟩
   rw[h1,h2]at r2
   rw[if_neg (by decide),qBi fun j x hx=>r2 j x (Nat.zero_le _) hx]
  rw[show((0:Nat):Int)=0 from rfl]at r1
  rw[r1]
  refine⟨(j:Int),rfl,?_⟩
  rw[h1,h2]at r4 r5
  rw[if_pos (by omega),qfc,r3,qHI r3 r4 fun k y hk hy=>r5 k y (Nat.zero_le _) hk hy]
  rfl
 unfold qbb
 simp only
 rcases qEN hN day holds hl o.lk e.Lot with⟨j,x,h1,h2,h3⟩|⟨p,h1,h2,h3,h4,h5⟩
 ·rw[h1,ZB]
  simp only[if_true]
  rw[qfc,h2,ZB,free_eq hN hh,ZB]
  simp only[ZB]
  obtain⟨r,g1,g2⟩:=hold (⟨⟨x.Name,x.Yarn,x.Dye,x.Stock⟩,true,⟨e.Lot,e.Order,0,0⟩,frE holds x⟩:qg) rfl rfl
  rw[g1,ZB,g2,ZB]
  unfold qm4
  rw[qFG o.lk h2 h3]
 rw[h1,ZB]
 simp only[ZF,if_false,ZB]
 obtain⟨r,g1,g2⟩:=hold (⟨⟨e.Lot,e.Yarn,e.Dye,0⟩,false,⟨e.Lot,e.Order,0,0⟩,0⟩:qg) rfl rfl
 rw[g1,ZB,g2,ZB]
 unfold qm4
 rw[qFu h5]
theorem qHs {p:qE->Bool} {a1 a2 a3:Str} {a4:Int} {a5:Bool} {lo od:Str} {a8 a9 a10:Int} {holds:List qE} (hh:holds.length<=300): ∀(K n m:Nat) (l:List qE),l.length=holds.length->n<m->m<=l.length->l.length<K+m->l.drop m=holds.drop m->l.take n=(holds.take m).filter (fun x=>!kq lo od x)->
 ∃l' n',xA a1 a2 a3 a4 a5 lo od a8 a9 a10 K l (n:Int) (m:Int)=some (l',((n':Nat):Int))/\l'.length=holds.length/\n'<holds.length/\l'.take n'=holds.filter (fun x=>!kq lo od x)
 |0,n,m,l,h1,h2,h3,h4,h5,h6=>by omega
 |K+1,n,m,l,h1,h2,h3,h4,h5,h6=>by
  unfold xA qiq qme
  by_cases hm:m<l.length
  ·have hx:l[m]? =some l[m]:=Ya hm
   have hm2:m<holds.length:=by omega
   have hxx:l[m]=holds[m]:=by
    have e:(l.drop m)[0]? =(holds.drop m)[0]? :=by rw[h5]
    rw[YI,YI,Nat.add_zero,hx,Ya hm2]at e
    exact Ye e
   have htk:holds.take (m+1)=holds.take m++[l[m]]:=by rw[hxx];exact List.take_succ_eq_append_getElem hm2
   rw[if_pos (by omega),qfc,hx,ZB]
   simp only[ZB,Bool.and_true]
   have hdr:(l.drop (m+1))=holds.drop (m+1):=by
    have: ∀z:List qE,z.drop (m+1)=(z.drop m).drop 1:=fun z=>by rw[List.drop_drop]
    rw[this l,this holds,h5]
   by_cases e:kq lo od l[m]=true
   ·rw[if_neg (show¬(!(l[m].Lot==lo&&l[m].Order==od))=true by rw[show(l[m].Lot==lo&&l[m].Order==od)=true from e];decide),ZB]
    simp only
    rw[qmz (by omega)]
    refine qHs (p:=p) hh K n (m+1) l h1 (by omega) (by omega) (by omega) hdr ?_
    rw[htk,List.filter_append,h6]
    simp[e]
   have e':kq lo od l[m]=false:=by simpa using e
   rw[if_pos (show(!(l[m].Lot==lo&&l[m].Order==od))=true by rw[show(l[m].Lot==lo&&l[m].Order==od)=false from e'];rfl),qfc,Ya (show n<l.length by omega),ZB,qFE (by omega),ZB,ZB]
   simp only
   rw[qmz (by omega),qmz (by omega)]
   refine qHs (p:=p) hh K (n+1) (m+1) (l.set n l[m]) (by simpa using h1) (by omega) (by simp;omega) (by simp;omega) ?_ ?_
   ·rw[List.drop_set_of_lt (by omega),hdr]
   rw[htk,List.filter_append,<-h6,List.take_set,List.take_succ_eq_append_getElem (show n<l.length by omega),List.set_append_right _ _ (by simp;omega)]
   simp[e']
   rw[show n-min n l.length=0 by omega]
   rfl
  rw[if_neg (by omega)]
  have hm':m=holds.length:=by omega
  refine⟨l,n,rfl,h1,by omega,?_⟩
  rw[h6,hm',List.take_length]
theorem del_eq {N:Nat} (hN:2000<N) {a1 a2 a3:Str} {a4:Int} {a5:Bool} {lo od:Str} {a8 a9 a10:Int} {holds:List qE} (hh:holds.length<=300):
 (qcN N holds a1 a2 a3 a4 a5 lo od a8 a9 a10=some (.inl ())/\holds.filter (fun x=>!kq lo od x)=holds)\/qcN N holds a1 a2 a3 a4 a5 lo od a8 a9 a10=some (.inr (holds.filter fun x=>!kq lo od x)):=by
 unfold qcN qkp
 rw[ixH2]
 rcases ixH1 hh (⟨⟨a1,a2,a3,a4⟩,a5,⟨lo,od,a8,a9⟩,a10⟩:qg) N 0 (by omega) (by omega)with⟨r1,r2⟩|⟨j,x,r1,r2,r3,r4,r5⟩
 ·rw[show((0:Nat):Int)=0 from rfl]at r1
  rw[r1]
  refine .inl ⟨rfl,List.filter_eq_self.2 fun x hx=>?_⟩
  obtain⟨j,hj,rfl⟩:=List.getElem_of_mem hx
  have:=r2 j _ (Nat.zero_le _) (Ya hj)
  simp only at this
  rw[this];rfl
 rw[show((0:Nat):Int)=0 from rfl]at r1
 rw[r1]
 refine .inr ?_
 simp only[ZB]at r4 r5⊢
 have hj:=(Yb.1 r3).1
 rw[if_neg (by omega),qmz (by omega)]
 have hpre:holds.take j=(holds.take (j+1)).filter (fun x=>!kq lo od x):=by
  rw[List.take_succ_eq_append_getElem hj,List.filter_append]
  have e1:(holds.take j).filter (fun x=>!kq lo od x)=holds.take j:=List.filter_eq_self.2 fun y hy=>by
   obtain⟨k,hk,rfl⟩:=List.getElem_of_mem hy
   have hk':k<j:=by simp at hk;omega
   rw[List.getElem_take,r5 k _ (Nat.zero_le _) hk' (Ya (by omega))];rfl
  have e2:holds[j]=x:=by rw[Ya hj]at r3;exact Ye r3
  rw[e1,e2]
  simp[r4]
 obtain⟨l',n',g1,g2,g3,g4⟩:=qHs (p:=fun _=>true) (a1:=a1) (a2:=a2) (a3:=a3) (a4:=a4) (a5:=a5) (lo:=lo) (od:=od) (a8:=a8) (a9:=a9) (a10:=a10) hh N j (j+1) holds rfl (by omega) (by omega) (by omega) rfl hpre
 rw[g1,ZB]
 simp only
 have hc: ∀k:Nat,k<=holds.length->(qvV l' k (⟨[],[],0,0⟩:qE)).length=holds.length:=fun k hk=>by
  unfold qvV;simp;omega
 have ht:(qvV l' n' (⟨[],[],0,0⟩:qE)).take n'=l'.take n':=by
  unfold qvV
  rw[List.take_append_of_le_length (by simp;omega),List.take_take,Nat.min_self]
 by_cases z:n'=0
 ·subst z
  rw[if_pos (by rfl),if_pos (by omega),ZB,ZB,if_pos (by rw[hc 0 (by omega)];omega),ZB,quR (Nat.zero_le _),ZB,ht,g4]
 rw[if_neg (by omega),qI9 (by omega),ZB,if_pos (by omega),ZB,ZB,if_pos (by rw[hc n' (by omega)];omega),ZB,quR (by rw[hc n' (by omega)];omega),ZB,ht,g4]
end Go.Av
end
section
namespace Go.Av
open Go.Proofs Go.RowKit
variable [Glob]
end Go.Av
end
section
namespace Go.Av
open Go.Proofs Go.RowKit
variable [Glob]
theorem qAj {n a b:Int} (h:qmM n a b=false):a<=n/\n<=b:=by
 unfold qmM at h
 rw[Bool.or_eq_false_iff]at h
 have:=of_decide_eq_false h.1
 have:=of_decide_eq_false h.2
 omega
theorem qE8 {n a b:Int} (h:a<=n/\n<=b):qmM n a b=false:=by
 unfold qmM
 rw[decide_eq_false (by omega),decide_eq_false (by omega)]
 rfl
theorem qyY {lots:List zY} {holds:List qE} {e:zi}:(qhP lots holds e).lot.Name=e.Lot/\(qhP lots holds e).hold.Lot=e.Lot/\(qhP lots holds e).hold.Order=e.Order:=by
 obtain⟨h1,h2,h3⟩:=qH4 (lots:=lots) (holds:=holds) (e:=e)
 unfold qhP qoQ
 repeat' split
 all_goals exact⟨h1,h2,h3⟩
theorem qFc {N:Nat} (hN:2000<N) {day:Int} {lots:List zY} {holds:List qE} (o:OKS day lots holds) {e:zi} (k:qsm e) (h1:0<=(qhP lots holds e).hold.Reserved) (h2:0<=(qhP lots holds e).hold.Taken):
 qlJ N ⟨day,lots,holds⟩ e=some ⟨e.Day,nxL lots holds e,nxH lots holds e⟩:=by
 have hl:lots.length<=100:=by have:=o.ll;omega
 have hh:holds.length<=300:=by have:=o.hl;omega
 obtain⟨k1,k2,k3⟩:=qyY (lots:=lots) (holds:=holds) (e:=e)
 have hacc: ∀{α:Type} (f:Str×Str×Str×Int×Bool×Str×Str×Int×Int×Int->Option α),(((qne).bind fun r1=>
  if(e.Kind==[114,101,99,101,105,118,101])=true then
  (qbb N ⟨day,lots,holds⟩ e).bind fun r3=>
  (qpV r3 e.Amount).bind fun r4=>
  some (r4.lot.Name,r4.lot.Yarn,r4.lot.Dye,r4.lot.Stock,r4.known,r4.hold.Lot,r4.hold.Order,r4.hold.Reserved,r4.hold.Taken,r4.free)
  else
  if(e.Kind==[114,101,115,101,114,118,101])=true then
  (qbb N ⟨day,lots,holds⟩ e).bind fun r6=>
  (qp2 r6 e.Amount).bind fun r7=>
  some (r7.lot.Name,r7.lot.Yarn,r7.lot.Dye,r7.lot.Stock,r7.known,r7.hold.Lot,r7.hold.Order,r7.hold.Reserved,r7.hold.Taken,r7.free)
  else
  if(e.Kind==[114,101,108,101,97,115,101])=true then
  (qbb N ⟨day,lots,holds⟩ e).bind fun r9=>
  (qp4 r9 e.Amount).bind fun r10=>
  some (r10.lot.Name,r10.lot.Yarn,r10.lot.Dye,r10.lot.Stock,r10.known,r10.hold.Lot,r10.hold.Order,r10.hold.Reserved,r10.hold.Taken,r10.free)
  else
  if(e.Kind==[116,97,107,101])=true then
  (qbb N ⟨day,lots,holds⟩ e).bind fun r12=>
  (qtx r12 e.Amount).bind fun r13=>
  some (r13.lot.Name,r13.lot.Yarn,r13.lot.Dye,r13.lot.Stock,r13.known,r13.hold.Lot,r13.hold.Order,r13.hold.Reserved,r13.hold.Taken,r13.free)
  else
  if(e.Kind==[114,101,116,117,114,110])=true then
  (qbb N ⟨day,lots,holds⟩ e).bind fun r15=>
  (qpQ r15 e.Amount).bind fun r16=>
  some (r16.lot.Name,r16.lot.Yarn,r16.lot.Dye,r16.lot.Stock,r16.known,r16.hold.Lot,r16.hold.Order,r16.hold.Reserved,r16.hold.Taken,r16.free)
  else
  none:Option (Str×Str×Str×Int×Bool×Str×Str×Int×Int×Int)).bind f)=f ((qhP lots holds e).lot.Name,(qhP lots holds e).lot.Yarn,(qhP lots holds e).lot.Dye,(qhP lots holds e).lot.Stock,(qhP lots holds e).known,(qhP lots holds e).hold.Lot,(qhP lots holds e).hold.Order,(qhP lots holds e).hold.Reserved,(qhP lots holds e).hold.Taken,(qhP lots holds e).free):=by
  intro α f
  unfold qne qhP qoQ
  rw[qH5 hN o e]
  generalize qm4 lots holds e=a
  rcases k.kind with h|h|h|h|h<;>rw[h]<;>rfl
 unfold qlJ
 simp only
 rw[hacc]
 simp only
 unfold nxL nxH
 generalize qhP lots holds e=b at*
 obtain⟨⟨nm,ya,dy,st⟩,kn,⟨lo,od,rs,tk⟩,fr⟩:=b
 simp only at k1 k2 k3 h1 h2⊢
 subst k1 k2 k3
 have hcl:qwH lots=some ():=by unfold qwH;rw[if_pos (by omega)]
 have hch:quZ holds=some ():=by unfold quZ;rw[if_pos (by omega)]
 rw[hcl,ZB]
 have hlot:((qjh N ⟨e.Day,lots,[]⟩ e.Lot).bind fun r29=>((if r29.2=true then(idx lots r29.1).bind fun x33=>(put lots r29.1 (⟨e.Lot,ya,dy,st⟩:zY)).bind fun l34=>some l34 else(qAZ lots r29.1 e.Lot ya dy st).bind fun l36=>some l36:Option (List zY))))=some (qi5 ⟨e.Lot,ya,dy,st⟩ lots):=by
  rcases qEN hN e.Day [] hl o.lk e.Lot with⟨j,x,g1,g2,g3⟩|⟨p,g1,g2,g3,g4,g5⟩
  ·rw[g1,ZB]
   simp only[if_true]
   have hj:=(Yb.1 g2).1
   have hk:=qyO (x:=(⟨e.Lot,ya,dy,st⟩:zY)) (y:=x) o.lk.srt g2 g3
   rw[qfc,g2,ZB,qFE hj,ZB,hk]
  rw[g1,ZB]
  simp only[ZF,if_false]
  have hk:=qAt (x:=(⟨e.Lot,ya,dy,st⟩:zY)) g2 g3 g4 g5
  unfold qAZ
  rw[if_pos ⟨by omega,by omega,by omega⟩,ZB,hk,Int.toNat_natCast]
 have hsort: ∀{b:Bool},b=decide (¬(rs=0/\tk=0))-> ∀l:List qE,l=holds.filter (fun x=>!kq e.Lot e.Order x)-> ∃l43,((if b=true then(app 48 l [(⟨e.Lot,e.Order,rs,tk⟩:qE)]).bind fun l46=>some l46 else some l:Option (List qE)))=some l43/\l43.length<=1000/\qtB qE.Lot qE.Order l43=qno ⟨e.Lot,e.Order,rs,tk⟩ holds:=by
  intro b hb l hlf
  have hlen:l.length<=300:=by
   have:=List.length_filter_le (fun x=>!kq e.Lot e.Order x) holds
   rw[hlf];omega
  by_cases c:rs=0/\tk=0
  ·rw[hb,decide_eq_false (by simpa using c),if_neg (by decide)]
   refine⟨l,rfl,by omega,?_⟩
   unfold qno
   rw[if_pos c,hlf]
   exact qD0 (qyS o.hk.srt _) (.refl _)
  rw[hb,decide_eq_true (by simpa using c),if_pos rfl,qCt (by simp;omega) (by simp;omega),ZB]
  refine⟨_,rfl,by simp;omega,?_⟩
  unfold qno
  rw[if_neg c,hlf]
  refine qD0 (qAy (qyS o.hk.srt _) qxa) ?_
  exact List.perm_append_comm.trans (qrN _ _).symm
 have hb:((if rs>0 then some true else some (decide (tk>0)):Option Bool))=some (decide (¬(rs=0/\tk=0))):=by
  by_cases c:rs>0
  ·rw[if_pos c]
   congr 1
   exact(decide_eq_true (by omega)).symm
  rw[if_neg c]
  congr 1
  exact decide_eq_decide.2 (by omega)
 obtain⟨r,e1,e2⟩:=Option.bind_eq_some_iff.1 hlot
 rw[e1,ZB,e2,ZB,hch,ZB]
 rcases del_eq hN (a1:=e.Lot) (a2:=ya) (a3:=dy) (a4:=st) (a5:=kn) (lo:=e.Lot) (od:=e.Order) (a8:=rs) (a9:=tk) (a10:=fr) hh with⟨g1,g2⟩|g1
 ·rw[g1,ZB]
  simp only
  obtain⟨l43,f1,f2,f3⟩:=hsort rfl holds g2.symm
  rw[hb,ZB,f1,ZB]
  unfold qw8
  rw[if_pos (by omega),ZB,if_pos (qr6 _ _ l43).1.symm,ZB,f3]
 rw[g1,ZB]
 simp only
 obtain⟨l43,f1,f2,f3⟩:=hsort rfl _ rfl
 rw[hb,ZB,f1,ZB]
 unfold qxr
 rw[if_pos (by omega),ZB,if_pos (qr6 _ _ l43).1.symm,ZB,f3]
theorem ix5 {L:Nat->Int->Option (Unit⊕Int)} {f:Int->Option Bool} (hL: ∀K n,L (K+1) n=if n<5 then(f n).bind fun b=>if b=true then some (.inr n)else L K (w64 (n+1))else some (.inl ())) (K:Nat):
 L (K+6) 0=(f 0).bind fun b0=>if b0=true then some (.inr 0)else(f 1).bind fun b1=>if b1=true then some (.inr 1)else(f 2).bind fun b2=>if b2=true then some (.inr 2)else(f 3).bind fun b3=>if b3=true then some (.inr 3)else(f 4).bind fun b4=>if b4=true then some (.inr 4)else some (.inl ()):=by
 have e1:w64 (0+1)=1:=by decide
 have e2:w64 (1+1)=2:=by decide
 have e3:w64 (2+1)=3:=by decide
 have e4:w64 (3+1)=4:=by decide
 have e5:w64 (4+1)=5:=by decide
 rw[hL (K+5),if_pos (by decide),e1,hL (K+4),if_pos (by decide),e2,hL (K+3),if_pos (by decide),e3,hL (K+2),if_pos (by decide),e4,hL (K+1),if_pos (by decide),e5,hL K,if_neg (by decide)]
def rul (b0 b1 b2 b3 b4:Option Bool):Option Int:=
 b0.bind fun x0=>if x0=true then some 1 else b1.bind fun x1=>if x1=true then some 2 else b2.bind fun x2=>if x2=true then some 3 else b3.bind fun x3=>if x3=true then some 4 else b4.bind fun x4=>if x4=true then some 5 else some 0
theorem qJo {b0 b1 b2 b3 b4:Option Bool}:((b0.bind fun b0=>if b0=true then some (.inr 0)else b1.bind fun b1=>if b1=true then some (.inr 1)else b2.bind fun b2=>if b2=true then some (.inr 2)else b3.bind fun b3=>if b3=true then some (.inr 3)else b4.bind fun b4=>if b4=true then some (.inr 4)else some (.inl ()):Option (Unit⊕Int)).bind (fun
 |(.inl ())=>some (-1)
 |(.inr q18)=>some q18)).bind (fun r1=>some (w64 (1+r1)))=rul b0 b1 b2 b3 b4:=by
 unfold rul
 have e0:w64 (1+ -1)=0:=by decide
 have e1:w64 (1+0)=1:=by decide
 have e2:w64 (1+1)=2:=by decide
 have e3:w64 (1+2)=3:=by decide
 have e4:w64 (1+3)=4:=by decide
 have e5:w64 (1+4)=5:=by decide
 rcases b0 with _|_|_<;>try rfl
 rcases b1 with _|_|_<;>try rfl
 rcases b2 with _|_|_<;>try rfl
 rcases b3 with _|_|_<;>try rfl
 rcases b4 with _|_|_<;>rfl
theorem qtI {N:Nat} (hN:2000<N) {L:Nat->Int->Option (Unit⊕Int)} {b0 b1 b2 b3 b4:Option Bool} (hL: ∀K n,L (K+1) n=if n<5 then(if n=0 then b0.bind fun r=>some r else if n=1 then b1.bind fun r=>some r else if n=2 then b2.bind fun r=>some r else if n=3 then b3.bind fun r=>some r else if n=4 then b4.bind fun r=>some r else none:Option Bool).bind fun b=>if b=true then some (.inr n)else L K (w64 (n+1))else some (.inl ())):
 ((L N 0).bind (fun
 |(.inl ())=>some (-1)
 |(.inr q18)=>some q18)).bind (fun r1=>some (w64 (1+r1)))=rul b0 b1 b2 b3 b4:=by
 obtain⟨K,rfl⟩: ∃K,N=K+6:=⟨N-6,by omega⟩
 have hs: ∀b:Option Bool,(b.bind fun r=>some r)=b:=fun b=>by cases b<;>rfl
 simp only[hs]at hL
 rw[ix5 hL]
 exact qJo
theorem qss {lots:List zY} {holds:List qE} (hk:qqN lots holds) {x:qE} (hx:x∈holds):knB lots x.Lot=true/\qeC x.Order=true/\(0<=x.Reserved/\x.Reserved<=999999999)/\(0<=x.Taken/\x.Taken<=999999999)/\ ¬(x.Reserved=0/\x.Taken=0):=by
 obtain⟨j,hj,rfl⟩:=List.getElem_of_mem hx
 obtain⟨h1,h2,h3,h4,h5,h6⟩:=qvx (hk j _ (Ya hj))
 exact⟨h1,h2,qAj h4,qAj h5,h6⟩
theorem qEH {p:Option zY} {x:zY} (h:qrs p x=0):qeC x.Name=true/\qeC x.Yarn=true/\qs1 x.Dye=true/\qvc p x=false/\0<=x.Stock/\x.Stock<=999999999:=by
 unfold qrs at h
 cases n1:qeC x.Name<;>cases n2:qeC x.Yarn<;>cases n3:qs1 x.Dye<;>cases n4:qvc p x<;>cases n5:qmM x.Stock 0 999999999<;>rw[n1,n2,n3,n4,n5]at h<;>first|(exact absurd h (by decide))|exact⟨rfl,rfl,rfl,rfl,qAj n5⟩
theorem qrX {lots:List zY} (ok:qrL lots) {x:zY} (hx:x∈lots):qeC x.Name=true/\qeC x.Yarn=true/\qs1 x.Dye=true/\0<=x.Stock/\x.Stock<=999999999:=by
 obtain⟨j,hj,rfl⟩:=List.getElem_of_mem hx
 obtain⟨h1,h2,h3,_,h5⟩:=qEH (ok j _ (Ya hj))
 exact⟨h1,h2,h3,h5⟩
theorem qD3 {lots:List zY} {holds:List qE} (hk:qqN lots holds) (lo od:Str):(0<=(qiz holds lo od).Reserved/\(qiz holds lo od).Reserved<=999999999)/\(0<=(qiz holds lo od).Taken/\(qiz holds lo od).Taken<=999999999):=by
 rcases qCc (holds:=holds) (lo:=lo) (od:=od)with h|h
 ·exact⟨(qss hk h).2.2.1,(qss hk h).2.2.2.1⟩
 rw[h];exact⟨⟨Int.le_refl _,(by decide:(0:Int)<=999999999)⟩,Int.le_refl _,(by decide:(0:Int)<=999999999)⟩
theorem qBI {lots:List zY} {holds:List qE} {e:zi}:(qm4 lots holds e).hold=qiz holds e.Lot e.Order:=by
 unfold qm4
 split<;>rfl
theorem qHe {day:Int} {lots:List zY} {holds:List qE} (o:OKS day lots holds) {e:zi} (k:qsm e) (hf:qwA e.Kind (qm4 lots holds e) e.Amount=true):0<=(qhP lots holds e).hold.Reserved/\0<=(qhP lots holds e).hold.Taken:=by
 have hin:=qD3 o.hk e.Lot e.Order
 have ham:=qAj k.am
 unfold qhP qoQ
 unfold qwA at hf
 rw[<-qBI (lots:=lots)]at hin
 generalize qm4 lots holds e=a at*
 rcases k.kind with h|h|h|h|h<;>rw[h]at hf⊢
 ·rw[if_pos rfl]
  exact⟨hin.1.1,hin.2.1⟩
 ·rw[if_neg (by decide),if_pos rfl]
  refine⟨?_,hin.2.1⟩
  show 0<=w64 _
  rw[qi2 (by omega) (by omega)];omega
 ·rw[if_neg (by decide),if_neg (by decide),if_pos rfl]
  rw[if_neg (by decide),if_neg (by decide),if_pos rfl]at hf
  have hf:e.Amount<=a.hold.Reserved:=of_decide_eq_true hf
  refine⟨?_,hin.2.1⟩
  show 0<=w64 _
  rw[qi2 (n:=0-e.Amount) (by omega) (by omega),qi2 (by omega) (by omega)];omega
 ·rw[if_neg (by decide),if_neg (by decide),if_neg (by decide),if_pos rfl]
  refine⟨?_,?_⟩
  ·show(0:Int)<=(if w64 (a.hold.Reserved-e.Amount)>0 then w64 (a.hold.Reserved-e.Amount)else 0)
   split<;>omega
  show 0<=w64 _
  rw[qi2 (by omega) (by omega)];omega
 rw[if_neg (by decide),if_neg (by decide),if_neg (by decide),if_neg (by decide)]
 rw[if_neg (by decide),if_neg (by decide),if_neg (by decide),if_neg (by decide)]at hf
 have hf:e.Amount<=a.hold.Taken:=of_decide_eq_true hf
 refine⟨hin.1.1,?_⟩
 show 0<=w64 _
 rw[qi2 (by omega) (by omega)];omega
theorem qGV {N:Nat} (hN:2000<N) {day:Int} {lots:List zY} {holds:List qE} (o:OKS day lots holds) {e:zi} (k:qsm e):qnx N ⟨day,lots,holds⟩ e=some (qpP day lots holds e):=by
 have key: ∀{b3:Option Bool},b3=some (!decide ((if(qhP lots holds e).hold.Taken>(qhP lots holds e).lot.Stock then(qhP lots holds e).hold.Taken else(qhP lots holds e).lot.Stock)<=999999999))->
  rul (qgD e ⟨day,lots,holds⟩) (qfg e (qm4 lots holds e)) (some (!qwA e.Kind (qm4 lots holds e) e.Amount)) b3 (qgA N ⟨day,lots,holds⟩ e)=some (qpP day lots holds e):=by
  intro b3 hb3
  have h0:qgD e ⟨day,lots,holds⟩=some (!decide (e.Day>=day)):=rfl
  have h1:qfg e (qm4 lots holds e)=some (!qv0 e (qm4 lots holds e)):=by
   unfold qfg qlX qv0
   generalize qm4 lots holds e=a
   by_cases c:e.Kind=knR
   ·rw[if_pos c,c]
    cases a.known<;>cases(a.lot.Yarn==e.Yarn)<;>rfl
   rw[if_neg c,if_pos (by simpa using c)]
   rfl
  rw[h0,h1,hb3]
  unfold rul qpP
  simp only[ZB]
  by_cases c0:e.Day<day
  ·rw[if_pos c0,decide_eq_false (by omega),if_pos (by rfl)]
  rw[if_neg c0,decide_eq_true (by omega),if_neg (by decide)]
  by_cases c1:qv0 e (qm4 lots holds e)=false
  ·rw[if_pos c1,c1,if_pos (by rfl)]
  rw[if_neg c1,if_neg (by simpa using c1)]
  by_cases c2:qwA e.Kind (qm4 lots holds e) e.Amount=false
  ·rw[if_pos c2,c2,if_pos (by rfl)]
  rw[if_neg c2,if_neg (by simpa using c2)]
  by_cases c3:999999999<(qhP lots holds e).lot.Stock\/999999999<(qhP lots holds e).hold.Taken
  ·rw[if_pos c3,decide_eq_false (by split<;>omega),if_pos (by rfl)]
  rw[if_neg c3,decide_eq_true (by split<;>omega),if_neg (by decide)]
  obtain⟨n1,n2⟩:=qHe o k (by simpa using c2)
  unfold qgA qlU
  rw[qFc hN o k n1 n2]
  simp only[ZB]
  by_cases c4:64<(nxL lots holds e).length
  ·rw[if_pos (show 64<(nxL lots holds e).length\/256<(nxH lots holds e).length from .inl c4),if_neg (show¬((nxL lots holds e).length:Int)<=64 by omega)]
   rfl
  rw[if_pos (show((nxL lots holds e).length:Int)<=64 by omega)]
  simp only[ZB]
  by_cases c5:256<(nxH lots holds e).length
  ·rw[if_pos (show 64<(nxL lots holds e).length\/256<(nxH lots holds e).length from .inr c5),decide_eq_false (by omega)]
   rfl
  rw[if_neg (show¬(64<(nxL lots holds e).length\/256<(nxH lots holds e).length)by omega),decide_eq_true (by omega)]
  rfl
 unfold qnx
 rw[qH5 hN o e,ZB]
 unfold qne
 simp only[ZB]
 have hs: ∀b:Option Int,(b.bind fun r=>some r)=b:=fun b=>by cases b<;>rfl
 simp only[hs]
 unfold qwA qhP qoQ at key
 rcases k.kind with h|h|h|h|h<;>rw[h]at key⊢
 ·rw[if_pos (by rfl)]
  refine Eq.trans ?_ (key rfl)
  unfold qqR qkF
  rw[if_pos rfl]
  exact qtI hN (fun K n=>by rw[qeM];rfl)
 ·rw[if_neg (by decide),if_pos (by rfl)]
  refine Eq.trans ?_ (key rfl)
  unfold qrc qjS
  rw[if_neg (by decide),if_pos rfl]
  exact qtI hN (fun K n=>by rw[qeU];rfl)
 ·rw[if_neg (by decide),if_neg (by decide),if_pos (by rfl)]
  refine Eq.trans ?_ (key rfl)
  unfold qqT qkb
  rw[if_neg (by decide),if_neg (by decide),if_pos rfl]
  exact qtI hN (fun K n=>by rw[qeR];rfl)
 ·rw[if_neg (by decide),if_neg (by decide),if_neg (by decide),if_pos (by rfl)]
  refine Eq.trans ?_ (key rfl)
  unfold qq1 qjV
  rw[if_neg (by decide),if_neg (by decide),if_neg (by decide),if_pos rfl]
  exact qtI hN (fun K n=>by rw[qeS];rfl)
 rw[if_neg (by decide),if_neg (by decide),if_neg (by decide),if_neg (by decide),if_pos (by rfl)]
 refine Eq.trans ?_ (key rfl)
 unfold qqQ qjU
 rw[if_neg (by decide),if_neg (by decide),if_neg (by decide),if_neg (by decide)]
 exact qtI hN (fun K n=>by rw[qeN];rfl)
end Go.Av
end
section
namespace Go.Av
open Go.Proofs Go.RowKit
variable [Glob]
theorem qDv {s:Str} (h:qeC s=true):s≠[]:=fun e=>by rw[e]at h;cases h
theorem qG0 {lots:List zY} {holds:List qE} (hk:qqN lots holds) {x:qE} (hx:x∈holds) (lo:Str):kq lo [] x=false:=by
 cases c:kq lo [] x with
 |false=>rfl
 |true=>exact absurd (qrz.1 c).2 (qDv (qss hk hx).2.1)
theorem qE2 {lots:List zY} {holds:List qE} (hk:qqN lots holds) (lo:Str):qiz holds lo []=⟨lo,[],0,0⟩:=
 qBi fun j x hx=>qG0 hk (Yn hx) lo
theorem qIF {lots:List zY} (ok:qrL lots) (holds:List qE) {e:zi} {j:Nat} {x:zY} (hx:lots[j]? =some x) (hn:x.Name=e.Lot):qm4 lots holds e=⟨x,true,qiz holds e.Lot e.Order,frE holds x⟩:=by
 unfold qm4
 rw[qFG ok hx hn]
theorem qH8 {lots:List zY} (holds:List qE) {e:zi} (h: ∀(j:Nat) x,lots[j]? =some x->x.Name≠e.Lot):qm4 lots holds e=⟨⟨e.Lot,e.Yarn,e.Dye,0⟩,false,qiz holds e.Lot e.Order,0⟩:=by
 unfold qm4
 rw[qFu h]
theorem qCu {lots:List zY} {nm:Str} {x:zY} (h:lots.find? (fun x=>x.Name==nm)=some x): ∃j:Nat,lots[j]? =some x/\x.Name=nm:=by
 obtain⟨h1,j,hj,h2,_⟩:=List.find?_eq_some_iff_getElem.1 h
 exact⟨j,by rw[<-h2];exact Ya hj,by simpa using h1⟩
theorem qzk {lots:List zY} (hs:SrtL lots) {i j:Nat} {x y:zY} (hx:lots[i]? =some x) (hy:lots[j]? =some y) (e:x.Name=y.Name):x=y:=by
 obtain⟨hi,rfl⟩:=Yb.1 hx
 obtain⟨hj,rfl⟩:=Yb.1 hy
 have key:=List.pairwise_iff_getElem.1 hs
 rcases Nat.lt_trichotomy i j with c|c|c
 ·exact absurd e (qvg (key i j hi hj c))
 ·subst c;rfl
 exact absurd e.symm (qvg (key j i hj hi c))
end Go.Av
end
section
namespace Go.Av
open Go.Proofs Go.RowKit
variable [Glob]
def qwG (e:zi):Bool:=e.Kind==knR||(e.Kind==knV||(e.Kind==knL||(e.Kind==knT||e.Kind==knU)))
def chkE (e:zi):Int:=
 if qwG e=false then 13 else if(qmM e.Day 0 99999||qmM e.Amount 1 999999999)=true then 3 else if qeC e.Lot=false then 8
 else if e.Kind=knR then(if(qeC e.Yarn&&qs1 e.Dye)=false then 8 else if e.Order=[]then 0 else 1)
 else(if qeC e.Order=false then 8 else if(e.Yarn==[]&&e.Dye==[])=true then 0 else 1)
def ShE (e:zi):Prop:=e.Kind.length<=60/\e.Lot.length<=60/\e.Yarn.length<=60/\e.Dye.length<=60/\e.Order.length<=60
theorem qJj (e:zi): ∃b,qnz e=some b/\(b=true->ShE e):=by
 unfold qnz ShE
 repeat' split
 all_goals (refine⟨_,rfl,fun h=>?_⟩)
 all_goals first|(exact absurd h (by decide))|(have:=of_decide_eq_true h;omega)
theorem qzA {e:zi}:qwG e=true↔e.Kind=knR\/e.Kind=knV\/e.Kind=knL\/e.Kind=knT\/e.Kind=knU:=by
 simp[qwG]
theorem qCd {e:zi}:chkE e=0↔qsm e:=by
 unfold chkE
 constructor
 ·intro h
  by_cases c1:qwG e=false
  ·rw[if_pos c1]at h;cases h
  rw[if_neg c1]at h
  by_cases c2:(qmM e.Day 0 99999||qmM e.Amount 1 999999999)=true
  ·rw[if_pos c2]at h;cases h
  rw[if_neg c2]at h
  by_cases c3:qeC e.Lot=false
  ·rw[if_pos c3]at h;cases h
  rw[if_neg c3]at h
  have c2':qmM e.Day 0 99999=false/\qmM e.Amount 1 999999999=false:=by simpa using c2
  have base:qwG e=true:=by simpa using c1
  by_cases c4:e.Kind=knR
  ·rw[if_pos c4]at h
   by_cases c5:(qeC e.Yarn&&qs1 e.Dye)=false
   ·rw[if_pos c5]at h;cases h
   rw[if_neg c5]at h
   by_cases c6:e.Order=[]
   ·have c5':qeC e.Yarn=true/\qs1 e.Dye=true:=by simpa using c5
    exact⟨qzA.1 base,c2'.1,c2'.2,by simpa using c3,fun _=>⟨c5'.1,c5'.2,c6⟩,fun h=>absurd c4 h⟩
   rw[if_neg c6]at h;cases h
  rw[if_neg c4]at h
  by_cases c5:qeC e.Order=false
  ·rw[if_pos c5]at h;cases h
  rw[if_neg c5]at h
  by_cases c6:(e.Yarn==[]&&e.Dye==[])=true
  ·have c6':e.Yarn=[]/\e.Dye=[]:=by simpa using c6
   exact⟨qzA.1 base,c2'.1,c2'.2,by simpa using c3,fun h=>absurd h c4,fun _=>⟨by simpa using c5,c6'.1,c6'.2⟩⟩
  rw[if_neg c6]at h;cases h
 rintro⟨h1,h2,h3,h4,h5,h6⟩
 rw[qzA.2 h1,h2,h3,h4,if_neg (by decide),if_neg (by decide),if_neg (by decide)]
 by_cases c:e.Kind=knR
 ·obtain⟨g1,g2,g3⟩:=h5 c
  rw[if_pos c,g1,g2,g3]
  rfl
 obtain⟨g1,g2,g3⟩:=h6 c
 rw[if_neg c,g1,g2,g3]
 rfl
theorem ychkE {N:Nat} (hN:2000<N) {e:zi} (s:ShE e):qoz N e=some (chkE e):=by
 obtain⟨s1,s2,s3,s4,s5⟩:=s
 have hk:((qne).bind fun r1=>
  if(e.Kind==[114,101,99,101,105,118,101])=true then some true
  else if(e.Kind==[114,101,115,101,114,118,101])=true then some true
  else if(e.Kind==[114,101,108,101,97,115,101])=true then some true
  else if(e.Kind==[116,97,107,101])=true then some true
  else if(e.Kind==[114,101,116,117,114,110])=true then some true
  else some false:Option Bool)=some (qwG e):=by
  unfold qne qwG
  simp only[ZB]
  cases(e.Kind==knR)<;>cases(e.Kind==knV)<;>cases(e.Kind==knL)<;>cases(e.Kind==knT)<;>cases(e.Kind==knU)<;>rfl
 unfold qoz
 rw[hk,ZB,qkG,ZB,qu9,ZB,qu9,ZB,qtm (by omega),ZB,qxG hN (by simp),ZB]
 unfold chkE
 cases c1:qwG e with
 |false=>rfl
 |true=>
  cases c2:qmM e.Day 0 99999 with
  |true=>rfl
  |false=>
   cases c3:qmM e.Amount 1 999999999 with
   |true=>rfl
   |false=>
    cases c4:qeC e.Lot with
    |false=>rfl
    |true=>
     rw[if_neg (show¬(!decide (qo3 [if(!true)=true then 13 else 0,if false=true then 3 else 0,if false=true then 3 else 0,if true=true then 0 else 8]=0))=true by decide),if_neg (show¬(true=false)by decide),if_neg (show¬((false||false)=true)by decide),if_neg (show¬(true=false)by decide)]
     by_cases c5:e.Kind=knR
     ·rw[if_pos (show(e.Kind==[114,101,99,101,105,118,101])=true by rw[c5];rfl),if_pos c5,qtm (by omega),ZB,qFF (by omega),ZB,qkG,ZB,qxG hN (by simp),ZB]
      have ho:(e.Order=[])=((e.Order==[])=true):=by simp
      simp only[ho]
      cases qeC e.Yarn<;>cases qs1 e.Dye<;>cases(e.Order==[])<;>rfl
     rw[if_neg (show¬(e.Kind==[114,101,99,101,105,118,101])=true by simpa using c5),if_neg c5,qtm (by omega),ZB]
     cases hy:(e.Yarn==[])with
     |false=>
      rw[if_pos (by rfl),qkG,ZB,qxG hN (by simp),ZB,ZB]
      cases qeC e.Order<;>rfl
     |true=>
      rw[if_neg (by decide),qkG,ZB,qxG hN (by simp),ZB,ZB]
      cases qeC e.Order<;>cases(e.Dye==[])<;>rfl
theorem rchkE {N:Nat} (hN:2000<N) {e:zi} (s:ShE e):qnA N e=some (chkE e):=by
 obtain⟨s1,s2,s3,s4,s5⟩:=s
 have hk:((if(!(e.Kind==[114,101,99,101,105,118,101]))=true then
  if(!(e.Kind==[114,101,115,101,114,118,101]))=true then
  if(!(e.Kind==[114,101,108,101,97,115,101]))=true then
  if(!(e.Kind==[116,97,107,101]))=true then
  some (!(e.Kind==[114,101,116,117,114,110]))
  else some false
  else some false
  else some false
  else some false:Option Bool))=some (!qwG e):=by
  unfold qwG
  cases(e.Kind==knR)<;>cases(e.Kind==knV)<;>cases(e.Kind==knL)<;>cases(e.Kind==knT)<;>cases(e.Kind==knU)<;>rfl
 unfold qnA
 rw[hk,ZB,qw7,ZB]
 simp only[qw7]
 unfold chkE
 cases c1:qwG e with
 |false=>rfl
 |true=>
  cases c2:qmM e.Day 0 99999 with
  |true=>rfl
  |false=>
   cases c3:qmM e.Amount 1 999999999 with
   |true=>rfl
   |false=>
    rw[if_neg (by decide),if_neg (by decide),ZB,ZB,if_neg (by decide),qo7 (by omega) (by omega),ZB,if_neg (show¬(true=false)by decide),if_neg (show¬((false||false)=true)by decide)]
    cases c4:qeC e.Lot with
    |false=>rfl
    |true=>
     rw[if_neg (by decide),if_neg (show¬(true=false)by decide)]
     by_cases c5:e.Kind=knR
     ·rw[if_pos (show(e.Kind==[114,101,99,101,105,118,101])=true by rw[c5];rfl),if_pos c5,qo7 (by omega) (by omega),ZB,qCi (by omega) (by omega),ZB]
      have ho:(e.Order=[])=((e.Order==[])=true):=by simp
      simp only[ho]
      cases qeC e.Yarn<;>cases qs1 e.Dye<;>cases(e.Order==[])<;>rfl
     rw[if_neg (show¬(e.Kind==[114,101,99,101,105,118,101])=true by simpa using c5),if_neg c5,qo7 (by omega) (by omega),ZB]
     cases qeC e.Order<;>cases(e.Yarn==[])<;>cases(e.Dye==[])<;>rfl
theorem qyp {day:Int} {lots:List zY} {holds:List qE} {e:zi} (h:qpP day lots holds e=0):day<=e.Day/\qv0 e (qm4 lots holds e)=true/\qwA e.Kind (qm4 lots holds e) e.Amount=true/\(qhP lots holds e).lot.Stock<=999999999/\(qhP lots holds e).hold.Taken<=999999999/\(nxL lots holds e).length<=64/\(nxH lots holds e).length<=256:=by
 unfold qpP at h
 by_cases c1:e.Day<day
 ·rw[if_pos c1]at h;cases h
 rw[if_neg c1]at h
 by_cases c2:qv0 e (qm4 lots holds e)=false
 ·rw[if_pos c2]at h;cases h
 rw[if_neg c2]at h
 by_cases c3:qwA e.Kind (qm4 lots holds e) e.Amount=false
 ·rw[if_pos c3]at h;cases h
 rw[if_neg c3]at h
 by_cases c4:999999999<(qhP lots holds e).lot.Stock\/999999999<(qhP lots holds e).hold.Taken
 ·rw[if_pos c4]at h;cases h
 rw[if_neg c4]at h
 by_cases c5:64<(nxL lots holds e).length\/256<(nxH lots holds e).length
 ·rw[if_pos c5]at h;cases h
 exact⟨by omega,by simpa using c2,by simpa using c3,by omega,by omega,by omega,by omega⟩
theorem qzQ {lots:List zY} {holds:List qE} {e:zi} (h:qv0 e (qm4 lots holds e)=true):e.Kind≠knR->(qm4 lots holds e).known=true:=by
 intro c
 unfold qv0 at h
 rwa [if_neg c]at h
theorem ystep {N:Nat} (hN:2000<N) {day:Int} {lots:List zY} {holds:List qE} (o:OKS day lots holds) {e:zi} (k:qsm e) (h:qpP day lots holds e=0):
 qlJ N ⟨day,lots,holds⟩ e=some ⟨e.Day,nxL lots holds e,nxH lots holds e⟩:=by
 obtain⟨h1,h2,h3,_⟩:=qyp h
 obtain⟨n1,n2⟩:=qHe o k h3
 exact qFc hN o k n1 n2
end Go.Av
end
section
namespace Go.Av
open Go.Proofs Go.RowKit
variable [Glob]
def qlP (g:qE->Int):List qE->Int
 |[]=>0
 |h::t=>g h+qlP g t
theorem qzI {g:qE->Int} {l m:List qE} (p:l.Perm m):qlP g l=qlP g m:=by
 induction p with
 |nil=>rfl
 |cons x _ ih=>simp only[qlP,ih]
 |swap x y l=>simp only[qlP];omega
 |trans _ _ i1 i2=>rw[i1,i2]
theorem qy3 {g:qE->Int}: ∀{l:List qE},(∀h∈l,0<=g h)->0<=qlP g l
 |[],_=>Int.le_refl _
 |h::t,k=>by
  have:=k h List.mem_cons_self
  have:=qy3 fun x hx=>k x (List.mem_cons_of_mem _ hx)
  simp only[qlP];omega
theorem qxE {g:qE->Int}: ∀{l:List qE},(∀h∈l,g h=0)->qlP g l=0
 |[],_=>rfl
 |h::t,k=>by
  have:=k h List.mem_cons_self
  have:=qxE fun x hx=>k x (List.mem_cons_of_mem _ hx)
  simp only[qlP];omega
theorem qFt {g:qE->Int}: ∀{l:List qE} {y:qE},(∀h∈l,0<=g h)->y∈l->g y<=qlP g l
 |h::t,y,k,hy=>by
  have k2: ∀x∈t,0<=g x:=fun x hx=>k x (List.mem_cons_of_mem _ hx)
  have h1:=k h List.mem_cons_self
  have h2:=qy3 k2
  simp only[qlP]
  rcases List.mem_cons.1 hy with rfl|hy
  ·omega
  have:=qFt k2 hy
  omega
theorem qEd {g:qE->Int}: ∀{l:List qE},(∀h∈l,g h<=999999999)->qlP g l<=999999999*(l.length:Int)
 |[],_=>by simp[qlP]
 |h::t,k=>by
  have:=k h List.mem_cons_self
  have:=qEd fun x hx=>k x (List.mem_cons_of_mem _ hx)
  simp only[qlP,Yr];omega
theorem qD4 {g:qE->Int} {lo od:Str} (h0:g ⟨lo,od,0,0⟩=0): ∀{l:List qE},qwO l->qlP g l=qlP g (l.filter fun x=>!kq lo od x)+g (qiz l lo od)
 |[],_=>by
  show(0:Int)=0+g ⟨lo,od,0,0⟩
  rw[h0];rfl
 |y::l,hs=>by
  obtain⟨h1,h2⟩:=List.pairwise_cons.1 hs
  cases c:kq lo od y with
  |true=>
   obtain⟨c1,c2⟩:=qrz.1 c
   have hf:(y::l).filter (fun x=>!kq lo od x)=l:=by
    rw[List.filter_cons_of_neg (by rw[c];simp)]
    exact List.filter_eq_self.2 fun x hx=>by
     have:=qCI (h1 x hx)
     rw[c1,c2]at this
     rw[this];rfl
   have hh:qiz (y::l) lo od=y:=by
    unfold qiz
    rw[List.find?_cons,c]
    rfl
   rw[hf,hh]
   simp only[qlP]
   omega
  |false=>
   have hf:(y::l).filter (fun x=>!kq lo od x)=y::l.filter (fun x=>!kq lo od x):=List.filter_cons_of_pos (by rw[c];rfl)
   have hh:qiz (y::l) lo od=qiz l lo od:=by
    unfold qiz
    rw[List.find?_cons,c]
   rw[hf,hh]
   simp only[qlP]
   have:=qD4 h0 h2
   omega
theorem qHo {g:qE->Int} {h:qE} {holds:List qE} (hs:qwO holds) (h0:g ⟨h.Lot,h.Order,0,0⟩=0) (hz:h.Reserved=0/\h.Taken=0->g h=0):qlP g (qno h holds)=qlP g holds-g (qiz holds h.Lot h.Order)+g h:=by
 have:=qD4 h0 hs
 unfold qno
 by_cases c:h.Reserved=0/\h.Taken=0
 ·rw[if_pos c,hz c];omega
 rw[if_neg c,qzI (qrN _ _)]
 simp only[qlP]
 omega
def qtC (g:zY->Int):List zY->Int
 |[]=>0
 |h::t=>g h+qtC g t
def gR (name:Str) (h:qE):Int:=if(h.Lot==name)=true then h.Reserved else 0
theorem qCp {name:Str}: ∀(hs:List qE) (a:Int),(∀h∈hs,0<=h.Reserved/\h.Reserved<=999999999)->0<=a->a+1000000000*(hs.length:Int)<=1000000000000000->qCj name hs a=a+qlP (gR name) hs
 |[],a,h,h0,hb=>by
  simp[qCj,qlP]
 |x::t,a,h,h0,hb=>by
  unfold qCj
  have hx:=h x (List.mem_cons_self ..)
  rw[Yr]at hb
  simp only[qlP,gR]
  by_cases c:(x.Lot==name)=true
  ·rw[if_pos c,if_pos c,qi2 (by omega) (by omega),qCp t _ (fun y hy=>h y (List.mem_cons_of_mem _ hy)) (by omega) (by omega)]
   omega
  rw[if_neg c,if_neg c,qCp t _ (fun y hy=>h y (List.mem_cons_of_mem _ hy)) (by omega) (by omega)]
  omega
def qFx (holds:List qE):Prop:= ∀h∈holds,0<=h.Reserved/\h.Reserved<=999999999
theorem qHv {holds:List qE} (hr:qFx holds) (name:Str): ∀h∈holds,0<=gR name h:=by
 intro h hh
 unfold gR
 split
 ·exact(hr h hh).1
 exact Int.le_refl _
theorem qJc {holds:List qE} (hr:qFx holds) (name:Str): ∀h∈holds,gR name h<=999999999:=by
 intro h hh
 unfold gR
 split
 ·exact(hr h hh).2
 decide
theorem qqB {holds:List qE} (hr:qFx holds) (hl:holds.length<=300) {x:zY} (hx:0<=x.Stock/\x.Stock<=999999999):frE holds x=x.Stock-qlP (gR x.Name) holds:=by
 have h1:=qy3 (qHv hr x.Name)
 have h2:=qEd (qJc hr x.Name)
 unfold frE
 rw[qCp _ _ hr (Int.le_refl _) (by omega),qi2 (by omega) (by omega)]
 omega
theorem qo9 {lots:List zY} {holds:List qE} (hk:qqN lots holds):qFx holds:=fun h hh=>(qss hk hh).2.2.1
theorem qGb {lots:List zY} (hs:SrtL lots) (h: ∀x∈lots,qeC x.Name=true/\qeC x.Yarn=true/\qs1 x.Dye=true/\0<=x.Stock/\x.Stock<=999999999):qrL lots:=by
 intro j x hx
 obtain⟨h1,h2,h3,h4⟩:=h x (Yn hx)
 have hl:qvc (qh8 lots j) x=false:=by
  unfold qh8
  by_cases c:j=0
  ·rw[if_pos c];rfl
  rw[if_neg c]
  obtain⟨hj,rfl⟩:=Yb.1 hx
  rw[Ya (show j-1<lots.length by omega)]
  have:=List.pairwise_iff_getElem.1 hs (j-1) j (by omega) hj (by omega)
  show(ltL _ _||_==_)=false
  rw[qww this,Bool.false_or]
  cases c:(lots[j].Name==lots[j-1].Name)with
  |false=>rfl
  |true=>
   have e:lots[j].Name=lots[j-1].Name:=by simpa using c
   rw[e,qlC]at this
   cases this
 unfold qrs
 rw[h1,h2,h3,hl,qE8 h4]
 rfl
theorem qEO {lots:List zY} {holds:List qE} (hs:qwO holds) (h: ∀x∈holds,knB lots x.Lot=true/\qeC x.Order=true/\(0<=x.Reserved/\x.Reserved<=999999999)/\(0<=x.Taken/\x.Taken<=999999999)/\ ¬(x.Reserved=0/\x.Taken=0)):qqN lots holds:=by
 intro j x hx
 obtain⟨h1,h2,h3,h4,h5⟩:=h x (Yn hx)
 have hl:qwe (qh8 holds j) x=false:=by
  unfold qh8
  by_cases c:j=0
  ·rw[if_pos c];rfl
  rw[if_neg c]
  obtain⟨hj,rfl⟩:=Yb.1 hx
  rw[Ya (show j-1<holds.length by omega)]
  have:=List.pairwise_iff_getElem.1 hs (j-1) j (by omega) hj (by omega)
  show(!qD1 _ _)=false
  rw[qC2,this]
  rfl
 have h6:(decide (x.Reserved=0)&&decide (x.Taken=0))=false:=by
  cases c:(decide (x.Reserved=0)&&decide (x.Taken=0))with
  |false=>rfl
  |true=>exact absurd (by simpa using c) h5
 unfold qp7
 rw[h1,h2,hl,qE8 h3,qE8 h4,h6]
 rfl
theorem qxB {lots:List zY} {name:Str}:knB lots name=true↔ ∃x∈lots,x.Name=name:=by
 unfold knB
 rw[List.any_eq_true]
 constructor
 ·rintro⟨x,hx,h⟩;exact⟨x,hx,by simpa using h⟩
 rintro⟨x,hx,h⟩;exact⟨x,hx,by simpa using h⟩
theorem qH6 {lots:List zY} {x:zY} {name:Str} (h:knB lots name=true):knB (qi5 x lots) name=true:=by
 obtain⟨y,hy,e⟩:=qxB.1 h
 by_cases c:y.Name=x.Name
 ·obtain⟨j,hj⟩:=qxs (x:=x) (lots:=lots)
  exact qxB.2 ⟨x,Yn hj,by rw[<-c,e]⟩
 exact qxB.2 ⟨y,qzL c hy,e⟩
end Go.Av
end
section
namespace Go.Av
open Go.Proofs Go.RowKit
variable [Glob]
structure AccN (lots:List zY) (holds:List qE) (e:zi) (a:qg):Prop where
 nm:a.lot.Name=e.Lot
 nk:qeC a.lot.Name=true/\qeC a.lot.Yarn=true/\qs1 a.lot.Dye=true
 st:0<=a.lot.Stock/\a.lot.Stock<=999999999
 sm:qlP (gR e.Lot) holds<=a.lot.Stock
 rv:0<=a.hold.Reserved/\a.hold.Reserved<=qlP (gR e.Lot) holds
 tk:0<=a.hold.Taken/\a.hold.Taken<=999999999
 fr:a.known=true->a.free=a.lot.Stock-qlP (gR e.Lot) holds
 ol:a.known=true-> ∃x∈lots,x=a.lot
 nw:a.known=false->knB lots e.Lot=false/\e.Kind=knR/\a.lot.Stock=0
theorem qFb {day:Int} {lots:List zY} {holds:List qE} (o:OKS day lots holds) {e:zi} (k:qsm e) (hr:qv0 e (qm4 lots holds e)=true):AccN lots holds e (qm4 lots holds e):=by
 have hin:=qD3 o.hk e.Lot e.Order
 have hri:=qo9 o.hk
 have hnn:=qHv hri e.Lot
 have hle:(qiz holds e.Lot e.Order).Reserved<=qlP (gR e.Lot) holds:=by
  rcases qCc (holds:=holds) (lo:=e.Lot) (od:=e.Order)with h|h
  ·have h1:=qFt hnn h
   have h2:gR e.Lot (qiz holds e.Lot e.Order)=(qiz holds e.Lot e.Order).Reserved:=by
    unfold gR
    rw[if_pos (by rw[quU.1];simp)]
   omega
  rw[h]
  exact qy3 hnn
 have hhl:holds.length<=300:=by have:=o.hl;omega
 cases c:lots.find? (fun x=>x.Name==e.Lot)with
 |some x=>
  obtain⟨j,hj,hn⟩:=qCu c
  have hl:=qrX o.lk (Yn hj)
  have hfr:=o.fr j x hj
  rw[qqB hri hhl hl.2.2.2,hn]at hfr
  have ha:qm4 lots holds e=⟨x,true,qiz holds e.Lot e.Order,frE holds x⟩:=qIF o.lk holds hj hn
  rw[ha]
  refine⟨hn,⟨hl.1,hl.2.1,hl.2.2.1⟩,hl.2.2.2,by show _<=x.Stock;omega,⟨hin.1.1,hle⟩,hin.2,fun _=>?_,fun _=>⟨x,Yn hj,rfl⟩,fun h=>by cases h⟩
  show frE holds x=_
  rw[qqB hri hhl hl.2.2.2,hn]
 |none=>
  have hno: ∀(j:Nat) x,lots[j]? =some x->x.Name≠e.Lot:=by
   intro j x hx q
   have:=List.find?_eq_none.1 c x (Yn hx)
   simp[q]at this
  have ha:=qH8 holds hno
  have hkn:knB lots e.Lot=false:=qDz hno
  have hk:e.Kind=knR:=by
   by_cases q:e.Kind=knR
   ·exact q
   unfold qv0 at hr
   rw[if_neg q,ha]at hr
   cases hr
  have hz:qlP (gR e.Lot) holds=0:=qxE fun h hh=>by
   unfold gR
   by_cases q:(h.Lot==e.Lot)=true
   ·have q':h.Lot=e.Lot:=by simpa using q
    have:=(qss o.hk hh).1
    rw[q',hkn]at this
    cases this
   rw[if_neg q]
  rw[ha]
  obtain⟨r1,r2,r3⟩:=k.rc hk
  refine⟨rfl,⟨k.lot,r1,r2⟩,⟨Int.le_refl _,(by decide:(0:Int)<=999999999)⟩,by rw[hz];exact Int.le_refl _,⟨hin.1.1,hle⟩,hin.2,fun h=>(by cases h),fun h=>(by cases h),fun _=>⟨hkn,hk,rfl⟩⟩
structure AftN (holds:List qE) (e:zi) (a b:qg):Prop where
 nm:b.lot.Name=e.Lot/\b.hold.Lot=e.Lot/\b.hold.Order=e.Order
 nk:qeC b.lot.Name=true/\qeC b.lot.Yarn=true/\qs1 b.lot.Dye=true
 st:0<=b.lot.Stock/\b.lot.Stock<=999999999
 rv:0<=b.hold.Reserved/\b.hold.Reserved<=999999999
 tk:0<=b.hold.Taken/\b.hold.Taken<=999999999
 eq:b.lot.Stock+b.hold.Taken=a.lot.Stock+a.hold.Taken+if e.Kind=knR then e.Amount else 0
 sm:qlP (gR e.Lot) holds-a.hold.Reserved+b.hold.Reserved<=b.lot.Stock
theorem qIN {day:Int} {lots:List zY} {holds:List qE} (o:OKS day lots holds) {e:zi} (k:qsm e) (h:qpP day lots holds e=0):AftN holds e (qm4 lots holds e) (qhP lots holds e):=by
 obtain⟨_,h2,h3,h4,h5,_,_⟩:=qyp h
 have n:=qFb o k h2
 have hkey:=qyY (lots:=lots) (holds:=holds) (e:=e)
 have ham:=qAj k.am
 obtain⟨n1,n2,n3,n4,n5,n6,n7,n8,n9⟩:=n
 have hkn:e.Kind≠knR->(qm4 lots holds e).known=true:=qzQ h2
 unfold qhP at*
 generalize qm4 lots holds e=a at*
 generalize hS:qlP (gR e.Lot) holds=S at*
 have hnk:qeC (qoQ e.Kind a e.Amount).lot.Name=true/\qeC (qoQ e.Kind a e.Amount).lot.Yarn=true/\qs1 (qoQ e.Kind a e.Amount).lot.Dye=true:=by
  unfold qoQ
  repeat' split
  all_goals exact n2
 have key:(0<=(qoQ e.Kind a e.Amount).lot.Stock/\(qoQ e.Kind a e.Amount).lot.Stock<=999999999)/\(0<=(qoQ e.Kind a e.Amount).hold.Reserved/\(qoQ e.Kind a e.Amount).hold.Reserved<=999999999)/\(0<=(qoQ e.Kind a e.Amount).hold.Taken/\(qoQ e.Kind a e.Amount).hold.Taken<=999999999)/\((qoQ e.Kind a e.Amount).lot.Stock+(qoQ e.Kind a e.Amount).hold.Taken=a.lot.Stock+a.hold.Taken+if e.Kind=knR then e.Amount else 0)/\S-a.hold.Reserved+(qoQ e.Kind a e.Amount).hold.Reserved<=(qoQ e.Kind a e.Amount).lot.Stock:=by
  clear hnk hkey
  unfold qoQ at h4 h5⊢
  unfold qwA at h3
  rcases k.kind with q|q|q|q|q
  ·simp only[q,if_true]at h4 h5⊢
   rw[qi2 (by omega) (by omega)]at h4⊢
   omega
  ·rw[q]at h3 h4 h5⊢
   have hk:=n7 (hkn (by rw[q];decide))
   rw[if_neg (by decide),if_pos rfl]at h3 h4 h5⊢
   have h3:=of_decide_eq_true h3
   simp only[if_neg (show¬knV=knR by decide)]at h4 h5⊢
   rw[qi2 (by omega) (by omega)]
   omega
  ·rw[q]at h3 h4 h5⊢
   have hk:=n7 (hkn (by rw[q];decide))
   rw[if_neg (by decide),if_neg (by decide),if_pos rfl]at h3 h4 h5⊢
   have h3:=of_decide_eq_true h3
   simp only[if_neg (show¬knL=knR by decide)]at h4 h5⊢
   rw[qi2 (n:=0-e.Amount) (by omega) (by omega),qi2 (by omega) (by omega)]
   omega
  ·rw[q]at h3 h4 h5⊢
   have hk:=n7 (hkn (by rw[q];decide))
   rw[if_neg (by decide),if_neg (by decide),if_neg (by decide),if_pos rfl]at h3 h4 h5⊢
   have h3:=of_decide_eq_true h3
   rw[qi2 (by omega) (by omega)]at h3
   simp only[if_neg (show¬knT=knR by decide)]at h4 h5⊢
   rw[qi2 (n:=a.hold.Taken+e.Amount) (by omega) (by omega)]at h5
   rw[qi2 (n:=a.hold.Taken+e.Amount) (by omega) (by omega),qi2 (n:=a.lot.Stock-e.Amount) (by omega) (by omega),qi2 (n:=a.hold.Reserved-e.Amount) (by omega) (by omega)]
   split<;>omega
  rw[q]at h3 h4 h5⊢
  have hk:=n7 (hkn (by rw[q];decide))
  rw[if_neg (by decide),if_neg (by decide),if_neg (by decide),if_neg (by decide)]at h3 h4 h5⊢
  have h3:=of_decide_eq_true h3
  simp only[if_neg (show¬knU=knR by decide)]at h4 h5⊢
  rw[qi2 (n:=a.lot.Stock+e.Amount) (by omega) (by omega)]at h4
  rw[qi2 (n:=a.lot.Stock+e.Amount) (by omega) (by omega),qi2 (n:=a.hold.Taken-e.Amount) (by omega) (by omega)]
  omega
 obtain⟨k1,k2,k3,k4,k5⟩:=key
 exact⟨hkey,hnk,k1,k2,k3,k4,by rw[hS];exact k5⟩
theorem qva {day:Int} {lots:List zY} {holds:List qE} (o:OKS day lots holds) {e:zi} (k:qsm e) (h:qpP day lots holds e=0):OKS e.Day (nxL lots holds e) (nxH lots holds e):=by
 obtain⟨_,h2,h3,_,_,h6,h7⟩:=qyp h
 have n:=qFb o k h2
 have m:=qIN o k h
 have hacc:=qBI (lots:=lots) (holds:=holds) (e:=e)
 have hkn:e.Kind≠knR->(qm4 lots holds e).known=true:=qzQ h2
 have hkR:e.Kind=knR->(qhP lots holds e).hold=⟨e.Lot,[],0,0⟩:=by
  intro q
  unfold qhP qoQ
  rw[if_pos q,hacc,(k.rc q).2.2,qE2 o.hk]
 unfold nxL nxH at*
 generalize qm4 lots holds e=a at*
 generalize qhP lots holds e=b at*
 have hx:=qxs (x:=b.lot) (lots:=lots)
 have hbn:knB (qi5 b.lot lots) e.Lot=true:=by
  obtain⟨j,hj⟩:=hx
  exact qxB.2 ⟨b.lot,Yn hj,m.nm.1⟩
 have hHo:qqN (qi5 b.lot lots) (qno b.hold holds):=by
  refine qEO (qDD o.hk.srt) fun x hx=>?_
  rcases qD9 hx with⟨rfl,hz⟩|⟨hx,_⟩
  ·refine⟨by rw[m.nm.2.1];exact hbn,?_,m.rv,m.tk,hz⟩
   by_cases q:e.Kind=knR
   ·rw[hkR q]at hz
    exact absurd ⟨rfl,rfl⟩ hz
   rw[m.nm.2.2]
   exact(k.oth q).1
  obtain⟨g1,g2,g3,g4,g5⟩:=qss o.hk hx
  exact⟨qH6 g1,g2,g3,g4,g5⟩
 have hLo:qrL (qi5 b.lot lots):=by
  refine qGb (qAE o.lk.srt) fun x hx=>?_
  rcases qrr hx with rfl|hx
  ·exact⟨m.nk.1,m.nk.2.1,m.nk.2.2,m.st⟩
  exact qrX o.lk hx
 refine⟨k.day,h6,hLo,h7,hHo,fun j x hx=>?_⟩
 have hst:=qrX hLo (Yn hx)
 rw[qqB (qo9 hHo) (by omega) hst.2.2.2]
 have hsum:qlP (gR x.Name) (qno b.hold holds)=qlP (gR x.Name) holds-gR x.Name (qiz holds b.hold.Lot b.hold.Order)+gR x.Name b.hold:=by
  refine qHo o.hk.srt ?_ fun z=>?_
  ·unfold gR;split<;>rfl
  unfold gR;rw[z.1];split<;>rfl
 rw[hsum,m.nm.2.1,m.nm.2.2,<-hacc]
 by_cases q:x.Name=e.Lot
 ·have hxb:x=b.lot:=by
   obtain⟨i,hi⟩:=qxs (x:=b.lot) (lots:=lots)
   exact qzk hLo.srt hx hi (by rw[q,m.nm.1])
  have g1:gR x.Name a.hold=a.hold.Reserved:=by
   unfold gR
   rw[if_pos (by rw[hacc,quU.1,q];simp)]
  have g2:gR x.Name b.hold=b.hold.Reserved:=by
   unfold gR
   rw[if_pos (by rw[m.nm.2.1,q];simp)]
  have:=m.sm
  rw[g1,g2,q,hxb]
  omega
 have g1:gR x.Name a.hold=0:=by
  unfold gR
  rw[if_neg (by rw[hacc,quU.1];intro c;exact q ((by simpa using c:e.Lot=x.Name).symm))]
 have g2:gR x.Name b.hold=0:=by
  unfold gR
  rw[if_neg (by rw[m.nm.2.1];intro c;exact q ((by simpa using c:e.Lot=x.Name).symm))]
 rw[g1,g2]
 rcases qrr (Yn hx)with rfl|hx
 ·exact absurd m.nm.1 q
 obtain⟨i,hi⟩:=List.mem_iff_getElem?.1 hx
 have hf:=o.fr i x hi
 rw[qqB (qo9 o.hk) (by have:=o.hl;omega) hst.2.2.2]at hf
 omega
end Go.Av
end
section
namespace Go.Av
open Go.Proofs Go.RowKit
variable [Glob]
def qzV:List zi->Int
 |[]=>0
 |e::t=>if chkE e=0 then qzV t else chkE e
def qAC (l:List zi):Prop:= ∀e∈l,qsm e
theorem qBY: ∀{l:List zi},qzV l=0↔qAC l
 |[]=>⟨fun _ e h=>(by cases h),fun _=>rfl⟩
 |e::t=>by
  unfold qzV
  have ih:=qBY (l:=t)
  by_cases c:chkE e=0
  ·rw[if_pos c]
   constructor
   ·intro h x hx
    rcases List.mem_cons.1 hx with rfl|hx
    ·exact qCd.1 c
    exact ih.1 h x hx
   intro h
   exact ih.2 fun x hx=>h x (List.mem_cons_of_mem _ hx)
  rw[if_neg c]
  exact⟨fun h=>absurd h c,fun h=>absurd (qCd.2 (h e List.mem_cons_self)) c⟩
def qzo (l:List zi):Int:=if(l.length:Int)>1000 then 5 else qzV l
theorem qxu {l:List zi}:qzo l=0↔l.length<=1000/\qAC l:=by
 unfold qzo
 by_cases c:(l.length:Int)>1000
 ·rw[if_pos c]
  exact⟨fun h=>(by cases h),fun h=>(by omega)⟩
 rw[if_neg c,qBY]
 exact⟨fun h=>⟨by omega,h⟩,fun h=>h.2⟩
def qzU (l:List zi):Prop:= ∀e∈l,ShE e
theorem qG5 {N:Nat} (hN:2000<N) {l:List zi} (hl:l.length<=1000) (sh:qzU l): ∀(K i:Nat),i<=l.length->l.length<K+i->qgw N l K (i:Int)=some (if qzV (l.drop i)=0 then .inl ()else .inr (qzV (l.drop i)))
 |0,i,h,hK=>by omega
 |K+1,i,h,hK=>by
  unfold qgw qpz
  by_cases hi:i<l.length
  ·rw[if_pos (by omega),qfc,Ya hi,ZB,quR (by omega),ZB,ychkE hN (sh _ (List.getElem_mem hi)),ZB,ZB,qmz (by omega),qpu hi]
   unfold qzV
   by_cases c:chkE l[i]=0
   ·rw[if_pos c,if_neg (by simp[c])]
    exact qG5 hN hl sh K (i+1) (by omega) (by omega)
   rw[if_neg c,if_pos (by simp[c]),if_neg c]
  rw[if_neg (by omega),List.drop_eq_nil_of_le (by omega)]
  rfl
theorem qGR {N:Nat} (hN:2000<N) {l:List zi} (hl:l.length<=1000) (sh:qzU l): ∀(K i:Nat),i<=l.length->l.length<K+i->qjc N l K (i:Int)=some (if qzV (l.drop i)=0 then .inl ()else .inr (qzV (l.drop i)))
 |0,i,h,hK=>by omega
 |K+1,i,h,hK=>by
  unfold qjc
  by_cases hi:i<l.length
  ·rw[if_pos (by omega),qfc,Ya hi,ZB,rchkE hN (sh _ (List.getElem_mem hi)),ZB,qmz (by omega),qpu hi]
   unfold qzV
   by_cases c:chkE l[i]=0
   ·rw[if_pos c,if_neg (by simp[c])]
    exact qGR hN hl sh K (i+1) (by omega) (by omega)
   rw[if_neg c,if_pos (by simp[c]),if_neg c]
  rw[if_neg (by omega),List.drop_eq_nil_of_le (by omega)]
  rfl
theorem qIc {N:Nat} (hN:2000<N) {l:List zi} (sh:qzU l):qpL N l=some (qzo l):=by
 unfold qpL qop qzo
 by_cases c:(l.length:Int)>1000
 ·rw[if_pos c,if_pos c];rfl
 rw[if_neg c,if_neg c]
 have:=qG5 hN (by omega) sh N 0 (Nat.zero_le _) (by omega)
 rw[show((0:Nat):Int)=0 from rfl]at this
 rw[this,YR]
 by_cases z:qzV l=0
 ·rw[if_pos z,z];rfl
 rw[if_neg z];rfl
theorem qIk {N:Nat} (hN:2000<N) {l:List zi} (sh:qzU l):qpk N l=some (qzo l):=by
 unfold qpk qzo
 by_cases c:(l.length:Int)>1000
 ·rw[if_pos c,if_pos c]
 rw[if_neg c,if_neg c]
 have:=qGR hN (by omega) sh N 0 (Nat.zero_le _) (by omega)
 rw[show((0:Nat):Int)=0 from rfl]at this
 rw[this,YR]
 by_cases z:qzV l=0
 ·rw[if_pos z,z];rfl
 rw[if_neg z];rfl
theorem qFk {l:List zi} (hl:l.length<=2000): ∀(K i:Nat),i<=l.length->l.length<K+i->(qij l K (i:Int)=some (.inl ())/\ ∀(j:Nat) x,i<=j->l[j]? =some x->ShE x)\/qij l K (i:Int)=some (.inr false)
 |0,i,h,hK=>by omega
 |K+1,i,h,hK=>by
  unfold qij
  by_cases hi:i<l.length
  ·have hx:l[i]? =some l[i]:=Ya hi
   rw[if_pos (by omega),qfc,hx,ZB]
   generalize l[i]=x at*
   obtain⟨b,hb,hs⟩:=qJj x
   rw[hb,ZB]
   cases b with
   |false=>exact .inr rfl
   |true=>
    rw[if_neg (by decide),qmz (by omega)]
    rcases qFk hl K (i+1) (by omega) (by omega)with⟨r1,r2⟩|r
    ·refine .inl ⟨r1,fun j y hj hy=>?_⟩
     by_cases c:j=i
     ·subst c
      rw[hx]at hy
      obtain rfl:=Ye hy
      exact hs rfl
     exact r2 j y (by omega) hy
    exact .inr r
  rw[if_neg (by omega)]
  exact .inl ⟨rfl,fun j x hj hx=>by
   have:=(Yb.1 hx).1
   omega⟩
theorem qGK {N:Nat} (hN:2000<N) (l:List zi) (n:Int): ∃b,qpj N l n=some b/\(b=true->l.length<=1003/\qzU l):=by
 unfold qpj
 have hc: ∃c:Bool,(if(l.length:Int)>n then
  if(l.length:Int)<=1000 then some true
  else some (decide ((l.length:Int)>1003))
  else some (decide ((l.length:Int)>1003)):Option Bool)=some c/\(c=false->l.length<=1003):=by
  repeat' split
  all_goals refine⟨_,rfl,fun h=>?_⟩
  all_goals first|(exact absurd h (by decide))|(have:=of_decide_eq_false h;omega)
 obtain⟨c,hc1,hc2⟩:=hc
 rw[hc1,ZB]
 cases c with
 |true=>exact⟨false,rfl,fun h=>by cases h⟩
 |false=>
  have l1:=hc2 rfl
  rw[if_neg (by simp)]
  rcases qFk (show l.length<=2000 by omega) N 0 (by omega) (by omega)with⟨r1,r2⟩|r1
  ·rw[show((0:Nat):Int)=0 from rfl]at r1
   rw[r1]
   refine⟨true,rfl,fun _=>⟨l1,fun e he=>?_⟩⟩
   obtain⟨j,hj⟩:=List.mem_iff_getElem?.1 he
   exact r2 j e (Nat.zero_le _) hj
  rw[show((0:Nat):Int)=0 from rfl]at r1
  rw[r1]
  exact⟨false,rfl,fun h=>by cases h⟩
end Go.Av
end
section
namespace Go.Av
open Go.Proofs Go.RowKit
variable [Glob]
def qxP:List zi->Nat->Int->List zY->List qE->List qe6->Int×List zY×List qE×List qe6
 |[],_,d,l,h,rs=>(d,l,h,rs)
 |e::t,i,d,l,h,rs=>if qpP d l h e=0 then qxP t (i+1) e.Day (nxL l h e) (nxH l h e) rs else qxP t (i+1) d l h (rs++[⟨((i+1:Nat):Int),qpP d l h e⟩])
theorem qEs {N:Nat} (hN:2000<N) {l:List zi} (hl:l.length<=1000) (ok:qAC l): ∀(K i:Nat) (d:Int) (lots:List zY) (holds:List qE) (rs:List qe6),i<=l.length->l.length<K+i->OKS d lots holds->rs.length<=i->
 qmB N l K d lots holds rs (i:Int)=some (qxP (l.drop i) i d lots holds rs)
 |0,i,d,lots,holds,rs,h,hK,o,hr=>by omega
 |K+1,i,d,lots,holds,rs,h,hK,o,hr=>by
  unfold qmB
  by_cases hi:i<l.length
  ·have k:=ok _ (List.getElem_mem hi)
   rw[if_pos (by omega),qfc,Ya hi,ZB,qGV hN o k,ZB,qmz (by omega),qpu hi]
   unfold qxP
   by_cases c:qpP d lots holds l[i]=0
   ·rw[if_pos c,if_neg (by simp[c]),ystep hN o k c,ZB,ZB]
    exact qEs hN hl ok K (i+1) _ _ _ _ (by omega) (by omega) (qva o k c) (by omega)
   rw[if_neg c,if_pos (by simp[c]),qCt (by rw[List.length_singleton];omega) (by rw[List.length_singleton];omega),ZB,ZB]
   exact qEs hN hl ok K (i+1) _ _ _ _ (by omega) (by omega) o (by simp;omega)
  rw[if_neg (by omega),List.drop_eq_nil_of_le (by omega)]
  rfl
theorem qyI:OKS 0 [] []:=⟨rfl,by decide,fun j x h=>(by simp at h),by decide,fun j x h=>(by simp at h),fun j x h=>(by simp at h)⟩
def qDT (l:List zi):Int×List zY×List qE×List qe6:=qxP l 0 0 [] [] []
theorem qIt {N:Nat} (hN:2000<N) {l:List zi} (hl:l.length<=1000) (ok:qAC l):qr0 N l=some (⟨(qDT l).1,(qDT l).2.1,(qDT l).2.2.1⟩,(qDT l).2.2.2):=by
 have:=qEs hN hl ok N 0 0 [] [] [] (Nat.zero_le _) (by omega) qyI (Nat.le_refl _)
 rw[show((0:Nat):Int)=0 from rfl,YR]at this
 unfold qr0
 rw[this]
 rfl
theorem qCF: ∀(l:List zi) (i:Nat) (d:Int) (lots:List zY) (holds:List qE) (rs:List qe6),qAC l->OKS d lots holds->OKS (qxP l i d lots holds rs).1 (qxP l i d lots holds rs).2.1 (qxP l i d lots holds rs).2.2.1/\(qxP l i d lots holds rs).2.2.2.length<=rs.length+l.length
 |[],i,d,lots,holds,rs,ok,o=>⟨o,by simp[qxP]⟩
 |e::t,i,d,lots,holds,rs,ok,o=>by
  have k:=ok e List.mem_cons_self
  have ok':qAC t:=fun x hx=>ok x (List.mem_cons_of_mem _ hx)
  unfold qxP
  by_cases c:qpP d lots holds e=0
  ·rw[if_pos c]
   have:=qCF t (i+1) _ _ _ rs ok' (qva o k c)
   exact⟨this.1,by rw[Yr];omega⟩
  rw[if_neg c]
  have:=qCF t (i+1) d lots holds (rs++[⟨((i+1:Nat):Int),qpP d lots holds e⟩]) ok' o
  refine⟨this.1,?_⟩
  have h2:=this.2
  rw[Yq,List.length_singleton]at h2
  rw[Yr]
  omega
def qzl (l:List zi):Int×List zY×List qE×List qe6:=if qzo l=0 then qDT l else(0,[],[],[])
theorem qGr (l:List zi) (sh:qzU l):(qzl l).2.1.length<=1000/\(qzl l).2.2.1.length<=1000/\(qzl l).2.2.2.length<=2000:=by
 unfold qzl
 by_cases z:qzo l=0
 ·obtain⟨h1,h2⟩:=qxu.1 z
  rw[if_pos z]
  obtain⟨o,h3⟩:=qCF l 0 0 [] [] [] h2 qyI
  have:=o.ll
  have:=o.hl
  unfold qDT
  simp at h3
  omega
 rw[if_neg z]
 simp
theorem qBt {N:Nat} (hN:2000<N) {l:List zi} (sh:qzU l):qqv N l=some (⟨(qzl l).1,(qzl l).2.1,(qzl l).2.2.1⟩,(qzl l).2.2.2,qzo l):=by
 unfold qqv qzl
 rw[qIc hN sh,ZB]
 by_cases z:qzo l=0
 ·obtain⟨h1,h2⟩:=qxu.1 z
  rw[if_neg (by simp[z]),if_pos z,qIt hN h1 h2,z]
  rfl
 rw[if_pos (by simp[z]),if_neg z]
end Go.Av
end
section
namespace Go.Av
open Go.Proofs Go.RowKit
variable [Glob]
theorem qtl {s:Str} (h:qeC s=true):s.length<=24:=by
 unfold qeC at h
 simp only[Bool.and_eq_true,decide_eq_true_eq]at h
 exact h.1.2
theorem qHj {s:Str} (h:qs1 s=true):s.length<=24:=by
 unfold qs1 at h
 simp only[Bool.or_eq_true,beq_iff_eq]at h
 rcases h with rfl|h
 ·simp
 exact qtl h
theorem qFT {d:Int} {lots:List zY} {holds:List qE} (o:OKS d lots holds):ShL lots/\ShH holds:=by
 have hL:ShL lots:=fun x hx=>by
  obtain⟨h1,h2,h3,_⟩:=qrX o.lk hx
  have:=qtl h1
  have:=qtl h2
  have:=qHj h3
  omega
 refine⟨hL,fun h hh=>?_⟩
 obtain⟨h1,h2,_⟩:=qss o.hk hh
 obtain⟨x,hx,e⟩:=qxB.1 h1
 have h3:=qtl (qrX o.lk hx).1
 have:=qtl h2
 rw[e]at h3
 omega
theorem qGf {N:Nat} (hN:2000<N) {d:Int} {lots:List zY} {holds:List qE} (o:OKS d lots holds):qm3 N ⟨d,lots,holds⟩=some 0/\qro N ⟨d,lots,holds⟩=some 0:=by
 obtain⟨s1,s2⟩:=qFT o
 obtain⟨e,e1,e2,e3⟩:=qEX hN d (by have:=o.ll;omega) (by have:=o.hl;omega) s1 s2
 rw[e3.2 o]at e1 e2
 exact⟨e1,e2⟩
theorem qBe {N:Nat} (hN:2000<N) {d:Int} {lots:List zY} {holds:List qE} (o:OKS d lots holds) {j:Nat} {x:zY} (hx:lots[j]? =some x):qpt N ⟨d,lots,holds⟩ x.Name=some (frE holds x,0)/\0<=frE holds x/\frE holds x<=x.Stock:=by
 have hh:holds.length<=300:=by have:=o.hl;omega
 have hl:lots.length<=100:=by have:=o.ll;omega
 refine⟨?_,o.fr j x hx,?_⟩
 ·unfold qpt
  rw[(qGf hN o).1,ZB,if_neg (by decide)]
  rcases qEN hN d holds hl o.lk x.Name with⟨i,y,g1,g2,g3⟩|⟨p,g1,_,_,_,g5⟩
  ·obtain rfl:=qzk o.lk.srt g2 hx g3
   rw[g1,ZB,if_neg (by simp)]
   simp only
   rw[qfc,g2,ZB,free_eq hN hh,ZB]
  exact absurd rfl (g5 j x hx)
 have hst:=(qrX o.lk (Yn hx)).2.2.2
 rw[qqB (qo9 o.hk) hh hst]
 have:=qy3 (qHv (qo9 o.hk) x.Name)
 omega
theorem qti (e:zi) (k:List zi) (i:Nat) (d:Int) (l:List zY) (h:List qE) (rs:List qe6):qxP (e::k) i d l h rs=if qpP d l h e=0 then qxP k (i+1) e.Day (nxL l h e) (nxH l h e) rs else qxP k (i+1) d l h (rs++[⟨((i+1:Nat):Int),qpP d l h e⟩]):=rfl
end Go.Av
end
section
namespace Go.Av
open Go.Proofs Go.RowKit
variable [Glob]
def zl (ν:Str->Str) (x:zY):zY:=⟨ν x.Name,x.Yarn,x.Dye,x.Stock⟩
def zh (ν:Str->Str) (h:qE):qE:=⟨ν h.Lot,h.Order,h.Reserved,h.Taken⟩
def ze (ν:Str->Str) (e:zi):zi:=⟨e.Kind,e.Day,ν e.Lot,e.Amount,e.Yarn,e.Dye,e.Order⟩
def zA (ν:Str->Str) (a:qg):qg:=⟨zl ν a.lot,a.known,zh ν a.hold,a.free⟩
structure Emb (ν:Str->Str) (P M:List zY) (HP HM:List qE) (nm:Str):Prop where
 e1: ∀x∈P,x.Name=nm->zl ν x∈M
 e2: ∀y∈M,y.Name=ν nm-> ∃x∈P,x.Name=nm/\y=zl ν x
 e3:qlP (gR (ν nm)) HM=qlP (gR nm) HP
 h1: ∀h∈HP,h.Lot=nm->zh ν h∈HM
 h2: ∀g∈HM,g.Lot=ν nm-> ∃h∈HP,h.Lot=nm/\g=zh ν h
theorem qHX {L:List zY} (hs:SrtL L) {x:zY} (hx:x∈L):L.find? (fun y=>y.Name==x.Name)=some x:=by
 cases c:L.find? (fun y=>y.Name==x.Name)with
 |none=>
  have:=List.find?_eq_none.1 c x hx
  simp at this
 |some y=>
  obtain⟨i,hi⟩:=List.mem_iff_getElem?.1 hx
  obtain⟨j,hj,hn⟩:=qCu c
  rw[qzk hs hj hi hn]
theorem qGe {L:List qE} (hs:qwO L) {x y:qE} (hx:x∈L) (hy:y∈L) (e:kq x.Lot x.Order y=true):y=x:=by
 obtain⟨i,hi,rfl⟩:=List.getElem_of_mem hx
 obtain⟨j,hj,rfl⟩:=List.getElem_of_mem hy
 rcases Nat.lt_trichotomy i j with c|c|c
 ·have:=qCI (List.pairwise_iff_getElem.1 hs i j hi hj c)
  rw[e]at this;cases this
 ·subst c;rfl
 have:=qCI (List.pairwise_iff_getElem.1 hs j i hj hi c)
 obtain⟨e1,e2⟩:=qrz.1 e
 rw[qrz.2 ⟨e1.symm,e2.symm⟩]at this;cases this
theorem qDY {L:List qE} (hs:qwO L) {x:qE} (hx:x∈L):qiz L x.Lot x.Order=x:=by
 unfold qiz
 cases c:L.find? (kq x.Lot x.Order)with
 |none=>
  have:=List.find?_eq_none.1 c x hx
  rw[qrz.2 ⟨rfl,rfl⟩]at this
  exact absurd rfl this
 |some y=>
  have h1:=List.mem_of_find?_eq_some c
  have h2:=List.find?_some c
  exact qGe hs hx h1 h2
theorem qF2 {ν:Str->Str} {P M:List zY} {HP HM:List qE} {nm:Str} (E:Emb ν P M HP HM nm) (sP:qwO HP) (sM:qwO HM) (od:Str):qiz HM (ν nm) od=zh ν (qiz HP nm od):=by
 cases c:HP.find? (kq nm od)with
 |some x=>
  have h1:=List.mem_of_find?_eq_some c
  obtain⟨k1,k2⟩:=qrz.1 (List.find?_some c)
  have hx:qiz HP nm od=x:=by rw[<-k1,<-k2];exact qDY sP h1
  have hm:=E.h1 x h1 k1
  have:=qDY sM hm
  rw[hx,<-k1,<-k2]
  exact this
 |none=>
  have hP:qiz HP nm od=⟨nm,od,0,0⟩:=by unfold qiz;rw[c];rfl
  rw[hP]
  refine qBi fun j g hg=>?_
  cases q:kq (ν nm) od g with
  |false=>rfl
  |true=>
   obtain⟨q1,q2⟩:=qrz.1 q
   obtain⟨h,hh,e1,e2⟩:=E.h2 g (Yn hg) q1
   have:=List.find?_eq_none.1 c h hh
   rw[qrz.2 ⟨e1,by rw[e2]at q2;exact q2⟩]at this
   exact absurd rfl this
theorem qDX {ν:Str->Str} {d d':Int} {P M:List zY} {HP HM:List qE} {e:zi} (E:Emb ν P M HP HM e.Lot) (oP:OKS d P HP) (oM:OKS d' M HM):qm4 M HM (ze ν e)=zA ν (qm4 P HP e):=by
 have hH:=qF2 E oP.hk.srt oM.hk.srt e.Order
 cases c:P.find? (fun x=>x.Name==e.Lot)with
 |some x=>
  obtain⟨j,hj,hn⟩:=qCu c
  have hx:=Yn hj
  have hm:=E.e1 x hx hn
  have hfm:M.find? (fun y=>y.Name==(ze ν e).Lot)=some (zl ν x):=by
   have:=qHX oM.lk.srt hm
   rw[show(zl ν x).Name=(ze ν e).Lot by show ν x.Name=ν e.Lot;rw[hn]]at this
   exact this
  have hst:=(qrX oP.lk hx).2.2.2
  have hfr:frE HM (zl ν x)=frE HP x:=by
   have e3:=E.e3
   rw[qqB (qo9 oM.hk) (by have:=oM.hl;omega) (show 0<=(zl ν x).Stock/\_ from hst),qqB (qo9 oP.hk) (by have:=oP.hl;omega) hst]
   show x.Stock-qlP (gR (ν x.Name)) HM=x.Stock-qlP (gR x.Name) HP
   rw[hn,e3]
  unfold qm4
  rw[hfm,c]
  simp only
  rw[hfr]
  unfold zA
  simp only
  rw[show(ze ν e).Lot=ν e.Lot from rfl,show(ze ν e).Order=e.Order from rfl,hH]
 |none=>
  have hfm:M.find? (fun y=>y.Name==(ze ν e).Lot)=none:=by
   rw[List.find?_eq_none]
   intro y hy q
   have q:y.Name=ν e.Lot:=(by simpa using q:y.Name=(ze ν e).Lot)
   obtain⟨x,hx,h1,_⟩:=E.e2 y hy q
   have:=List.find?_eq_none.1 c x hx
   simp[h1]at this
  unfold qm4
  rw[hfm,c]
  simp only
  unfold zA
  simp only
  rw[show(ze ν e).Lot=ν e.Lot from rfl,show(ze ν e).Order=e.Order from rfl,hH]
  rfl
theorem qIu (ν:Str->Str) (k:Str) (a:qg) (n:Int):qoQ k (zA ν a) n=zA ν (qoQ k a n):=by
 unfold qoQ
 split
 ·rfl
 split
 ·rfl
 split
 ·rfl
 split
 ·rfl
 rfl
theorem qIz (ν:Str->Str) (e:zi) (a:qg):qv0 (ze ν e) (zA ν a)=qv0 e a:=rfl
theorem qIf (ν:Str->Str) (k:Str) (a:qg) (n:Int):qwA k (zA ν a) n=qwA k a n:=rfl
theorem qAM {ν:Str->Str} {d d':Int} {P M:List zY} {HP HM:List qE} {e:zi} (E:Emb ν P M HP HM e.Lot) (oP:OKS d P HP) (oM:OKS d' M HM):qhP M HM (ze ν e)=zA ν (qhP P HP e):=by
 unfold qhP
 rw[qDX E oP oM]
 exact qIu ν _ _ _
theorem qAJ {ν:Str->Str} {dd d d':Int} {P M:List zY} {HP HM:List qE} {e:zi} (E:Emb ν P M HP HM e.Lot) (oP:OKS d P HP) (oM:OKS d' M HM) (lP:P.length<=60) (lM:M.length<=60) (kP:HP.length<=60) (kM:HM.length<=60):qpP dd M HM (ze ν e)=qpP dd P HP e:=by
 have h1:(nxL M HM (ze ν e)).length<=M.length+1:=qvq
 have h2:(nxH M HM (ze ν e)).length<=HM.length+1:=qwm
 have h3:(nxL P HP e).length<=P.length+1:=qvq
 have h4:(nxH P HP e).length<=HP.length+1:=qwm
 unfold qpP
 rw[if_neg (show¬(64<(nxL M HM (ze ν e)).length\/256<(nxH M HM (ze ν e)).length)by omega),if_neg (show¬(64<(nxL P HP e).length\/256<(nxH P HP e).length)by omega),qDX E oP oM,qAM E oP oM,qIz,show(ze ν e).Kind=e.Kind from rfl,show(ze ν e).Amount=e.Amount from rfl,qIf]
 rfl
theorem qsj {x:zY}: ∀{L:List zY},SrtL L->(qi5 x L).Perm (x::L.filter fun y=>!(y.Name==x.Name))
 |[],_=>by simp[qi5]
 |y::L,hs=>by
  obtain⟨h1,h2⟩:=List.pairwise_cons.1 hs
  rw[qi5]
  by_cases c:(y.Name==x.Name)=true
  ·rw[if_pos c,List.filter_cons_of_neg (by rw[c];simp)]
   rw[List.filter_eq_self.2 fun z hz=>by
    have c':y.Name=x.Name:=by simpa using c
    have:=qvg (h1 z hz)
    rw[c']at this
    cases q:(z.Name==x.Name)with
    |false=>rfl
    |true=>exact absurd (by simpa using q:z.Name=x.Name).symm this]
  rw[if_neg c]
  have hf:(y::L).filter (fun y=>!(y.Name==x.Name))=y::L.filter (fun y=>!(y.Name==x.Name)):=List.filter_cons_of_pos (by simpa using c)
  by_cases d:ltL x.Name y.Name=true
  ·rw[if_pos d,hf]
   rw[List.filter_eq_self.2 fun z hz=>by
    have:=qvg (qpx d (h1 z hz))
    cases q:(z.Name==x.Name)with
    |false=>rfl
    |true=>exact absurd (by simpa using q:z.Name=x.Name).symm this]
  rw[if_neg d,hf]
  exact((qsj h2).cons y).trans (List.Perm.swap ..)
theorem qtb {h:qE} {L:List qE}:(qno h L).Perm ((if h.Reserved=0/\h.Taken=0 then[]else[h])++L.filter fun y=>!kq h.Lot h.Order y):=by
 unfold qno
 split
 ·exact .refl _
 exact qrN _ _
theorem qGc {g:zY->Int} {l m:List zY} (p:l.Perm m):qtC g l=qtC g m:=by
 induction p with
 |nil=>rfl
 |cons x _ ih=>simp only[qtC,ih]
 |swap x y l=>simp only[qtC];omega
 |trans _ _ i1 i2=>rw[i1,i2]
theorem qEm {g:zY->Int}: ∀l m:List zY,qtC g (l++m)=qtC g l+qtC g m
 |[],m=>by simp[qtC]
 |x::t,m=>by
  rw[List.cons_append]
  simp only[qtC,qEm t m]
  omega
theorem qA3 {g:qE->Int}: ∀l m:List qE,qlP g (l++m)=qlP g l+qlP g m
 |[],m=>by simp[qlP]
 |x::t,m=>by
  rw[List.cons_append]
  simp only[qlP,qA3 t m]
  omega
theorem qD7 {g f:qE->Int} {k:qE->qE} (h: ∀x,g (k x)=f x): ∀l:List qE,qlP g (l.map k)=qlP f l
 |[]=>rfl
 |x::t=>by
  rw[List.map_cons]
  simp only[qlP,qD7 h t,h x]
theorem qDS {g f:zY->Int} {k:zY->zY} (h: ∀x,g (k x)=f x): ∀l:List zY,qtC g (l.map k)=qtC f l
 |[]=>rfl
 |x::t=>by
  rw[List.map_cons]
  simp only[qtC,qDS h t,h x]
def zN (s:Str):Str:=[122,95]++s
theorem qE9 {a b:Str} (h:zN a=zN b):a=b:=by unfold zN at h;simpa using h
def Plain (s:Str):Prop:=s≠[]/\ ∀t:Str,t≠[]->s≠zN t
structure Two (d:Int) (P Q M:List zY) (HP HQ HM:List qE):Prop where
 oP:OKS d P HP
 oQ:OKS d Q HQ
 oM:OKS d M HM
 pl:M.Perm (P++Q.map (zl zN))
 ph:HM.Perm (HP++HQ.map (zh zN))
 aP: ∀x∈P,Plain x.Name
 aQ: ∀x∈Q,Plain x.Name
theorem qvA {d:Int} {P:List zY} {HP:List qE} (o:OKS d P HP) (a: ∀x∈P,Plain x.Name): ∀h∈HP,Plain h.Lot:=fun h hh=>by
 obtain⟨x,hx,e⟩:=qxB.1 (qss o.hk hh).1
 rw[<-e]
 exact a x hx
theorem qIS {nm:Str} {h:qE} (c:h.Lot≠nm):gR nm h=0:=by
 unfold gR
 rw[if_neg (by simpa using c)]
theorem Two.e1 {d:Int} {P Q M:List zY} {HP HQ HM:List qE} (T:Two d P Q M HP HQ HM) {nm:Str} (hn:Plain nm):Emb id P M HP HM nm:=by
 have oP:=T.oP
 have oQ:=T.oQ
 have hQ:=qvA oQ T.aQ
 refine⟨fun x hx _=>T.pl.mem_iff.2 (List.mem_append_left _ hx),fun y hy e=>?_,?_,fun h hh _=>T.ph.mem_iff.2 (List.mem_append_left _ hh),fun g hg e=>?_⟩
 ·rcases List.mem_append.1 (T.pl.mem_iff.1 hy)with h|h
  ·exact⟨y,h,e,rfl⟩
  obtain⟨x,hx,rfl⟩:=List.mem_map.1 h
  exact absurd e.symm (hn.2 x.Name (T.aQ x hx).1)
 ·rw[qzI T.ph,qA3,qxE (l:=HQ.map (zh zN)) fun h hh=>by
   obtain⟨x,hx,rfl⟩:=List.mem_map.1 hh
   exact qIS fun c=>hn.2 x.Lot (hQ x hx).1 c.symm]
  exact Int.add_zero _
 rcases List.mem_append.1 (T.ph.mem_iff.1 hg)with h|h
 ·exact⟨g,h,e,rfl⟩
 obtain⟨x,hx,rfl⟩:=List.mem_map.1 h
 exact absurd e.symm (hn.2 x.Lot (hQ x hx).1)
theorem Two.e2 {d:Int} {P Q M:List zY} {HP HQ HM:List qE} (T:Two d P Q M HP HQ HM) {nm:Str} (hn:Plain nm):Emb zN Q M HQ HM nm:=by
 have oP:=T.oP
 have hP:=qvA oP T.aP
 refine⟨fun x hx _=>T.pl.mem_iff.2 (List.mem_append_right _ (List.mem_map_of_mem hx)),fun y hy e=>?_,?_,fun h hh _=>T.ph.mem_iff.2 (List.mem_append_right _ (List.mem_map_of_mem hh)),fun g hg e=>?_⟩
 ·rcases List.mem_append.1 (T.pl.mem_iff.1 hy)with h|h
  ·exact absurd e ((T.aP y h).2 nm hn.1)
  obtain⟨x,hx,rfl⟩:=List.mem_map.1 h
  exact⟨x,hx,qE9 e,rfl⟩
 ·rw[qzI T.ph,qA3,qxE (l:=HP) fun h hh=>qIS fun c=>(hP h hh).2 nm hn.1 c,Int.zero_add]
  refine qD7 (fun h=>?_) _
  unfold gR
  by_cases c:h.Lot=nm
  ·rw[if_pos (by simp[zh,c]),if_pos (by simp[c])]
   rfl
  rw[if_neg (by simp only[zh,beq_iff_eq];exact fun q=>c (qE9 q)),if_neg (by simpa using c)]
 rcases List.mem_append.1 (T.ph.mem_iff.1 hg)with h|h
 ·exact absurd e ((hP g h).2 nm hn.1)
 obtain⟨x,hx,rfl⟩:=List.mem_map.1 h
 exact⟨x,hx,qE9 e,rfl⟩
end Go.Av
end
section
namespace Go.Av
open Go.Proofs Go.RowKit
variable [Glob]
theorem OKS.at {d d':Int} {L:List zY} {H:List qE} (o:OKS d L H) (h:qmM d' 0 99999=false):OKS d' L H:=⟨h,o.ll,o.lk,o.hl,o.hk,o.fr⟩
theorem qBj {P Q:List zY} {nm:Str} (hn:Plain nm) (aQ: ∀x∈Q,Plain x.Name):((P++Q.map (zl zN)).filter fun y=>!(y.Name==nm))=(P.filter fun y=>!(y.Name==nm))++Q.map (zl zN):=by
 rw[List.filter_append]
 congr 1
 exact List.filter_eq_self.2 fun y hy=>by
  obtain⟨x,hx,rfl⟩:=List.mem_map.1 hy
  have:=hn.2 x.Name (aQ x hx).1
  simp only[Bool.not_eq_true',beq_eq_false_iff_ne]
  exact fun c=>this c.symm
theorem qEv {P Q:List zY} {nm:Str} (hn:Plain nm) (aP: ∀x∈P,Plain x.Name):((P++Q.map (zl zN)).filter fun y=>!(y.Name==zN nm))=P++(Q.filter fun y=>!(y.Name==nm)).map (zl zN):=by
 rw[List.filter_append]
 congr 1
 ·exact List.filter_eq_self.2 fun y hy=>by
   have:=(aP y hy).2 nm hn.1
   simpa using this
 rw[List.filter_map]
 congr 1
theorem qzW {P Q:List qE} {nm od:Str} (hn:Plain nm) (aQ: ∀x∈Q,Plain x.Lot):((P++Q.map (zh zN)).filter fun y=>!kq nm od y)=(P.filter fun y=>!kq nm od y)++Q.map (zh zN):=by
 rw[List.filter_append]
 congr 1
 exact List.filter_eq_self.2 fun y hy=>by
  obtain⟨x,hx,rfl⟩:=List.mem_map.1 hy
  have:=hn.2 x.Lot (aQ x hx).1
  cases c:kq nm od (zh zN x)with
  |false=>rfl
  |true=>exact absurd (qrz.1 c).1.symm this
theorem qEk {P Q:List qE} {nm od:Str} (hn:Plain nm) (aP: ∀x∈P,Plain x.Lot):((P++Q.map (zh zN)).filter fun y=>!kq (zN nm) od y)=P++(Q.filter fun y=>!kq nm od y).map (zh zN):=by
 rw[List.filter_append]
 congr 1
 ·exact List.filter_eq_self.2 fun y hy=>by
   cases c:kq (zN nm) od y with
   |false=>rfl
   |true=>exact absurd (qrz.1 c).1 ((aP y hy).2 nm hn.1)
 rw[List.filter_map]
 congr 1
theorem qHT {α:Type} {a:List α} {P R:List α}:(a++(P++R)).Perm (P++(a++R)):=by
 rw[<-Yz,<-Yz]
 exact List.perm_append_comm.append_right R
theorem Two.step1 {d:Int} {P Q M:List zY} {HP HQ HM:List qE} (T:Two d P Q M HP HQ HM) {e:zi} (k:qsm e) (hn:Plain e.Lot) (zP:qpP d P HP e=0) (zM:qpP d M HM e=0):Two e.Day (nxL P HP e) Q (nxL M HM e) (nxH P HP e) HQ (nxH M HM e):=by
 have E:=T.e1 hn
 have ha:qhP M HM e=qhP P HP e:=qAM E T.oP T.oM
 have hk:=qyY (lots:=P) (holds:=HP) (e:=e)
 refine⟨qva T.oP k zP,T.oQ.at k.day,qva T.oM k zM,?_,?_,fun x hx=>?_,T.aQ⟩
 ·unfold nxL
  rw[ha]
  refine(qsj T.oM.lk.srt).trans ?_
  have h1:((qhP P HP e).lot::M.filter fun y=>!(y.Name==(qhP P HP e).lot.Name)).Perm ((qhP P HP e).lot::((P.filter fun y=>!(y.Name==(qhP P HP e).lot.Name))++Q.map (zl zN))):=by
   rw[<-qBj (by rw[hk.1];exact hn) T.aQ]
   exact(T.pl.filter _).cons _
  refine h1.trans ?_
  exact((qsj T.oP.lk.srt).symm.append_right _)
 ·unfold nxH
  rw[ha]
  refine qtb.trans ?_
  have h1:(HM.filter fun y=>!kq (qhP P HP e).hold.Lot (qhP P HP e).hold.Order y).Perm ((HP.filter fun y=>!kq (qhP P HP e).hold.Lot (qhP P HP e).hold.Order y)++HQ.map (zh zN)):=by
   rw[<-qzW (by rw[hk.2.1];exact hn) (qvA T.oQ T.aQ)]
   exact T.ph.filter _
  refine(h1.append_left _).trans ?_
  rw[<-Yz]
  exact qtb.symm.append_right _
 rcases qrr hx with rfl|hx
 ·rw[hk.1];exact hn
 exact T.aP x hx
theorem Two.step2 {d:Int} {P Q M:List zY} {HP HQ HM:List qE} (T:Two d P Q M HP HQ HM) {e:zi} (k:qsm e) (kz:qsm (ze zN e)) (hn:Plain e.Lot) (zQ:qpP d Q HQ e=0) (zM:qpP d M HM (ze zN e)=0):Two e.Day P (nxL Q HQ e) (nxL M HM (ze zN e)) HP (nxH Q HQ e) (nxH M HM (ze zN e)):=by
 have E:=T.e2 hn
 have ha:qhP M HM (ze zN e)=zA zN (qhP Q HQ e):=qAM E T.oQ T.oM
 have hk:=qyY (lots:=Q) (holds:=HQ) (e:=e)
 refine⟨T.oP.at k.day,qva T.oQ k zQ,qva T.oM kz zM,?_,?_,T.aP,fun x hx=>?_⟩
 ·unfold nxL
  rw[ha]
  refine(qsj T.oM.lk.srt).trans ?_
  show(zl zN (qhP Q HQ e).lot::M.filter fun y=>!(y.Name==zN (qhP Q HQ e).lot.Name)).Perm _
  have h1:(zl zN (qhP Q HQ e).lot::M.filter fun y=>!(y.Name==zN (qhP Q HQ e).lot.Name)).Perm (zl zN (qhP Q HQ e).lot::(P++(Q.filter fun y=>!(y.Name==(qhP Q HQ e).lot.Name)).map (zl zN))):=by
   rw[<-qEv (by rw[hk.1];exact hn) T.aP]
   exact(T.pl.filter _).cons _
  refine h1.trans (List.perm_middle.symm.trans ?_)
  refine List.Perm.append_left _ ?_
  exact((qsj T.oQ.lk.srt).symm.map (zl zN))
 ·unfold nxH
  rw[ha]
  refine qtb.trans ?_
  have h1:(HM.filter fun y=>!kq (zN (qhP Q HQ e).hold.Lot) (qhP Q HQ e).hold.Order y).Perm (HP++(HQ.filter fun y=>!kq (qhP Q HQ e).hold.Lot (qhP Q HQ e).hold.Order y).map (zh zN)):=by
   rw[<-qEk (by rw[hk.2.1];exact hn) (qvA T.oP T.aP)]
   exact T.ph.filter _
  refine(List.Perm.append_left _ h1).trans (qHT.trans ?_)
  refine List.Perm.append_left _ ?_
  have h2:=(qtb (h:=(qhP Q HQ e).hold) (L:=HQ)).symm.map (zh zN)
  rw[List.map_append]at h2
  refine List.Perm.trans (List.Perm.of_eq ?_) h2
  congr 1
  show(if(qhP Q HQ e).hold.Reserved=0/\(qhP Q HQ e).hold.Taken=0 then[]else[zh zN (qhP Q HQ e).hold])=_
  split<;>rfl
 rcases qrr hx with rfl|hx
 ·rw[hk.1];exact hn
 exact T.aQ x hx
theorem qHd {d:Int} {L:List zY} {H:List qE} {e:zi} (h:qpP d L H e=0):qpP e.Day L H e=0:=by
 unfold qpP at h⊢
 by_cases c:e.Day<d
 ·rw[if_pos c]at h;cases h
 rw[if_neg c]at h
 rw[if_neg (Int.lt_irrefl _)]
 exact h
def dbl (l:List zi):List zi:=l.flatMap fun e=>[e,ze zN e]
theorem qDI (e:zi) (t:List zi):dbl (e::t)=e::ze zN e::dbl t:=rfl
theorem qIs {lots:List zY} {holds:List qE} {e:zi}:(nxL lots holds e).length<=lots.length+1/\(nxH lots holds e).length<=holds.length+1:=⟨qvq,qwm⟩
theorem qCK: ∀(t:List zi) (i i2:Nat) (d:Int) (P M:List zY) (H HM:List qE) (rs rs2:List qe6),(∀e∈t,qsm e/\qsm (ze zN e)/\Plain e.Lot)->Two d P P M H H HM->P.length+t.length<=28->H.length+t.length<=28->rs2.length=2*rs.length->
 ∃d' P' M' H' HM' rs' rs2',qxP t i d P H rs=(d',P',H',rs')/\qxP (dbl t) i2 d M HM rs2=(d',M',HM',rs2')/\Two d' P' P' M' H' H' HM'/\rs2'.length=2*rs'.length
 |[],i,i2,d,P,M,H,HM,rs,rs2,_,T,_,_,hr=>⟨d,P,M,H,HM,rs,rs2,rfl,rfl,T,hr⟩
 |e::t,i,i2,d,P,M,H,HM,rs,rs2,ok,T,hl,hh,hr=>by
  obtain⟨k,kz,hn⟩:=ok e List.mem_cons_self
  have ok':=fun x hx=>ok x (List.mem_cons_of_mem _ hx)
  have lM:=T.pl.length_eq
  have kM:=T.ph.length_eq
  rw[Yq,List.length_map]at lM kM
  rw[Yr]at hl hh
  have g1:qpP d M HM e=qpP d P H e:=qAJ (T.e1 hn) T.oP T.oM (by omega) (by omega) (by omega) (by omega)
  rw[qDI]
  by_cases c:qpP d P H e=0
  ·have T1:=T.step1 k hn c (by rw[g1];exact c)
   have lM1:=T1.pl.length_eq
   have kM1:=T1.ph.length_eq
   have n1:=qIs (lots:=P) (holds:=H) (e:=e)
   rw[Yq,List.length_map]at lM1 kM1
   have g2:qpP e.Day (nxL M HM e) (nxH M HM e) (ze zN e)=qpP e.Day P H e:=qAJ (T1.e2 hn) T1.oQ T1.oM (by omega) (by omega) (by omega) (by omega)
   have c2:=qHd c
   have T2:=T1.step2 k kz hn c2 (by rw[g2];exact c2)
   rw[qti,qti,if_pos c,g1,if_pos c,qti,g2,if_pos c2]
   exact qCK t (i+1) (i2+1+1) e.Day _ _ _ _ rs rs2 ok' T2 (by omega) (by omega) hr
  have g2:qpP d M HM (ze zN e)=qpP d P H e:=qAJ (T.e2 hn) T.oQ T.oM (by omega) (by omega) (by omega) (by omega)
  rw[qti,qti,if_neg c,g1,if_neg c,qti,g2,if_neg c]
  exact qCK t (i+1) (i2+1+1) d P M H HM _ _ ok' T (by omega) (by omega) (by simp;omega)
theorem qHt {s:Str} (h:qeC s=true) (hl:s.length<=20):qeC (zN s)=true:=by
 unfold qeC at h⊢
 simp only[Bool.and_eq_true,decide_eq_true_eq,Bool.not_eq_true',List.any_eq_false,List.mem_range,Bool.not_eq_true]at h⊢
 obtain⟨⟨h1,h2⟩,h3⟩:=h
 have hz:(zN s).length=s.length+2:=by unfold zN;simp
 refine⟨⟨by omega,by omega⟩,fun k hk=>?_⟩
 match k with
 |0=>rfl
 |1=>rfl
 |k+2=>
  have hg:(zN s).getD (k+2) 0=s.getD k 0:=rfl
  rw[hg]
  have:=h3 k (by omega)
  unfold qDj at this⊢
  simp only[Bool.and_eq_false_iff,Bool.or_eq_false_iff]at this⊢
  rcases this with h|⟨_,h⟩
  ·exact .inl h
  exact .inr ⟨by simp,h⟩
end Go.Av
end
section
namespace Go.Av
open Go.Proofs Go.RowKit
variable [Glob]
theorem qGF {l:List zi} (hb:l.length<=16): ∀(K i:Nat),i<=l.length->l.length<K+i->qdw l K (l.take i) (i:Int)=some l
 |0,i,h,hK=>by omega
 |K+1,i,h,hK=>by
  unfold qdw
  by_cases hi:i<l.length
  ·have e:(l.take i).length=i:=by rw[Ym];omega
   rw[if_pos (by omega),qfc,Ya hi,ZB,qCt (by rw[e,List.length_singleton];omega) (by rw[e,List.length_singleton];omega),ZB,qmz (by omega),<-List.take_succ_eq_append_getElem hi]
   exact qGF hb K (i+1) (by omega) (by omega)
  rw[if_neg (by omega),List.take_of_length_le (by omega)]
theorem qIM {N:Nat} (hN:2000<N) {l:List zi} (hb:l.length<=16):qgj N l=some l:=by
 unfold qgj
 have:=qGF hb N 0 (by omega) (by omega)
 rw[List.take_zero,show((0:Nat):Int)=0 from rfl]at this
 rw[this,ZB]
def Fair (e:zi):Prop:=e.Lot.length<=20/\(2<e.Lot.length->e.Lot.take 2≠[122,95])
theorem qIA (a b:List zi):dbl (a++b)=dbl a++dbl b:=List.flatMap_append
theorem qCG: ∀l:List zi,(dbl l).length=2*l.length
 |[]=>rfl
 |e::t=>by
  rw[qDI,Yr,Yr,qCG t,Yr]
  omega
theorem qB6 {a b:Str} (h:a.length+b.length<=1000):cat a b=some (a++b):=by
 unfold cat
 rw[if_pos (by omega)]
theorem qIY {l:List zi} (hb:l.length<=16): ∀(K i:Nat),i<=l.length->l.length<K+i->(∀e∈l.take i,Fair e)->
 y7 l K (dbl (l.take i)) (i:Int)=some (.inr true)\/(y7 l K (dbl (l.take i)) (i:Int)=some (.inl (dbl l))/\ ∀e∈l,Fair e)
 |0,i,h,hK,hF=>by omega
 |K+1,i,h,hK,hF=>by
  unfold y7 awk
  by_cases hi:i<l.length
  ·have htk:l.take (i+1)=l.take i++[l[i]]:=List.take_succ_eq_append_getElem hi
   have hrec:=qIY hb K (i+1) (by omega) (by omega)
   rw[htk,qIA]at hrec
   have hdl:=qCG (l.take i)
   rw[Ym]at hdl
   rw[if_pos (by omega),qfc,Ya hi,ZB]
   generalize l[i]=x at*
   by_cases c:(x.Lot.length:Int)>20
   ·rw[if_pos c]
    exact .inl rfl
   rw[if_neg c,qB6 (by simp only[Yr,List.length_nil];omega),ZB]
   have go:Fair x->((app 96 (dbl (l.take i)) [x,(⟨x.Kind,x.Day,[122,95]++x.Lot,x.Amount,x.Yarn,x.Dye,x.Order⟩:zi)]).bind fun l27=>y7 l K l27 (w64 ((i:Int)+1)))=some (.inr true)\/(((app 96 (dbl (l.take i)) [x,(⟨x.Kind,x.Day,[122,95]++x.Lot,x.Amount,x.Yarn,x.Dye,x.Order⟩:zi)]).bind fun l27=>y7 l K l27 (w64 ((i:Int)+1)))=some (.inl (dbl l))/\ ∀e∈l,Fair e):=by
    intro hx
    rw[qCt (by simp only[Yr,List.length_nil];omega) (by simp only[Yr,List.length_nil];omega),ZB,qmz (by omega)]
    refine hrec fun e he=>?_
    rcases List.mem_append.1 he with he|he
    ·exact hF e he
    rw[List.mem_singleton.1 he];exact hx
   by_cases e:(x.Lot.length:Int)>2
   ·rw[if_pos e,show(2:Int)=((2:Nat):Int)from rfl,quR (by omega),ZB,ZB]
    by_cases g:(x.Lot.take 2==[122,95])=true
    ·rw[if_pos g]
     exact .inl rfl
    rw[if_neg g]
    exact go ⟨by omega,fun _=>by simpa using g⟩
   rw[if_neg e,ZB,if_neg (by decide)]
   exact go ⟨by omega,fun _=>by omega⟩
  have e:i=l.length:=by omega
  rw[if_neg (by omega)]
  rw[e,List.take_length]at hF⊢
  exact .inr ⟨rfl,hF⟩
theorem qE1 {e:zi} (k:qsm e) (f:Fair e):Plain e.Lot:=by
 have hn:=qDv k.lot
 refine⟨hn,fun t ht q=>?_⟩
 have hl:0<t.length:=List.length_pos_iff.2 ht
 refine f.2 (by rw[q];unfold zN;simp;omega) ?_
 rw[q]
 rfl
theorem qH2 {e:zi} (k:qsm e) (f:Fair e):qsm (ze zN e):=⟨k.kind,k.day,k.am,qHt k.lot f.1,k.rc,k.oth⟩
theorem shz {e:zi} (s:ShE e) (f:Fair e):ShE (ze zN e):=⟨s.1,by have:=f.1;show(zN e.Lot).length<=60;unfold zN;simp;omega,s.2.2.1,s.2.2.2.1,s.2.2.2.2⟩
theorem qFD {x:zi} {l:List zi} (h:x∈dbl l): ∃e∈l,x=e\/x=ze zN e:=by
 obtain⟨e,he,hx⟩:=List.mem_flatMap.1 h
 refine⟨e,he,?_⟩
 simpa using hx
theorem qFC {N:Nat} (hN:2000<N) {d:Int} {P M:List zY} {H HM:List qE} (T:Two d P P M H H HM) (A B:List qe6): ∀(K i:Nat) (c:Int),i<=P.length->P.length<K+i->0<=c->c<=2000000000*(i:Int)->
 qcv N (⟨d,P,H⟩,A,0) (⟨d,M,HM⟩,B,0) K c (i:Int)=some (.inl (c+2*qtC zY.Stock (P.drop i)))
 |0,i,c,h,hK,c0,c1=>by omega
 |K+1,i,c,h,hK,c0,c1=>by
  have hll:=T.oP.ll
  unfold qcv
  simp only
  by_cases hi:i<P.length
  ·have hx:P[i]? =some P[i]:=Ya hi
   have hm:=List.getElem_mem hi
   have hst:=(qrX T.oP.lk hm).2.2.2
   have hpl:=T.aP _ hm
   have hnm:=qtl (qrX T.oP.lk hm).1
   obtain⟨f1,_,_⟩:=qBe hN T.oP hx
   have hm1:=(T.e1 hpl).e1 _ hm rfl
   have hm2:=(T.e2 hpl).e1 _ hm rfl
   obtain⟨j1,hj1⟩:=List.mem_iff_getElem?.1 hm1
   obtain⟨j2,hj2⟩:=List.mem_iff_getElem?.1 hm2
   obtain⟨g1,_,_⟩:=qBe hN T.oM hj1
   obtain⟨g2,_,_⟩:=qBe hN T.oM hj2
   have hHl:=T.oP.hl
   have hMl:=T.oM.hl
   have r1:frE HM (zl id P[i])=frE H P[i]:=by
    rw[qqB (qo9 T.oM.hk) (by omega) (show 0<=(zl id P[i]).Stock/\_ from hst),qqB (qo9 T.oP.hk) (by omega) hst]
    have:=(T.e1 hpl).e3
    show P[i].Stock-qlP (gR P[i].Name) HM=_
    rw[show qlP (gR P[i].Name) HM=qlP (gR P[i].Name) H from this]
   have r2:frE HM (zl zN P[i])=frE H P[i]:=by
    rw[qqB (qo9 T.oM.hk) (by omega) (show 0<=(zl zN P[i]).Stock/\_ from hst),qqB (qo9 T.oP.hk) (by omega) hst]
    have:=(T.e2 hpl).e3
    show P[i].Stock-qlP (gR (zN P[i].Name)) HM=_
    rw[this]
   rw[r1]at g1
   rw[r2]at g2
   have g1:qpt N ⟨d,M,HM⟩ P[i].Name=some (frE H P[i],0):=g1
   have g2:qpt N ⟨d,M,HM⟩ ([122,95]++P[i].Name)=some (frE H P[i],0):=g2
   rw[if_pos (by omega),qfc,hx,ZB,f1,ZB,g1,ZB,qB6 (by simp only[Yr,List.length_nil];omega),ZB,g2,ZB]
   simp only
   rw[if_neg (by decide),if_neg (by decide),if_neg (by decide),if_neg (by simp)]
   simp only[decide_true,Bool.not_true,ZB,ZF,if_false]
   rw[qi2 (n:=2*P[i].Stock) (by omega) (by omega),qi2 (by omega) (by omega),qmz (by omega),qFC hN T A B K (i+1) _ (by omega) (by omega) (by omega) (by omega),qpu hi]
   simp only[qtC]
   rw[show c+2*P[i].Stock+2*qtC zY.Stock (P.drop (i+1))=c+2*(P[i].Stock+qtC zY.Stock (P.drop (i+1)))by omega]
  rw[if_neg (by omega),List.drop_eq_nil_of_le (by omega)]
  simp[qtC]
theorem qGS {d:Int} {M:List zY} (hM: ∀x∈M,0<=x.Stock/\x.Stock<=999999999) (hl:M.length<=1000) (HM:List qE) (B:List qe6): ∀(K i:Nat) (c:Int),i<=M.length->M.length<K+i->0<=c->c<=1000000000*(i:Int)->
 qcA (⟨d,M,HM⟩,B,0) K c (i:Int)=some (c+qtC zY.Stock (M.drop i))
 |0,i,c,h,hK,c0,c1=>by omega
 |K+1,i,c,h,hK,c0,c1=>by
  unfold qcA
  simp only
  by_cases hi:i<M.length
  ·have hx:M[i]? =some M[i]:=Ya hi
   have hst:=hM _ (List.getElem_mem hi)
   rw[if_pos (by omega),qfc,hx,ZB,qi2 (by omega) (by omega),qmz (by omega),qGS hM hl HM B K (i+1) _ (by omega) (by omega) (by omega) (by omega),qpu hi]
   simp only[qtC]
   rw[Int.add_assoc]
  rw[if_neg (by omega),List.drop_eq_nil_of_le (by omega)]
  simp[qtC]
theorem qIp:Two 0 [] [] [] [] [] []:=⟨qyI,qyI,qyI,.refl _,.refl _,fun x h=>(by cases h),fun x h=>(by cases h)⟩
theorem qvu {N:Nat} (l:List zi) (hN:600000<N) (_:l.length*96<=140737488355328):qja N l=some true:=by
 have hN2:2000<N:=by omega
 unfold qja awk
 by_cases t:(l.length:Int)>16
 ·rw[if_pos t];rfl
 rw[if_neg t,qIM hN2 (by omega),ZB]
 obtain⟨b,hb,hsh⟩:=qGK hN2 l 16
 rw[hb,ZB]
 cases b with
 |false=>rfl
 |true=>
  obtain⟨_,sh⟩:=hsh rfl
  rw[if_neg (by decide),ZB,qIk hN2 sh,ZB,ZB]
  by_cases z: ¬qzo l=0
  ·rw[if_pos (by simp[z])];rfl
  have z:qzo l=0:=by simpa using z
  rw[if_neg (by simp[z])]
  obtain⟨hl,ok⟩:=qxu.1 z
  rcases qIY (show l.length<=16 by omega) N 0 (Nat.zero_le _) (by omega) (fun e h=>(by simp at h))with h|⟨h,hF⟩
  ·rw[List.take_zero,show((0:Nat):Int)=0 from rfl,show dbl []=[]from rfl]at h
   rw[h]
   rfl
  rw[List.take_zero,show((0:Nat):Int)=0 from rfl,show dbl []=[]from rfl]at h
  rw[h,ZB]
  simp only
  have sh2:qzU (dbl l):=fun x hx=>by
   obtain⟨e,he,rfl|rfl⟩:=qFD hx
   ·exact sh _ he
   exact shz (sh e he) (hF e he)
  have ok2:qAC (dbl l):=fun x hx=>by
   obtain⟨e,he,rfl|rfl⟩:=qFD hx
   ·exact ok _ he
   exact qH2 (ok e he) (hF e he)
  have z2:qzo (dbl l)=0:=qxu.2 ⟨by rw[qCG];omega,ok2⟩
  obtain⟨d,P,M,H,HM,rs,rs2,q1,q2,T,q3⟩:=qCK l 0 0 0 [] [] [] [] [] [] (fun e he=>⟨ok e he,qH2 (ok e he) (hF e he),qE1 (ok e he) (hF e he)⟩) qIp (by simp;omega) (by simp;omega) rfl
  have hr1:qzl l=(d,P,H,rs):=by
   unfold qzl qDT
   rw[if_pos z,q1]
  have hr2:qzl (dbl l)=(d,M,HM,rs2):=by
   unfold qzl qDT
   rw[if_pos z2,q2]
  have hrl:=(qGr l sh).2.2
  rw[hr1]at hrl
  simp only at hrl
  have lM:=T.pl.length_eq
  have kM:=T.ph.length_eq
  rw[Yq,List.length_map]at lM kM
  have hll:=T.oP.ll
  have hhl:=T.oP.hl
  rw[qBt hN2 sh,hr1,z,ZB,qBt hN2 sh2,hr2,z2,ZB]
  simp only
  have f1:=qFC hN2 T rs rs2 N 0 0 (Nat.zero_le _) (by omega) (Int.le_refl _) (by decide)
  have f2:=qGS (d:=d) (fun x hx=>(qrX T.oM.lk hx).2.2.2) (by omega) HM rs2 N 0 0 (Nat.zero_le _) (by omega) (Int.le_refl _) (by decide)
  rw[show((0:Nat):Int)=0 from rfl,YR,Int.zero_add]at f1 f2
  have hs:qtC zY.Stock M=2*qtC zY.Stock P:=by
   rw[qGc T.pl,qEm,qDS (k:=zl zN) (f:=zY.Stock) (fun _=>rfl)]
   omega
  rw[if_neg (by decide),if_neg (by decide),qi2 (n:=2*(rs.length:Int)) (by omega) (by omega),if_neg (by simp;omega),qi2 (n:=2*(P.length:Int)) (by omega) (by omega),if_neg (by simp;omega),qi2 (n:=2*(H.length:Int)) (by omega) (by omega),if_neg (by simp;omega)]
  simp only[decide_true,Bool.not_true,ZB,ZF,if_false]
  rw[f1,ZB]
  simp only
  rw[f2,ZB,if_pos hs.symm]
  rfl
end Go.Av
end
