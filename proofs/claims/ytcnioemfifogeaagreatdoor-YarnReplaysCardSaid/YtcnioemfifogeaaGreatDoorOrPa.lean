/-
  Names.
-/
import Derived.Test.YtcnioemfifogeaaGreatDoorAvPt
import Derived.Test.YtcnioemfifogeaaGreatDoorQGenA1r
noncomputable section
set_option linter.unusedSimpArgs false
set_option linter.unusedVariables false
set_option maxRecDepth 100000
set_option linter.unusedSectionVars false
section
namespace Go.Av
def qcJ (a0_:qB) (a1_:Str) (a2_:Str) (a3_:Int) (a4_:Int):Option Bool:=
 some (a0_.Name==a1_)
def yF (a0_:List qB) (a1_:Str) (a2_:Str) (a3_:Int) (a4_:Int):Nat->Int->Option (Unit⊕Int)
 |0,_=>none
 |K+1,n1=>
  if n1<(a0_.length:Int)then
  (idx a0_ n1).bind fun x5=>
  (qcJ x5 a1_ a2_ a3_ a4_).bind fun r6=>
  if r6=true then
  some (.inr n1)
  else
  yF a0_ a1_ a2_ a3_ a4_ K (w64 (n1+1))
  else
  some (.inl ())
theorem qmU {s:Str} {k:Nat} {c:UInt8} (h:s[k]? =some c):((⟨s.toArray⟩:ByteArray).get! k)=c:=by
 have hk:=(Yb.1 h).1
 show s.toArray[k]! =c
 rw[getElem!_def]
 simp[h]
theorem qnM {s:Str} {k:Nat} {c:UInt8} (h:s[k]? =some c) (hc:c.toNat<128):qaC s k=c.toNat/\runeLen s k=1:=by
 have e:=qmU h
 unfold qaC runeLen Utf8.decode
 simp only[Nat.add_zero,e,if_pos hc,and_self]
theorem qpJ {s:Str} {k:Nat} {c:UInt8} (h:s[k]? =some c) (hc:128<=c.toNat):128<=qaC s k:=by
 have e:=qmU h
 unfold qaC Utf8.decode
 simp only[Nat.add_zero,e,if_neg (Nat.not_lt.2 hc)]
 have hr:(128:Nat)<=Utf8.runeError:=by decide
 repeat' split
 all_goals first|(simp only[Bool.and_eq_true,decide_eq_true_eq]at*;omega)|(simp;omega)|omega
def qmx (c:Int):Bool:=(decide (97<=c)&&decide (c<=122))||(decide (65<=c)&&decide (c<=90))
theorem qjG (c:Int):qaG c=some (qmx c):=by
 unfold qaG qmx
 by_cases h1:c>=97<;>by_cases h2:c<=122<;>by_cases h3:c>=65<;>by_cases h4:c<=90<;>simp[h1,h2,h3,h4]<;>omega
def qoj (k:Nat) (c:Int):Bool:=!qmx c&&(decide (k=0)||(!decide (c=95)&&(decide (c<48)||decide (c>57))))
def jL (s:Str):Bool:=decide (1<=s.length)&&decide (s.length<=24)&&!((List.range s.length).any fun k=>qoj k (s.getD k 0).toNat)
theorem qq7 {k:Nat} {c:Int} (h:128<=c):qoj k c=true:=by
 unfold qoj qmx
 simp
 omega
def qdc (s:Str) (k:Nat):Bool:=(List.range (s.length-k)).any fun j=>qoj (k+j) (s.getD (k+j) 0).toNat
theorem qio {s:Str} {k:Nat} {c:UInt8} (h:s[k]? =some c):qdc s k=(qoj k c.toNat||qdc s (k+1)):=by
 have hk:=(Yb.1 h).1
 unfold qdc
 rw[show s.length-k=(s.length-(k+1))+1 by omega,List.range_succ_eq_map,List.any_cons,List.any_map]
 congr 1
 ·simp[List.getD,h]
 congr 1
 funext j
 simp only[Function.comp,Nat.succ_eq_add_one]
 rw[show k+(j+1)=k+1+j by omega]
theorem qjD {s:Str} {k:Nat} (h:s.length<=k):qdc s k=false:=by
 unfold qdc
 rw[show s.length-k=0 by omega]
 rfl
theorem ql0 (s:Str): ∀(K k:Nat),k<=s.length->s.length<K+k->yV s K k=some (if qdc s k then .inr false else .inl ())
 |0,k,h,hK=>by omega
 |K+1,k,h,hK=>by
  unfold yV
  by_cases hk:k<s.length
  ·have hc:s[k]? =some s[k]:=Ya hk
   rw[if_pos hk,qjG,qio hc]
   by_cases ha:(s[k]).toNat<128
   ·obtain⟨e1,e2⟩:=qnM hc ha
    rw[e1,e2,ql0 s K (k+1) (by omega) (by omega)]
    have ek:((k:Int)=0)↔k=0:=by omega
    unfold qoj
    generalize ((s[k]).toNat:Int)=c
    cases hl:qmx c<;>by_cases h0:k=0<;>by_cases h1:c=95<;>by_cases h2:c<48<;>by_cases h3:57<c<;>
     simp[hl,h0,h1,h2,h3]
   have hw:=qpJ hc (by omega)
   rw[qq7 (show(128:Int)<=((s[k]).toNat:Int)by omega)]
   have hl:qmx (qaC s k)=false:=by unfold qmx;simp;omega
   have h1: ¬qaC s k=95:=by omega
   have h2: ¬qaC s k<48:=by omega
   have h3:qaC s k>57:=by omega
   have ek:((k:Int)=0)↔k=0:=by omega
   simp only[hl,ZB,Bool.not_false,if_true,h1,h2,h3,decide_true,decide_false,if_false,Bool.true_or,ek]
   by_cases h0:k=0
   ·simp only[h0,if_true,ZB]
   simp only[h0,if_false,ZB,if_true]
  rw[if_neg hk,qjD (by omega)]
  rfl
theorem qm9 (s:Str):jL s=(decide (1<=s.length)&&decide (s.length<=24)&&!qdc s 0):=by
 unfold jL qdc
 simp
theorem qlZ {N:Nat} {s:Str} (h:s.length<N):qbE N s=some (jL s):=by
 unfold qbE
 rw[ql0 s N 0 (Nat.zero_le _) (by omega),qm9]
 cases hb:qdc s 0
 ·cases s with
  |nil=>simp
  |cons x xs=>
   have e:((x::xs)==([]:Str))=false:=rfl
   simp only[ZB,ZF,if_false,e,Bool.not_false,if_true,Bool.and_true,ZI]
   have:(1<=(x::xs).length):=by simp
   rw[Bool.eq_iff_iff]
   simp only[decide_eq_true_eq,Bool.and_eq_true,this,true_and]
   omega
 simp
theorem qlb (s:Str) (hs:s.length<4611686018427387904): ∀(K k:Nat),k<=s.length->s.length<K+k->qab s K (k:Int)=some (if qdc s k then .inr false else .inl ())
 |0,k,h,hK=>by omega
 |K+1,k,h,hK=>by
  unfold qab
  by_cases hk:k<s.length
  ·have hc:s[k]? =some s[k]:=Ya hk
   rw[if_pos (by omega),zI,hc,qio hc,yf (by omega),qlb s hs K (k+1) (by omega) (by omega)]
   simp only[ZB]
   have ek:((k:Int)=0)↔k=0:=by omega
   unfold qoj
   generalize ((s[k]).toNat:Int)=c
   rw[show(if c>=97 then if c<=122 then some true else if c>=65 then some (decide (c<=90))else some false else if c>=65 then some (decide (c<=90))else some false:Option Bool)=some (qmx c)from by
    have:=qjG c
    unfold qaG at this
    rw[<-this]
    cases(if c>=97 then if c<=122 then some true else if c>=65 then some (decide (c<=90))else some false else if c>=65 then some (decide (c<=90))else some false:Option Bool)<;>rfl]
   simp only[ZB,ek]
   cases qmx c
   ·by_cases h5:k=0
    ·simp[h5]
    by_cases h6:c>=48
    ·by_cases h7:c<=57
     ·have a1: ¬c<48:=by omega
      have a2: ¬c>57:=by omega
      simp[h5,h6,h7,a1,a2]
     have a1: ¬c<48:=by omega
     have a2:c>57:=by omega
     by_cases h8:c=95<;>simp[h5,h6,h7,h8,a1,a2]
    have a1:c<48:=by omega
    by_cases h8:c=95<;>simp[h5,h6,h8,a1]
   simp
  rw[if_neg (by omega),qjD (by omega)]
  rfl
theorem qfI {N:Nat} {s:Str} (h:s.length<N) (hs:s.length<4611686018427387904):qaJ N s=some (jL s):=by
 unfold qaJ
 rw[show(0:Int)=((0:Nat):Int)from rfl,qlb s hs N 0 (Nat.zero_le _) (by omega),qm9]
 by_cases h1:s.length<1
 ·rw[if_pos (by omega)]
  simp[show¬1<=s.length by omega]
 by_cases h2:s.length>24
 ·rw[if_neg (by omega)]
  simp only[ZB,show((s.length:Int)>24)by omega,decide_true,if_true,show¬s.length<=24 by omega,decide_false,Bool.and_false,Bool.false_and]
 rw[if_neg (by omega)]
 simp only[ZB,show¬((s.length:Int)>24)by omega,decide_false,ZF,if_false,show 1<=s.length by omega,show s.length<=24 by omega,decide_true,Bool.true_and]
 cases hb:qdc s 0<;>rfl
end Go.Av
end
section
namespace Go.Av
def qad:List Int->Int
 |[]=>0
 |a::l=>if a=0 then qad l else a
theorem qbD {α:Type} {l:List α} {i:Nat} (h:i<l.length):l.drop i=l[i]::l.drop (i+1):=List.drop_eq_getElem_cons h
theorem qqz {l:List Int} (hl:l.length<=1000): ∀(K i:Nat),i<=l.length->l.length<K+i->qaL l K (i:Int)=some (if qad (l.drop i)=0 then .inl ()else .inr (qad (l.drop i)))
 |0,i,h,hK=>by omega
 |K+1,i,h,hK=>by
  unfold qaL
  by_cases hi:i<l.length
  ·rw[if_pos (by omega),zI,Ya hi,ZB,qbD hi]
   unfold qad
   by_cases c:l[i]=0
   ·rw[if_neg (by simp[c]),if_pos c,yf (by omega)]
    exact qqz hl K (i+1) (by omega) (by omega)
   rw[if_pos (by simp[c]),if_neg c,if_neg c]
  rw[if_neg (by omega),List.drop_eq_nil_of_le (by omega)]
  rfl
theorem qrx {N:Nat} {l:List Int} (hN:2000<N) (hl:l.length<=1000):qbm N l=some (qad l):=by
 unfold qbm
 rw[show(0:Int)=((0:Nat):Int)from rfl,qqz hl N 0 (by omega) (by omega),YR]
 by_cases c:qad l=0
 ·rw[if_pos c,ZB,c]
  rfl
 rw[if_neg c,ZB]
theorem qrD {l:List Int} (hl:l.length<=1000): ∀(K i:Nat),i<=l.length->l.length<K+i->qar l K (i:Int)=some (if qad (l.drop i)=0 then .inl ()else .inr (qad (l.drop i)))
 |0,i,h,hK=>by omega
 |K+1,i,h,hK=>by
  unfold qar
  by_cases hi:i<l.length
  ·rw[if_pos (by omega),zI,Ya hi,ZB,qbD hi]
   unfold qad
   by_cases c:l[i]=0
   ·rw[if_neg (by simp[c]),if_pos c,yf (by omega)]
    exact qrD hl K (i+1) (by omega) (by omega)
   rw[if_pos (by simp[c]),if_neg c,if_neg c]
  rw[if_neg (by omega),List.drop_eq_nil_of_le (by omega)]
  rfl
theorem lfst {N:Nat} {l:List Int} (hN:2000<N) (hl:l.length<=1000):qa3 N l=some (qad l):=by
 unfold qa3
 rw[show(0:Int)=((0:Nat):Int)from rfl,qrD hl N 0 (by omega) (by omega),YR]
 by_cases c:qad l=0
 ·rw[if_pos c,ZB,c]
  rfl
 rw[if_neg c,ZB]
theorem qda (b:Bool) (e:Int):qam b e=some (if b=true then e else 0):=by
 unfold qam
 cases b<;>rfl
theorem ql2 (b:Bool) (e:Int):qbP b e=some (if b=true then e else 0):=by
 unfold qbP
 cases b<;>rfl
def qbJ (n a b:Int):Bool:=decide (n<a)||decide (b<n)
theorem qoK (n a b:Int):qej n a b=some (qbJ n a b):=by
 unfold qej qbJ
 by_cases c:n<a
 ·rw[if_pos c,decide_eq_true c]
  rfl
 rw[if_neg c,decide_eq_false c,Bool.false_or]
 rfl
theorem qkI (n a b:Int):qbY n a b=some (if qbJ n a b=true then 3 else 0):=by
 unfold qbY qbJ
 by_cases c:n<a
 ·rw[if_pos c,qda,decide_eq_true c]
  rfl
 rw[if_neg c,qda,decide_eq_false c,Bool.false_or]
 rfl
theorem qjs {N:Nat} {s:Str} (h:s.length<N):qcH N s=some (if jL s=true then 0 else 8):=by
 unfold qcH
 rw[qlZ h,ZB,qda,ZB]
 cases jL s<;>rfl
def qfZ (s:Str):Bool:=s==[]||jL s
theorem qrZ {N:Nat} {s:Str} (h:s.length<N):qck N s=some (if qfZ s=true then 0 else 8):=by
 unfold qck qfZ
 cases c:(s==[]:Bool)with
 |true=>
  rw[if_neg (by simp),qda]
  rfl
 |false=>
  rw[if_pos (by simp),qlZ h,ZB,qda,Bool.false_or]
  cases jL s<;>rfl
theorem qr1 {N:Nat} {s:Str} (h:s.length<N) (hs:s.length<=100000):qdF N s=some (qfZ s):=by
 unfold qdF qfZ
 cases c:(s==[]:Bool)with
 |true=>rfl
 |false=>
  rw[if_neg (by simp),qfI h (by omega),Bool.false_or]
  rfl
theorem qfM: ∀a b:Str,Lib.compareBytes a b=if ltL a b=true then-1 else if(a==b)=true then 0 else 1
 |[],[]=>rfl
 |[],_::_=>rfl
 |_::_,[]=>rfl
 |a::x,b::y=>by
  unfold Lib.compareBytes
  by_cases h1:a<b
  ·rw[if_pos h1,if_pos (by simp[ltL,h1])]
  rw[if_neg h1]
  by_cases h2:b<a
  ·have hne:a≠b:=fun e=>by subst e;exact h1 h2
   have l:ltL (a::x) (b::y)=false:=by simp[ltL,h1,hne]
   rw[if_pos h2,l,if_neg (by simp),if_neg (by simp[hne])]
  have hab:a=b:=by
   have g1:=UInt8.not_lt.1 h1
   have g2:=UInt8.not_lt.1 h2
   exact UInt8.le_antisymm g2 g1
  subst hab
  rw[if_neg h2,qfM x y]
  have l:ltL (a::x) (a::y)=ltL x y:=by simp[ltL,h1]
  rw[l]
  by_cases e:x=y
  ·subst e
   simp
  have e1:(x==y)=false:=beq_false_of_ne e
  have e2:((a::x)==(a::y))=false:=beq_false_of_ne (fun h=>e (List.cons.inj h).2)
  rw[e1,e2]
def qjH:Option qB->qB->Bool
 |none,_=>false
 |some x,l=>ltL l.Name x.Name||l.Name==x.Name
def qje (prev:Option qB) (l:qB):Int:=if(jL l.Name&&jL l.Yarn&&qfZ l.Dye)=true then if qjH prev l=true then 11 else if qbJ l.Stock 0 999999999=true then 3 else 0 else 8
def qff {α:Type} (l:List α) (i:Nat):Option α:=if i=0 then none else l[i-1]?
end Go.Av
end
section
namespace Go.Av
theorem qmG (n:Int):w64 n=(if n%18446744073709551616<9223372036854775808 then n%18446744073709551616 else n%18446744073709551616-18446744073709551616):=by
 show IntKind.wrap .i64 n=_
 unfold IntKind.wrap
 have e:(2:Int)^IntKind.i64.bits=18446744073709551616:=by decide
 have e2:(2:Int)^(IntKind.i64.bits-1)=9223372036854775808:=by decide
 have e3:IntKind.i64.signed=true:=by decide
 simp only[e,e2,e3,Bool.true_and,ge_iff_le,decide_eq_true_eq]
 split<;>split<;>omega
theorem qsp {lots:List qB} {name:Str} (hl:lots.length<=100) (day:Int) (holds:List qf) (a2:Str) (a3 a4:Int): ∀(K i:Nat),i<=lots.length->lots.length<K+i->
 (yF lots name a2 a3 a4 K (i:Int)=some (.inl ())/\zW ⟨day,lots,holds⟩ name K (i:Int)=some (.inl ())/\ ∀(j:Nat) x,i<=j->lots[j]? =some x->x.Name≠name)\/
 (∃(j:Nat) (x:qB),yF lots name a2 a3 a4 K (i:Int)=some (.inr (j:Int))/\zW ⟨day,lots,holds⟩ name K (i:Int)=some (.inr (j:Int))/\lots[j]? =some x/\x.Name=name)
 |0,i,h,hK=>by omega
 |K+1,i,h,hK=>by
  unfold yF zW qcJ
  simp only
  by_cases hi:i<lots.length
  ·have hx:lots[i]? =some lots[i]:=Ya hi
   rw[if_pos (by omega),if_pos (by omega),zI,hx,ZB,ZB,ZB]
   generalize lots[i]=x at*
   by_cases e:x.Name=name
   ·have e1:(x.Name==name)=true:=by rw[e];exact beq_self_eq_true _
    rw[if_pos e1,if_pos e1]
    exact .inr ⟨i,x,rfl,rfl,hx,e⟩
   have e1: ¬(x.Name==name)=true:=by simpa using e
   rw[if_neg e1,if_neg e1,yf (by omega)]
   rcases qsp hl day holds a2 a3 a4 K (i+1) (by omega) (by omega)with⟨r1,r2,r3⟩|r
   ·refine .inl ⟨r1,r2,fun j y hj hy=>?_⟩
    by_cases c:j=i
    ·subst c
     rw[hx]at hy
     obtain rfl:=Ye hy
     exact e
    exact r3 j y (by omega) hy
   exact .inr r
  rw[if_neg (by omega),if_neg (by omega)]
  exact .inl ⟨rfl,rfl,fun j x hj hx=>by
   have:=(Yb.1 hx).1
   omega⟩
def knB (lots:List qB) (name:Str):Bool:=lots.any fun x=>x.Name==name
theorem qrl {lots:List qB} {name:Str} (h: ∀(j:Nat) x,lots[j]? =some x->x.Name≠name):knB lots name=false:=by
 unfold knB
 rw[List.any_eq_false]
 intro x hx
 obtain⟨j,hj,rfl⟩:=List.getElem_of_mem hx
 have:=h j _ (Ya hj)
 simpa using this
def qpR (a b:qf):Bool:=!(ltL a.Lot b.Lot||a.Lot==b.Lot)||(a.Lot==b.Lot&&!(ltL a.Order b.Order||a.Order==b.Order))
theorem qpl (a b:qf):qcI a b=some (qpR a b):=by
 unfold qcI qpR
 cases ltL a.Lot b.Lot<;>cases(a.Lot==b.Lot)<;>rfl
theorem qmR {a b:Str}:(Lib.compareBytes a b<0)=(ltL a b=true):=by
 rw[qfM]
 by_cases h:ltL a b=true
 ·rw[if_pos h]
  exact propext ⟨fun _=>h,fun _=>by decide⟩
 rw[if_neg h]
 by_cases e:(a==b)=true
 ·rw[if_pos e]
  exact propext ⟨fun c=>absurd c (by decide),fun c=>absurd c h⟩
 rw[if_neg e]
 exact propext ⟨fun c=>absurd c (by decide),fun c=>absurd c h⟩
def qlF:Option qf->qf->Bool
 |none,_=>false
 |some x,h=>!qpR h x
def qjW (kn:Bool) (prev:Option qf) (h:qf):Int:=if kn=true then if jL h.Order=true then if qlF prev h=true then 11 else if(qbJ h.Reserved 0 999999999||qbJ h.Taken 0 999999999)=true then 3 else if(decide (h.Reserved=0)&&decide (h.Taken=0))=true then 6 else 0 else 8 else 10
def qmy (name:Str):List qf->Int->Int
 |[],a=>a
 |h::t,a=>qmy name t (if(h.Lot==name)=true then w64 (a+h.Reserved)else a)
def frE (holds:List qf) (x:qB):Int:=w64 (x.Stock-qmy x.Name holds 0)
theorem qqs {holds:List qf} (hh:holds.length<=300) (day:Int) (lots:List qB) (name:Str): ∀(K i:Nat) (a:Int),i<=holds.length->holds.length<K+i->je ⟨day,lots,holds⟩ name K (i:Int) a=some (qmy name (holds.drop i) a)
 |0,i,a,h,hK=>by omega
 |K+1,i,a,h,hK=>by
  unfold je
  simp only
  by_cases hi:i<holds.length
  ·rw[if_pos (by omega),zI,Ya hi,ZB,qbD hi,yf (by omega)]
   unfold qmy
   by_cases e:(holds[i].Lot==name)=true
   ·rw[if_pos e,ZB,if_pos e]
    exact qqs hh day lots name K (i+1) _ (by omega) (by omega)
   rw[if_neg e,ZB,if_neg e]
   exact qqs hh day lots name K (i+1) _ (by omega) (by omega)
  rw[if_neg (by omega),List.drop_eq_nil_of_le (by omega)]
  rfl
theorem free_eq {N:Nat} (hN:2000<N) {holds:List qf} (hh:holds.length<=300) (day:Int) (lots:List qB) (x:qB):qbx N ⟨day,lots,holds⟩ x=some (frE holds x):=by
 unfold qbx qaX
 have:=qqs hh day lots x.Name N 0 0 (by omega) (by omega)
 rw[YR,show((0:Nat):Int)=0 from rfl]at this
 rw[this]
 rfl
theorem qmF {holds:List qf} (hh:holds.length<=300) (day:Int) {lots:List qB} {x:qB} {n:Nat} (hx:lots[n]? =some x) (S:Int): ∀(K i:Nat) (a b:Int),i<=holds.length->holds.length<K+i->w64 b=w64 (S-a)-> -9223372036854775808<=b->b<=9223372036854775807->vD ⟨day,lots,holds⟩ (n:Int) K b (i:Int)=some (w64 (S-qmy x.Name (holds.drop i) a))
 |0,i,a,b,h,hK,hab,hb1,hb2=>by omega
 |K+1,i,a,b,h,hK,hab,hb1,hb2=>by
  unfold vD
  simp only
  by_cases hi:i<holds.length
  ·rw[if_pos (by omega),zI,Ya hi,ZB,qbD hi,yf (by omega),zI,hx,ZB]
   unfold qmy
   by_cases e:(holds[i].Lot==x.Name)=true
   ·rw[if_pos e,ZB,if_pos e]
    generalize holds[i].Reserved=R
    refine qmF hh day hx S K (i+1) _ _ (by omega) (by omega) ?_ (by rw[qmG];omega) (by rw[qmG];omega)
    simp only[qmG]at hab⊢
    omega
   rw[if_neg e,ZB,if_neg e]
   exact qmF hh day hx S K (i+1) _ _ (by omega) (by omega) hab hb1 hb2
  rw[if_neg (by omega),List.drop_eq_nil_of_le (by omega)]
  show some b=some (w64 (S-a))
  rw[<-hab,xU hb1 hb2]
theorem qp5 {N:Nat} (hN:2000<N) {holds:List qf} (hh:holds.length<=300) (day:Int) {lots:List qB} {x:qB} {n:Nat} (hx:lots[n]? =some x) (h0:qbJ x.Stock 0 999999999=false):qaZ N ⟨day,lots,holds⟩ (n:Int)=some (frE holds x):=by
 have hb:0<=x.Stock/\x.Stock<=999999999:=by
  unfold qbJ at h0
  rw[Bool.or_eq_false_iff]at h0
  have:=of_decide_eq_false h0.1
  have:=of_decide_eq_false h0.2
  omega
 unfold qaZ
 simp only
 rw[zI,hx,ZB]
 have:=qmF hh day hx x.Stock N 0 0 x.Stock (by omega) (by omega) (by rw[Int.sub_zero]) (by omega) (by omega)
 rw[YR,show((0:Nat):Int)=0 from rfl]at this
 rw[this]
 rfl
def qc7 (lots:List qB):Prop:= ∀(j:Nat) (x:qB),lots[j]? =some x->qje (qff lots j) x=0
theorem qiv {p:Option qB} {x:qB} (h:qje p x=0):qbJ x.Stock 0 999999999=false/\qjH p x=false:=by
 unfold qje at h
 cases n1:(jL x.Name&&jL x.Yarn&&qfZ x.Dye)<;>cases n4:qjH p x<;>cases n5:qbJ x.Stock 0 999999999<;>rw[n1,n4,n5]at h<;>first|(exact absurd h (by decide))|exact⟨rfl,rfl⟩
def qcZ (lots:List qB) (holds:List qf):Prop:= ∀(j:Nat) (x:qf),holds[j]? =some x->qjW (knB lots x.Lot) (qff holds j) x=0
structure OKS (day:Int) (lots:List qB) (holds:List qf):Prop where
 d:qbJ day 0 99999=false
 ll:lots.length<=64
 lk:qc7 lots
 hl:holds.length<=256
 hk:qcZ lots holds
 fr: ∀(j:Nat) (x:qB),lots[j]? =some x->0<=frE holds x
end Go.Av
end
section
namespace Go.Av
theorem qqO {s:StateT} (hb:s.Lots.length*56<=140737488355328): ∀(K i:Nat),i<=s.Lots.length->s.Lots.length<K+i->qau s K (s.Lots.take i) (i:Int)=some s.Lots
 |0,i,h,hK=>by omega
 |K+1,i,h,hK=>by
  unfold qau
  by_cases hi:i<s.Lots.length
  ·have e:(s.Lots.take i).length=i:=by rw[Ym];omega
   rw[if_pos (by omega),zI,Ya hi,ZB,qct (by rw[e,List.length_singleton];omega) (by rw[e,List.length_singleton];omega),ZB,yf (by omega),<-List.take_succ_eq_append_getElem hi]
   exact qqO hb K (i+1) (by omega) (by omega)
  rw[if_neg (by omega),List.take_of_length_le (by omega)]
theorem qqY {s:StateT} (hb:s.Holds.length*48<=140737488355328): ∀(K i:Nat),i<=s.Holds.length->s.Holds.length<K+i->qav s K (s.Holds.take i) (i:Int)=some s.Holds
 |0,i,h,hK=>by omega
 |K+1,i,h,hK=>by
  unfold qav
  by_cases hi:i<s.Holds.length
  ·have e:(s.Holds.take i).length=i:=by rw[Ym];omega
   rw[if_pos (by omega),zI,Ya hi,ZB,qct (by rw[e,List.length_singleton];omega) (by rw[e,List.length_singleton];omega),ZB,yf (by omega),<-List.take_succ_eq_append_getElem hi]
   exact qqY hb K (i+1) (by omega) (by omega)
  rw[if_neg (by omega),List.take_of_length_le (by omega)]
theorem qpn {N:Nat} {s:StateT} (h1:s.Lots.length<N) (h2:s.Holds.length<N) (b1:s.Lots.length*56<=140737488355328) (b2:s.Holds.length*48<=140737488355328):qbR N s=some ⟨s.Day,s.Lots,s.Holds⟩:=by
 unfold qbR
 have e1:=qqO b1 N 0 (by omega) (by omega)
 have e2:=qqY b2 N 0 (by omega) (by omega)
 rw[List.take_zero,show((0:Nat):Int)=0 from rfl]at e1 e2
 rw[e1,ZB,e2,ZB]
theorem qoW {lots:List qB} (ok:qc7 lots) {i:Nat} {y:qB} (hy:lots[i]? =some y): ∀(d:Nat) (x:qB),lots[i+d+1]? =some x->ltL y.Name x.Name=true
 |0,x,hx=>by
  have h:=(qiv (ok (i+1) x hx)).2
  unfold qff at h
  rw[if_neg (by omega),Nat.add_sub_cancel,hy]at h
  unfold qjH at h
  rw[Bool.or_eq_false_iff]at h
  cases c:ltL y.Name x.Name with
  |true=>rfl
  |false=>
   have:=qdD _ _ h.1 c
   rw[this,beq_self_eq_true]at h
   cases h.2
 |d+1,x,hx=>by
  have hl:=(Yb.1 hx).1
  have hz:lots[i+d+1]? =some lots[i+d+1]:=Ya (by omega)
  have h1:=qoW ok hy d _ hz
  have h:=(qiv (ok (i+(d+1)+1) x hx)).2
  unfold qff at h
  rw[if_neg (by omega),Nat.add_sub_cancel,show i+(d+1)=i+d+1 by omega,hz]at h
  unfold qjH at h
  rw[Bool.or_eq_false_iff]at h
  cases c:ltL lots[i+d+1].Name x.Name with
  |true=>exact qcL h1 c
  |false=>
   have:=qdD _ _ h.1 c
   rw[this,beq_self_eq_true]at h
   cases h.2
theorem qdE {lots:List qB} (ok:qc7 lots) {i j:Nat} {x y:qB} (hij:i<j) (hx:lots[i]? =some x) (hy:lots[j]? =some y):ltL x.Name y.Name=true:=by
 obtain⟨d,rfl⟩: ∃d,j=i+d+1:=⟨j-i-1,by omega⟩
 exact qoW ok hx d y hy
theorem qsU {i j:Nat} (hi:i<=1000) (hj:j<=1000):w64 (qnl .u64 (IntKind.wrap .u64 (w64 ((i:Int)+(j:Int)))) 1)=(((i+j)/2:Nat):Int):=by
 have e0:w64 ((i:Int)+(j:Int))=(i:Int)+(j:Int):=xU (by omega) (by omega)
 rw[e0]
 have e:IntKind.wrap .u64 ((i:Int)+(j:Int))=(i:Int)+(j:Int):=by
  show((i:Int)+(j:Int))%18446744073709551616=_
  omega
 rw[e]
 show w64 (((i:Int)+(j:Int)).fdiv 2)=_
 rw[Int.fdiv_eq_ediv_of_nonneg _ (by omega),xU (by omega) (by omega)]
 omega
theorem bs_L {lots:List qB} (hl:lots.length<=100) (ok:qc7 lots) (name:Str): ∀(K lo hi:Nat),lo<=hi->hi<=lots.length->hi-lo<K->(∀(k:Nat) x,k<lo->lots[k]? =some x->ltL x.Name name=true)->(∀(k:Nat) x,hi<=k->lots[k]? =some x->ltL x.Name name=false)->
 ∃p:Nat,ko lots name K (hi:Int) (lo:Int)=some (p:Int)/\p<=lots.length/\(∀(k:Nat) x,k<p->lots[k]? =some x->ltL x.Name name=true)/\(∀(k:Nat) x,p<=k->lots[k]? =some x->ltL x.Name name=false)
 |0,lo,hi,h,h2,hK,g1,g2=>by omega
 |K+1,lo,hi,h,h2,hK,g1,g2=>by
  unfold ko xO tCmp
  by_cases c:lo<hi
  ·have hm:(lo+hi)/2<lots.length:=by omega
   have hx:lots[(lo+hi)/2]? =some lots[(lo+hi)/2]:=Ya hm
   rw[if_pos (by omega),qsU (by omega) (by omega),zI,hx,ZB,ZB,ZB]
   by_cases d:Lib.compareBytes lots[(lo+hi)/2].Name name<0
   ·have d1:=d
    rw[qmR]at d1
    rw[if_pos d,ZB]
    simp only
    rw[yf (by omega)]
    refine bs_L hl ok name K ((lo+hi)/2+1) hi (by omega) h2 (by omega) (fun k x hk hkx=>?_) g2
    by_cases e:k=(lo+hi)/2
    ·subst e
     rw[hx]at hkx
     obtain rfl:=Ye hkx
     exact d1
    exact qcL (qdE ok (by omega) hkx hx) d1
   have d1:=d
   rw[qmR]at d1
   have d2:ltL lots[(lo+hi)/2].Name name=false:=by simpa using d1
   rw[if_neg d,ZB]
   simp only
   refine bs_L hl ok name K lo ((lo+hi)/2) (by omega) (by omega) (by omega) g1 (fun k x hk hkx=>?_)
   by_cases e:k=(lo+hi)/2
   ·subst e
    rw[hx]at hkx
    obtain rfl:=Ye hkx
    exact d2
   cases z:ltL x.Name name with
   |false=>rfl
   |true=>
    rw[qcL (qdE ok (by omega) hx hkx) z]at d2
    cases d2
  rw[if_neg (by omega)]
  have:lo=hi:=by omega
  subst this
  exact⟨lo,rfl,h2,g1,g2⟩
end Go.Av
end
section
namespace Go.Av
open Go.Proofs Go.RowKit
variable [Glob]
theorem qfD {a b:Str} (h:ltL a b=true):ltL b a=false:=by
 cases e:ltL b a with
 |false=>rfl
 |true=>have:=qcL h e;rw[qaz]at this;cases this
abbrev qnv (lots:List qB):Prop:=lots.Pairwise fun a b=>ltL a.Name b.Name=true
theorem qc7.srt {lots:List qB} (h:qc7 lots):qnv lots:=
 List.pairwise_iff_getElem.2 fun i j hi hj hij=>qdE h hij (Ya hi) (Ya hj)
def yz (x:qB):List qB->List qB
 |[]=>[x]
 |y::l=>if(y.Name==x.Name)=true then x::l else if ltL x.Name y.Name=true then x::y::l else y::yz x l
theorem qd3 {x:qB}: ∀{lots:List qB} {j:Nat} {y:qB},qnv lots->lots[j]? =some y->y.Name=x.Name->yz x lots=lots.set j x
 |[],j,y,_,h,_=>by simp at h
 |a::l,0,y,hs,h,e=>by
  simp only[Yj,ZI]at h
  subst h
  rw[yz,if_pos (by rw[e];exact beq_self_eq_true _)]
  rfl
 |a::l,j+1,y,hs,h,e=>by
  rw[List.getElem?_cons_succ]at h
  have hay:=(List.pairwise_cons.1 hs).1 y (Yn h)
  rw[e]at hay
  rw[yz,if_neg (by simpa using qfG hay),if_neg (by rw[qfD hay];decide),qd3 (List.pairwise_cons.1 hs).2 h e]
  rfl
theorem qkl {x:qB}: ∀{lots:List qB} {p:Nat},p<=lots.length->(∀(k:Nat) y,k<p->lots[k]? =some y->ltL y.Name x.Name=true)->(∀(k:Nat) y,p<=k->lots[k]? =some y->ltL y.Name x.Name=false)->(∀(k:Nat) y,lots[k]? =some y->y.Name≠x.Name)->yz x lots=lots.take p++[x]++lots.drop p
 |[],p,hp,h1,h2,h3=>by simp[yz]
 |a::l,0,hp,h1,h2,h3=>by
  have e1:=h2 0 a (Nat.le_refl _) rfl
  have e2:=h3 0 a rfl
  have e3:ltL x.Name a.Name=true:=by
   cases e:ltL x.Name a.Name with
   |true=>rfl
   |false=>exact absurd (qdD _ _ e1 e) e2
  rw[yz,if_neg (by simpa using e2),if_pos e3]
  rfl
 |a::l,p+1,hp,h1,h2,h3=>by
  have e1:=h1 0 a (by omega) rfl
  rw[yz,if_neg (by simpa using qfG e1),if_neg (by rw[qfD e1];decide),qkl (p:=p) (by simp at hp;omega) (fun k y hk hy=>h1 (k+1) y (by omega) hy) (fun k y hk hy=>h2 (k+1) y (by omega) hy) (fun k y hy=>h3 (k+1) y hy)]
  rfl
theorem qf1 {x y:qB}: ∀{lots:List qB},y∈yz x lots->y=x\/y∈lots
 |[],h=>by simp[yz]at h;exact .inl h
 |a::l,h=>by
  rw[yz]at h
  split at h
  ·rcases List.mem_cons.1 h with h|h
   ·exact .inl h
   exact .inr (List.mem_cons_of_mem _ h)
  split at h
  ·rcases List.mem_cons.1 h with h|h
   ·exact .inl h
   exact .inr h
  rcases List.mem_cons.1 h with h|h
  ·exact .inr (h▸List.mem_cons_self)
  rcases qf1 h with h|h
  ·exact .inl h
  exact .inr (List.mem_cons_of_mem _ h)
theorem qhV {x:qB}: ∀{lots:List qB},qnv lots->qnv (yz x lots)
 |[],h=>by simp[yz,qnv]
 |a::l,h=>by
  obtain⟨h1,h2⟩:=List.pairwise_cons.1 h
  rw[yz]
  by_cases e1:(a.Name==x.Name)=true
  ·rw[if_pos e1]
   have:a.Name=x.Name:=by simpa using e1
   exact List.pairwise_cons.2 ⟨fun b hb=>this▸h1 b hb,h2⟩
  rw[if_neg e1]
  by_cases e2:ltL x.Name a.Name=true
  ·rw[if_pos e2]
   refine List.pairwise_cons.2 ⟨fun b hb=>?_,h⟩
   rcases List.mem_cons.1 hb with rfl|hb
   ·exact e2
   exact qcL e2 (h1 b hb)
  rw[if_neg e2]
  refine List.pairwise_cons.2 ⟨fun b hb=>?_,qhV h2⟩
  rcases qf1 hb with rfl|hb
  ·cases e:ltL a.Name b.Name with
   |true=>rfl
   |false=>exact absurd (qdD _ _ e (by simpa using e2)) (by simpa using e1)
  exact h1 b hb
theorem qh2 {x:qB}: ∀{lots:List qB},(yz x lots).length<=lots.length+1
 |[]=>by simp[yz]
 |a::l=>by
  rw[yz]
  split
  ·simp
  split
  ·simp
  have:=qh2 (x:=x) (lots:=l)
  simp;omega
theorem qfh {x:qB}: ∀{lots:List qB},∃j:Nat,(yz x lots)[j]? =some x
 |[]=>⟨0,rfl⟩
 |a::l=>by
  rw[yz]
  split
  ·exact⟨0,rfl⟩
  split
  ·exact⟨0,rfl⟩
  obtain⟨j,hj⟩:=qfh (x:=x) (lots:=l)
  exact⟨j+1,hj⟩
theorem qjI {x y:qB} (hne:y.Name≠x.Name): ∀{lots:List qB},y∈lots->y∈yz x lots
 |[],h=>by cases h
 |a::l,h=>by
  rw[yz]
  split
  ·rename_i e
   rcases List.mem_cons.1 h with rfl|h
   ·exact absurd (by simpa using e) hne
   exact List.mem_cons_of_mem _ h
  split
  ·exact List.mem_cons_of_mem _ h
  rcases List.mem_cons.1 h with rfl|h
  ·exact List.mem_cons_self
  exact List.mem_cons_of_mem _ (qjI hne h)
abbrev qeQ (a b:qf):Bool:=ltH qf.Lot qf.Order a b
theorem qj7 (a b:qf):qpR a b=qeQ b a:=by
 unfold qpR qeQ ltH
 by_cases e:a.Lot=b.Lot
 ·rw[e,qaz,beq_self_eq_true]
  by_cases f:a.Order=b.Order
  ·rw[f,qaz,beq_self_eq_true]
   rfl
  have f1:(a.Order==b.Order)=false:=beq_false_of_ne f
  rw[f1]
  cases h1:ltL a.Order b.Order with
  |true=>rw[qfD h1];rfl
  |false=>
   cases h2:ltL b.Order a.Order with
   |true=>rfl
   |false=>exact absurd (qdD _ _ h1 h2) f
 have e1:(a.Lot==b.Lot)=false:=beq_false_of_ne e
 have e2:(b.Lot==a.Lot)=false:=beq_false_of_ne (fun h=>e h.symm)
 rw[e1,e2]
 cases h1:ltL a.Lot b.Lot with
 |true=>rw[qfD h1];rfl
 |false=>
  cases h2:ltL b.Lot a.Lot with
  |true=>rfl
  |false=>exact absurd (qdD _ _ h1 h2) e
abbrev qjg (holds:List qf):Prop:=holds.Pairwise fun a b=>qeQ a b=true
def kq (lo od:Str) (h:qf):Bool:=h.Lot==lo&&h.Order==od
theorem qie {lo od:Str} {h:qf}:kq lo od h=true↔h.Lot=lo/\h.Order=od:=by simp[kq]
theorem qp6 (a:qf):qeQ a a=false:=qfR _ _ a
theorem qh6 {a b c:qf} (h:qeQ a b=true) (k:qeQ b c=true):qeQ a c=true:=qfs _ _ h k
theorem qpy {a b:qf} (h:qeQ a b=true):qeQ b a=false:=by
 cases e:qeQ b a with
 |false=>rfl
 |true=>have:=qh6 h e;rw[qp6]at this;cases this
theorem qsc {a b:qf} (h:qeQ a b=true):kq a.Lot a.Order b=false:=by
 cases e:kq a.Lot a.Order b with
 |false=>rfl
 |true=>
  obtain⟨e1,e2⟩:=qie.1 e
  unfold qeQ ltH at h
  rw[e1,e2,qaz,qaz]at h
  simp at h
theorem qfT {k:Bool} {p:Option qf} {x:qf} (h:qjW k p x=0):k=true/\jL x.Order=true/\qlF p x=false/\qbJ x.Reserved 0 999999999=false/\qbJ x.Taken 0 999999999=false/\ ¬(x.Reserved=0/\x.Taken=0):=by
 unfold qjW at h
 cases n1:k<;>cases n2:jL x.Order<;>cases n3:qlF p x<;>cases n4:qbJ x.Reserved 0 999999999<;>cases n5:qbJ x.Taken 0 999999999<;>cases n6:(decide (x.Reserved=0)&&decide (x.Taken=0))<;>rw[n1,n2,n3,n4,n5,n6]at h<;>first|(exact absurd h (by decide))|skip
 refine⟨rfl,rfl,rfl,rfl,rfl,fun c=>?_⟩
 rw[decide_eq_true c.1,decide_eq_true c.2]at n6
 cases n6
theorem qnh {lots:List qB} {holds:List qf} (ok:qcZ lots holds) {i:Nat} {y:qf} (hy:holds[i]? =some y): ∀(d:Nat) (x:qf),holds[i+d+1]? =some x->qeQ y x=true
 |0,x,hx=>by
  have:=(qfT (ok _ _ hx)).2.2.1
  unfold qff at this
  rw[if_neg (by omega),show i+0+1-1=i by omega,hy]at this
  simp only[qlF,qj7,Bool.not_eq_false']at this
  exact this
 |d+1,x,hx=>by
  have hlt:=(Yb.1 hx).1
  have hz:holds[i+d+1]? =some holds[i+d+1]:=Ya (by omega)
  have h1:=qnh ok hy d _ hz
  have:=(qfT (ok _ _ hx)).2.2.1
  unfold qff at this
  rw[if_neg (by omega),show i+(d+1)+1-1=i+d+1 by omega,hz]at this
  simp only[qlF,qj7,Bool.not_eq_false']at this
  exact qh6 h1 this
theorem qcZ.srt {lots:List qB} {holds:List qf} (h:qcZ lots holds):qjg holds:=
 List.pairwise_iff_getElem.2 fun i j hi hj hij=>by
  have hx:holds[i+(j-i-1)+1]? =some holds[j]:=by rw[show i+(j-i-1)+1=j by omega];exact Ya hj
  exact qnh h (Ya hi) (j-i-1) _ hx
def qjJ (h:qf):List qf->List qf
 |[]=>[h]
 |y::l=>if qeQ h y=true then h::y::l else y::qjJ h l
theorem qdy (h:qf): ∀l,(qjJ h l).Perm (h::l)
 |[]=> .refl _
 |y::l=>by
  rw[qjJ]
  split
  ·exact .refl _
  exact((qdy h l).cons y).trans (.swap _ _ _)
theorem qkm {h:qf}: ∀{l:List qf},qjg l->(∀x∈l,kq h.Lot h.Order x=false)->qjg (qjJ h l)
 |[],_,_=>by simp[qjJ,qjg]
 |y::l,hs,hk=>by
  obtain⟨h1,h2⟩:=List.pairwise_cons.1 hs
  rw[qjJ]
  by_cases e:qeQ h y=true
  ·rw[if_pos e]
   refine List.pairwise_cons.2 ⟨fun b hb=>?_,hs⟩
   rcases List.mem_cons.1 hb with rfl|hb
   ·exact e
   exact qh6 e (h1 b hb)
  rw[if_neg e]
  refine List.pairwise_cons.2 ⟨fun b hb=>?_,qkm h2 fun x hx=>hk x (List.mem_cons_of_mem _ hx)⟩
  rcases List.mem_cons.1 ((qdy h l).mem_iff.1 hb)with rfl|hb
  ·have hk':=hk y List.mem_cons_self
   rcases qjk qf.Lot qf.Order (show ltH qf.Lot qf.Order b y=false by simpa using e)with h'|⟨e1,e2⟩
   ·exact h'
   rw[qie.2 ⟨e1.symm,e2.symm⟩]at hk'
   cases hk'
  exact h1 b hb
theorem qpg {l m:List qf} (hl:qjg l) (hm:m.Pairwise fun a b=>qeQ b a=false) (hp:m.Perm l):m=l:=by
 refine List.Perm.eq_of_pairwise (le:=fun a b=>qeQ b a=false) (fun a b ha hb hab hba=>?_) hm (hl.imp fun h=>qpy h) hp
 have ha':=hp.mem_iff.1 ha
 obtain⟨i,hi,rfl⟩:=List.getElem_of_mem ha'
 obtain⟨j,hj,rfl⟩:=List.getElem_of_mem hb
 have key:=List.pairwise_iff_getElem.1 hl
 rcases Nat.lt_trichotomy i j with c|c|c
 ·have:=key i j hi hj c
  rw[hba]at this;cases this
 ·subst c;rfl
 have:=key j i hj hi c
 rw[hab]at this;cases this
theorem qm1 {l m:List qf} (hl:qjg l) (hp:m.Perm l):qew qf.Lot qf.Order m=l:=by
 obtain⟨f1,f2,f3⟩:=qdM qf.Lot qf.Order m
 refine qpg hl (List.pairwise_iff_getElem.2 fun i j hi hj hij=>?_) (f2.trans hp)
 have:=f3 i j hij (by omega)
 rw[getElem!_pos _ j hj,getElem!_pos _ i hi]at this
 exact this
def yI (h:qf) (holds:List qf):List qf:=
 if h.Reserved=0/\h.Taken=0 then holds.filter (fun x=>!kq h.Lot h.Order x)else qjJ h (holds.filter fun x=>!kq h.Lot h.Order x)
def ve (holds:List qf) (lo od:Str):qf:=(holds.find? (kq lo od)).getD ⟨lo,od,0,0⟩
theorem qip {holds:List qf} (h:qjg holds) (p:qf->Bool):qjg (holds.filter p):=List.Pairwise.filter p h
theorem qeg {holds:List qf} {lo od:Str}: ∀x∈holds.filter (fun x=>!kq lo od x),kq lo od x=false:=fun x hx=>by simpa using(List.mem_filter.1 hx).2
theorem qnH {h:qf} {holds:List qf} (hs:qjg holds):qjg (yI h holds):=by
 unfold yI
 split
 ·exact qip hs _
 exact qkm (qip hs _) qeg
theorem qns {h:qf} {holds:List qf}:(yI h holds).length<=holds.length+1:=by
 have:=List.length_filter_le (fun x=>!kq h.Lot h.Order x) holds
 unfold yI
 split
 ·omega
 rw[(qdy _ _).length_eq,Yr];omega
theorem qmZ {h x:qf} {holds:List qf} (hx:x∈yI h holds):(x=h/\ ¬(h.Reserved=0/\h.Taken=0))\/(x∈holds/\kq h.Lot h.Order x=false):=by
 unfold yI at hx
 split at hx
 ·exact .inr ⟨(List.mem_filter.1 hx).1,qeg x hx⟩
 rename_i hn
 rcases List.mem_cons.1 ((qdy _ _).mem_iff.1 hx)with rfl|hx
 ·exact .inl ⟨rfl,hn⟩
 exact .inr ⟨(List.mem_filter.1 hx).1,qeg x hx⟩
end Go.Av
end
section
namespace Go.Av
open Go.Proofs Go.RowKit
variable [Glob]
abbrev knR:Str:=[114,101,99,101,105,118,101]
abbrev knV:Str:=[114,101,115,101,114,118,101]
abbrev knL:Str:=[114,101,108,101,97,115,101]
abbrev knT:Str:=[116,97,107,101]
abbrev knU:Str:=[114,101,116,117,114,110]
structure qga (e:qb):Prop where
 kind:e.Kind=knR\/e.Kind=knV\/e.Kind=knL\/e.Kind=knT\/e.Kind=knU
 day:qbJ e.Day 0 99999=false
 am:qbJ e.Amount 1 999999999=false
 lot:jL e.Lot=true
 rc:e.Kind=knR->jL e.Yarn=true/\qfZ e.Dye=true/\e.Order=[]
 oth:e.Kind≠knR->jL e.Order=true/\e.Yarn=[]/\e.Dye=[]
def yL (lots:List qB) (holds:List qf) (e:qb):qa:=
 match lots.find? (fun x=>x.Name==e.Lot)with
 |some x=>⟨x,true,ve holds e.Lot e.Order,frE holds x⟩
 |none=>⟨⟨e.Lot,e.Yarn,e.Dye,0⟩,false,ve holds e.Lot e.Order,0⟩
def qbU (k:Str) (a:qa) (n:Int):qa:=
 if k=knR then⟨⟨a.lot.Name,a.lot.Yarn,a.lot.Dye,w64 (a.lot.Stock+n)⟩,a.known,a.hold,a.free⟩
 else if k=knV then⟨a.lot,a.known,⟨a.hold.Lot,a.hold.Order,w64 (a.hold.Reserved+n),a.hold.Taken⟩,a.free⟩
 else if k=knL then⟨a.lot,a.known,⟨a.hold.Lot,a.hold.Order,w64 (a.hold.Reserved+w64 (0-n)),a.hold.Taken⟩,a.free⟩
 else if k=knT then⟨⟨a.lot.Name,a.lot.Yarn,a.lot.Dye,w64 (a.lot.Stock-n)⟩,a.known,⟨a.hold.Lot,a.hold.Order,(if(w64 (a.hold.Reserved-n))>0 then(w64 (a.hold.Reserved-n))else 0),w64 (a.hold.Taken+n)⟩,a.free⟩
 else⟨⟨a.lot.Name,a.lot.Yarn,a.lot.Dye,w64 (a.lot.Stock+n)⟩,a.known,⟨a.hold.Lot,a.hold.Order,a.hold.Reserved,w64 (a.hold.Taken-n)⟩,a.free⟩
def qdj (k:Str) (a:qa) (n:Int):Bool:=
 if k=knR then true else if k=knV then decide (n<=a.free)else if k=knL then decide (n<=a.hold.Reserved)else if k=knT then decide (n<=w64 (a.free+a.hold.Reserved))else decide (n<=a.hold.Taken)
def qdk (e:qb) (a:qa):Bool:=if e.Kind=knR then !a.known||(a.lot.Yarn==e.Yarn&&a.lot.Dye==e.Dye)else a.known
def yx (lots:List qB) (holds:List qf) (e:qb):qa:=qbU e.Kind (yL lots holds e) e.Amount
def nxL (lots:List qB) (holds:List qf) (e:qb):List qB:=yz (yx lots holds e).lot lots
def nxH (lots:List qB) (holds:List qf) (e:qb):List qf:=yI (yx lots holds e).hold holds
def qgQ (day:Int) (lots:List qB) (holds:List qf) (e:qb):Int:=
 if e.Day<day then 1
 else if qdk e (yL lots holds e)=false then 2
 else if qdj e.Kind (yL lots holds e) e.Amount=false then 3
 else if 999999999<(yx lots holds e).lot.Stock\/999999999<(yx lots holds e).hold.Taken then 4
 else if 64<(nxL lots holds e).length\/256<(nxH lots holds e).length then 5
 else 0
theorem qmu {lots:List qB} (ok:qc7 lots) {j:Nat} {x:qB} {nm:Str} (hx:lots[j]? =some x) (e:x.Name=nm):lots.find? (fun x=>x.Name==nm)=some x:=by
 obtain⟨hj,rfl⟩:=Yb.1 hx
 refine List.find?_eq_some_iff_getElem.2 ⟨by rw[e];exact beq_self_eq_true _,j,hj,rfl,fun i hi=>?_⟩
 have:=qdE ok hi (Ya (by omega)) hx
 have hne:=qfG this
 rw[e]at hne
 simpa using hne
theorem qmI {lots:List qB} {nm:Str} (h: ∀(j:Nat) x,lots[j]? =some x->x.Name≠nm):lots.find? (fun x=>x.Name==nm)=none:=by
 rw[List.find?_eq_none]
 intro x hx
 obtain⟨j,hj,rfl⟩:=List.getElem_of_mem hx
 simpa using h j _ (Ya hj)
theorem ixH1 {holds:List qf} (hh:holds.length<=300) (a:qa): ∀(K i:Nat),i<=holds.length->holds.length<K+i->
 (qZ holds a K (i:Int)=some (.inl ())/\ ∀(j:Nat) x,i<=j->holds[j]? =some x->kq a.hold.Lot a.hold.Order x=false)\/
 (∃(j:Nat) (x:qf),qZ holds a K (i:Int)=some (.inr (j:Int))/\i<=j/\holds[j]? =some x/\kq a.hold.Lot a.hold.Order x=true/\ ∀(k:Nat) y,i<=k->k<j->holds[k]? =some y->kq a.hold.Lot a.hold.Order y=false)
 |0,i,h,hK=>by omega
 |K+1,i,h,hK=>by
  unfold qZ vW qal
  by_cases hi:i<holds.length
  ·have hx:holds[i]? =some holds[i]:=Ya hi
   rw[if_pos (by omega),zI,hx,ZB]
   simp only[ZB,Bool.and_true]
   generalize holds[i]=x at*
   by_cases e:kq a.hold.Lot a.hold.Order x=true
   ·rw[if_pos (show(x.Lot==a.hold.Lot&&x.Order==a.hold.Order)=true from e)]
    exact .inr ⟨i,x,rfl,Nat.le_refl _,hx,e,fun k y h1 h2 _=>by omega⟩
   rw[if_neg (show¬(x.Lot==a.hold.Lot&&x.Order==a.hold.Order)=true from e),yf (by omega)]
   have e':kq a.hold.Lot a.hold.Order x=false:=by simpa using e
   have first: ∀(k:Nat) y,k=i->holds[k]? =some y->kq a.hold.Lot a.hold.Order y=false:=fun k y hk hy=>by
    subst hk;rw[hx]at hy;obtain rfl:=Ye hy;exact e'
   rcases ixH1 hh a K (i+1) (by omega) (by omega)with⟨r1,r2⟩|⟨j,y,r1,r2,r3,r4,r5⟩
   ·refine .inl ⟨r1,fun j y hj hy=>?_⟩
    by_cases c:j=i
    ·exact first j y c hy
    exact r2 j y (by omega) hy
   refine .inr ⟨j,y,r1,by omega,r3,r4,fun k z hk hkj hz=>?_⟩
   by_cases c:k=i
   ·exact first k z c hz
   exact r5 k z (by omega) hkj hz
  rw[if_neg (by omega)]
  exact .inl ⟨rfl,fun j x hj hx=>by have:=(Yb.1 hx).1;omega⟩
theorem ixH2 {holds:List qf} (a:qa): ∀(K:Nat) (i:Int),zl holds a K i=qZ holds a K i
 |0,i=>rfl
 |K+1,i=>by
  unfold qZ zl vW vQ
  simp only[ixH2 a K]
theorem qnp {holds:List qf} {lo od:Str} {j:Nat} {x:qf} (hx:holds[j]? =some x) (e:kq lo od x=true) (h: ∀(k:Nat) y,k<j->holds[k]? =some y->kq lo od y=false):ve holds lo od=x:=by
 obtain⟨hj,rfl⟩:=Yb.1 hx
 unfold ve
 rw[List.find?_eq_some_iff_getElem.2 ⟨e,j,hj,rfl,fun i hi=>by rw[h i _ hi (Ya (by omega))];rfl⟩]
 rfl
theorem qiW {holds:List qf} {lo od:Str} (h: ∀(j:Nat) x,holds[j]? =some x->kq lo od x=false):ve holds lo od=⟨lo,od,0,0⟩:=by
 unfold ve
 rw[List.find?_eq_none.2]
 ·rfl
 intro x hx
 obtain⟨j,hj,rfl⟩:=List.getElem_of_mem hx
 rw[h j _ (Ya hj)]
 decide
theorem qek {holds:List qf} {lo od:Str}:(ve holds lo od).Lot=lo/\(ve holds lo od).Order=od:=by
 unfold ve
 cases h:holds.find? (kq lo od)with
 |none=>exact⟨rfl,rfl⟩
 |some x=>exact qie.1 (List.find?_some h)
theorem qlW {holds:List qf} {lo od:Str}:ve holds lo od∈holds\/ve holds lo od=⟨lo,od,0,0⟩:=by
 unfold ve
 cases h:holds.find? (kq lo od)with
 |none=>exact .inr rfl
 |some x=>exact .inl (List.mem_of_find?_eq_some h)
theorem qp1 {N:Nat} (hN:2000<N) (day:Int) {lots:List qB} (holds:List qf) (hl:lots.length<=100) (ok:qc7 lots) (name:Str):
 (∃(j:Nat) (x:qB),xJ N ⟨day,lots,holds⟩ name=some ((j:Int),true)/\lots[j]? =some x/\x.Name=name)\/
 (∃p:Nat,xJ N ⟨day,lots,holds⟩ name=some ((p:Int),false)/\p<=lots.length/\(∀(k:Nat) x,k<p->lots[k]? =some x->ltL x.Name name=true)/\(∀(k:Nat) x,p<=k->lots[k]? =some x->ltL x.Name name=false)/\ ∀(k:Nat) x,lots[k]? =some x->x.Name≠name):=by
 unfold xJ jl xO tCmp
 simp only
 obtain⟨p,p1,p2,p3,p4⟩:=bs_L hl ok name N 0 lots.length (by omega) (by omega) (by omega) (fun k x hk=>by omega) (fun k x hk hx=>by
  have:=(Yb.1 hx).1
  omega)
 rw[show((0:Nat):Int)=0 from rfl]at p1
 rw[p1,ZB]
 by_cases c:p<lots.length
 ·have hx:lots[p]? =some lots[p]:=Ya c
  rw[if_pos (by omega),zI,hx,ZB,ZB,ZB]
  by_cases e:lots[p].Name=name
  ·refine .inl ⟨p,_,?_,hx,e⟩
   rw[e,qfM,qaz,beq_self_eq_true]
   rfl
  refine .inr ⟨p,?_,p2,p3,p4,fun k x hk=>?_⟩
  ·have hz: ¬Lib.compareBytes lots[p].Name name=0:=by
    rw[qfM,p4 p _ (Nat.le_refl _) hx]
    simp[e]
   rw[decide_eq_false hz]
   rfl
  rcases Nat.lt_trichotomy k p with d|d|d
  ·exact qfG (p3 k x d hk)
  ·subst d
   rw[hx]at hk
   obtain rfl:=Ye hk
   exact e
  intro h
  have h1:=qdE ok d hx hk
  rw[h,p4 p _ (Nat.le_refl _) hx]at h1
  cases h1
 refine .inr ⟨p,?_,p2,p3,p4,fun k x hk=>qfG (p3 k x (by have:=(Yb.1 hk).1;omega) hk)⟩
 rw[if_neg (by omega)]
 rfl
theorem qrF {lots:List qB} {holds:List qf} {e:qb}:(yL lots holds e).lot.Name=e.Lot/\(yL lots holds e).hold.Lot=e.Lot/\(yL lots holds e).hold.Order=e.Order:=by
 unfold yL
 cases h:lots.find? (fun x=>x.Name==e.Lot)with
 |none=>exact⟨rfl,qek⟩
 |some x=>exact⟨by simpa using List.find?_some h,qek⟩
theorem qqP {N:Nat} (hN:2000<N) {day:Int} {lots:List qB} {holds:List qf} (o:OKS day lots holds) (e:qb):kw N ⟨day,lots,holds⟩ e=some (yL lots holds e):=by
 have hl:lots.length<=100:=by have:=o.ll;omega
 have hh:holds.length<=300:=by have:=o.hl;omega
 have hold: ∀(a:qa),a.hold.Lot=e.Lot->a.hold.Order=e.Order-> ∃r,yh N holds a=some r/\((if r>=0 then(idx holds r).bind fun x18=>some (x18.Lot,x18.Order,x18.Reserved,x18.Taken)else some (e.Lot,e.Order,0,0):Option (Str×Str×Int×Int)))=some ((ve holds e.Lot e.Order).Lot,(ve holds e.Lot e.Order).Order,(ve holds e.Lot e.Order).Reserved,(ve holds e.Lot e.Order).Taken):=by
  intro a h1 h2
  unfold yh
  rcases ixH1 hh a N 0 (by omega) (by omega)with⟨r1,r2⟩|⟨j,x,r1,r2,r3,r4,r5⟩
  ·rw[show((0:Nat):Int)=0 from rfl]at r1
   rw[r1]
   refine⟨-1,rfl,?_⟩
   rw[h1,h2]at r2
   rw[if_neg (by decide),qiW fun j x hx=>r2 j x (Nat.zero_le _) hx]
  rw[show((0:Nat):Int)=0 from rfl]at r1
  rw[r1]
  refine⟨(j:Int),rfl,?_⟩
  rw[h1,h2]at r4 r5
  rw[if_pos (by omega),zI,r3,qnp r3 r4 fun k y hk hy=>r5 k y (Nat.zero_le _) hk hy]
  rfl
 unfold kw
 simp only
 rcases qp1 hN day holds hl o.lk e.Lot with⟨j,x,h1,h2,h3⟩|⟨p,h1,h2,h3,h4,h5⟩
 ·rw[h1,ZB]
  simp only[if_true]
  rw[zI,h2,ZB,free_eq hN hh,ZB]
  simp only[ZB]
  obtain⟨r,g1,g2⟩:=hold (⟨⟨x.Name,x.Yarn,x.Dye,x.Stock⟩,true,⟨e.Lot,e.Order,0,0⟩,frE holds x⟩:qa) rfl rfl
  rw[g1,ZB,g2,ZB]
  unfold yL
  rw[qmu o.lk h2 h3]
 rw[h1,ZB]
 simp only[ZF,if_false,ZB]
 obtain⟨r,g1,g2⟩:=hold (⟨⟨e.Lot,e.Yarn,e.Dye,0⟩,false,⟨e.Lot,e.Order,0,0⟩,0⟩:qa) rfl rfl
 rw[g1,ZB,g2,ZB]
 unfold yL
 rw[qmI h5]
theorem qqJ {p:qf->Bool} {a1 a2 a3:Str} {a4:Int} {a5:Bool} {lo od:Str} {a8 a9 a10:Int} {holds:List qf} (hh:holds.length<=300): ∀(K n m:Nat) (l:List qf),l.length=holds.length->n<m->m<=l.length->l.length<K+m->l.drop m=holds.drop m->l.take n=(holds.take m).filter (fun x=>!kq lo od x)->
 ∃l' n',qY a1 a2 a3 a4 a5 lo od a8 a9 a10 K l (n:Int) (m:Int)=some (l',((n':Nat):Int))/\l'.length=holds.length/\n'<holds.length/\l'.take n'=holds.filter (fun x=>!kq lo od x)
 |0,n,m,l,h1,h2,h3,h4,h5,h6=>by omega
 |K+1,n,m,l,h1,h2,h3,h4,h5,h6=>by
  unfold qY vQ qal
  by_cases hm:m<l.length
  ·have hx:l[m]? =some l[m]:=Ya hm
   have hm2:m<holds.length:=by omega
   have hxx:l[m]=holds[m]:=by
    have e:(l.drop m)[0]? =(holds.drop m)[0]? :=by rw[h5]
    rw[YI,YI,Nat.add_zero,hx,Ya hm2]at e
    exact Ye e
   have htk:holds.take (m+1)=holds.take m++[l[m]]:=by rw[hxx];exact List.take_succ_eq_append_getElem hm2
   rw[if_pos (by omega),zI,hx,ZB]
   simp only[ZB,Bool.and_true]
   have hdr:(l.drop (m+1))=holds.drop (m+1):=by
    have: ∀z:List qf,z.drop (m+1)=(z.drop m).drop 1:=fun z=>by rw[List.drop_drop]
    rw[this l,this holds,h5]
   by_cases e:kq lo od l[m]=true
   ·rw[if_neg (show¬(!(l[m].Lot==lo&&l[m].Order==od))=true by rw[show(l[m].Lot==lo&&l[m].Order==od)=true from e];decide),ZB]
    simp only
    rw[yf (by omega)]
    refine qqJ (p:=p) hh K n (m+1) l h1 (by omega) (by omega) (by omega) hdr ?_
    rw[htk,List.filter_append,h6]
    simp[e]
   have e':kq lo od l[m]=false:=by simpa using e
   rw[if_pos (show(!(l[m].Lot==lo&&l[m].Order==od))=true by rw[show(l[m].Lot==lo&&l[m].Order==od)=false from e'];rfl),zI,Ya (show n<l.length by omega),ZB,qmC (by omega),ZB,ZB]
   simp only
   rw[yf (by omega),yf (by omega)]
   refine qqJ (p:=p) hh K (n+1) (m+1) (l.set n l[m]) (by simpa using h1) (by omega) (by simp;omega) (by simp;omega) ?_ ?_
   ·rw[List.drop_set_of_lt (by omega),hdr]
   rw[htk,List.filter_append,<-h6,List.take_set,List.take_succ_eq_append_getElem (show n<l.length by omega),List.set_append_right _ _ (by simp;omega)]
   simp[e']
   rw[show n-min n l.length=0 by omega]
   rfl
  rw[if_neg (by omega)]
  have hm':m=holds.length:=by omega
  refine⟨l,n,rfl,h1,by omega,?_⟩
  rw[h6,hm',List.take_length]
theorem del_eq {N:Nat} (hN:2000<N) {a1 a2 a3:Str} {a4:Int} {a5:Bool} {lo od:Str} {a8 a9 a10:Int} {holds:List qf} (hh:holds.length<=300):
 (zg N holds a1 a2 a3 a4 a5 lo od a8 a9 a10=some (.inl ())/\holds.filter (fun x=>!kq lo od x)=holds)\/zg N holds a1 a2 a3 a4 a5 lo od a8 a9 a10=some (.inr (holds.filter fun x=>!kq lo od x)):=by
 unfold zg xk
 rw[ixH2]
 rcases ixH1 hh (⟨⟨a1,a2,a3,a4⟩,a5,⟨lo,od,a8,a9⟩,a10⟩:qa) N 0 (by omega) (by omega)with⟨r1,r2⟩|⟨j,x,r1,r2,r3,r4,r5⟩
 ·rw[show((0:Nat):Int)=0 from rfl]at r1
  rw[r1]
  refine .inl ⟨rfl,List.filter_eq_self.2 fun x hx=>?_⟩
  obtain⟨j,hj,rfl⟩:=List.getElem_of_mem hx
  have:=r2 j _ (Nat.zero_le _) (Ya hj)
  simp only at this
  rw[this];rfl
 rw[show((0:Nat):Int)=0 from rfl]at r1
 rw[r1]
 refine .inr ?_
 simp only[ZB]at r4 r5⊢
 have hj:=(Yb.1 r3).1
 rw[if_neg (by omega),yf (by omega)]
 have hpre:holds.take j=(holds.take (j+1)).filter (fun x=>!kq lo od x):=by
  rw[List.take_succ_eq_append_getElem hj,List.filter_append]
  have e1:(holds.take j).filter (fun x=>!kq lo od x)=holds.take j:=List.filter_eq_self.2 fun y hy=>by
   obtain⟨k,hk,rfl⟩:=List.getElem_of_mem hy
   have hk':k<j:=by simp at hk;omega
   rw[List.getElem_take,r5 k _ (Nat.zero_le _) hk' (Ya (by omega))];rfl
  have e2:holds[j]=x:=by rw[Ya hj]at r3;exact Ye r3
  rw[e1,e2]
  simp[r4]
 obtain⟨l',n',g1,g2,g3,g4⟩:=qqJ (p:=fun _=>true) (a1:=a1) (a2:=a2) (a3:=a3) (a4:=a4) (a5:=a5) (lo:=lo) (od:=od) (a8:=a8) (a9:=a9) (a10:=a10) hh N j (j+1) holds rfl (by omega) (by omega) (by omega) rfl hpre
 rw[g1,ZB]
 simp only
 have hc: ∀k:Nat,k<=holds.length->(qdh l' k (⟨[],[],0,0⟩:qf)).length=holds.length:=fun k hk=>by
  unfold qdh;simp;omega
 have ht:(qdh l' n' (⟨[],[],0,0⟩:qf)).take n'=l'.take n':=by
  unfold qdh
  rw[List.take_append_of_le_length (by simp;omega),List.take_take,Nat.min_self]
 by_cases z:n'=0
 ·subst z
  rw[if_pos (by rfl),if_pos (by omega),ZB,ZB,if_pos (by rw[hc 0 (by omega)];omega),ZB,qgk (Nat.zero_le _),ZB,ht,g4]
 rw[if_neg (by omega),qrf (by omega),ZB,if_pos (by omega),ZB,ZB,if_pos (by rw[hc n' (by omega)];omega),ZB,qgk (by rw[hc n' (by omega)];omega),ZB,ht,g4]
end Go.Av
end
section
namespace Go.Av
open Go.Proofs Go.RowKit
variable [Glob]
theorem qox {N:Nat} (hN:2000<N) (day:Int) {lots:List qB} (holds:List qf) (hl:lots.length<=100) (name:Str):
 (∃(j:Nat) (x:qB),jH N ⟨day,lots,holds⟩ name=some (j:Int)/\lots[j]? =some x/\x.Name=name)\/
 (jH N ⟨day,lots,holds⟩ name=some (-1)/\ ∀(j:Nat) x,lots[j]? =some x->x.Name≠name):=by
 unfold jH
 rcases qsp (name:=name) hl day holds [] 0 0 N 0 (by omega) (by omega)with⟨r1,r2,r3⟩|⟨j,x,r1,r2,r3,r4⟩
 ·rw[show((0:Nat):Int)=0 from rfl]at r2
  rw[r2]
  exact .inr ⟨rfl,fun j x hx=>r3 j x (Nat.zero_le _) hx⟩
 rw[show((0:Nat):Int)=0 from rfl]at r2
 rw[r2]
 exact .inl ⟨j,x,rfl,r3,r4⟩
theorem qoF {day:Int} {lots:List qB} {holds:List qf} (hh:holds.length<=300) (lo od:Str): ∀(K i:Nat),i<=holds.length->holds.length<K+i->
 (jr ⟨day,lots,holds⟩ lo od K (i:Int)=some (.inl ())/\ ∀(j:Nat) x,i<=j->holds[j]? =some x->kq lo od x=false)\/
 (∃(j:Nat) (x:qf),jr ⟨day,lots,holds⟩ lo od K (i:Int)=some (.inr x)/\i<=j/\holds[j]? =some x/\kq lo od x=true/\ ∀(k:Nat) y,i<=k->k<j->holds[k]? =some y->kq lo od y=false)
 |0,i,h,hK=>by omega
 |K+1,i,h,hK=>by
  unfold jr
  simp only
  by_cases hi:i<holds.length
  ·have hx:holds[i]? =some holds[i]:=Ya hi
   rw[if_pos (by omega),zI,hx,ZB]
   generalize holds[i]=x at*
   have hb:((if(x.Lot==lo)=true then some (x.Order==od)else some false:Option Bool))=some (kq lo od x):=by
    unfold kq
    cases(x.Lot==lo)<;>rfl
   rw[hb,ZB]
   by_cases e:kq lo od x=true
   ·rw[if_pos e,ZB]
    exact .inr ⟨i,x,rfl,Nat.le_refl _,hx,e,fun k y h1 h2 _=>by omega⟩
   rw[if_neg e,yf (by omega)]
   have e':kq lo od x=false:=by simpa using e
   have first: ∀(k:Nat) y,k=i->holds[k]? =some y->kq lo od y=false:=fun k y hk hy=>by
    subst hk;rw[hx]at hy;obtain rfl:=Ye hy;exact e'
   rcases qoF hh lo od K (i+1) (by omega) (by omega)with⟨r1,r2⟩|⟨j,y,r1,r2,r3,r4,r5⟩
   ·refine .inl ⟨r1,fun j y hj hy=>?_⟩
    by_cases c:j=i
    ·exact first j y c hy
    exact r2 j y (by omega) hy
   refine .inr ⟨j,y,r1,by omega,r3,r4,fun k z hk hkj hz=>?_⟩
   by_cases c:k=i
   ·exact first k z c hz
   exact r5 k z (by omega) hkj hz
  rw[if_neg (by omega)]
  exact .inl ⟨rfl,fun j x hj hx=>by have:=(Yb.1 hx).1;omega⟩
theorem qkt {N:Nat} (hN:2000<N) (day:Int) (lots:List qB) {holds:List qf} (hh:holds.length<=300) (lo od:Str):yC N ⟨day,lots,holds⟩ lo od=some (ve holds lo od):=by
 unfold yC
 rcases qoF (day:=day) (lots:=lots) hh lo od N 0 (by omega) (by omega)with⟨r1,r2⟩|⟨j,x,r1,r2,r3,r4,r5⟩
 ·rw[show((0:Nat):Int)=0 from rfl]at r1
  rw[r1,qiW fun j x hx=>r2 j x (Nat.zero_le _) hx]
  rfl
 rw[show((0:Nat):Int)=0 from rfl]at r1
 rw[r1,qnp r3 r4 fun k y hk hy=>r5 k y (Nat.zero_le _) hk hy]
 rfl
def grF (nm:Str) (am:Int) (x:qB):qB:=⟨x.Name,x.Yarn,x.Dye,if(x.Name==nm)=true then w64 (x.Stock+am)else x.Stock⟩
def qey (e:qb) (am:Int):Bool->List qB->List qB×Bool
 |put,[]=>([],put)
 |put,x::l=>if(!put&&!(ltL x.Name e.Lot||x.Name==e.Lot))=true then(⟨e.Lot,e.Yarn,e.Dye,am⟩::grF e.Lot am x::(qey e am true l).1,(qey e am true l).2)else(grF e.Lot am x::(qey e am put l).1,(qey e am put l).2)
theorem qmL {day:Int} {lots:List qB} {holds:List qf} (hl:lots.length<=100) (e:qb) (am:Int): ∀(K i:Nat) (acc:List qB) (put:Bool),i<=lots.length->lots.length<K+i->acc.length<=2*i->
 jZ ⟨day,lots,holds⟩ e am K acc put (i:Int)=some (acc++(qey e am put (lots.drop i)).1,(qey e am put (lots.drop i)).2)
 |0,i,acc,put,h,hK,ha=>by omega
 |K+1,i,acc,put,h,hK,ha=>by
  unfold jZ
  simp only
  by_cases hi:i<lots.length
  ·rw[if_pos (by omega),zI,Ya hi,ZB,qbD hi,yf (by omega)]
   generalize lots[i]=x at*
   have hb:((if(!put)=true then some (!(ltL x.Name e.Lot||x.Name==e.Lot))else some false:Option Bool))=some (!put&&!(ltL x.Name e.Lot||x.Name==e.Lot)):=by
    cases put<;>rfl
   have hs:((if(x.Name==e.Lot)=true then some (w64 (x.Stock+am))else some x.Stock:Option Int))=some (if(x.Name==e.Lot)=true then w64 (x.Stock+am)else x.Stock):=by
    split<;>rfl
   rw[hb,ZB,qey]
   by_cases c:(!put&&!(ltL x.Name e.Lot||x.Name==e.Lot))=true
   ·rw[if_pos c,if_pos c,qct (by simp;omega) (by simp;omega),ZB,ZB]
    simp only
    rw[hs,ZB,qct (by simp;omega) (by simp;omega),ZB,qmL hl e am K (i+1) _ true (by omega) (by omega) (by simp;omega)]
    simp[grF,List.append_assoc]
   rw[if_neg c,if_neg c,ZB]
   simp only
   rw[hs,ZB,qct (by simp;omega) (by simp;omega),ZB,qmL hl e am K (i+1) _ put (by omega) (by omega) (by simp;omega)]
   simp[grF,List.append_assoc]
  rw[if_neg (by omega),List.drop_eq_nil_of_le (by omega)]
  simp[qey]
theorem qhY {e:qb} {am:Int}: ∀{l:List qB},qey e am true l=(l.map (grF e.Lot am),true)
 |[]=>rfl
 |x::l=>by
  rw[qey,if_neg (by simp),qhY]
  rfl
theorem qqa {nm:Str} {am:Int}: ∀{lots:List qB} {j:Nat} {x:qB},qnv lots->lots[j]? =some x->x.Name=nm->lots.map (grF nm am)=lots.set j ⟨x.Name,x.Yarn,x.Dye,w64 (x.Stock+am)⟩
 |[],j,x,_,h,_=>by simp at h
 |a::l,0,x,hs,h,e=>by
  simp only[Yj,ZI]at h
  subst h
  have hrest:l.map (grF nm am)=l:=by
   rw[List.map_congr_left (g:=id),List.map_id]
   intro b hb
   have:=(List.pairwise_cons.1 hs).1 b hb
   rw[e]at this
   have hne: ¬(b.Name==nm)=true:=by simpa using fun h:b.Name=nm=>qfG this h.symm
   show(⟨b.Name,b.Yarn,b.Dye,if(b.Name==nm)=true then w64 (b.Stock+am)else b.Stock⟩:qB)=b
   rw[if_neg hne]
  rw[List.map_cons,hrest]
  show grF nm am a::l=_
  unfold grF
  rw[if_pos (by rw[e];exact beq_self_eq_true _)]
  rfl
 |a::l,j+1,x,hs,h,e=>by
  rw[List.getElem?_cons_succ]at h
  have:=(List.pairwise_cons.1 hs).1 x (Yn h)
  rw[e]at this
  have hne: ¬(a.Name==nm)=true:=by simpa using qfG this
  rw[List.map_cons,qqa (List.pairwise_cons.1 hs).2 h e]
  show grF nm am a::_=a::_
  congr 1
  show(⟨a.Name,a.Yarn,a.Dye,if(a.Name==nm)=true then w64 (a.Stock+am)else a.Stock⟩:qB)=a
  rw[if_neg hne]
theorem qlO {e:qb} {am:Int}: ∀{l:List qB},(∀(k:Nat) y,l[k]? =some y->y.Name≠e.Lot)->((qey e am false l).1++if(!(qey e am false l).2)=true then[⟨e.Lot,e.Yarn,e.Dye,am⟩]else[])=yz ⟨e.Lot,e.Yarn,e.Dye,am⟩ l
 |[],_=>rfl
 |x::l,h=>by
  have hne: ¬(x.Name==e.Lot)=true:=by simpa using h 0 x rfl
  have hg:grF e.Lot am x=x:=by
   show(⟨x.Name,x.Yarn,x.Dye,if(x.Name==e.Lot)=true then w64 (x.Stock+am)else x.Stock⟩:qB)=x
   rw[if_neg hne]
  have hid:l.map (grF e.Lot am)=l:=by
   rw[List.map_congr_left (g:=id),List.map_id]
   intro b hb
   obtain⟨k,hk,rfl⟩:=List.getElem_of_mem hb
   have:=h (k+1) l[k] (by rw[List.getElem?_cons_succ];exact Ya hk)
   show(⟨l[k].Name,l[k].Yarn,l[k].Dye,if(l[k].Name==e.Lot)=true then w64 (l[k].Stock+am)else l[k].Stock⟩:qB)=l[k]
   rw[if_neg (by simpa using this)]
  have hne':(x.Name==e.Lot)=false:=by simpa using hne
  simp only[qey,yz,hne',hg,ZF,if_false]
  by_cases c:ltL x.Name e.Lot=true
  ·simp only[c,Bool.true_or,Bool.not_true,Bool.and_false,ZF,if_false,qfD c,List.cons_append]
   rw[qlO fun k y hy=>h (k+1) y hy]
  have c':ltL x.Name e.Lot=false:=by simpa using c
  have c2:ltL e.Lot x.Name=true:=by
   cases z:ltL e.Lot x.Name with
   |true=>rfl
   |false=>exact absurd (qdD _ _ c' z) (h 0 x rfl)
  simp only[c',c2,qhY,hid,Bool.or_self,Bool.not_false,Bool.and_self,if_true,Bool.not_true,ZF,if_false,YQ]
theorem qi0 {N:Nat} (hN:2000<N) (day:Int) {lots:List qB} (holds:List qf) (hl:lots.length<=64) (ok:qc7 lots) (e:qb) (am:Int):
 yD N ⟨day,lots,holds⟩ e am=some ⟨day,yz (match lots.find? (fun x=>x.Name==e.Lot)with|some x=>⟨x.Name,x.Yarn,x.Dye,w64 (x.Stock+am)⟩|none=>⟨e.Lot,e.Yarn,e.Dye,am⟩) lots,holds⟩:=by
 unfold yD
 rcases qox hN day holds (by omega:lots.length<=100) e.Lot with⟨j,x,h1,h2,h3⟩|⟨h1,h2⟩
 ·have:=qmL (day:=day) (holds:=holds) (by omega:lots.length<=100) e am N 0 [] (decide ((j:Int)>=0)) (by omega) (by omega) (by simp)
  rw[show((0:Nat):Int)=0 from rfl,YR,decide_eq_true (by omega),qhY]at this
  rw[h1,ZB,decide_eq_true (by omega),this,ZB]
  simp only[Bool.not_true,ZF,if_false,ZB,List.nil_append]
  rw[qqa ok.srt h2 h3,qmu ok h2 h3]
  simp only
  have hk:=qd3 (x:=(⟨x.Name,x.Yarn,x.Dye,w64 (x.Stock+am)⟩:qB)) (y:=x) ok.srt h2 rfl
  rw[hk]
 have:=qmL (day:=day) (holds:=holds) (by omega:lots.length<=100) e am N 0 [] false (by omega) (by omega) (by simp)
 rw[show((0:Nat):Int)=0 from rfl,YR]at this
 have hg:=qlO (e:=e) (am:=am) h2
 have hlen:((qey e am false lots).1).length<=66:=by
  have h5:=congrArg List.length hg
  rw[Yq]at h5
  have:=qh2 (x:=(⟨e.Lot,e.Yarn,e.Dye,am⟩:qB)) (lots:=lots)
  omega
 rw[h1,ZB,decide_eq_false (by decide),this,ZB]
 simp only[List.nil_append]
 rw[qmI h2]
 simp only
 by_cases c:(!(qey e am false lots).2)=true
 ·rw[if_pos c,qct (by simp;omega) (by simp;omega),ZB,ZB]
  rw[if_pos c]at hg
  rw[hg]
 rw[if_neg c,ZB]
 rw[if_neg c,YQ]at hg
 rw[hg]
def qgX (h:qf):Bool->List qf->List qf×Bool
 |put,[]=>([],put)
 |put,x::l=>if kq h.Lot h.Order x=true then qgX h put l else if(!put&&qeQ h x)=true then(h::x::(qgX h true l).1,(qgX h true l).2)else(x::(qgX h put l).1,(qgX h put l).2)
theorem qoL {day:Int} {lots:List qB} {holds:List qf} (hh:holds.length<=300) (h:qf): ∀(K i:Nat) (acc:List qf) (put:Bool),i<=holds.length->holds.length<K+i->acc.length<=2*i->
 yw ⟨day,lots,holds⟩ h K acc put (i:Int)=some (acc++(qgX h put (holds.drop i)).1,(qgX h put (holds.drop i)).2)
 |0,i,acc,put,hi0,hK,ha=>by omega
 |K+1,i,acc,put,hi0,hK,ha=>by
  unfold yw
  simp only
  by_cases hi:i<holds.length
  ·rw[if_pos (by omega),zI,Ya hi,ZB,qbD hi,yf (by omega)]
   generalize holds[i]=x at*
   have hb:((if(x.Lot==h.Lot)=true then some (x.Order==h.Order)else some false:Option Bool))=some (kq h.Lot h.Order x):=by
    unfold kq
    cases(x.Lot==h.Lot)<;>rfl
   have hc:((if(!put)=true then(qcI x h).bind fun r20=>some r20 else some false:Option Bool))=some (!put&&qeQ h x):=by
    rw[qpl,qj7]
    cases put<;>rfl
   rw[hb,ZB,qgX]
   by_cases c:kq h.Lot h.Order x=true
   ·rw[if_pos c,if_pos c,ZB]
    exact qoL hh h K (i+1) acc put (by omega) (by omega) (by omega)
   rw[if_neg c,if_neg c,hc,ZB]
   by_cases d:(!put&&qeQ h x)=true
   ·rw[if_pos d,if_pos d,qct (by simp;omega) (by simp;omega),ZB,ZB]
    simp only
    rw[qct (by simp;omega) (by simp;omega),ZB,ZB]
    simp only
    rw[qoL hh h K (i+1) _ true (by omega) (by omega) (by simp;omega)]
    simp[List.append_assoc]
   rw[if_neg d,if_neg d,ZB]
   simp only
   rw[qct (by simp;omega) (by simp;omega),ZB,ZB]
   simp only
   rw[qoL hh h K (i+1) _ put (by omega) (by omega) (by simp;omega)]
   simp[List.append_assoc]
  rw[if_neg (by omega),List.drop_eq_nil_of_le (by omega)]
  simp[qgX]
theorem qg8 {h:qf}: ∀{l:List qf},qgX h true l=(l.filter (fun x=>!kq h.Lot h.Order x),true)
 |[]=>rfl
 |x::l=>by
  rw[qgX,List.filter_cons]
  by_cases c:kq h.Lot h.Order x=true
  ·rw[if_pos c,qg8,if_neg (by simp[c])]
  rw[if_neg c,if_neg (by simp),qg8,if_pos (by simpa using c)]
theorem qiS {h:qf}: ∀{l:List qf},((qgX h false l).1++if(!(qgX h false l).2)=true then[h]else[])=qjJ h (l.filter fun x=>!kq h.Lot h.Order x)
 |[]=>rfl
 |x::l=>by
  by_cases c:kq h.Lot h.Order x=true
  ·simp only[qgX,List.filter_cons,c,if_true,Bool.not_true,ZF,if_false]
   exact qiS
  have c':kq h.Lot h.Order x=false:=by simpa using c
  simp only[qgX,List.filter_cons,c',ZF,if_false,Bool.not_false,if_true,qjJ,Bool.true_and]
  by_cases d:qeQ h x=true
  ·simp only[d,if_true,qg8,Bool.not_true,ZF,if_false,YQ]
  have d':qeQ h x=false:=by simpa using d
  simp only[d',ZF,if_false,List.cons_append,qiS (l:=l)]
theorem qkg {N:Nat} (hN:2000<N) (day:Int) (lots:List qB) {holds:List qf} (hh:holds.length<=256) (h:qf):qbz N ⟨day,lots,holds⟩ h=some ⟨day,lots,yI h holds⟩:=by
 unfold qbz yI
 have hz:((if h.Reserved=0 then some (decide (h.Taken=0))else some false:Option Bool))=some (decide (h.Reserved=0/\h.Taken=0)):=by
  by_cases c:h.Reserved=0<;>simp[c]
 rw[hz,ZB]
 have:=qoL (day:=day) (lots:=lots) (by omega:holds.length<=300) h N 0 [] (decide (h.Reserved=0/\h.Taken=0)) (by omega) (by omega) (by simp)
 rw[show((0:Nat):Int)=0 from rfl,YR]at this
 rw[this,ZB]
 simp only[List.nil_append]
 by_cases c:h.Reserved=0/\h.Taken=0
 ·rw[decide_eq_true c,qg8,if_pos c]
  simp
 rw[decide_eq_false c,if_neg c,<-qiS]
 have hlen:((qgX h false holds).1).length<=258:=by
  have h5:=congrArg List.length (qiS (h:=h) (l:=holds))
  rw[Yq,(qdy _ _).length_eq,Yr]at h5
  have:=List.length_filter_le (fun x=>!kq h.Lot h.Order x) holds
  omega
 by_cases d:(!(qgX h false holds).2)=true
 ·rw[if_pos d,if_pos d,qct (by simp;omega) (by simp;omega)]
  rfl
 rw[if_neg d,if_neg d,YQ]
 rfl
end Go.Av
end
section
namespace Go.Av
open Go.Proofs Go.RowKit
variable [Glob]
theorem qjb {n a b:Int} (h:qbJ n a b=false):a<=n/\n<=b:=by
 unfold qbJ at h
 rw[Bool.or_eq_false_iff]at h
 have:=of_decide_eq_false h.1
 have:=of_decide_eq_false h.2
 omega
theorem qmH {n a b:Int} (h:a<=n/\n<=b):qbJ n a b=false:=by
 unfold qbJ
 rw[decide_eq_false (by omega),decide_eq_false (by omega)]
 rfl
theorem qkV {lots:List qB} {holds:List qf} {e:qb}:(yx lots holds e).lot.Name=e.Lot/\(yx lots holds e).hold.Lot=e.Lot/\(yx lots holds e).hold.Order=e.Order:=by
 obtain⟨h1,h2,h3⟩:=qrF (lots:=lots) (holds:=holds) (e:=e)
 unfold yx qbU
 repeat' split
 all_goals exact⟨h1,h2,h3⟩
theorem ql8 {N:Nat} (hN:2000<N) {day:Int} {lots:List qB} {holds:List qf} (o:OKS day lots holds) {e:qb} (k:qga e) (h1:0<=(yx lots holds e).hold.Reserved) (h2:0<=(yx lots holds e).hold.Taken):
 yG N ⟨day,lots,holds⟩ e=some ⟨e.Day,nxL lots holds e,nxH lots holds e⟩:=by
 have hl:lots.length<=100:=by have:=o.ll;omega
 have hh:holds.length<=300:=by have:=o.hl;omega
 obtain⟨k1,k2,k3⟩:=qkV (lots:=lots) (holds:=holds) (e:=e)
 have hacc: ∀{α:Type} (f:Str×Str×Str×Int×Bool×Str×Str×Int×Int×Int->Option α),(((qaO).bind fun r1=>
  if(e.Kind==[114,101,99,101,105,118,101])=true then
  (kw N ⟨day,lots,holds⟩ e).bind fun r3=>
  (qce r3 e.Amount).bind fun r4=>
  some (r4.lot.Name,r4.lot.Yarn,r4.lot.Dye,r4.lot.Stock,r4.known,r4.hold.Lot,r4.hold.Order,r4.hold.Reserved,r4.hold.Taken,r4.free)
  else
  if(e.Kind==[114,101,115,101,114,118,101])=true then
  (kw N ⟨day,lots,holds⟩ e).bind fun r6=>
  (qco r6 e.Amount).bind fun r7=>
  some (r7.lot.Name,r7.lot.Yarn,r7.lot.Dye,r7.lot.Stock,r7.known,r7.hold.Lot,r7.hold.Order,r7.hold.Reserved,r7.hold.Taken,r7.free)
  else
  if(e.Kind==[114,101,108,101,97,115,101])=true then
  (kw N ⟨day,lots,holds⟩ e).bind fun r9=>
  (qcn r9 e.Amount).bind fun r10=>
  some (r10.lot.Name,r10.lot.Yarn,r10.lot.Dye,r10.lot.Stock,r10.known,r10.hold.Lot,r10.hold.Order,r10.hold.Reserved,r10.hold.Taken,r10.free)
  else
  if(e.Kind==[116,97,107,101])=true then
  (kw N ⟨day,lots,holds⟩ e).bind fun r12=>
  (qem r12 e.Amount).bind fun r13=>
  some (r13.lot.Name,r13.lot.Yarn,r13.lot.Dye,r13.lot.Stock,r13.known,r13.hold.Lot,r13.hold.Order,r13.hold.Reserved,r13.hold.Taken,r13.free)
  else
  if(e.Kind==[114,101,116,117,114,110])=true then
  (kw N ⟨day,lots,holds⟩ e).bind fun r15=>
  (qcp r15 e.Amount).bind fun r16=>
  some (r16.lot.Name,r16.lot.Yarn,r16.lot.Dye,r16.lot.Stock,r16.known,r16.hold.Lot,r16.hold.Order,r16.hold.Reserved,r16.hold.Taken,r16.free)
  else
  none:Option (Str×Str×Str×Int×Bool×Str×Str×Int×Int×Int)).bind f)=f ((yx lots holds e).lot.Name,(yx lots holds e).lot.Yarn,(yx lots holds e).lot.Dye,(yx lots holds e).lot.Stock,(yx lots holds e).known,(yx lots holds e).hold.Lot,(yx lots holds e).hold.Order,(yx lots holds e).hold.Reserved,(yx lots holds e).hold.Taken,(yx lots holds e).free):=by
  intro α f
  unfold qaO yx qbU
  rw[qqP hN o e]
  generalize yL lots holds e=a
  rcases k.kind with h|h|h|h|h<;>rw[h]<;>rfl
 unfold yG
 simp only
 rw[hacc]
 simp only
 unfold nxL nxH
 generalize yx lots holds e=b at*
 obtain⟨⟨nm,ya,dy,st⟩,kn,⟨lo,od,rs,tk⟩,fr⟩:=b
 simp only at k1 k2 k3 h1 h2⊢
 subst k1 k2 k3
 have hcl:qgK lots=some ():=by unfold qgK;rw[if_pos (by omega)]
 have hch:qfo holds=some ():=by unfold qfo;rw[if_pos (by omega)]
 rw[hcl,ZB]
 have hlot:((xJ N ⟨e.Day,lots,[]⟩ e.Lot).bind fun r29=>((if r29.2=true then(idx lots r29.1).bind fun x33=>(put lots r29.1 (⟨e.Lot,ya,dy,st⟩:qB)).bind fun l34=>some l34 else(qlo lots r29.1 e.Lot ya dy st).bind fun l36=>some l36:Option (List qB))))=some (yz ⟨e.Lot,ya,dy,st⟩ lots):=by
  rcases qp1 hN e.Day [] hl o.lk e.Lot with⟨j,x,g1,g2,g3⟩|⟨p,g1,g2,g3,g4,g5⟩
  ·rw[g1,ZB]
   simp only[if_true]
   have hj:=(Yb.1 g2).1
   have hk:=qd3 (x:=(⟨e.Lot,ya,dy,st⟩:qB)) (y:=x) o.lk.srt g2 g3
   rw[zI,g2,ZB,qmC hj,ZB,hk]
  rw[g1,ZB]
  simp only[ZF,if_false]
  have hk:=qkl (x:=(⟨e.Lot,ya,dy,st⟩:qB)) g2 g3 g4 g5
  unfold qlo
  rw[if_pos ⟨by omega,by omega,by omega⟩,ZB,hk,Int.toNat_natCast]
 have hsort: ∀{b:Bool},b=decide (¬(rs=0/\tk=0))-> ∀l:List qf,l=holds.filter (fun x=>!kq e.Lot e.Order x)-> ∃l43,((if b=true then(app 48 l [(⟨e.Lot,e.Order,rs,tk⟩:qf)]).bind fun l46=>some l46 else some l:Option (List qf)))=some l43/\l43.length<=1000/\qew qf.Lot qf.Order l43=yI ⟨e.Lot,e.Order,rs,tk⟩ holds:=by
  intro b hb l hlf
  have hlen:l.length<=300:=by
   have:=List.length_filter_le (fun x=>!kq e.Lot e.Order x) holds
   rw[hlf];omega
  by_cases c:rs=0/\tk=0
  ·rw[hb,decide_eq_false (by simpa using c),if_neg (by decide)]
   refine⟨l,rfl,by omega,?_⟩
   unfold yI
   rw[if_pos c,hlf]
   exact qm1 (qip o.hk.srt _) (.refl _)
  rw[hb,decide_eq_true (by simpa using c),if_pos rfl,qct (by simp;omega) (by simp;omega),ZB]
  refine⟨_,rfl,by simp;omega,?_⟩
  unfold yI
  rw[if_neg c,hlf]
  refine qm1 (qkm (qip o.hk.srt _) qeg) ?_
  exact List.perm_append_comm.trans (qdy _ _).symm
 have hb:((if rs>0 then some true else some (decide (tk>0)):Option Bool))=some (decide (¬(rs=0/\tk=0))):=by
  by_cases c:rs>0
  ·rw[if_pos c]
   congr 1
   exact(decide_eq_true (by omega)).symm
  rw[if_neg c]
  congr 1
  exact decide_eq_decide.2 (by omega)
 obtain⟨r,e1,e2⟩:=Option.bind_eq_some_iff.1 hlot
 rw[e1,ZB,e2,ZB,hch,ZB]
 rcases del_eq hN (a1:=e.Lot) (a2:=ya) (a3:=dy) (a4:=st) (a5:=kn) (lo:=e.Lot) (od:=e.Order) (a8:=rs) (a9:=tk) (a10:=fr) hh with⟨g1,g2⟩|g1
 ·rw[g1,ZB]
  simp only
  obtain⟨l43,f1,f2,f3⟩:=hsort rfl holds g2.symm
  rw[hb,ZB,f1,ZB]
  unfold qhe
  rw[if_pos (by omega),ZB,if_pos (qdM _ _ l43).1.symm,ZB,f3]
 rw[g1,ZB]
 simp only
 obtain⟨l43,f1,f2,f3⟩:=hsort rfl _ rfl
 rw[hb,ZB,f1,ZB]
 unfold qg4
 rw[if_pos (by omega),ZB,if_pos (qdM _ _ l43).1.symm,ZB,f3]
theorem ix5 {L:Nat->Int->Option (Unit⊕Int)} {f:Int->Option Bool} (hL: ∀K n,L (K+1) n=if n<5 then(f n).bind fun b=>if b=true then some (.inr n)else L K (w64 (n+1))else some (.inl ())) (K:Nat):
 L (K+6) 0=(f 0).bind fun b0=>if b0=true then some (.inr 0)else(f 1).bind fun b1=>if b1=true then some (.inr 1)else(f 2).bind fun b2=>if b2=true then some (.inr 2)else(f 3).bind fun b3=>if b3=true then some (.inr 3)else(f 4).bind fun b4=>if b4=true then some (.inr 4)else some (.inl ()):=by
 have e1:w64 (0+1)=1:=by decide
 have e2:w64 (1+1)=2:=by decide
 have e3:w64 (2+1)=3:=by decide
 have e4:w64 (3+1)=4:=by decide
 have e5:w64 (4+1)=5:=by decide
 rw[hL (K+5),if_pos (by decide),e1,hL (K+4),if_pos (by decide),e2,hL (K+3),if_pos (by decide),e3,hL (K+2),if_pos (by decide),e4,hL (K+1),if_pos (by decide),e5,hL K,if_neg (by decide)]
def rul (b0 b1 b2 b3 b4:Option Bool):Option Int:=
 b0.bind fun x0=>if x0=true then some 1 else b1.bind fun x1=>if x1=true then some 2 else b2.bind fun x2=>if x2=true then some 3 else b3.bind fun x3=>if x3=true then some 4 else b4.bind fun x4=>if x4=true then some 5 else some 0
theorem qs5 {b0 b1 b2 b3 b4:Option Bool}:((b0.bind fun b0=>if b0=true then some (.inr 0)else b1.bind fun b1=>if b1=true then some (.inr 1)else b2.bind fun b2=>if b2=true then some (.inr 2)else b3.bind fun b3=>if b3=true then some (.inr 3)else b4.bind fun b4=>if b4=true then some (.inr 4)else some (.inl ()):Option (Unit⊕Int)).bind (fun
 |(.inl ())=>some (-1)
 |(.inr q18)=>some q18)).bind (fun r1=>some (w64 (1+r1)))=rul b0 b1 b2 b3 b4:=by
 unfold rul
 have e0:w64 (1+ -1)=0:=by decide
 have e1:w64 (1+0)=1:=by decide
 have e2:w64 (1+1)=2:=by decide
 have e3:w64 (1+2)=3:=by decide
 have e4:w64 (1+3)=4:=by decide
 have e5:w64 (1+4)=5:=by decide
 rcases b0 with _|_|_<;>try rfl
 rcases b1 with _|_|_<;>try rfl
 rcases b2 with _|_|_<;>try rfl
 rcases b3 with _|_|_<;>try rfl
 rcases b4 with _|_|_<;>rfl
theorem qeo {N:Nat} (hN:2000<N) {L:Nat->Int->Option (Unit⊕Int)} {b0 b1 b2 b3 b4:Option Bool} (hL: ∀K n,L (K+1) n=if n<5 then(if n=0 then b0.bind fun r=>some r else if n=1 then b1.bind fun r=>some r else if n=2 then b2.bind fun r=>some r else if n=3 then b3.bind fun r=>some r else if n=4 then b4.bind fun r=>some r else none:Option Bool).bind fun b=>if b=true then some (.inr n)else L K (w64 (n+1))else some (.inl ())):
 ((L N 0).bind (fun
 |(.inl ())=>some (-1)
 |(.inr q18)=>some q18)).bind (fun r1=>some (w64 (1+r1)))=rul b0 b1 b2 b3 b4:=by
 obtain⟨K,rfl⟩: ∃K,N=K+6:=⟨N-6,by omega⟩
 have hs: ∀b:Option Bool,(b.bind fun r=>some r)=b:=fun b=>by cases b<;>rfl
 simp only[hs]at hL
 rw[ix5 hL]
 exact qs5
theorem qfB {lots:List qB} {holds:List qf} (hk:qcZ lots holds) {x:qf} (hx:x∈holds):knB lots x.Lot=true/\jL x.Order=true/\(0<=x.Reserved/\x.Reserved<=999999999)/\(0<=x.Taken/\x.Taken<=999999999)/\ ¬(x.Reserved=0/\x.Taken=0):=by
 obtain⟨j,hj,rfl⟩:=List.getElem_of_mem hx
 obtain⟨h1,h2,h3,h4,h5,h6⟩:=qfT (hk j _ (Ya hj))
 exact⟨h1,h2,qjb h4,qjb h5,h6⟩
theorem qoq {p:Option qB} {x:qB} (h:qje p x=0):jL x.Name=true/\jL x.Yarn=true/\qfZ x.Dye=true/\qjH p x=false/\0<=x.Stock/\x.Stock<=999999999:=by
 unfold qje at h
 cases n1:jL x.Name<;>cases n2:jL x.Yarn<;>cases n3:qfZ x.Dye<;>cases n4:qjH p x<;>cases n5:qbJ x.Stock 0 999999999<;>rw[n1,n2,n3,n4,n5]at h<;>first|(exact absurd h (by decide))|exact⟨rfl,rfl,rfl,rfl,qjb n5⟩
theorem qis {lots:List qB} (ok:qc7 lots) {x:qB} (hx:x∈lots):jL x.Name=true/\jL x.Yarn=true/\qfZ x.Dye=true/\0<=x.Stock/\x.Stock<=999999999:=by
 obtain⟨j,hj,rfl⟩:=List.getElem_of_mem hx
 obtain⟨h1,h2,h3,_,h5⟩:=qoq (ok j _ (Ya hj))
 exact⟨h1,h2,h3,h5⟩
theorem qkW {lots:List qB} {holds:List qf} (hk:qcZ lots holds) (lo od:Str):(0<=(ve holds lo od).Reserved/\(ve holds lo od).Reserved<=999999999)/\(0<=(ve holds lo od).Taken/\(ve holds lo od).Taken<=999999999):=by
 rcases qlW (holds:=holds) (lo:=lo) (od:=od)with h|h
 ·exact⟨(qfB hk h).2.2.1,(qfB hk h).2.2.2.1⟩
 rw[h];exact⟨⟨Int.le_refl _,(by decide:(0:Int)<=999999999)⟩,Int.le_refl _,(by decide:(0:Int)<=999999999)⟩
theorem qjA {lots:List qB} {holds:List qf} {e:qb}:(yL lots holds e).hold=ve holds e.Lot e.Order:=by
 unfold yL
 split<;>rfl
theorem qnT {day:Int} {lots:List qB} {holds:List qf} (o:OKS day lots holds) {e:qb} (k:qga e) (hf:qdj e.Kind (yL lots holds e) e.Amount=true):0<=(yx lots holds e).hold.Reserved/\0<=(yx lots holds e).hold.Taken:=by
 have hin:=qkW o.hk e.Lot e.Order
 have ham:=qjb k.am
 unfold yx qbU
 unfold qdj at hf
 rw[<-qjA (lots:=lots)]at hin
 generalize yL lots holds e=a at*
 rcases k.kind with h|h|h|h|h<;>rw[h]at hf⊢
 ·rw[if_pos rfl]
  exact⟨hin.1.1,hin.2.1⟩
 ·rw[if_neg (by decide),if_pos rfl]
  refine⟨?_,hin.2.1⟩
  show 0<=w64 _
  rw[xU (by omega) (by omega)];omega
 ·rw[if_neg (by decide),if_neg (by decide),if_pos rfl]
  rw[if_neg (by decide),if_neg (by decide),if_pos rfl]at hf
  have hf:e.Amount<=a.hold.Reserved:=of_decide_eq_true hf
  refine⟨?_,hin.2.1⟩
  show 0<=w64 _
  rw[xU (n:=0-e.Amount) (by omega) (by omega),xU (by omega) (by omega)];omega
 ·rw[if_neg (by decide),if_neg (by decide),if_neg (by decide),if_pos rfl]
  refine⟨?_,?_⟩
  ·show(0:Int)<=(if w64 (a.hold.Reserved-e.Amount)>0 then w64 (a.hold.Reserved-e.Amount)else 0)
   split<;>omega
  show 0<=w64 _
  rw[xU (by omega) (by omega)];omega
 rw[if_neg (by decide),if_neg (by decide),if_neg (by decide),if_neg (by decide)]
 rw[if_neg (by decide),if_neg (by decide),if_neg (by decide),if_neg (by decide)]at hf
 have hf:e.Amount<=a.hold.Taken:=of_decide_eq_true hf
 refine⟨hin.1.1,?_⟩
 show 0<=w64 _
 rw[xU (by omega) (by omega)];omega
theorem qrb {N:Nat} (hN:2000<N) {day:Int} {lots:List qB} {holds:List qf} (o:OKS day lots holds) {e:qb} (k:qga e):qa2 N ⟨day,lots,holds⟩ e=some (qgQ day lots holds e):=by
 have key: ∀{b3:Option Bool},b3=some (!decide ((if(yx lots holds e).hold.Taken>(yx lots holds e).lot.Stock then(yx lots holds e).hold.Taken else(yx lots holds e).lot.Stock)<=999999999))->
  rul (jM e ⟨day,lots,holds⟩) (zV e (yL lots holds e)) (some (!qdj e.Kind (yL lots holds e) e.Amount)) b3 (jK N ⟨day,lots,holds⟩ e)=some (qgQ day lots holds e):=by
  intro b3 hb3
  have h0:jM e ⟨day,lots,holds⟩=some (!decide (e.Day>=day)):=rfl
  have h1:zV e (yL lots holds e)=some (!qdk e (yL lots holds e)):=by
   unfold zV qah qdk
   generalize yL lots holds e=a
   by_cases c:e.Kind=knR
   ·rw[if_pos c,c]
    cases a.known<;>cases(a.lot.Yarn==e.Yarn)<;>rfl
   rw[if_neg c,if_pos (by simpa using c)]
   rfl
  rw[h0,h1,hb3]
  unfold rul qgQ
  simp only[ZB]
  by_cases c0:e.Day<day
  ·rw[if_pos c0,decide_eq_false (by omega),if_pos (by rfl)]
  rw[if_neg c0,decide_eq_true (by omega),if_neg (by decide)]
  by_cases c1:qdk e (yL lots holds e)=false
  ·rw[if_pos c1,c1,if_pos (by rfl)]
  rw[if_neg c1,if_neg (by simpa using c1)]
  by_cases c2:qdj e.Kind (yL lots holds e) e.Amount=false
  ·rw[if_pos c2,c2,if_pos (by rfl)]
  rw[if_neg c2,if_neg (by simpa using c2)]
  by_cases c3:999999999<(yx lots holds e).lot.Stock\/999999999<(yx lots holds e).hold.Taken
  ·rw[if_pos c3,decide_eq_false (by split<;>omega),if_pos (by rfl)]
  rw[if_neg c3,decide_eq_true (by split<;>omega),if_neg (by decide)]
  obtain⟨n1,n2⟩:=qnT o k (by simpa using c2)
  unfold jK qaf
  rw[ql8 hN o k n1 n2]
  simp only[ZB]
  by_cases c4:64<(nxL lots holds e).length
  ·rw[if_pos (show 64<(nxL lots holds e).length\/256<(nxH lots holds e).length from .inl c4),if_neg (show¬((nxL lots holds e).length:Int)<=64 by omega)]
   rfl
  rw[if_pos (show((nxL lots holds e).length:Int)<=64 by omega)]
  simp only[ZB]
  by_cases c5:256<(nxH lots holds e).length
  ·rw[if_pos (show 64<(nxL lots holds e).length\/256<(nxH lots holds e).length from .inr c5),decide_eq_false (by omega)]
   rfl
  rw[if_neg (show¬(64<(nxL lots holds e).length\/256<(nxH lots holds e).length)by omega),decide_eq_true (by omega)]
  rfl
 unfold qa2
 rw[qqP hN o e,ZB]
 unfold qaO
 simp only[ZB]
 have hs: ∀b:Option Int,(b.bind fun r=>some r)=b:=fun b=>by cases b<;>rfl
 simp only[hs]
 unfold qdj yx qbU at key
 rcases k.kind with h|h|h|h|h<;>rw[h]at key⊢
 ·rw[if_pos (by rfl)]
  refine Eq.trans ?_ (key rfl)
  unfold qdd xq
  rw[if_pos rfl]
  exact qeo hN (fun K n=>by rw[zO];rfl)
 ·rw[if_neg (by decide),if_pos (by rfl)]
  refine Eq.trans ?_ (key rfl)
  unfold qcY xc
  rw[if_neg (by decide),if_pos rfl]
  exact qeo hN (fun K n=>by rw[zQ];rfl)
 ·rw[if_neg (by decide),if_neg (by decide),if_pos (by rfl)]
  refine Eq.trans ?_ (key rfl)
  unfold qcQ y9
  rw[if_neg (by decide),if_neg (by decide),if_pos rfl]
  exact qeo hN (fun K n=>by rw[zK];rfl)
 ·rw[if_neg (by decide),if_neg (by decide),if_neg (by decide),if_pos (by rfl)]
  refine Eq.trans ?_ (key rfl)
  unfold qcP xn
  rw[if_neg (by decide),if_neg (by decide),if_neg (by decide),if_pos rfl]
  exact qeo hN (fun K n=>by rw[zM];rfl)
 rw[if_neg (by decide),if_neg (by decide),if_neg (by decide),if_neg (by decide),if_pos (by rfl)]
 refine Eq.trans ?_ (key rfl)
 unfold qcO xe
 rw[if_neg (by decide),if_neg (by decide),if_neg (by decide),if_neg (by decide)]
 exact qeo hN (fun K n=>by rw[zN];rfl)
end Go.Av
end
section
namespace Go.Av
open Go.Proofs Go.RowKit
variable [Glob]
theorem qrC {s:Str} (h:jL s=true):s≠[]:=fun e=>by rw[e]at h;cases h
theorem qmO {lots:List qB} {holds:List qf} (hk:qcZ lots holds) {x:qf} (hx:x∈holds) (lo:Str):kq lo [] x=false:=by
 cases c:kq lo [] x with
 |false=>rfl
 |true=>exact absurd (qie.1 c).2 (qrC (qfB hk hx).2.1)
theorem qkY {lots:List qB} {holds:List qf} (hk:qcZ lots holds) (lo:Str):ve holds lo []=⟨lo,[],0,0⟩:=
 qiW fun j x hx=>qmO hk (Yn hx) lo
theorem qmc {lots:List qB} (ok:qc7 lots) (holds:List qf) {e:qb} {j:Nat} {x:qB} (hx:lots[j]? =some x) (hn:x.Name=e.Lot):yL lots holds e=⟨x,true,ve holds e.Lot e.Order,frE holds x⟩:=by
 unfold yL
 rw[qmu ok hx hn]
theorem qoP {lots:List qB} (holds:List qf) {e:qb} (h: ∀(j:Nat) x,lots[j]? =some x->x.Name≠e.Lot):yL lots holds e=⟨⟨e.Lot,e.Yarn,e.Dye,0⟩,false,ve holds e.Lot e.Order,0⟩:=by
 unfold yL
 rw[qmI h]
theorem qjF {lots:List qB} (ok:qc7 lots) {j:Nat} {x:qB} (hx:lots[j]? =some x):yz x lots=lots:=by
 rw[qd3 ok.srt hx rfl]
 obtain⟨hj,rfl⟩:=Yb.1 hx
 exact List.set_getElem_self hj
theorem qoT {a n:Int} (ha:0<=a/\a<=999999999) (hn:1<=n/\n<=999999999):w64 (a+w64 (0-n))=w64 (a-n):=by
 rw[xU (n:=0-n) (by omega) (by omega)]
 congr 1
 omega
theorem qnV {lots:List qB} {holds:List qf} {e:qb} (h:(yL lots holds e).known=true): ∃x,lots.find? (fun x=>x.Name==e.Lot)=some x:=by
 unfold yL at h
 cases c:lots.find? (fun x=>x.Name==e.Lot)with
 |some x=>exact⟨x,rfl⟩
 |none=>rw[c]at h;cases h
theorem qoS {lots:List qB} {nm:Str} {x:qB} (h:lots.find? (fun x=>x.Name==nm)=some x): ∃j:Nat,lots[j]? =some x/\x.Name=nm:=by
 obtain⟨h1,j,hj,h2,_⟩:=List.find?_eq_some_iff_getElem.1 h
 exact⟨j,by rw[<-h2];exact Ya hj,by simpa using h1⟩
theorem qnE {N:Nat} (hN:2000<N) {day:Int} {lots:List qB} {holds:List qf} (o:OKS day lots holds) {e:qb} (k:qga e) (hkn:e.Kind≠knR->(yL lots holds e).known=true):
 qbW N ⟨day,lots,holds⟩ e=some ⟨e.Day,nxL lots holds e,nxH lots holds e⟩:=by
 have hh:holds.length<=300:=by have:=o.hl;omega
 have ham:=qjb k.am
 unfold qbW
 by_cases c:e.Kind=knR
 ·rw[if_pos (by rw[c];rfl),qi0 hN e.Day holds o.ll o.lk,ZB]
  unfold nxL nxH yx qbU
  rw[if_pos c]
  have ho:=(k.rc c).2.2
  have h1:yI (yL lots holds e).hold holds=holds:=by
   rw[qjA,ho,qkY o.hk]
   unfold yI
   rw[if_pos ⟨rfl,rfl⟩]
   exact List.filter_eq_self.2 fun x hx=>by rw[qmO o.hk hx];rfl
  simp only
  rw[h1]
  congr 2
  congr 1
  unfold yL
  cases hf:lots.find? (fun x=>x.Name==e.Lot)with
  |some x=>rfl
  |none=>
   show(⟨e.Lot,e.Yarn,e.Dye,e.Amount⟩:qB)=⟨e.Lot,e.Yarn,e.Dye,w64 (0+e.Amount)⟩
   rw[xU (by omega) (by omega),Int.zero_add]
 rw[if_neg (by simpa using c)]
 simp only
 rw[qkt hN e.Day lots hh,ZB]
 obtain⟨x,hx⟩:=qnV (hkn c)
 obtain⟨j,hj,hn⟩:=qoS hx
 have hin:=qkW o.hk e.Lot e.Order
 have hk:=qek (holds:=holds) (lo:=e.Lot) (od:=e.Order)
 have hst:=(qis o.lk (Yn hj)).2.2.2
 unfold nxL nxH yx
 rw[qmc o.lk holds hj hn]
 unfold qbU
 rw[if_neg c]
 generalize ve holds e.Lot e.Order=H at*
 rcases k.kind with h|h|h|h|h
 ·exact absurd h c
 ·rw[h,if_pos (by rfl),if_pos rfl,ZB]
  simp only
  rw[qkg hN e.Day lots o.hl,ZB,qjF o.lk hj]
 ·rw[h,if_neg (by decide),if_pos (by rfl),if_neg (show¬knL=knV by decide),if_pos rfl,ZB]
  simp only
  rw[qkg hN e.Day lots o.hl,ZB,qjF o.lk hj,qoT hin.1 ham]
 ·rw[h,if_neg (by decide),if_neg (by decide),if_pos (by rfl),if_neg (show¬knT=knV by decide),if_neg (show¬knT=knL by decide),if_pos rfl,qi0 hN e.Day holds o.ll o.lk,hx,ZB,ZB]
  simp only
  rw[qkg hN e.Day _ o.hl,ZB,qoT hst ham]
 rw[h,if_neg (by decide),if_neg (by decide),if_neg (by decide),if_neg (show¬knU=knV by decide),if_neg (show¬knU=knL by decide),if_neg (show¬knU=knT by decide),qi0 hN e.Day holds o.ll o.lk,hx,ZB,ZB]
 simp only
 rw[qkg hN e.Day _ o.hl,ZB]
theorem qlV {lots:List qB} (hs:qnv lots) {i j:Nat} {x y:qB} (hx:lots[i]? =some x) (hy:lots[j]? =some y) (e:x.Name=y.Name):x=y:=by
 obtain⟨hi,rfl⟩:=Yb.1 hx
 obtain⟨hj,rfl⟩:=Yb.1 hy
 have key:=List.pairwise_iff_getElem.1 hs
 rcases Nat.lt_trichotomy i j with c|c|c
 ·exact absurd e (qfG (key i j hi hj c))
 ·subst c;rfl
 exact absurd e.symm (qfG (key j i hj hi c))
theorem qlD {h:qf}: ∀{l:List qf},(∀x∈l,kq h.Lot h.Order x=false)->(qjJ h l).find? (kq h.Lot h.Order)=some h
 |[],_=>by
  rw[qjJ,List.find?_cons,qie.2 ⟨rfl,rfl⟩]
 |y::l,hk=>by
  rw[qjJ]
  split
  ·rw[List.find?_cons,qie.2 ⟨rfl,rfl⟩]
  rw[List.find?_cons,hk y List.mem_cons_self]
  exact qlD fun x hx=>hk x (List.mem_cons_of_mem _ hx)
theorem qpp {h:qf} {holds:List qf}:(ve (yI h holds) h.Lot h.Order).Taken=h.Taken/\(ve (yI h holds) h.Lot h.Order).Reserved=h.Reserved:=by
 unfold yI
 by_cases c:h.Reserved=0/\h.Taken=0
 ·rw[if_pos c,qiW fun j x hx=>qeg x (Yn hx)]
  exact⟨c.2.symm,c.1.symm⟩
 rw[if_neg c]
 unfold ve
 rw[qlD qeg]
 exact⟨rfl,rfl⟩
theorem qpT {N:Nat} (hN:2000<N) {day:Int} {lots:List qB} {holds:List qf} (o:OKS day lots holds) {e:qb} (k:qga e):qdR N ⟨day,lots,holds⟩ e=some (qgQ day lots holds e):=by
 have hl:lots.length<=100:=by have:=o.ll;omega
 have hh:holds.length<=300:=by have:=o.hl;omega
 unfold qdR qgQ
 simp only
 by_cases c0:e.Day<day
 ·rw[if_pos c0,if_pos c0]
 rw[if_neg c0,if_neg c0]
 have last:(e.Kind≠knR->(yL lots holds e).known=true)->((qbW N ⟨day,lots,holds⟩ e).bind fun r40=>
  (jH N r40 e.Lot).bind fun r41=>
  ((idx r40.Lots r41).bind fun x42=>
  if x42.Stock>999999999 then
  some true
  else
  (yC N r40 e.Lot e.Order).bind fun r44=>
  some (decide (r44.Taken>999999999)):Option Bool).bind fun b45=>
  if b45=true then
  some 4
  else
  (if(r40.Lots.length:Int)>64 then
  some true
  else
  some (decide ((r40.Holds.length:Int)>256)):Option Bool).bind fun b49=>
  if b49=true then
  some 5
  else
  some (0:Int))=some (if 999999999<(yx lots holds e).lot.Stock\/999999999<(yx lots holds e).hold.Taken then 4 else if 64<(nxL lots holds e).length\/256<(nxH lots holds e).length then 5 else 0):=by
  intro hkn
  obtain⟨k1,k2,k3⟩:=qkV (lots:=lots) (holds:=holds) (e:=e)
  have hnl:(nxL lots holds e).length<=100:=by
   have:=qh2 (x:=(yx lots holds e).lot) (lots:=lots)
   have:=o.ll
   unfold nxL;omega
  have hnh:(nxH lots holds e).length<=300:=by
   have:=qns (h:=(yx lots holds e).hold) (holds:=holds)
   have:=o.hl
   unfold nxH;omega
  rw[qnE hN o k hkn,ZB]
  obtain⟨j0,hj0⟩:=qfh (x:=(yx lots holds e).lot) (lots:=lots)
  rcases qox hN e.Day (nxH lots holds e) hnl e.Lot with⟨j,x,h1,h2,h3⟩|⟨h1,h2⟩
  ·have hx:x=(yx lots holds e).lot:=qlV (qhV o.lk.srt) h2 hj0 (h3.trans k1.symm)
   subst hx
   rw[h1,ZB]
   simp only
   rw[zI,h2,ZB,qkt hN e.Day _ hnh,ZB]
   have ht:=(qpp (h:=(yx lots holds e).hold) (holds:=holds)).1
   rw[k2,k3]at ht
   rw[show ve (nxH lots holds e) e.Lot e.Order=ve (yI (yx lots holds e).hold holds) e.Lot e.Order from rfl,ht]
   by_cases c1:999999999<(yx lots holds e).lot.Stock
   ·rw[if_pos (show(yx lots holds e).lot.Stock>999999999 from c1),ZB,if_pos rfl,if_pos (.inl c1)]
   rw[if_neg (show¬(yx lots holds e).lot.Stock>999999999 from c1),ZB]
   by_cases c2:999999999<(yx lots holds e).hold.Taken
   ·rw[decide_eq_true (show(yx lots holds e).hold.Taken>999999999 from c2),if_pos rfl,if_pos (.inr c2)]
   rw[decide_eq_false (show¬(yx lots holds e).hold.Taken>999999999 from c2),if_neg (by decide),if_neg (show¬(999999999<(yx lots holds e).lot.Stock\/999999999<(yx lots holds e).hold.Taken)by omega)]
   by_cases c3:64<(nxL lots holds e).length
   ·rw[if_pos (show((nxL lots holds e).length:Int)>64 by omega),ZB,if_pos rfl,if_pos (.inl c3)]
   rw[if_neg (show¬((nxL lots holds e).length:Int)>64 by omega),ZB]
   by_cases c4:256<(nxH lots holds e).length
   ·rw[decide_eq_true (show((nxH lots holds e).length:Int)>256 by omega),if_pos rfl,if_pos (.inr c4)]
   rw[decide_eq_false (show¬((nxH lots holds e).length:Int)>256 by omega),if_neg (by decide),if_neg (show¬(64<(nxL lots holds e).length\/256<(nxH lots holds e).length)by omega)]
  exact absurd k1 (h2 j0 _ hj0)
 have second: ∀{α:Type} {q:Option (Unit⊕Int)} (f:Unit⊕Int->Option Int),q=some (.inl ())->q.bind f=f (.inl ()):=fun f h=>by rw[h];rfl
 rcases qox hN day holds hl e.Lot with⟨j,x,h1,h2,h3⟩|⟨h1,h2⟩
 ·rw[h1,ZB]
  have ha:=qmc o.lk holds h2 h3
  have hst:=(qis o.lk (Yn h2)).2.2.2
  have last:=last (fun _=>by rw[ha])
  by_cases c:e.Kind=knR
  ·rw[if_pos (by rw[c];rfl),if_pos (show(j:Int)>=0 by omega),zI,h2,ZB]
   have hr:qdk e (yL lots holds e)=(x.Yarn==e.Yarn&&x.Dye==e.Dye):=by
    unfold qdk
    rw[if_pos c,ha]
    rfl
   have hf:qdj e.Kind (yL lots holds e) e.Amount=true:=by
    unfold qdj
    rw[if_pos c]
   have hb:((if(!(x.Yarn==e.Yarn))=true then some true else some (!(x.Dye==e.Dye)):Option Bool))=some (!(x.Yarn==e.Yarn&&x.Dye==e.Dye)):=by
    cases(x.Yarn==e.Yarn)<;>rfl
   rw[hb,ZB,hr,hf]
   cases hq:(x.Yarn==e.Yarn&&x.Dye==e.Dye)with
   |false=>rfl
   |true=>
    rw[if_neg (by decide),ZB,if_neg (by decide),if_neg (by decide)]
    exact last
  have hr:qdk e (yL lots holds e)=true:=by
   unfold qdk
   rw[if_neg c,ha]
  rw[if_neg (by simpa using c),if_neg (show¬(j:Int)<0 by omega),qkt hN day lots hh,ZB,qp5 hN hh day h2 (qmH hst),ZB,hr]
  have hf:qdj e.Kind (yL lots holds e) e.Amount=(if e.Kind=knV then decide (e.Amount<=frE holds x)else if e.Kind=knL then decide (e.Amount<=(ve holds e.Lot e.Order).Reserved)else if e.Kind=knT then decide (e.Amount<=w64 (frE holds x+(ve holds e.Lot e.Order).Reserved))else decide (e.Amount<=(ve holds e.Lot e.Order).Taken)):=by
   unfold qdj
   rw[if_neg c,ha]
  rw[if_neg (show¬(true=false)by decide)]
  have fin: ∀{q:Option Bool},q=some (!qdj e.Kind (yL lots holds e) e.Amount)-> ∀{F:Unit⊕Int->Option Int},F (.inl ())=some (if 999999999<(yx lots holds e).lot.Stock\/999999999<(yx lots holds e).hold.Taken then 4 else if 64<(nxL lots holds e).length\/256<(nxH lots holds e).length then 5 else 0)->F (.inr 3)=some 3->
   (q.bind fun b37=>if b37=true then some (.inr 3)else some (.inl ())).bind F=some (if qdj e.Kind (yL lots holds e) e.Amount=false then 3 else if 999999999<(yx lots holds e).lot.Stock\/999999999<(yx lots holds e).hold.Taken then 4 else if 64<(nxL lots holds e).length\/256<(nxH lots holds e).length then 5 else 0):=by
   intro q hq F f1 f2
   rw[hq,ZB]
   cases hz:qdj e.Kind (yL lots holds e) e.Amount with
   |false=>
    rw[if_pos (show(!false)=true from rfl),ZB,f2,if_pos rfl]
   |true=>
    rw[if_neg (by decide),ZB,f1,if_neg (show¬(true=false)by decide)]
  refine fin ?_ last rfl
  rw[hf]
  have dn: ∀{a b:Int},decide (a>b)=!decide (a<=b):=fun {a b}=>by
   by_cases h:a<=b
   ·rw[decide_eq_true h,decide_eq_false (by omega)];rfl
   rw[decide_eq_false h,decide_eq_true (by omega)];rfl
  have it: ∀{a b:Int},(if a>b then some true else some false:Option Bool)=some (!decide (a<=b)):=fun {a b}=>by
   by_cases h:a>b
   ·rw[if_pos h,decide_eq_false (by omega)];rfl
   rw[if_neg h,decide_eq_true (by omega)];rfl
  rcases k.kind with h|h|h|h|h
  ·exact absurd h c
  ·rw[h,if_pos rfl,if_pos (show(knV==[114,101,115,101,114,118,101])=true from rfl),if_neg (show¬(knV==[114,101,108,101,97,115,101])=true by decide),if_neg (show¬(knV==[116,97,107,101])=true by decide),if_neg (show¬(knV==[114,101,116,117,114,110])=true by decide),it]
  ·rw[h,if_neg (show¬knL=knV by decide),if_pos rfl,if_neg (show¬(knL==[114,101,115,101,114,118,101])=true by decide),if_pos (show(knL==[114,101,108,101,97,115,101])=true from rfl),if_neg (show¬(knL==[116,97,107,101])=true by decide),if_neg (show¬(knL==[114,101,116,117,114,110])=true by decide),it]
  ·rw[h,if_neg (show¬knT=knV by decide),if_neg (show¬knT=knL by decide),if_pos rfl,if_neg (show¬(knT==[114,101,115,101,114,118,101])=true by decide),if_neg (show¬(knT==[114,101,108,101,97,115,101])=true by decide),if_pos (show(knT==[116,97,107,101])=true from rfl),if_neg (show¬(knT==[114,101,116,117,114,110])=true by decide),it]
  rw[h,if_neg (show¬knU=knV by decide),if_neg (show¬knU=knL by decide),if_neg (show¬knU=knT by decide),if_neg (show¬(knU==[114,101,115,101,114,118,101])=true by decide),if_neg (show¬(knU==[114,101,108,101,97,115,101])=true by decide),if_neg (show¬(knU==[116,97,107,101])=true by decide),if_pos (show(knU==[114,101,116,117,114,110])=true from rfl),dn]
 rw[h1,ZB]
 have ha:=qoP holds h2
 by_cases c:e.Kind=knR
 ·have last:=last (fun h=>absurd c h)
  have hr:qdk e (yL lots holds e)=true:=by
   unfold qdk
   rw[if_pos c,ha]
   rfl
  have hf:qdj e.Kind (yL lots holds e) e.Amount=true:=by
   unfold qdj
   rw[if_pos c]
  rw[if_pos (by rw[c];rfl),if_neg (by decide),ZB,if_neg (by decide),ZB,hr,hf,if_neg (by decide),if_neg (by decide)]
  exact last
 have hr:qdk e (yL lots holds e)=false:=by
  unfold qdk
  rw[if_neg c,ha]
 rw[if_neg (by simpa using c),if_pos (by decide),ZB,hr,if_pos rfl]
end Go.Av
end
section
namespace Go.Av
open Go.Proofs Go.RowKit
variable [Glob]
def qgy (e:qb):Bool:=e.Kind==knR||(e.Kind==knV||(e.Kind==knL||(e.Kind==knT||e.Kind==knU)))
def qk1 (e:qb):Int:=
 if qgy e=false then 13 else if(qbJ e.Day 0 99999||qbJ e.Amount 1 999999999)=true then 3 else if jL e.Lot=false then 8
 else if e.Kind=knR then(if(jL e.Yarn&&qfZ e.Dye)=false then 8 else if e.Order=[]then 0 else 1)
 else(if jL e.Order=false then 8 else if(e.Yarn==[]&&e.Dye==[])=true then 0 else 1)
def ShE (e:qb):Prop:=e.Kind.length<=60/\e.Lot.length<=60/\e.Yarn.length<=60/\e.Dye.length<=60/\e.Order.length<=60
theorem qsQ (e:qb): ∃b,qa1 e=some b/\(b=true->ShE e):=by
 unfold qa1 ShE
 repeat' split
 all_goals (refine⟨_,rfl,fun h=>?_⟩)
 all_goals first|(exact absurd h (by decide))|(have:=of_decide_eq_true h;omega)
theorem qi9 {e:qb}:qgy e=true↔e.Kind=knR\/e.Kind=knV\/e.Kind=knL\/e.Kind=knT\/e.Kind=knU:=by
 simp[qgy]
theorem qlL {e:qb}:qk1 e=0↔qga e:=by
 unfold qk1
 constructor
 ·intro h
  by_cases c1:qgy e=false
  ·rw[if_pos c1]at h;cases h
  rw[if_neg c1]at h
  by_cases c2:(qbJ e.Day 0 99999||qbJ e.Amount 1 999999999)=true
  ·rw[if_pos c2]at h;cases h
  rw[if_neg c2]at h
  by_cases c3:jL e.Lot=false
  ·rw[if_pos c3]at h;cases h
  rw[if_neg c3]at h
  have c2':qbJ e.Day 0 99999=false/\qbJ e.Amount 1 999999999=false:=by simpa using c2
  have base:qgy e=true:=by simpa using c1
  by_cases c4:e.Kind=knR
  ·rw[if_pos c4]at h
   by_cases c5:(jL e.Yarn&&qfZ e.Dye)=false
   ·rw[if_pos c5]at h;cases h
   rw[if_neg c5]at h
   by_cases c6:e.Order=[]
   ·have c5':jL e.Yarn=true/\qfZ e.Dye=true:=by simpa using c5
    exact⟨qi9.1 base,c2'.1,c2'.2,by simpa using c3,fun _=>⟨c5'.1,c5'.2,c6⟩,fun h=>absurd c4 h⟩
   rw[if_neg c6]at h;cases h
  rw[if_neg c4]at h
  by_cases c5:jL e.Order=false
  ·rw[if_pos c5]at h;cases h
  rw[if_neg c5]at h
  by_cases c6:(e.Yarn==[]&&e.Dye==[])=true
  ·have c6':e.Yarn=[]/\e.Dye=[]:=by simpa using c6
   exact⟨qi9.1 base,c2'.1,c2'.2,by simpa using c3,fun h=>absurd h c4,fun _=>⟨by simpa using c5,c6'.1,c6'.2⟩⟩
  rw[if_neg c6]at h;cases h
 rintro⟨h1,h2,h3,h4,h5,h6⟩
 rw[qi9.2 h1,h2,h3,h4,if_neg (by decide),if_neg (by decide),if_neg (by decide)]
 by_cases c:e.Kind=knR
 ·obtain⟨g1,g2,g3⟩:=h5 c
  rw[if_pos c,g1,g2,g3]
  rfl
 obtain⟨g1,g2,g3⟩:=h6 c
 rw[if_neg c,g1,g2,g3]
 rfl
theorem ychkE {N:Nat} (hN:2000<N) {e:qb} (s:ShE e):qbr N e=some (qk1 e):=by
 obtain⟨s1,s2,s3,s4,s5⟩:=s
 have hk:((qaO).bind fun r1=>
  if(e.Kind==[114,101,99,101,105,118,101])=true then some true
  else if(e.Kind==[114,101,115,101,114,118,101])=true then some true
  else if(e.Kind==[114,101,108,101,97,115,101])=true then some true
  else if(e.Kind==[116,97,107,101])=true then some true
  else if(e.Kind==[114,101,116,117,114,110])=true then some true
  else some false:Option Bool)=some (qgy e):=by
  unfold qaO qgy
  simp only[ZB]
  cases(e.Kind==knR)<;>cases(e.Kind==knV)<;>cases(e.Kind==knL)<;>cases(e.Kind==knT)<;>cases(e.Kind==knU)<;>rfl
 unfold qbr
 rw[hk,ZB,qda,ZB,qkI,ZB,qkI,ZB,qjs (by omega),ZB,qrx hN (by simp),ZB]
 unfold qk1
 cases c1:qgy e with
 |false=>rfl
 |true=>
  cases c2:qbJ e.Day 0 99999 with
  |true=>rfl
  |false=>
   cases c3:qbJ e.Amount 1 999999999 with
   |true=>rfl
   |false=>
    cases c4:jL e.Lot with
    |false=>rfl
    |true=>
     rw[if_neg (show¬(!decide (qad [if(!true)=true then 13 else 0,if false=true then 3 else 0,if false=true then 3 else 0,if true=true then 0 else 8]=0))=true by decide),if_neg (show¬(true=false)by decide),if_neg (show¬((false||false)=true)by decide),if_neg (show¬(true=false)by decide)]
     by_cases c5:e.Kind=knR
     ·rw[if_pos (show(e.Kind==[114,101,99,101,105,118,101])=true by rw[c5];rfl),if_pos c5,qjs (by omega),ZB,qrZ (by omega),ZB,qda,ZB,qrx hN (by simp),ZB]
      have ho:(e.Order=[])=((e.Order==[])=true):=by simp
      simp only[ho]
      cases jL e.Yarn<;>cases qfZ e.Dye<;>cases(e.Order==[])<;>rfl
     rw[if_neg (show¬(e.Kind==[114,101,99,101,105,118,101])=true by simpa using c5),if_neg c5,qjs (by omega),ZB]
     cases hy:(e.Yarn==[])with
     |false=>
      rw[if_pos (by rfl),qda,ZB,qrx hN (by simp),ZB,ZB]
      cases jL e.Order<;>rfl
     |true=>
      rw[if_neg (by decide),qda,ZB,qrx hN (by simp),ZB,ZB]
      cases jL e.Order<;>cases(e.Dye==[])<;>rfl
theorem rchkE {N:Nat} (hN:2000<N) {e:qb} (s:ShE e):qa0 N e=some (qk1 e):=by
 obtain⟨s1,s2,s3,s4,s5⟩:=s
 have hk:((if(!(e.Kind==[114,101,99,101,105,118,101]))=true then
  if(!(e.Kind==[114,101,115,101,114,118,101]))=true then
  if(!(e.Kind==[114,101,108,101,97,115,101]))=true then
  if(!(e.Kind==[116,97,107,101]))=true then
  some (!(e.Kind==[114,101,116,117,114,110]))
  else some false
  else some false
  else some false
  else some false:Option Bool))=some (!qgy e):=by
  unfold qgy
  cases(e.Kind==knR)<;>cases(e.Kind==knV)<;>cases(e.Kind==knL)<;>cases(e.Kind==knT)<;>cases(e.Kind==knU)<;>rfl
 unfold qa0
 rw[hk,ZB,qoK,ZB]
 simp only[qoK]
 unfold qk1
 cases c1:qgy e with
 |false=>rfl
 |true=>
  cases c2:qbJ e.Day 0 99999 with
  |true=>rfl
  |false=>
   cases c3:qbJ e.Amount 1 999999999 with
   |true=>rfl
   |false=>
    rw[if_neg (by decide),if_neg (by decide),ZB,ZB,if_neg (by decide),qfI (by omega) (by omega),ZB,if_neg (show¬(true=false)by decide),if_neg (show¬((false||false)=true)by decide)]
    cases c4:jL e.Lot with
    |false=>rfl
    |true=>
     rw[if_neg (by decide),if_neg (show¬(true=false)by decide)]
     by_cases c5:e.Kind=knR
     ·rw[if_pos (show(e.Kind==[114,101,99,101,105,118,101])=true by rw[c5];rfl),if_pos c5,qfI (by omega) (by omega),ZB,qr1 (by omega) (by omega),ZB]
      have ho:(e.Order=[])=((e.Order==[])=true):=by simp
      simp only[ho]
      cases jL e.Yarn<;>cases qfZ e.Dye<;>cases(e.Order==[])<;>rfl
     rw[if_neg (show¬(e.Kind==[114,101,99,101,105,118,101])=true by simpa using c5),if_neg c5,qfI (by omega) (by omega),ZB]
     cases jL e.Order<;>cases(e.Yarn==[])<;>cases(e.Dye==[])<;>rfl
theorem qpa {a:qL} (h:a.Lots.length<=1000): ∀(K i:Nat),i<=a.Lots.length->a.Lots.length<K+i->qaQ a a K (i:Int)=some (.inl ())
 |0,i,h1,h2=>by omega
 |K+1,i,h1,h2=>by
  unfold qaQ
  by_cases hi:i<a.Lots.length
  ·rw[if_pos (by omega),zI,Ya hi,ZB,ZB,if_neg (by simp),yf (by omega)]
   exact qpa h K (i+1) (by omega) (by omega)
  rw[if_neg (by omega)]
theorem qoZ {a:qL} (h:a.Holds.length<=1000): ∀(K i:Nat),i<=a.Holds.length->a.Holds.length<K+i->qaP a a K (i:Int)=some (.inl ())
 |0,i,h1,h2=>by omega
 |K+1,i,h1,h2=>by
  unfold qaP
  by_cases hi:i<a.Holds.length
  ·rw[if_pos (by omega),zI,Ya hi,ZB,ZB,if_neg (by simp),yf (by omega)]
   exact qoZ h K (i+1) (by omega) (by omega)
  rw[if_neg (by omega)]
theorem same_eq {N:Nat} (hN:2000<N) {a:qL} (h1:a.Lots.length<=1000) (h2:a.Holds.length<=1000):qcD N a a=some true:=by
 unfold qcD
 rw[decide_eq_true rfl,decide_eq_true rfl,decide_eq_true rfl,if_neg (by decide),if_neg (by decide),ZB,if_neg (by decide)]
 have g1:=qpa h1 N 0 (by omega) (by omega)
 have g2:=qoZ h2 N 0 (by omega) (by omega)
 rw[show((0:Nat):Int)=0 from rfl]at g1 g2
 rw[g1,ZB]
 simp only
 rw[g2]
 rfl
theorem qf7 {day:Int} {lots:List qB} {holds:List qf} {e:qb} (h:qgQ day lots holds e=0):day<=e.Day/\qdk e (yL lots holds e)=true/\qdj e.Kind (yL lots holds e) e.Amount=true/\(yx lots holds e).lot.Stock<=999999999/\(yx lots holds e).hold.Taken<=999999999/\(nxL lots holds e).length<=64/\(nxH lots holds e).length<=256:=by
 unfold qgQ at h
 by_cases c1:e.Day<day
 ·rw[if_pos c1]at h;cases h
 rw[if_neg c1]at h
 by_cases c2:qdk e (yL lots holds e)=false
 ·rw[if_pos c2]at h;cases h
 rw[if_neg c2]at h
 by_cases c3:qdj e.Kind (yL lots holds e) e.Amount=false
 ·rw[if_pos c3]at h;cases h
 rw[if_neg c3]at h
 by_cases c4:999999999<(yx lots holds e).lot.Stock\/999999999<(yx lots holds e).hold.Taken
 ·rw[if_pos c4]at h;cases h
 rw[if_neg c4]at h
 by_cases c5:64<(nxL lots holds e).length\/256<(nxH lots holds e).length
 ·rw[if_pos c5]at h;cases h
 exact⟨by omega,by simpa using c2,by simpa using c3,by omega,by omega,by omega,by omega⟩
theorem qgO {lots:List qB} {holds:List qf} {e:qb} (h:qdk e (yL lots holds e)=true):e.Kind≠knR->(yL lots holds e).known=true:=by
 intro c
 unfold qdk at h
 rwa [if_neg c]at h
theorem qsV {a b:Int}:qad [a,b]=if a=0 then b else a:=by
 unfold qad qad qad
 by_cases h:a=0
 ·rw[if_pos h,if_pos h]
  by_cases g:b=0
  ·rw[if_pos g,g]
  rw[if_neg g]
 rw[if_neg h,if_neg h]
theorem ystep {N:Nat} (hN:2000<N) {day:Int} {lots:List qB} {holds:List qf} (o:OKS day lots holds) {e:qb} (k:qga e) (h:qgQ day lots holds e=0):
 yG N ⟨day,lots,holds⟩ e=some ⟨e.Day,nxL lots holds e,nxH lots holds e⟩:=by
 obtain⟨h1,h2,h3,_⟩:=qf7 h
 obtain⟨n1,n2⟩:=qnT o k h3
 exact ql8 hN o k n1 n2
theorem qpX {N:Nat} (hN:2000<N) {day:Int} {lots:List qB} {holds:List qf} (o:OKS day lots holds) {e:qb} (k:qga e) (h:qgQ day lots holds e=0):
 yG N ⟨day,lots,holds⟩ e=some ⟨e.Day,nxL lots holds e,nxH lots holds e⟩/\qbW N ⟨day,lots,holds⟩ e=some ⟨e.Day,nxL lots holds e,nxH lots holds e⟩:=by
 obtain⟨h1,h2,h3,_⟩:=qf7 h
 obtain⟨n1,n2⟩:=qnT o k h3
 exact⟨ql8 hN o k n1 n2,qnE hN o k (qgO h2)⟩
end Go.Av
end
section
namespace Go.Av
open Go.Proofs Go.RowKit
variable [Glob]
def qb3 (g:qf->Int):List qf->Int
 |[]=>0
 |h::t=>g h+qb3 g t
theorem qpf {g:qf->Int} {l m:List qf} (p:l.Perm m):qb3 g l=qb3 g m:=by
 induction p with
 |nil=>rfl
 |cons x _ ih=>simp only[qb3,ih]
 |swap x y l=>simp only[qb3];omega
 |trans _ _ i1 i2=>rw[i1,i2]
theorem qkh {g:qf->Int}: ∀{l:List qf},(∀h∈l,0<=g h)->0<=qb3 g l
 |[],_=>Int.le_refl _
 |h::t,k=>by
  have:=k h List.mem_cons_self
  have:=qkh fun x hx=>k x (List.mem_cons_of_mem _ hx)
  simp only[qb3];omega
theorem ql1 {g:qf->Int}: ∀{l:List qf},(∀h∈l,g h=0)->qb3 g l=0
 |[],_=>rfl
 |h::t,k=>by
  have:=k h List.mem_cons_self
  have:=ql1 fun x hx=>k x (List.mem_cons_of_mem _ hx)
  simp only[qb3];omega
theorem qo6 {g:qf->Int}: ∀{l:List qf} {y:qf},(∀h∈l,0<=g h)->y∈l->g y<=qb3 g l
 |h::t,y,k,hy=>by
  have k2: ∀x∈t,0<=g x:=fun x hx=>k x (List.mem_cons_of_mem _ hx)
  have h1:=k h List.mem_cons_self
  have h2:=qkh k2
  simp only[qb3]
  rcases List.mem_cons.1 hy with rfl|hy
  ·omega
  have:=qo6 k2 hy
  omega
theorem qmY {g:qf->Int}: ∀{l:List qf},(∀h∈l,g h<=999999999)->qb3 g l<=999999999*(l.length:Int)
 |[],_=>by simp[qb3]
 |h::t,k=>by
  have:=k h List.mem_cons_self
  have:=qmY fun x hx=>k x (List.mem_cons_of_mem _ hx)
  simp only[qb3,Yr];omega
theorem qnI {g:qf->Int} {lo od:Str} (h0:g ⟨lo,od,0,0⟩=0): ∀{l:List qf},qjg l->qb3 g l=qb3 g (l.filter fun x=>!kq lo od x)+g (ve l lo od)
 |[],_=>by
  show(0:Int)=0+g ⟨lo,od,0,0⟩
  rw[h0];rfl
 |y::l,hs=>by
  obtain⟨h1,h2⟩:=List.pairwise_cons.1 hs
  cases c:kq lo od y with
  |true=>
   obtain⟨c1,c2⟩:=qie.1 c
   have hf:(y::l).filter (fun x=>!kq lo od x)=l:=by
    rw[List.filter_cons_of_neg (by rw[c];simp)]
    exact List.filter_eq_self.2 fun x hx=>by
     have:=qsc (h1 x hx)
     rw[c1,c2]at this
     rw[this];rfl
   have hh:ve (y::l) lo od=y:=by
    unfold ve
    rw[List.find?_cons,c]
    rfl
   rw[hf,hh]
   simp only[qb3]
   omega
  |false=>
   have hf:(y::l).filter (fun x=>!kq lo od x)=y::l.filter (fun x=>!kq lo od x):=List.filter_cons_of_pos (by rw[c];rfl)
   have hh:ve (y::l) lo od=ve l lo od:=by
    unfold ve
    rw[List.find?_cons,c]
   rw[hf,hh]
   simp only[qb3]
   have:=qnI h0 h2
   omega
theorem qrd {g:qf->Int} {h:qf} {holds:List qf} (hs:qjg holds) (h0:g ⟨h.Lot,h.Order,0,0⟩=0) (hz:h.Reserved=0/\h.Taken=0->g h=0):qb3 g (yI h holds)=qb3 g holds-g (ve holds h.Lot h.Order)+g h:=by
 have:=qnI h0 hs
 unfold yI
 by_cases c:h.Reserved=0/\h.Taken=0
 ·rw[if_pos c,hz c];omega
 rw[if_neg c,qpf (qdy _ _)]
 simp only[qb3]
 omega
def gR (name:Str) (h:qf):Int:=if(h.Lot==name)=true then h.Reserved else 0
theorem ql7 {name:Str}: ∀(hs:List qf) (a:Int),(∀h∈hs,0<=h.Reserved/\h.Reserved<=999999999)->0<=a->a+1000000000*(hs.length:Int)<=1000000000000000->qmy name hs a=a+qb3 (gR name) hs
 |[],a,h,h0,hb=>by
  simp[qmy,qb3]
 |x::t,a,h,h0,hb=>by
  unfold qmy
  have hx:=h x (List.mem_cons_self ..)
  rw[Yr]at hb
  simp only[qb3,gR]
  by_cases c:(x.Lot==name)=true
  ·rw[if_pos c,if_pos c,xU (by omega) (by omega),ql7 t _ (fun y hy=>h y (List.mem_cons_of_mem _ hy)) (by omega) (by omega)]
   omega
  rw[if_neg c,if_neg c,ql7 t _ (fun y hy=>h y (List.mem_cons_of_mem _ hy)) (by omega) (by omega)]
  omega
def qoC (holds:List qf):Prop:= ∀h∈holds,0<=h.Reserved/\h.Reserved<=999999999
theorem qsr {holds:List qf} (hr:qoC holds) (name:Str): ∀h∈holds,0<=gR name h:=by
 intro h hh
 unfold gR
 split
 ·exact(hr h hh).1
 exact Int.le_refl _
theorem qsZ {holds:List qf} (hr:qoC holds) (name:Str): ∀h∈holds,gR name h<=999999999:=by
 intro h hh
 unfold gR
 split
 ·exact(hr h hh).2
 decide
theorem qkj {holds:List qf} (hr:qoC holds) (hl:holds.length<=300) {x:qB} (hx:0<=x.Stock/\x.Stock<=999999999):frE holds x=x.Stock-qb3 (gR x.Name) holds:=by
 have h1:=qkh (qsr hr x.Name)
 have h2:=qmY (qsZ hr x.Name)
 unfold frE
 rw[ql7 _ _ hr (Int.le_refl _) (by omega),xU (by omega) (by omega)]
 omega
theorem qlf {lots:List qB} {holds:List qf} (hk:qcZ lots holds):qoC holds:=fun h hh=>(qfB hk hh).2.2.1
theorem qpW {lots:List qB} (hs:qnv lots) (h: ∀x∈lots,jL x.Name=true/\jL x.Yarn=true/\qfZ x.Dye=true/\0<=x.Stock/\x.Stock<=999999999):qc7 lots:=by
 intro j x hx
 obtain⟨h1,h2,h3,h4⟩:=h x (Yn hx)
 have hl:qjH (qff lots j) x=false:=by
  unfold qff
  by_cases c:j=0
  ·rw[if_pos c];rfl
  rw[if_neg c]
  obtain⟨hj,rfl⟩:=Yb.1 hx
  rw[Ya (show j-1<lots.length by omega)]
  have:=List.pairwise_iff_getElem.1 hs (j-1) j (by omega) hj (by omega)
  show(ltL _ _||_==_)=false
  rw[qfD this,Bool.false_or]
  cases c:(lots[j].Name==lots[j-1].Name)with
  |false=>rfl
  |true=>
   have e:lots[j].Name=lots[j-1].Name:=by simpa using c
   rw[e,qaz]at this
   cases this
 unfold qje
 rw[h1,h2,h3,hl,qmH h4]
 rfl
theorem qnO {lots:List qB} {holds:List qf} (hs:qjg holds) (h: ∀x∈holds,knB lots x.Lot=true/\jL x.Order=true/\(0<=x.Reserved/\x.Reserved<=999999999)/\(0<=x.Taken/\x.Taken<=999999999)/\ ¬(x.Reserved=0/\x.Taken=0)):qcZ lots holds:=by
 intro j x hx
 obtain⟨h1,h2,h3,h4,h5⟩:=h x (Yn hx)
 have hl:qlF (qff holds j) x=false:=by
  unfold qff
  by_cases c:j=0
  ·rw[if_pos c];rfl
  rw[if_neg c]
  obtain⟨hj,rfl⟩:=Yb.1 hx
  rw[Ya (show j-1<holds.length by omega)]
  have:=List.pairwise_iff_getElem.1 hs (j-1) j (by omega) hj (by omega)
  show(!qpR _ _)=false
  rw[qj7,this]
  rfl
 have h6:(decide (x.Reserved=0)&&decide (x.Taken=0))=false:=by
  cases c:(decide (x.Reserved=0)&&decide (x.Taken=0))with
  |false=>rfl
  |true=>exact absurd (by simpa using c) h5
 unfold qjW
 rw[h1,h2,hl,qmH h3,qmH h4,h6]
 rfl
theorem qkc {lots:List qB} {name:Str}:knB lots name=true↔ ∃x∈lots,x.Name=name:=by
 unfold knB
 rw[List.any_eq_true]
 constructor
 ·rintro⟨x,hx,h⟩;exact⟨x,hx,by simpa using h⟩
 rintro⟨x,hx,h⟩;exact⟨x,hx,by simpa using h⟩
theorem qrT {lots:List qB} {x:qB} {name:Str} (h:knB lots name=true):knB (yz x lots) name=true:=by
 obtain⟨y,hy,e⟩:=qkc.1 h
 by_cases c:y.Name=x.Name
 ·obtain⟨j,hj⟩:=qfh (x:=x) (lots:=lots)
  exact qkc.2 ⟨x,Yn hj,by rw[<-c,e]⟩
 exact qkc.2 ⟨y,qjI c hy,e⟩
end Go.Av
end
section
namespace Go.Av
open Go.Proofs Go.RowKit
variable [Glob]
structure AccN (lots:List qB) (holds:List qf) (e:qb) (a:qa):Prop where
 nm:a.lot.Name=e.Lot
 nk:jL a.lot.Name=true/\jL a.lot.Yarn=true/\qfZ a.lot.Dye=true
 st:0<=a.lot.Stock/\a.lot.Stock<=999999999
 sm:qb3 (gR e.Lot) holds<=a.lot.Stock
 rv:0<=a.hold.Reserved/\a.hold.Reserved<=qb3 (gR e.Lot) holds
 tk:0<=a.hold.Taken/\a.hold.Taken<=999999999
 fr:a.known=true->a.free=a.lot.Stock-qb3 (gR e.Lot) holds
 ol:a.known=true-> ∃x∈lots,x=a.lot
 nw:a.known=false->knB lots e.Lot=false/\e.Kind=knR/\a.lot.Stock=0
theorem qpb {day:Int} {lots:List qB} {holds:List qf} (o:OKS day lots holds) {e:qb} (k:qga e) (hr:qdk e (yL lots holds e)=true):AccN lots holds e (yL lots holds e):=by
 have hin:=qkW o.hk e.Lot e.Order
 have hri:=qlf o.hk
 have hnn:=qsr hri e.Lot
 have hle:(ve holds e.Lot e.Order).Reserved<=qb3 (gR e.Lot) holds:=by
  rcases qlW (holds:=holds) (lo:=e.Lot) (od:=e.Order)with h|h
  ·have h1:=qo6 hnn h
   have h2:gR e.Lot (ve holds e.Lot e.Order)=(ve holds e.Lot e.Order).Reserved:=by
    unfold gR
    rw[if_pos (by rw[qek.1];simp)]
   omega
  rw[h]
  exact qkh hnn
 have hhl:holds.length<=300:=by have:=o.hl;omega
 cases c:lots.find? (fun x=>x.Name==e.Lot)with
 |some x=>
  obtain⟨j,hj,hn⟩:=qoS c
  have hl:=qis o.lk (Yn hj)
  have hfr:=o.fr j x hj
  rw[qkj hri hhl hl.2.2.2,hn]at hfr
  have ha:yL lots holds e=⟨x,true,ve holds e.Lot e.Order,frE holds x⟩:=qmc o.lk holds hj hn
  rw[ha]
  refine⟨hn,⟨hl.1,hl.2.1,hl.2.2.1⟩,hl.2.2.2,by show _<=x.Stock;omega,⟨hin.1.1,hle⟩,hin.2,fun _=>?_,fun _=>⟨x,Yn hj,rfl⟩,fun h=>by cases h⟩
  show frE holds x=_
  rw[qkj hri hhl hl.2.2.2,hn]
 |none=>
  have hno: ∀(j:Nat) x,lots[j]? =some x->x.Name≠e.Lot:=by
   intro j x hx q
   have:=List.find?_eq_none.1 c x (Yn hx)
   simp[q]at this
  have ha:=qoP holds hno
  have hkn:knB lots e.Lot=false:=qrl hno
  have hk:e.Kind=knR:=by
   by_cases q:e.Kind=knR
   ·exact q
   unfold qdk at hr
   rw[if_neg q,ha]at hr
   cases hr
  have hz:qb3 (gR e.Lot) holds=0:=ql1 fun h hh=>by
   unfold gR
   by_cases q:(h.Lot==e.Lot)=true
   ·have q':h.Lot=e.Lot:=by simpa using q
    have:=(qfB o.hk hh).1
    rw[q',hkn]at this
    cases this
   rw[if_neg q]
  rw[ha]
  obtain⟨r1,r2,r3⟩:=k.rc hk
  refine⟨rfl,⟨k.lot,r1,r2⟩,⟨Int.le_refl _,(by decide:(0:Int)<=999999999)⟩,by rw[hz];exact Int.le_refl _,⟨hin.1.1,hle⟩,hin.2,fun h=>(by cases h),fun h=>(by cases h),fun _=>⟨hkn,hk,rfl⟩⟩
structure AftN (holds:List qf) (e:qb) (a b:qa):Prop where
 nm:b.lot.Name=e.Lot/\b.hold.Lot=e.Lot/\b.hold.Order=e.Order
 nk:jL b.lot.Name=true/\jL b.lot.Yarn=true/\qfZ b.lot.Dye=true
 st:0<=b.lot.Stock/\b.lot.Stock<=999999999
 rv:0<=b.hold.Reserved/\b.hold.Reserved<=999999999
 tk:0<=b.hold.Taken/\b.hold.Taken<=999999999
 eq:b.lot.Stock+b.hold.Taken=a.lot.Stock+a.hold.Taken+if e.Kind=knR then e.Amount else 0
 sm:qb3 (gR e.Lot) holds-a.hold.Reserved+b.hold.Reserved<=b.lot.Stock
theorem qrK {day:Int} {lots:List qB} {holds:List qf} (o:OKS day lots holds) {e:qb} (k:qga e) (h:qgQ day lots holds e=0):AftN holds e (yL lots holds e) (yx lots holds e):=by
 obtain⟨_,h2,h3,h4,h5,_,_⟩:=qf7 h
 have n:=qpb o k h2
 have hkey:=qkV (lots:=lots) (holds:=holds) (e:=e)
 have ham:=qjb k.am
 obtain⟨n1,n2,n3,n4,n5,n6,n7,n8,n9⟩:=n
 have hkn:e.Kind≠knR->(yL lots holds e).known=true:=qgO h2
 unfold yx at*
 generalize yL lots holds e=a at*
 generalize hS:qb3 (gR e.Lot) holds=S at*
 have hnk:jL (qbU e.Kind a e.Amount).lot.Name=true/\jL (qbU e.Kind a e.Amount).lot.Yarn=true/\qfZ (qbU e.Kind a e.Amount).lot.Dye=true:=by
  unfold qbU
  repeat' split
  all_goals exact n2
 have key:(0<=(qbU e.Kind a e.Amount).lot.Stock/\(qbU e.Kind a e.Amount).lot.Stock<=999999999)/\(0<=(qbU e.Kind a e.Amount).hold.Reserved/\(qbU e.Kind a e.Amount).hold.Reserved<=999999999)/\(0<=(qbU e.Kind a e.Amount).hold.Taken/\(qbU e.Kind a e.Amount).hold.Taken<=999999999)/\((qbU e.Kind a e.Amount).lot.Stock+(qbU e.Kind a e.Amount).hold.Taken=a.lot.Stock+a.hold.Taken+if e.Kind=knR then e.Amount else 0)/\S-a.hold.Reserved+(qbU e.Kind a e.Amount).hold.Reserved<=(qbU e.Kind a e.Amount).lot.Stock:=by
  clear hnk hkey
  unfold qbU at h4 h5⊢
  unfold qdj at h3
  rcases k.kind with q|q|q|q|q
  ·simp only[q,if_true]at h4 h5⊢
   rw[xU (by omega) (by omega)]at h4⊢
   omega
  ·rw[q]at h3 h4 h5⊢
   have hk:=n7 (hkn (by rw[q];decide))
   rw[if_neg (by decide),if_pos rfl]at h3 h4 h5⊢
   have h3:=of_decide_eq_true h3
   simp only[if_neg (show¬knV=knR by decide)]at h4 h5⊢
   rw[xU (by omega) (by omega)]
   omega
  ·rw[q]at h3 h4 h5⊢
   have hk:=n7 (hkn (by rw[q];decide))
   rw[if_neg (by decide),if_neg (by decide),if_pos rfl]at h3 h4 h5⊢
   have h3:=of_decide_eq_true h3
   simp only[if_neg (show¬knL=knR by decide)]at h4 h5⊢
   rw[xU (n:=0-e.Amount) (by omega) (by omega),xU (by omega) (by omega)]
   omega
  ·rw[q]at h3 h4 h5⊢
   have hk:=n7 (hkn (by rw[q];decide))
   rw[if_neg (by decide),if_neg (by decide),if_neg (by decide),if_pos rfl]at h3 h4 h5⊢
   have h3:=of_decide_eq_true h3
   rw[xU (by omega) (by omega)]at h3
   simp only[if_neg (show¬knT=knR by decide)]at h4 h5⊢
   rw[xU (n:=a.hold.Taken+e.Amount) (by omega) (by omega)]at h5
   rw[xU (n:=a.hold.Taken+e.Amount) (by omega) (by omega),xU (n:=a.lot.Stock-e.Amount) (by omega) (by omega),xU (n:=a.hold.Reserved-e.Amount) (by omega) (by omega)]
   split<;>omega
  rw[q]at h3 h4 h5⊢
  have hk:=n7 (hkn (by rw[q];decide))
  rw[if_neg (by decide),if_neg (by decide),if_neg (by decide),if_neg (by decide)]at h3 h4 h5⊢
  have h3:=of_decide_eq_true h3
  simp only[if_neg (show¬knU=knR by decide)]at h4 h5⊢
  rw[xU (n:=a.lot.Stock+e.Amount) (by omega) (by omega)]at h4
  rw[xU (n:=a.lot.Stock+e.Amount) (by omega) (by omega),xU (n:=a.hold.Taken-e.Amount) (by omega) (by omega)]
  omega
 obtain⟨k1,k2,k3,k4,k5⟩:=key
 exact⟨hkey,hnk,k1,k2,k3,k4,by rw[hS];exact k5⟩
theorem qk7 {day:Int} {lots:List qB} {holds:List qf} (o:OKS day lots holds) {e:qb} (k:qga e) (h:qgQ day lots holds e=0):OKS e.Day (nxL lots holds e) (nxH lots holds e):=by
 obtain⟨_,h2,h3,_,_,h6,h7⟩:=qf7 h
 have n:=qpb o k h2
 have m:=qrK o k h
 have hacc:=qjA (lots:=lots) (holds:=holds) (e:=e)
 have hkn:e.Kind≠knR->(yL lots holds e).known=true:=qgO h2
 have hkR:e.Kind=knR->(yx lots holds e).hold=⟨e.Lot,[],0,0⟩:=by
  intro q
  unfold yx qbU
  rw[if_pos q,hacc,(k.rc q).2.2,qkY o.hk]
 unfold nxL nxH at*
 generalize yL lots holds e=a at*
 generalize yx lots holds e=b at*
 have hx:=qfh (x:=b.lot) (lots:=lots)
 have hbn:knB (yz b.lot lots) e.Lot=true:=by
  obtain⟨j,hj⟩:=hx
  exact qkc.2 ⟨b.lot,Yn hj,m.nm.1⟩
 have hHo:qcZ (yz b.lot lots) (yI b.hold holds):=by
  refine qnO (qnH o.hk.srt) fun x hx=>?_
  rcases qmZ hx with⟨rfl,hz⟩|⟨hx,_⟩
  ·refine⟨by rw[m.nm.2.1];exact hbn,?_,m.rv,m.tk,hz⟩
   by_cases q:e.Kind=knR
   ·rw[hkR q]at hz
    exact absurd ⟨rfl,rfl⟩ hz
   rw[m.nm.2.2]
   exact(k.oth q).1
  obtain⟨g1,g2,g3,g4,g5⟩:=qfB o.hk hx
  exact⟨qrT g1,g2,g3,g4,g5⟩
 have hLo:qc7 (yz b.lot lots):=by
  refine qpW (qhV o.lk.srt) fun x hx=>?_
  rcases qf1 hx with rfl|hx
  ·exact⟨m.nk.1,m.nk.2.1,m.nk.2.2,m.st⟩
  exact qis o.lk hx
 refine⟨k.day,h6,hLo,h7,hHo,fun j x hx=>?_⟩
 have hst:=qis hLo (Yn hx)
 rw[qkj (qlf hHo) (by omega) hst.2.2.2]
 have hsum:qb3 (gR x.Name) (yI b.hold holds)=qb3 (gR x.Name) holds-gR x.Name (ve holds b.hold.Lot b.hold.Order)+gR x.Name b.hold:=by
  refine qrd o.hk.srt ?_ fun z=>?_
  ·unfold gR;split<;>rfl
  unfold gR;rw[z.1];split<;>rfl
 rw[hsum,m.nm.2.1,m.nm.2.2,<-hacc]
 by_cases q:x.Name=e.Lot
 ·have hxb:x=b.lot:=by
   obtain⟨i,hi⟩:=qfh (x:=b.lot) (lots:=lots)
   exact qlV hLo.srt hx hi (by rw[q,m.nm.1])
  have g1:gR x.Name a.hold=a.hold.Reserved:=by
   unfold gR
   rw[if_pos (by rw[hacc,qek.1,q];simp)]
  have g2:gR x.Name b.hold=b.hold.Reserved:=by
   unfold gR
   rw[if_pos (by rw[m.nm.2.1,q];simp)]
  have:=m.sm
  rw[g1,g2,q,hxb]
  omega
 have g1:gR x.Name a.hold=0:=by
  unfold gR
  rw[if_neg (by rw[hacc,qek.1];intro c;exact q ((by simpa using c:e.Lot=x.Name).symm))]
 have g2:gR x.Name b.hold=0:=by
  unfold gR
  rw[if_neg (by rw[m.nm.2.1];intro c;exact q ((by simpa using c:e.Lot=x.Name).symm))]
 rw[g1,g2]
 rcases qf1 (Yn hx)with rfl|hx
 ·exact absurd m.nm.1 q
 obtain⟨i,hi⟩:=List.mem_iff_getElem?.1 hx
 have hf:=o.fr i x hi
 rw[qkj (qlf o.hk) (by have:=o.hl;omega) hst.2.2.2]at hf
 omega
end Go.Av
end
section
namespace Go.Av
open Go.Proofs Go.RowKit
variable [Glob]
def qjO:List qb->Int
 |[]=>0
 |e::t=>if qk1 e=0 then qjO t else qk1 e
def qht (l:List qb):Prop:= ∀e∈l,qga e
theorem qlM: ∀{l:List qb},qjO l=0↔qht l
 |[]=>⟨fun _ e h=>(by cases h),fun _=>rfl⟩
 |e::t=>by
  unfold qjO
  have ih:=qlM (l:=t)
  by_cases c:qk1 e=0
  ·rw[if_pos c]
   constructor
   ·intro h x hx
    rcases List.mem_cons.1 hx with rfl|hx
    ·exact qlL.1 c
    exact ih.1 h x hx
   intro h
   exact ih.2 fun x hx=>h x (List.mem_cons_of_mem _ hx)
  rw[if_neg c]
  exact⟨fun h=>absurd h c,fun h=>absurd (qlL.2 (h e List.mem_cons_self)) c⟩
def qeH (l:List qb):Int:=if(l.length:Int)>1000 then 5 else qjO l
theorem qhf {l:List qb}:qeH l=0↔l.length<=1000/\qht l:=by
 unfold qeH
 by_cases c:(l.length:Int)>1000
 ·rw[if_pos c]
  exact⟨fun h=>(by cases h),fun h=>(by omega)⟩
 rw[if_neg c,qlM]
 exact⟨fun h=>⟨by omega,h⟩,fun h=>h.2⟩
def qiR (l:List qb):Prop:= ∀e∈l,ShE e
theorem qqd {N:Nat} (hN:2000<N) {l:List qb} (hl:l.length<=1000) (sh:qiR l): ∀(K i:Nat),i<=l.length->l.length<K+i->jE N l K (i:Int)=some (if qjO (l.drop i)=0 then .inl ()else .inr (qjO (l.drop i)))
 |0,i,h,hK=>by omega
 |K+1,i,h,hK=>by
  unfold jE qb1
  by_cases hi:i<l.length
  ·rw[if_pos (by omega),zI,Ya hi,ZB,qgk (by omega),ZB,ychkE hN (sh _ (List.getElem_mem hi)),ZB,ZB,yf (by omega),qbD hi]
   unfold qjO
   by_cases c:qk1 l[i]=0
   ·rw[if_pos c,if_neg (by simp[c])]
    exact qqd hN hl sh K (i+1) (by omega) (by omega)
   rw[if_neg c,if_pos (by simp[c]),if_neg c]
  rw[if_neg (by omega),List.drop_eq_nil_of_le (by omega)]
  rfl
theorem qqg {N:Nat} (hN:2000<N) {l:List qb} (hl:l.length<=1000) (sh:qiR l): ∀(K i:Nat),i<=l.length->l.length<K+i->yE N l K (i:Int)=some (if qjO (l.drop i)=0 then .inl ()else .inr (qjO (l.drop i)))
 |0,i,h,hK=>by omega
 |K+1,i,h,hK=>by
  unfold yE
  by_cases hi:i<l.length
  ·rw[if_pos (by omega),zI,Ya hi,ZB,rchkE hN (sh _ (List.getElem_mem hi)),ZB,yf (by omega),qbD hi]
   unfold qjO
   by_cases c:qk1 l[i]=0
   ·rw[if_pos c,if_neg (by simp[c])]
    exact qqg hN hl sh K (i+1) (by omega) (by omega)
   rw[if_neg c,if_pos (by simp[c]),if_neg c]
  rw[if_neg (by omega),List.drop_eq_nil_of_le (by omega)]
  rfl
theorem qmd {N:Nat} (hN:2000<N) {l:List qb} (sh:qiR l):qaM N l=some (qeH l):=by
 unfold qaM qbi qeH
 by_cases c:(l.length:Int)>1000
 ·rw[if_pos c,if_pos c];rfl
 rw[if_neg c,if_neg c]
 have:=qqd hN (by omega) sh N 0 (Nat.zero_le _) (by omega)
 rw[show((0:Nat):Int)=0 from rfl]at this
 rw[this,YR]
 by_cases z:qjO l=0
 ·rw[if_pos z,z];rfl
 rw[if_neg z];rfl
theorem qrS {N:Nat} (hN:2000<N) {l:List qb} (sh:qiR l):qbV N l=some (qeH l):=by
 unfold qbV qeH
 by_cases c:(l.length:Int)>1000
 ·rw[if_pos c,if_pos c]
 rw[if_neg c,if_neg c]
 have:=qqg hN (by omega) sh N 0 (Nat.zero_le _) (by omega)
 rw[show((0:Nat):Int)=0 from rfl]at this
 rw[this,YR]
 by_cases z:qjO l=0
 ·rw[if_pos z,z];rfl
 rw[if_neg z];rfl
theorem qoH {l:List qb} (hl:l.length<=2000): ∀(K i:Nat),i<=l.length->l.length<K+i->(vH l K (i:Int)=some (.inl ())/\ ∀(j:Nat) x,i<=j->l[j]? =some x->ShE x)\/vH l K (i:Int)=some (.inr false)
 |0,i,h,hK=>by omega
 |K+1,i,h,hK=>by
  unfold vH
  by_cases hi:i<l.length
  ·have hx:l[i]? =some l[i]:=Ya hi
   rw[if_pos (by omega),zI,hx,ZB]
   generalize l[i]=x at*
   obtain⟨b,hb,hs⟩:=qsQ x
   rw[hb,ZB]
   cases b with
   |false=>exact .inr rfl
   |true=>
    rw[if_neg (by decide),yf (by omega)]
    rcases qoH hl K (i+1) (by omega) (by omega)with⟨r1,r2⟩|r
    ·refine .inl ⟨r1,fun j y hj hy=>?_⟩
     by_cases c:j=i
     ·subst c
      rw[hx]at hy
      obtain rfl:=Ye hy
      exact hs rfl
     exact r2 j y (by omega) hy
    exact .inr r
  rw[if_neg (by omega)]
  exact .inl ⟨rfl,fun j x hj hx=>by
   have:=(Yb.1 hx).1
   omega⟩
theorem qqI {N:Nat} (hN:2000<N) (l:List qb) (n:Int): ∃b,qbQ N l n=some b/\(b=true->l.length<=1003/\qiR l):=by
 unfold qbQ
 have hc: ∃c:Bool,(if(l.length:Int)>n then
  if(l.length:Int)<=1000 then some true
  else some (decide ((l.length:Int)>1003))
  else some (decide ((l.length:Int)>1003)):Option Bool)=some c/\(c=false->l.length<=1003):=by
  repeat' split
  all_goals refine⟨_,rfl,fun h=>?_⟩
  all_goals first|(exact absurd h (by decide))|(have:=of_decide_eq_false h;omega)
 obtain⟨c,hc1,hc2⟩:=hc
 rw[hc1,ZB]
 cases c with
 |true=>exact⟨false,rfl,fun h=>by cases h⟩
 |false=>
  have l1:=hc2 rfl
  rw[if_neg (by simp)]
  rcases qoH (show l.length<=2000 by omega) N 0 (by omega) (by omega)with⟨r1,r2⟩|r1
  ·rw[show((0:Nat):Int)=0 from rfl]at r1
   rw[r1]
   refine⟨true,rfl,fun _=>⟨l1,fun e he=>?_⟩⟩
   obtain⟨j,hj⟩:=List.mem_iff_getElem?.1 he
   exact r2 j e (Nat.zero_le _) hj
  rw[show((0:Nat):Int)=0 from rfl]at r1
  rw[r1]
  exact⟨false,rfl,fun h=>by cases h⟩
theorem qqk {l:List qb} (hb:l.length*96<=140737488355328): ∀(K i:Nat),i<=l.length->l.length<K+i->yS l K (l.take i) (i:Int)=some l
 |0,i,h,hK=>by omega
 |K+1,i,h,hK=>by
  unfold yS
  by_cases hi:i<l.length
  ·have e:(l.take i).length=i:=by rw[Ym];omega
   rw[if_pos (by omega),zI,Ya hi,ZB,qct (by rw[e,List.length_singleton];omega) (by rw[e,List.length_singleton];omega),ZB,yf (by omega),<-List.take_succ_eq_append_getElem hi]
   exact qqk hb K (i+1) (by omega) (by omega)
  rw[if_neg (by omega),List.take_of_length_le (by omega)]
theorem qr4 {N:Nat} {l:List qb} (h1:l.length<N) (hb:l.length*96<=140737488355328):qca N l=some l:=by
 unfold qca
 have:=qqk hb N 0 (by omega) (by omega)
 rw[List.take_zero,show((0:Nat):Int)=0 from rfl]at this
 rw[this,ZB]
def qdN (day:Int) (e:qb):Bool:=decide (e.Day>day)
def upTo (day:Int) (l:List qb):List qb:=l.filter fun x=>!qdN day x
theorem qqX {l:List qb} (hl:l.length<=1000) (day:Int): ∀(K i:Nat),i<=l.length->l.length<K+i->qaR l day K (upTo day (l.take i)) (i:Int)=some (upTo day l)
 |0,i,h,hK=>by omega
 |K+1,i,h,hK=>by
  unfold qaR
  by_cases hi:i<l.length
  ·have hle:(upTo day (l.take i)).length<=i:=by
    have:=List.length_filter_le (fun x=>!qdN day x) (l.take i)
    rw[Ym]at this
    unfold upTo
    omega
   have hup:upTo day (l.take (i+1))=upTo day (l.take i)++(if(!qdN day l[i])=true then[l[i]]else[]):=by
    unfold upTo
    rw[List.take_succ_eq_append_getElem hi,List.filter_append]
    congr 1
    rw[List.filter_cons]
    rfl
   have hih:=qqX hl day K (i+1) (by omega) (by omega)
   rw[hup]at hih
   rw[if_pos (by omega),zI,Ya hi,ZB,yf (by omega)]
   by_cases c:l[i].Day<=day
   ·have c':(!qdN day l[i])=true:=by unfold qdN;rw[decide_eq_false (by omega)];rfl
    rw[if_pos c,qct (by rw[List.length_singleton];omega) (by rw[List.length_singleton];omega),ZB]
    rw[if_pos c']at hih
    exact hih
   have c': ¬(!qdN day l[i])=true:=by unfold qdN;rw[decide_eq_true (by omega)];decide
   rw[if_neg c]
   rw[if_neg c',YQ]at hih
   exact hih
  rw[if_neg (by omega),List.take_of_length_le (by omega)]
theorem qrP {N:Nat} (hN:2000<N) {l:List qb} (hl:l.length<=1000) (day:Int):qdp N l day=some (upTo day l):=by
 unfold qdp
 have:=qqX hl day N 0 (by omega) (by omega)
 rw[List.take_zero,show((0:Nat):Int)=0 from rfl]at this
 rw[show upTo day []=[]from rfl]at this
 rw[this,ZB]
theorem ixE1 {l:List qb} (hl:l.length<=1000) (day:Int): ∀(K i:Nat),i<=l.length->l.length<K+i->
 (kz l day K (i:Int)=some (.inl ())/\ ∀(j:Nat) x,i<=j->l[j]? =some x->qdN day x=false)\/
 (∃(j:Nat) (x:qb),kz l day K (i:Int)=some (.inr (j:Int))/\i<=j/\l[j]? =some x/\qdN day x=true/\ ∀(k:Nat) y,i<=k->k<j->l[k]? =some y->qdN day y=false)
 |0,i,h,hK=>by omega
 |K+1,i,h,hK=>by
  unfold kz qan
  by_cases hi:i<l.length
  ·have hx:l[i]? =some l[i]:=Ya hi
   rw[if_pos (by omega),zI,hx,ZB,ZB]
   generalize l[i]=x at*
   by_cases e:qdN day x=true
   ·rw[if_pos (show decide (x.Day>day)=true from e)]
    exact .inr ⟨i,x,rfl,Nat.le_refl _,hx,e,fun k y h1 h2 _=>by omega⟩
   rw[if_neg (show¬decide (x.Day>day)=true from e),yf (by omega)]
   have e':qdN day x=false:=by simpa using e
   have first: ∀(k:Nat) y,k=i->l[k]? =some y->qdN day y=false:=fun k y hk hy=>by
    subst hk;rw[hx]at hy;obtain rfl:=Ye hy;exact e'
   rcases ixE1 hl day K (i+1) (by omega) (by omega)with⟨r1,r2⟩|⟨j,y,r1,r2,r3,r4,r5⟩
   ·refine .inl ⟨r1,fun j y hj hy=>?_⟩
    by_cases c:j=i
    ·exact first j y c hy
    exact r2 j y (by omega) hy
   refine .inr ⟨j,y,r1,by omega,r3,r4,fun k z hk hkj hz=>?_⟩
   by_cases c:k=i
   ·exact first k z c hz
   exact r5 k z (by omega) hkj hz
  rw[if_neg (by omega)]
  exact .inl ⟨rfl,fun j x hj hx=>by have:=(Yb.1 hx).1;omega⟩
theorem qnN {day:Int} {log:List qb} (hh:log.length<=1000): ∀(K n m:Nat) (l:List qb),l.length=log.length->n<m->m<=l.length->l.length<K+m->l.drop m=log.drop m->l.take n=upTo day (log.take m)->
 ∃l' n',qM day K l (n:Int) (m:Int)=some (l',((n':Nat):Int))/\l'.length=log.length/\n'<log.length/\l'.take n'=upTo day log
 |0,n,m,l,h1,h2,h3,h4,h5,h6=>by omega
 |K+1,n,m,l,h1,h2,h3,h4,h5,h6=>by
  unfold qM qan
  by_cases hm:m<l.length
  ·have hx:l[m]? =some l[m]:=Ya hm
   have hm2:m<log.length:=by omega
   have hxx:l[m]=log[m]:=by
    have e:(l.drop m)[0]? =(log.drop m)[0]? :=by rw[h5]
    rw[YI,YI,Nat.add_zero,hx,Ya hm2]at e
    exact Ye e
   have htk:log.take (m+1)=log.take m++[l[m]]:=by rw[hxx];exact List.take_succ_eq_append_getElem hm2
   rw[if_pos (by omega),zI,hx,ZB,ZB]
   have hdr:(l.drop (m+1))=log.drop (m+1):=by
    have: ∀z:List qb,z.drop (m+1)=(z.drop m).drop 1:=fun z=>by rw[List.drop_drop]
    rw[this l,this log,h5]
   by_cases e:qdN day l[m]=true
   ·rw[if_neg (show¬(!decide (l[m].Day>day))=true by rw[show decide (l[m].Day>day)=true from e];decide),ZB]
    simp only
    rw[yf (by omega)]
    refine qnN hh K n (m+1) l h1 (by omega) (by omega) (by omega) hdr ?_
    unfold upTo at h6⊢
    rw[htk,List.filter_append,h6]
    simp[e]
   have e':qdN day l[m]=false:=by simpa using e
   rw[if_pos (show(!decide (l[m].Day>day))=true by rw[show decide (l[m].Day>day)=false from e'];rfl),zI,Ya (show n<l.length by omega),ZB,qmC (by omega),ZB,ZB]
   simp only
   rw[yf (by omega),yf (by omega)]
   refine qnN hh K (n+1) (m+1) (l.set n l[m]) (by simpa using h1) (by omega) (by simp;omega) (by simp;omega) ?_ ?_
   ·rw[List.drop_set_of_lt (by omega),hdr]
   unfold upTo at h6⊢
   rw[htk,List.filter_append,<-h6,List.take_set,List.take_succ_eq_append_getElem (show n<l.length by omega),List.set_append_right _ _ (by simp;omega)]
   simp[e']
   rw[show n-min n l.length=0 by omega]
   rfl
  rw[if_neg (by omega)]
  have hm':m=log.length:=by omega
  refine⟨l,n,rfl,h1,by omega,?_⟩
  rw[h6,hm',List.take_length]
theorem qrR {N:Nat} (hN:2000<N) {day:Int} {log:List qb} (hh:log.length<=1000):
 (zb N log day=some (.inl ())/\upTo day log=log)\/zb N log day=some (.inr (upTo day log)):=by
 unfold zb yJ
 rcases ixE1 hh day N 0 (by omega) (by omega)with⟨r1,r2⟩|⟨j,x,r1,r2,r3,r4,r5⟩
 ·rw[show((0:Nat):Int)=0 from rfl]at r1
  rw[r1]
  refine .inl ⟨rfl,List.filter_eq_self.2 fun x hx=>?_⟩
  obtain⟨j,hj,rfl⟩:=List.getElem_of_mem hx
  rw[r2 j _ (Nat.zero_le _) (Ya hj)];rfl
 rw[show((0:Nat):Int)=0 from rfl]at r1
 rw[r1]
 refine .inr ?_
 simp only[ZB]
 have hj:=(Yb.1 r3).1
 rw[if_neg (by omega),yf (by omega)]
 have hpre:log.take j=upTo day (log.take (j+1)):=by
  unfold upTo
  rw[List.take_succ_eq_append_getElem hj,List.filter_append]
  have e1:(log.take j).filter (fun x=>!qdN day x)=log.take j:=List.filter_eq_self.2 fun y hy=>by
   obtain⟨k,hk,rfl⟩:=List.getElem_of_mem hy
   have hk':k<j:=by simp at hk;omega
   rw[List.getElem_take,r5 k _ (Nat.zero_le _) hk' (Ya (by omega))];rfl
  have e2:log[j]=x:=by rw[Ya hj]at r3;exact Ye r3
  rw[e1,e2]
  simp[r4]
 obtain⟨l',n',g1,g2,g3,g4⟩:=qnN (day:=day) hh N j (j+1) log rfl (by omega) (by omega) (by omega) rfl hpre
 rw[g1,ZB]
 simp only
 have hc: ∀k:Nat,k<=log.length->(qdh l' k (⟨[],0,[],0,[],[],[]⟩:qb)).length=log.length:=fun k hk=>by
  unfold qdh;simp;omega
 have ht:(qdh l' n' (⟨[],0,[],0,[],[],[]⟩:qb)).take n'=l'.take n':=by
  unfold qdh
  rw[List.take_append_of_le_length (by simp;omega),List.take_take,Nat.min_self]
 by_cases z:n'=0
 ·subst z
  rw[if_pos (by rfl),if_pos (by omega),ZB,ZB,if_pos (by rw[hc 0 (by omega)];omega),ZB,qgk (Nat.zero_le _),ZB,ht,g4]
 rw[if_neg (by omega),qrf (by omega),ZB,if_pos (by omega),ZB,ZB,if_pos (by rw[hc n' (by omega)];omega),ZB,qgk (by rw[hc n' (by omega)];omega),ZB,ht,g4]
end Go.Av
end
section
namespace Go.Av
open Go.Proofs Go.RowKit
variable [Glob]
def qiY:List qb->Nat->Int->List qB->List qf->List ku->Int×List qB×List qf×List ku
 |[],_,d,l,h,rs=>(d,l,h,rs)
 |e::t,i,d,l,h,rs=>if qgQ d l h e=0 then qiY t (i+1) e.Day (nxL l h e) (nxH l h e) rs else qiY t (i+1) d l h (rs++[⟨((i+1:Nat):Int),qgQ d l h e⟩])
theorem qn5 {N:Nat} (hN:2000<N) {l:List qb} (hl:l.length<=1000) (ok:qht l): ∀(K i:Nat) (d:Int) (lots:List qB) (holds:List qf) (rs:List ku),i<=l.length->l.length<K+i->OKS d lots holds->rs.length<=i->
 qat N l K d lots holds rs (i:Int)=some (qiY (l.drop i) i d lots holds rs)
 |0,i,d,lots,holds,rs,h,hK,o,hr=>by omega
 |K+1,i,d,lots,holds,rs,h,hK,o,hr=>by
  unfold qat
  by_cases hi:i<l.length
  ·have k:=ok _ (List.getElem_mem hi)
   rw[if_pos (by omega),zI,Ya hi,ZB,qrb hN o k,ZB,yf (by omega),qbD hi]
   unfold qiY
   by_cases c:qgQ d lots holds l[i]=0
   ·rw[if_pos c,if_neg (by simp[c]),ystep hN o k c,ZB,ZB]
    exact qn5 hN hl ok K (i+1) _ _ _ _ (by omega) (by omega) (qk7 o k c) (by omega)
   rw[if_neg c,if_pos (by simp[c]),qct (by rw[List.length_singleton];omega) (by rw[List.length_singleton];omega),ZB,ZB]
   exact qn5 hN hl ok K (i+1) _ _ _ _ (by omega) (by omega) o (by simp;omega)
  rw[if_neg (by omega),List.drop_eq_nil_of_le (by omega)]
  rfl
theorem qoh {N:Nat} (hN:2000<N) {l:List qb} (hl:l.length<=1000) (ok:qht l): ∀(K i:Nat) (d:Int) (lots:List qB) (holds:List qf) (rs:List ku),i<=l.length->l.length<K+i->OKS d lots holds->rs.length<=i->
 xV N l K d lots holds rs (i:Int)=some (qiY (l.drop i) i d lots holds rs)
 |0,i,d,lots,holds,rs,h,hK,o,hr=>by omega
 |K+1,i,d,lots,holds,rs,h,hK,o,hr=>by
  unfold xV
  by_cases hi:i<l.length
  ·have k:=ok _ (List.getElem_mem hi)
   rw[if_pos (by omega),zI,Ya hi,ZB,qpT hN o k,ZB,yf (by omega),qbD hi]
   unfold qiY
   by_cases c:qgQ d lots holds l[i]=0
   ·rw[if_pos c,if_neg (by simp[c]),(qpX hN o k c).2,ZB,ZB]
    exact qoh hN hl ok K (i+1) _ _ _ _ (by omega) (by omega) (qk7 o k c) (by omega)
   rw[if_neg c,if_pos (by simp[c]),qct (by rw[List.length_singleton];omega) (by rw[List.length_singleton];omega),ZB,ZB]
   exact qoh hN hl ok K (i+1) _ _ _ _ (by omega) (by omega) o (by simp;omega)
  rw[if_neg (by omega),List.drop_eq_nil_of_le (by omega)]
  rfl
theorem qjY:OKS 0 [] []:=⟨rfl,by decide,fun j x h=>(by simp at h),by decide,fun j x h=>(by simp at h),fun j x h=>(by simp at h)⟩
def qjR (l:List qb):Int×List qB×List qf×List ku:=qiY l 0 0 [] [] []
theorem qms {N:Nat} (hN:2000<N) {l:List qb} (hl:l.length<=1000) (ok:qht l):qaK N l=some (⟨(qjR l).1,(qjR l).2.1,(qjR l).2.2.1⟩,(qjR l).2.2.2):=by
 have:=qn5 hN hl ok N 0 0 [] [] [] (Nat.zero_le _) (by omega) qjY (Nat.le_refl _)
 rw[show((0:Nat):Int)=0 from rfl,YR]at this
 unfold qaK
 rw[this]
 rfl
theorem qoR {N:Nat} (hN:2000<N) {l:List qb} (hl:l.length<=1000) (ok:qht l):qaI N l=some (⟨(qjR l).1,(qjR l).2.1,(qjR l).2.2.1⟩,(qjR l).2.2.2):=by
 have:=qoh hN hl ok N 0 0 [] [] [] (Nat.zero_le _) (by omega) qjY (Nat.le_refl _)
 rw[show((0:Nat):Int)=0 from rfl,YR]at this
 unfold qaI
 rw[this]
 rfl
theorem qka: ∀(l:List qb) (i:Nat) (d:Int) (lots:List qB) (holds:List qf) (rs:List ku),qht l->OKS d lots holds->OKS (qiY l i d lots holds rs).1 (qiY l i d lots holds rs).2.1 (qiY l i d lots holds rs).2.2.1/\(qiY l i d lots holds rs).2.2.2.length<=rs.length+l.length
 |[],i,d,lots,holds,rs,ok,o=>⟨o,by simp[qiY]⟩
 |e::t,i,d,lots,holds,rs,ok,o=>by
  have k:=ok e List.mem_cons_self
  have ok':qht t:=fun x hx=>ok x (List.mem_cons_of_mem _ hx)
  unfold qiY
  by_cases c:qgQ d lots holds e=0
  ·rw[if_pos c]
   have:=qka t (i+1) _ _ _ rs ok' (qk7 o k c)
   exact⟨this.1,by rw[Yr];omega⟩
  rw[if_neg c]
  have:=qka t (i+1) d lots holds (rs++[⟨((i+1:Nat):Int),qgQ d lots holds e⟩]) ok' o
  refine⟨this.1,?_⟩
  have h2:=this.2
  rw[Yq,List.length_singleton]at h2
  rw[Yr]
  omega
def qfF (l:List qb):Int×List qB×List qf×List ku:=if qeH l=0 then qjR l else(0,[],[],[])
theorem qqL (l:List qb) (sh:qiR l):(qfF l).2.1.length<=1000/\(qfF l).2.2.1.length<=1000/\(qfF l).2.2.2.length<=2000:=by
 unfold qfF
 by_cases z:qeH l=0
 ·obtain⟨h1,h2⟩:=qhf.1 z
  rw[if_pos z]
  obtain⟨o,h3⟩:=qka l 0 0 [] [] [] h2 qjY
  have:=o.ll
  have:=o.hl
  unfold qjR
  simp at h3
  omega
 rw[if_neg z]
 simp
theorem qn7 {N:Nat} (hN:2000<N) {l:List qb} (sh:qiR l):qdP N l=some (⟨(qfF l).1,(qfF l).2.1,(qfF l).2.2.1⟩,(qfF l).2.2.2,qeH l):=by
 unfold qdP qfF
 rw[qmd hN sh,ZB]
 by_cases z:qeH l=0
 ·obtain⟨h1,h2⟩:=qhf.1 z
  rw[if_neg (by simp[z]),if_pos z,qms hN h1 h2,z]
  rfl
 rw[if_pos (by simp[z]),if_neg z]
theorem qoa {N:Nat} (hN:2000<N) {l:List qb} (sh:qiR l):((if qeH l=0 then(qaI N l).bind fun r22=>some (r22.1.Day,r22.1.Lots,r22.1.Holds,r22.2)else some (0,[],[],[]):Option (Int×(List qB)×(List qf)×(List ku))))=some (qfF l):=by
 unfold qfF
 by_cases z:qeH l=0
 ·obtain⟨h1,h2⟩:=qhf.1 z
  rw[if_pos z,if_pos z,qoR hN h1 h2]
  rfl
 rw[if_neg z,if_neg z]
def qll (day:Int):Int:=if qbJ day 0 99999=true then 3 else 0
theorem qrq {N:Nat} (hN2:2000<N) (D am:Int):((if am<0 then(qbP true 3).bind fun r17=>(qa3 N [D,r17]).bind fun r18=>some (r17,r18)else(qbP (decide (am>99999)) 3).bind fun r19=>(qa3 N [D,r19]).bind fun r20=>some (r19,r20):Option (Int×Int)))=some (qll am,qad [D,qll am]):=by
 unfold qll qbJ
 by_cases z:am<0
 ·rw[if_pos z,ql2,ZB,lfst hN2 (by simp),ZB,decide_eq_true z]
  rfl
 rw[if_neg z,ql2,ZB,lfst hN2 (by simp),ZB,decide_eq_false z,Bool.false_or]
def qiA (l:List qb) (day:Int):Int×List qB×List qf×List ku:=if qad [qeH l,qll day]=0 then qjR (upTo day l)else(0,[],[],[])
theorem qnS {l:List qb} {day:Int} (z:qad [qeH l,qll day]=0):l.length<=1000/\qht l/\(upTo day l).length<=1000/\qht (upTo day l):=by
 rw[qsV]at z
 have hc:qeH l=0:=by
  by_cases q:qeH l=0
  ·exact q
  rw[if_neg q]at z;exact z
 obtain⟨h1,h2⟩:=qhf.1 hc
 have hu:(upTo day l).length<=1000:=by
  have:=List.length_filter_le (fun x=>!qdN day x) l
  unfold upTo
  omega
 exact⟨h1,h2,hu,fun e he=>h2 e (List.mem_filter.1 he).1⟩
theorem qp3 (l:List qb) (day:Int):(qiA l day).2.1.length<=1000/\(qiA l day).2.2.1.length<=1000:=by
 unfold qiA
 by_cases z:qad [qeH l,qll day]=0
 ·obtain⟨h1,h2,h3,h4⟩:=qnS z
  rw[if_pos z]
  obtain⟨o,_⟩:=qka (upTo day l) 0 0 [] [] [] h4 qjY
  have:=o.ll
  have:=o.hl
  unfold qjR
  omega
 rw[if_neg z]
 simp
theorem qpr {N:Nat} (hN:2000<N) {l:List qb} (sh:qiR l) (day:Int):qel N l day=some (⟨(qiA l day).1,(qiA l day).2.1,(qiA l day).2.2.1⟩,qad [qeH l,qll day]):=by
 unfold qel
 rw[qmd hN sh,ZB,qkI,ZB,qrx hN (by simp),ZB]
 rw[show(if qbJ day 0 99999=true then(3:Int)else 0)=qll day from rfl]
 unfold qiA
 by_cases z:qad [qeH l,qll day]=0
 ·obtain⟨h1,h2,hu,hk⟩:=qnS z
  rw[if_neg (by simp[z]),if_pos z,z]
  unfold qfW
  rw[if_pos (by omega),ZB]
  rcases qrR hN (day:=day) h1 with⟨g1,g2⟩|g1
  ·rw[g1,ZB]
   show((qaK N l).bind fun r8=>some (r8.1,0))=_
   rw[g2,qms hN h1 h2]
   rfl
  rw[g1,ZB]
  show((qaK N (upTo day l)).bind fun r8=>some (r8.1,0))=_
  rw[qms hN hu hk]
  rfl
 rw[if_pos (by simp[z]),if_neg z]
theorem qpA {N:Nat} (hN:2000<N) (l:List qb) (day:Int):((if qad [qeH l,qll day]=0 then(qdp N l day).bind fun r28=>(qaI N r28).bind fun r29=>some (r29.1.Day,r29.1.Lots,r29.1.Holds)else some (0,[],[]):Option (Int×(List qB)×(List qf))))=some ((qiA l day).1,(qiA l day).2.1,(qiA l day).2.2.1):=by
 unfold qiA
 by_cases z:qad [qeH l,qll day]=0
 ·obtain⟨h1,h2,hu,hk⟩:=qnS z
  rw[if_pos z,if_pos z,qrP hN h1,ZB,qoR hN hu hk]
  rfl
 rw[if_neg z,if_neg z]
theorem qrk {r:StateT×List ku×Int} (hl:r.2.1.length<=2000): ∀(K i:Nat),i<=r.2.1.length->r.2.1.length<K+i->jY r r.2.1 K (i:Int)=some (.inl ())
 |0,i,h,hK=>by omega
 |K+1,i,h,hK=>by
  unfold jY
  by_cases hi:i<r.2.1.length
  ·rw[if_pos (by omega),zI,Ya hi,ZB,ZB,if_neg (by simp),yf (by omega)]
   exact qrk hl K (i+1) (by omega) (by omega)
  rw[if_neg (by omega)]
theorem qiV {N:Nat} (l:List qb) (day:Int) (hN:600000+l.length<N) (b1:l.length*96<=140737488355328):qbH N l day=some true:=by
 have hN2:2000<N:=by omega
 unfold qbH awk
 rw[qr4 (by omega) b1,ZB]
 obtain⟨b,hb,hsh⟩:=qqI hN2 l 30
 rw[hb,ZB]
 cases b with
 |false=>rfl
 |true=>
  obtain⟨hl,sh⟩:=hsh rfl
  have hS: ∀(d:Int) (lots:List qB) (holds:List qf),lots.length<=1000->holds.length<=1000->qbR N ⟨d,lots,holds⟩=some ⟨d,lots,holds⟩/\qcD N ⟨d,lots,holds⟩ ⟨d,lots,holds⟩=some true:=by
   intro d l h g4 g5
   exact⟨qpn (s:=⟨d,l,h⟩) (show l.length<N by omega) (show h.length<N by omega) (show l.length*56<=_ by omega) (show h.length*48<=_ by omega),same_eq (a:=⟨d,l,h⟩) hN2 g4 g5⟩
  obtain⟨p1,p2,p3⟩:=qqL l sh
  obtain⟨u1,u2⟩:=qp3 l day
  have s1:=hS (qfF l).1 (qfF l).2.1 (qfF l).2.2.1 p1 p2
  have s2:=hS (qiA l day).1 (qiA l day).2.1 (qiA l day).2.2.1 u1 u2
  rw[if_neg (by decide),qn7 hN2 sh,ZB,qpr hN2 sh,ZB,qrS hN2 sh,ZB,qrq hN2,ZB]
  simp only
  rw[qoa hN2 sh,ZB]
  simp only
  rw[qpA hN2,ZB,qmd hN2 sh,ZB]
  simp only
  rw[if_neg (by simp),if_neg (by simp),if_neg (by simp),s1.1,ZB,s1.2,ZB,if_neg (by decide),s2.1,ZB,s2.2,ZB,if_neg (by decide),ZB,if_neg (by simp)]
  have hc:=qrk (r:=(⟨(qfF l).1,(qfF l).2.1,(qfF l).2.2.1⟩,(qfF l).2.2.2,qeH l)) p3 N 0 (Nat.zero_le _) (by show(qfF l).2.2.2.length<_;omega)
  rw[show((0:Nat):Int)=0 from rfl]at hc
  simp only at hc
  rw[hc]
  rfl
end Go.Av
end
