/-
  Chapter 10: names and events.
-/
import Derived.Test.YtjflombnfhlkaaaGreatDoorAvPl
import Derived.Test.YtjflombnfhlkaaaGreatDoorQGenF
noncomputable section
namespace Go.Av
set_option linter.unusedSimpArgs false
set_option linter.unusedVariables false
theorem qjf {s:Str} {k:Nat} {c:UInt8} (h:s[k]? =some c):((⟨s.toArray⟩:ByteArray).get! k)=c:=by
 have hk:=(List.getElem?_eq_some_iff.1 h).1
 show s.toArray[k]! =c
 rw[getElem!_def]
 simp[h]
theorem qjT {s:Str} {k:Nat} {c:UInt8} (h:s[k]? =some c) (hc:c.toNat<128):j4 s k=c.toNat∧runeLen s k=1:=by
 have e:=qjf h
 unfold j4 runeLen Utf8.decode
 simp only[Nat.add_zero,e,if_pos hc,and_self]
theorem qkP {s:Str} {k:Nat} {c:UInt8} (h:s[k]? =some c) (hc:128≤c.toNat):128≤j4 s k:=by
 have e:=qjf h
 unfold j4 Utf8.decode
 simp only[Nat.add_zero,e,if_neg (Nat.not_lt.2 hc)]
 have hr:(128:Nat)≤Utf8.runeError:=by decide
 repeat' split
 all_goals first|(simp only[Bool.and_eq_true,decide_eq_true_eq]at*;omega)|(simp;omega)|omega
def qhZ (c:Int):Bool:=(decide (97≤c)&&decide (c≤122))||(decide (65≤c)&&decide (c≤90))
theorem qfy (c:Int):vO c=some (qhZ c):=by
 unfold vO qhZ
 by_cases h1:c≥97<;>by_cases h2:c≤122<;>by_cases h3:c≥65<;>by_cases h4:c≤90<;>simp[h1,h2,h3,h4]<;>omega
def qjv (k:Nat) (c:Int):Bool:=!qhZ c&&(decide (k=0)||(!decide (c=95)&&(decide (c<48)||decide (c>57))))
def xD (s:Str):Bool:=decide (1≤s.length)&&decide (s.length≤24)&&!((List.range s.length).any fun k=>qjv k (s.getD k 0).toNat)
theorem qk9 {k:Nat} {c:Int} (h:128≤c):qjv k c=true:=by
 unfold qjv qhZ
 simp
 omega
def qat (s:Str) (k:Nat):Bool:=(List.range (s.length-k)).any fun j=>qjv (k+j) (s.getD (k+j) 0).toNat
theorem qeK {s:Str} {k:Nat} {c:UInt8} (h:s[k]? =some c):qat s k=(qjv k c.toNat||qat s (k+1)):=by
 have hk:=(List.getElem?_eq_some_iff.1 h).1
 unfold qat
 rw[show s.length-k=(s.length-(k+1))+1 by omega,List.range_succ_eq_map,List.any_cons,List.any_map]
 congr 1
 ·simp[List.getD,h]
 ·congr 1
  funext j
  simp only[Function.comp,Nat.succ_eq_add_one]
  rw[show k+(j+1)=k+1+j by omega]
theorem qfp {s:Str} {k:Nat} (h:s.length≤k):qat s k=false:=by
 unfold qat
 rw[show s.length-k=0 by omega]
 rfl
theorem qhv (s:Str): ∀(K k:Nat),k≤s.length→s.length<K+k→jH s K k=some (if qat s k then .inr false else .inl ())
 |0,k,h,hK=>by omega
 |K+1,k,h,hK=>by
  unfold jH
  by_cases hk:k<s.length
  ·have hc:s[k]? =some s[k]:=List.getElem?_eq_getElem hk
   rw[if_pos hk,qfy,qeK hc]
   by_cases ha:(s[k]).toNat<128
   ·obtain⟨e1,e2⟩:=qjT hc ha
    rw[e1,e2,qhv s K (k+1) (by omega) (by omega)]
    have ek:((k:Int)=0)↔k=0:=by omega
    unfold qjv
    generalize ((s[k]).toNat:Int)=c
    cases hl:qhZ c<;>by_cases h0:k=0<;>by_cases h1:c=95<;>by_cases h2:c<48<;>by_cases h3:57<c<;>
     simp[hl,h0,h1,h2,h3]
   ·have hw:=qkP hc (by omega)
    rw[qk9 (show(128:Int)≤((s[k]).toNat:Int)by omega)]
    have hl:qhZ (j4 s k)=false:=by unfold qhZ;simp;omega
    have h1: ¬j4 s k=95:=by omega
    have h2: ¬j4 s k<48:=by omega
    have h3:j4 s k>57:=by omega
    have ek:((k:Int)=0)↔k=0:=by omega
    simp only[hl,Option.bind_some,Bool.not_false,if_true,h1,h2,h3,decide_true,decide_false,if_false,Bool.true_or,ek]
    by_cases h0:k=0
    ·simp only[h0,if_true,Option.bind_some]
    ·simp only[h0,if_false,Option.bind_some,if_true]
  ·rw[if_neg hk,qfp (by omega)]
   rfl
theorem qiC (s:Str):xD s=(decide (1≤s.length)&&decide (s.length≤24)&&!qat s 0):=by
 unfold xD qat
 simp
theorem qk6 {N:Nat} {s:Str} (h:s.length<N):xP N s=some (xD s):=by
 unfold xP
 rw[qhv s N 0 (Nat.zero_le _) (by omega),qiC]
 cases hb:qat s 0
 ·cases s with
  |nil=>simp
  |cons x xs=>
   have e:((x::xs)==([]:Str))=false:=rfl
   simp only[Option.bind_some,Bool.false_eq_true,if_false,e,Bool.not_false,if_true,Bool.and_true,Option.some.injEq]
   have:(1≤(x::xs).length):=by simp
   rw[Bool.eq_iff_iff]
   simp only[decide_eq_true_eq,Bool.and_eq_true,this,true_and]
   omega
 ·simp
theorem qgx (s:Str) (hs:s.length<4611686018427387904): ∀(K k:Nat),k≤s.length→s.length<K+k→jX s K (k:Int)=some (if qat s k then .inr false else .inl ())
 |0,k,h,hK=>by omega
 |K+1,k,h,hK=>by
  unfold jX
  by_cases hk:k<s.length
  ·have hc:s[k]? =some s[k]:=List.getElem?_eq_getElem hk
   rw[if_pos (by omega),qE,hc,qeK hc,qM (by omega),qgx s hs K (k+1) (by omega) (by omega)]
   simp only[Option.bind_some]
   have ek:((k:Int)=0)↔k=0:=by omega
   unfold qjv
   generalize ((s[k]).toNat:Int)=c
   rw[show(if c≥97 then if c≤122 then some true else if c≥65 then some (decide (c≤90))else some false else if c≥65 then some (decide (c≤90))else some false:Option Bool)=some (qhZ c)from by
    have:=qfy c
    unfold vO at this
    rw[←this]
    cases(if c≥97 then if c≤122 then some true else if c≥65 then some (decide (c≤90))else some false else if c≥65 then some (decide (c≤90))else some false:Option Bool)<;>rfl]
   simp only[Option.bind_some,ek]
   cases qhZ c
   ·by_cases h5:k=0
    ·simp[h5]
    ·by_cases h6:c≥48
     ·by_cases h7:c≤57
      ·have a1: ¬c<48:=by omega
       have a2: ¬c>57:=by omega
       simp[h5,h6,h7,a1,a2]
      ·have a1: ¬c<48:=by omega
       have a2:c>57:=by omega
       by_cases h8:c=95<;>simp[h5,h6,h7,h8,a1,a2]
     ·have a1:c<48:=by omega
      by_cases h8:c=95<;>simp[h5,h6,h8,a1]
   ·simp
  ·rw[if_neg (by omega),qfp (by omega)]
   rfl
theorem qed {N:Nat} {s:Str} (h:s.length<N) (hs:s.length<4611686018427387904):yI N s=some (xD s):=by
 unfold yI
 rw[show(0:Int)=((0:Nat):Int)from rfl,qgx s hs N 0 (Nat.zero_le _) (by omega),qiC]
 by_cases h1:s.length<1
 ·rw[if_pos (by omega)]
  simp[show¬1≤s.length by omega]
 ·by_cases h2:s.length>24
  ·rw[if_neg (by omega)]
   simp only[Option.bind_some,show((s.length:Int)>24)by omega,decide_true,if_true,show¬s.length≤24 by omega,decide_false,Bool.and_false,Bool.false_and]
  ·rw[if_neg (by omega)]
   simp only[Option.bind_some,show¬((s.length:Int)>24)by omega,decide_false,Bool.false_eq_true,if_false,show 1≤s.length by omega,show s.length≤24 by omega,decide_true,Bool.true_and]
   cases hb:qat s 0<;>rfl
def qR:List Int→Int
 |[]=>0
 |x::xs=>if x=0 then qR xs else x
theorem qiM (l:List Int) (hl:l.length<4611686018427387904): ∀(K k:Nat),k≤l.length→l.length<K+k→jZ l K (k:Int)=some (if qR (l.drop k)=0 then .inl ()else .inr (qR (l.drop k)))
 |0,k,h,hK=>by omega
 |K+1,k,h,hK=>by
  unfold jZ
  by_cases hk:k<l.length
  ·rw[if_pos (by omega),qE,List.getElem?_eq_getElem hk,List.drop_eq_getElem_cons hk,qM (by omega),qiM l hl K (k+1) (by omega) (by omega)]
   simp only[Option.bind_some,qR]
   by_cases h0:l[k]=0
   ·simp[h0]
   ·simp[h0]
  ·rw[if_neg (by omega),List.drop_of_length_le (by omega)]
   rfl
theorem xG {N:Nat} {l:List Int} (hl:l.length<4611686018427387904) (h:l.length<N):qV N l=some (qR l):=by
 unfold qV
 rw[show(0:Int)=((0:Nat):Int)from rfl,qiM l hl N 0 (Nat.zero_le _) (by omega),List.drop_zero]
 by_cases h0:qR l=0
 ·simp[h0]
 ·simp[h0]
theorem qaQ (b:Bool) (e:Int):qU b e=some (if b=true then e else 0):=by
 unfold qU;split<;>rfl
def j3 (n lo hi:Int):Bool:=decide (n<lo)||decide (n>hi)
theorem qaG (n lo hi:Int):kV n lo hi=some (if j3 n lo hi=true then 3 else 0):=by
 unfold kV j3
 simp only[qaQ]
 by_cases h:n<lo<;>simp[h]
theorem qaM (n lo hi:Int):zk n lo hi=some (j3 n lo hi):=by
 unfold zk j3
 by_cases h:n<lo<;>simp[h]
theorem qf8 {N:Nat} {s:Str} (h:s.length<N):vW N s=some (if xD s=true then 0 else 8):=by
 unfold vW
 simp only[qk6 h,qaQ,Option.bind_some]
 cases xD s<;>rfl
def xA:Str:=[109,97,107,101]
def qak:Str:=[116,101,115,116]
def qbT:Str:=[117,115,101]
def xJ:Str:=[102,97,105,108]
def zR:Str:=[114,101,99,97,108,108]
def yZ:Str:=[117,110,100,111]
def jm (k:Str):Int×Int×Bool:=
 if(k==xA)=true then(2,3,true)else if(k==qak)=true then(1,2,true)else if(k==qbT)=true then(1,2,true)else if(k==xJ)=true then(1,1,true)
 else if(k==zR)=true then(1,1,true)else if(k==yZ)=true then(0,0,true)else(0,0,false)
theorem qkl (k:Str):qaH k=some (jm k):=by
 unfold qaH jm xA qak qbT xJ zR yZ
 by_cases h1:(k==[109,97,107,101])=true
 ·simp only[h1,if_true]
 ·by_cases h2:(k==[116,101,115,116])=true
  ·simp only[h1,h2,if_false,if_true,Option.bind_some];rfl
  ·by_cases h3:(k==[117,115,101])=true
   ·simp only[h1,h2,h3,if_false,if_true,Option.bind_some];rfl
   ·by_cases h4:(k==[102,97,105,108])=true
    ·simp only[h1,h2,h3,h4,if_false,if_true,Option.bind_some];rfl
    ·by_cases h5:(k==[114,101,99,97,108,108])=true
     ·simp only[h1,h2,h3,h4,h5,if_false,if_true,Option.bind_some];rfl
     ·simp only[h1,h2,h3,h4,h5,if_false,Option.bind_some,Bool.false_eq_true]
      split<;>rfl
def yG (e:ql):Int:=
 if j3 e.Number 1 1000=true then 3
 else if(jm e.Kind).2.2=false then 13
 else if¬((e.Names.length:Int)=(jm e.Kind).1∧(e.Values.length:Int)=(jm e.Kind).2.1)then 2
 else if e.Names.all xD=false then 8
 else if e.Values.all (fun v=>!j3 v 0 999999999)=false then 3
 else if e.Text=[]then 0 else 1
theorem qnk {N:Nat} (e:ql) (hl:e.Names.length<4611686018427387904) (hs: ∀s∈e.Names,s.length<N): ∀(K k:Nat),k≤e.Names.length→e.Names.length<K+k→zG N e K (k:Int)=some (if(e.Names.drop k).all xD=true then .inl ()else .inr 8)
 |0,k,h,hK=>by omega
 |K+1,k,h,hK=>by
  unfold zG
  by_cases hk:k<e.Names.length
  ·rw[if_pos (by omega),qE,List.getElem?_eq_getElem hk,List.drop_eq_getElem_cons hk,qM (by omega),qnk e hl hs K (k+1) (by omega) (by omega)]
   simp only[Option.bind_some,qf8 (hs _ (List.getElem_mem hk)),List.all_cons]
   by_cases hq:xD e.Names[k]=true<;>simp[hq]
  ·rw[if_neg (by omega),List.drop_of_length_le (by omega)]
   rfl
theorem qne (e:ql) (hl:e.Values.length<4611686018427387904): ∀(K k:Nat),k≤e.Values.length→e.Values.length<K+k→zH e K (k:Int)=some (if(e.Values.drop k).all (fun v=>!j3 v 0 999999999)=true then .inl ()else .inr 3)
 |0,k,h,hK=>by omega
 |K+1,k,h,hK=>by
  unfold zH
  by_cases hk:k<e.Values.length
  ·rw[if_pos (by omega),qE,List.getElem?_eq_getElem hk,List.drop_eq_getElem_cons hk,qM (by omega),qne e hl K (k+1) (by omega) (by omega)]
   simp only[Option.bind_some,qaG,List.all_cons]
   by_cases hq:j3 e.Values[k] 0 999999999=true<;>simp[hq]
  ·rw[if_neg (by omega),List.drop_of_length_le (by omega)]
   rfl
structure qef (N:Nat) (e:ql):Prop where
 n:e.Names.length<N
 v:e.Values.length<N
 s: ∀s∈e.Names,s.length<N
theorem qg5 {N:Nat} (hN:N<4611686018427387904) (h3:3<N) {e:ql} (h:qef N e):vR N e=some (yG e):=by
 obtain⟨hn,hv,hs⟩:=h
 unfold vR
 have hf:((zA).bind fun r1=>
  if(e.Kind==[109,97,107,101])=true then some (2,3,true)else if(e.Kind==[116,101,115,116])=true then some (1,2,true)else if(e.Kind==[117,115,101])=true then some (1,2,true)
  else if(e.Kind==[102,97,105,108])=true then some (1,1,true)else if(e.Kind==[114,101,99,97,108,108])=true then some (1,1,true)else if(e.Kind==[117,110,100,111])=true then some (0,0,true)
  else some (0,0,false):Option (Int×Int×Bool))=some (jm e.Kind):=by
  simp only[zA,Option.bind_some,jm,xA,qak,qbT,xJ,zR,yZ]
  by_cases h1:(e.Kind==[109,97,107,101])=true
  ·simp only[h1,if_true]
  by_cases h2:(e.Kind==[116,101,115,116])=true
  ·simp only[h1,h2,if_true,if_false,Bool.false_eq_true]
  by_cases h3:(e.Kind==[117,115,101])=true
  ·simp only[h1,h2,h3,if_true,if_false,Bool.false_eq_true]
  by_cases h4:(e.Kind==[102,97,105,108])=true
  ·simp only[h1,h2,h3,h4,if_true,if_false,Bool.false_eq_true]
  by_cases h5:(e.Kind==[114,101,99,97,108,108])=true
  ·simp only[h1,h2,h3,h4,h5,if_true,if_false,Bool.false_eq_true]
  by_cases h6:(e.Kind==[117,110,100,111])=true
  ·simp only[h1,h2,h3,h4,h5,h6,if_true,if_false,Bool.false_eq_true]
  simp only[h1,h2,h3,h4,h5,h6,if_true,if_false,Bool.false_eq_true]
 rw[hf]
 have e0:(0:Int)=((0:Nat):Int):=rfl
 simp only[Option.bind_some,qaG,qaQ,xG (N:=N) (l:=[_,_,_]) (by simp) (by simpa using h3)]
 rw[e0,qnk e (by omega) hs N 0 (by omega) (by omega),qne e (by omega) N 0 (by omega) (by omega),List.drop_zero,List.drop_zero]
 unfold yG
 generalize jm e.Kind=f
 obtain⟨a,b,c⟩:=f
 by_cases h1:j3 e.Number 1 1000=true
 ·by_cases hx:(e.Names.length:Int)=a<;>simp[h1,qR,hx]
 ·cases c
  ·by_cases hx:(e.Names.length:Int)=a<;>simp[h1,qR,hx]
  ·by_cases hx:(e.Names.length:Int)=a
   ·by_cases hy:(e.Values.length:Int)=b
    ·cases hA:e.Names.all xD
     ·simp[h1,qR,hx,hy,hA]
     ·cases hB:e.Values.all (fun v=>!j3 v 0 999999999)
      ·simp[h1,qR,hx,hy,hA,hB]
      ·by_cases ht:e.Text=[]
       ·simp[h1,qR,hx,hy,hA,hB,ht]
       ·have:(e.Text==[])=false:=by cases hq:e.Text with|nil=>exact absurd hq ht|cons=>rfl
        simp[h1,qR,hx,hy,hA,hB,ht,this]
    ·simp[h1,qR,hx,hy]
   ·simp[h1,qR,hx]
theorem qmw {N:Nat} (hN:N<4611686018427387904) (e:ql) {r:Int×Int×Bool} (hr:(e.Names.length:Int)=r.1) (hl:e.Names.length<4611686018427387904) (hs: ∀s∈e.Names,s.length<N): ∀(K k:Nat),k≤e.Names.length→e.Names.length<K+k→zO N e r K (k:Int)=some (if(e.Names.drop k).all xD=true then .inl ()else .inr 8)
 |0,k,h,hK=>by omega
 |K+1,k,h,hK=>by
  unfold zO
  by_cases hk:k<e.Names.length
  ·have:=hs _ (List.getElem_mem hk)
   rw[if_pos (by omega),qE,List.getElem?_eq_getElem hk,List.drop_eq_getElem_cons hk,qM (by omega),qmw hN e hr hl hs K (k+1) (by omega) (by omega)]
   simp only[Option.bind_some,qed this (by omega),List.all_cons]
   by_cases hq:xD e.Names[k]=true<;>simp[hq]
  ·rw[if_neg (by omega),List.drop_of_length_le (by omega)]
   rfl
theorem qmy (e:ql) {r:Int×Int×Bool} (hr:(e.Values.length:Int)=r.2.1) (hl:e.Values.length<4611686018427387904): ∀(K k:Nat),k≤e.Values.length→e.Values.length<K+k→zN e r K (k:Int)=some (if(e.Values.drop k).all (fun v=>!j3 v 0 999999999)=true then .inl ()else .inr 3)
 |0,k,h,hK=>by omega
 |K+1,k,h,hK=>by
  unfold zN
  by_cases hk:k<e.Values.length
  ·rw[if_pos (by omega),qE,List.getElem?_eq_getElem hk,List.drop_eq_getElem_cons hk,qM (by omega),qmy e hr hl K (k+1) (by omega) (by omega)]
   simp only[Option.bind_some,qaM,List.all_cons]
   by_cases hq:j3 e.Values[k] 0 999999999=true<;>simp[hq]
  ·rw[if_neg (by omega),List.drop_of_length_le (by omega)]
   rfl
theorem qdo {N:Nat} (hN:N<4611686018427387904) {e:ql} (h:qef N e):vz N e=some (yG e):=by
 obtain⟨hn,hv,hs⟩:=h
 unfold vz yG
 rw[qaM,qkl]
 simp only[Option.bind_some]
 by_cases h1:j3 e.Number 1 1000=true
 ·simp[h1]
 ·rw[if_neg h1,if_neg h1]
  cases hc:(jm e.Kind).2.2
  ·simp
  ·by_cases hx:(e.Names.length:Int)=(jm e.Kind).1
   ·by_cases hy:(e.Values.length:Int)=(jm e.Kind).2.1
    ·have e0:(0:Int)=((0:Nat):Int):=rfl
     rw[e0,qmw hN e hx (by omega) hs N 0 (by omega) (by omega),qmy e hy (by omega) N 0 (by omega) (by omega),List.drop_zero,List.drop_zero]
     cases hA:e.Names.all xD
     ·simp[hx,hy]
     ·cases hB:e.Values.all (fun v=>!j3 v 0 999999999)
      ·simp[hx,hy]
      ·by_cases ht:e.Text=[]
       ·simp[hx,hy,ht]
       ·have:(e.Text==[])=false:=by cases hq:e.Text with|nil=>exact absurd hq ht|cons=>rfl
        simp[hx,hy,ht,this]
    ·simp[hx,hy]
   ·simp[hx]
def qcd (s:qj) (d:Int):Bool:=s.Gone||(decide (d>s.Last)||decide (s.Used=s.Uses))
def qfZ (s:qj) (d:Int):Bool:=decide (s.Limit>0)&&decide (d≤s.Until)
theorem qf0 (s:qj) (d:Int):ja s d=some (qcd s d):=by
 unfold ja qcd
 by_cases h:s.Gone=true
 ·simp[h]
 ·by_cases h2:d>s.Last<;>simp[h,h2]
theorem qfq (s:qj) (d:Int):yU s d=some (qcd s d):=by
 unfold yU qcd
 by_cases h:s.Gone=true
 ·simp[h]
 ·by_cases h2:d>s.Last<;>simp[h,h2]
theorem qla (s:qj) (d:Int):vH s d=some (qfZ s d):=by
 unfold vH qfZ
 by_cases h:s.Limit>0<;>simp[h]
theorem qkr (s:qj) (d:Int):qal s d=some (qfZ s d):=by
 unfold qal qfZ
 by_cases h:s.Limit>0<;>simp[h]
def j6:List qj→Str→Nat
 |[],_=>0
 |s::l,n=>if ltL s.Name n=true then j6 l n+1 else 0
def xe:List qj→Str→Bool
 |[],_=>false
 |s::l,n=>if ltL s.Name n=true then xe l n else s.Name==n
theorem qes: ∀(l:List qj) (n:Str),j6 l n≤l.length
 |[],_=>Nat.le_refl _
 |s::l,n=>by
  unfold j6
  split
  ·have:=qes l n;simp only[List.length_cons];omega
  ·simp
theorem qdD: ∀{l:List qj} {n:Str},xe l n=true→j6 l n<l.length
 |[],_,h=>by simp[xe]at h
 |s::l,n,h=>by
  unfold xe at h
  unfold j6
  by_cases hc:ltL s.Name n=true
  ·rw[if_pos hc]at h⊢
   have:=qdD h
   simp only[List.length_cons];omega
  ·rw[if_neg hc];simp
theorem qeE: ∀{l:List qj} {n:Str} {s:qj},l[j6 l n]? =some s→xe l n=(s.Name==n)
 |[],_,_,h=>by simp at h
 |t::l,n,s,h=>by
  unfold j6 at h
  unfold xe
  by_cases hc:ltL t.Name n=true
  ·rw[if_pos hc]at h⊢
   exact qeE (by simpa using h)
  ·rw[if_neg hc]at h⊢
   simp only[List.getElem?_cons_zero,Option.some.injEq]at h
   rw[h]
theorem qeN (l:List qj) (hl:l.length<4611686018427387904) (n:Str): ∀(K k:Nat),k≤l.length→l.length<K+k→qX l n K (k:Int)=some (if j6 (l.drop k) n<(l.drop k).length then .inr ((k+j6 (l.drop k) n:Nat):Int)else .inl ())
 |0,k,h,hK=>by omega
 |K+1,k,h,hK=>by
  unfold qX
  by_cases hk:k<l.length
  ·rw[if_pos (by omega),qE,List.getElem?_eq_getElem hk,List.drop_eq_getElem_cons hk,qM (by omega),qeN l hl n K (k+1) (by omega) (by omega)]
   simp only[Option.bind_some,jw,j6,List.length_cons]
   by_cases hc:ltL (l[k]).Name n=true
   ·simp only[hc,Bool.not_true,Bool.false_eq_true,if_false,if_true,Nat.add_lt_add_iff_right]
    split
    ·rw[show k+1+j6 (List.drop (k+1) l) n=k+(j6 (List.drop (k+1) l) n+1)by omega]
    ·rfl
   ·simp[hc]
  ·rw[if_neg (by omega),List.drop_of_length_le (by omega)]
   rfl
theorem qkf {N:Nat} {l:List qj} (hl:l.length<4611686018427387904) (hN:l.length<N) (d:Int) (n:Str):jb N ⟨d,l⟩ n=some ((j6 l n:Int),xe l n):=by
 unfold jb jE
 rw[show(0:Int)=((0:Nat):Int)from rfl,qeN l hl n N 0 (by omega) (by omega),List.drop_zero]
 by_cases h:j6 l n<l.length
 ·have hg:l[j6 l n]? =some (l[j6 l n]):=List.getElem?_eq_getElem h
  have h2: ¬((j6 l n:Nat):Int)<0:=by omega
  simp only[h,if_true,Nat.zero_add,Option.bind_some]
  rw[if_neg (by omega),qE,hg,Option.bind_some,qeE hg]
 ·have h0:xe l n=false:=by
   cases hq:xe l n with
   |false=>rfl
   |true=>exact absurd (qdD hq) h
  have h1:j6 l n=l.length:=by have:=qes l n;omega
  simp[h,h0,h1]
def Asc (l:List qj):Prop:=l.Pairwise fun a b=>ltL a.Name b.Name=true
theorem Asc.find: ∀{l:List qj},Asc l→ ∀n:Str,l.findIdx? (fun s=>s.Name==n)=if xe l n=true then some (j6 l n)else none
 |[],_,n=>by simp[xe]
 |s::l,h,n=>by
  have h1:=(List.pairwise_cons.1 h).1
  have h2:=Asc.find (List.pairwise_cons.1 h).2 n
  rw[List.findIdx?_cons]
  unfold xe j6
  by_cases hc:ltL s.Name n=true
  ·have:(s.Name==n)=false:=beq_eq_false_iff_ne.2 (qel hc)
   rw[if_pos hc,if_pos hc,this,h2]
   simp only[Bool.false_eq_true,if_false]
   split<;>rfl
  ·rw[if_neg hc,if_neg hc]
   by_cases he:(s.Name==n)=true
   ·simp[he]
   ·simp only[he,if_false,Bool.false_eq_true]
    have hgt:ltL n s.Name=true:=by
     cases hq:ltL n s.Name with
     |true=>rfl
     |false=>exact absurd (beq_iff_eq.2 (qev _ _ (by simpa using hc) hq)) he
    have:l.findIdx? (fun s=>s.Name==n)=none:=by
     rw[List.findIdx?_eq_none_iff]
     intro x hx
     exact beq_eq_false_iff_ne.2 fun e=>qel (qdE hgt (h1 x hx)) e.symm
    rw[this];rfl
theorem qna (r:qK) (hl:r.Slings.length<4611686018427387904) (n:Str): ∀(K k:Nat),k≤r.Slings.length→r.Slings.length<K+k→xu r n K (k:Int)=some (match(r.Slings.drop k).findIdx? (fun s=>s.Name==n)with|some j=> .inr ((k+j:Nat):Int)|none=> .inl ())
 |0,k,h,hK=>by omega
 |K+1,k,h,hK=>by
  unfold xu
  by_cases hk:k<r.Slings.length
  ·rw[if_pos (by omega),qE,List.getElem?_eq_getElem hk,List.drop_eq_getElem_cons hk,qM (by omega),qna r hl n K (k+1) (by omega) (by omega),List.findIdx?_cons]
   simp only[Option.bind_some]
   by_cases he:((r.Slings[k]).Name==n)=true
   ·simp[he]
   ·simp only[he,if_false,Bool.false_eq_true]
    cases(r.Slings.drop (k+1)).findIdx? (fun s=>s.Name==n)with
    |none=>rfl
    |some j=>simp only[Option.map_some];rw[show k+1+j=k+(j+1)by omega]
  ·rw[if_neg (by omega),List.drop_of_length_le (by omega)]
   rfl
theorem qlZ {N:Nat} {r:qK} (hl:r.Slings.length<4611686018427387904) (hN:r.Slings.length<N) (ha:Asc r.Slings) (n:Str):qds N r n=some (if xe r.Slings n=true then(j6 r.Slings n:Int)else-1):=by
 unfold qds
 rw[show(0:Int)=((0:Nat):Int)from rfl,qna r hl n N 0 (by omega) (by omega),List.drop_zero,ha.find n]
 by_cases h:xe r.Slings n=true<;>simp[h]
theorem Asc.uniq {l:List qj} (h:Asc l) {i:Nat} {s:qj} {n:Str} (hi:l[i]? =some s) (hs:s.Name=n):xe l n=true∧j6 l n=i:=by
 have hf:=h.find n
 have hlt:=(List.getElem?_eq_some_iff.1 hi).1
 cases hq:xe l n with
 |false=>
  rw[hq,if_neg (by simp),List.findIdx?_eq_none_iff]at hf
  have:=hf s (List.mem_of_getElem? hi)
  simp[hs]at this
 |true=>
  refine⟨rfl,?_⟩
  have hp:=qdD hq
  have hg:l[j6 l n]? =some (l[j6 l n]):=List.getElem?_eq_getElem hp
  have hn:=qeE hg
  rw[hq]at hn
  have hn:(l[j6 l n]).Name=n:=(beq_iff_eq.1 hn.symm)
  have he:l[i]=s:=by
   rw[List.getElem?_eq_getElem hlt]at hi
   injection hi
  rcases Nat.lt_trichotomy (j6 l n) i with hlt2|e|hgt
  ·have:=List.pairwise_iff_getElem.1 h _ _ hp hlt hlt2
   rw[he,hn,hs]at this
   exact absurd rfl (qel this)
  ·exact e
  ·have:=List.pairwise_iff_getElem.1 h _ _ hlt hp hgt
   rw[he,hn,hs]at this
   exact absurd rfl (qel this)
def qf2 (l:List qj) (s:qj):List qj:=l.take (j6 l s.Name)++s::l.drop (j6 l s.Name)
theorem qcb {d:Int} {l:List qj} (h:l.length≤1000):qC d l=some l:=by
 unfold qC
 have e:mk 88 (l.length:Int) (⟨[],[],0,0,0,0,0,0,false⟩:qj)=some (List.replicate l.length ⟨[],[],0,0,0,0,0,0,false⟩):=by
  unfold mk
  rw[if_pos ⟨by omega,by omega,by omega⟩,Int.toNat_natCast]
 rw[e,Option.bind_some,qi9 (by simp)]
 rfl
theorem qkY {l:List qj} (h:l.length≤1000) {p:Nat} (hp:p≤l.length) (a b:Str) (c d e f g i:Int) (j:Bool):jy l (p:Int) a b c d e f g i j=some (l.take p++⟨a,b,c,d,e,f,g,i,j⟩::l.drop p):=by
 unfold jy
 generalize hs:(⟨a,b,c,d,e,f,g,i,j⟩:qj)=s
 rw[qjm hp,Option.bind_some,if_neg (by decide)]
 by_cases he:p=l.length
 ·rw[if_pos (by omega),he,List.take_length,List.drop_length]
  cases l with
  |nil=>rfl
  |cons x xs=>
   simp only[List.length_cons]at h
   simp only[zB (b:=88) (l:=x::xs) (xs:=[s]) (by simp;omega) (by simp;omega),Option.bind_some]
 ·rw[if_neg (by omega)]
  have w1:w64 ((l.length:Int)+1)=((l.length+1:Nat):Int):=qM (by omega)
  have w2:w64 (((l.length+1:Nat):Int)-(p:Int))=((l.length+1-p:Nat):Int):=by rw[qaL (by omega) (by omega)];omega
  have w3:w64 ((p:Int)+1)=((p+1:Nat):Int):=qM (by omega)
  rw[w1,if_pos (by omega),w2,w3]
  have e1:qkV 88 l p ((l.length+1-p:Nat):Int) (⟨[],[],0,0,0,0,0,0,false⟩:qj)=some (l.take p++List.replicate (l.length+1-p) ⟨[],[],0,0,0,0,0,0,false⟩):=by
   unfold qkV
   rw[if_pos ⟨by omega,by omega,by omega,by omega,hp,by simp only[Int.toNat_natCast];omega,by simp only[Int.toNat_natCast];omega,by simp only[Int.toNat_natCast];omega⟩,Int.toNat_natCast]
  rw[e1,Option.bind_some]
  obtain⟨z,hz⟩: ∃z:qj,z=⟨[],[],0,0,0,0,0,0,false⟩:=⟨_,rfl⟩
  rw[←hz]
  have e2:List.replicate (l.length+1-p) z=z::List.replicate (l.length-p) z:=by
   rw[show l.length+1-p=(l.length-p)+1 by omega];rfl
  have lt:(l.take p).length=p:=by rw[List.length_take];omega
  have e3:(if(p:Int)=0 then(some (cpy (l.take p++List.replicate (l.length+1-p) z) [s])).bind fun l13=>some l13
   else(at' (l.take p++List.replicate (l.length+1-p) z) (p:Int)).bind fun j14=>((if j14<(l.take p++List.replicate (l.length+1-p) z).length then some ()else none:Option Unit)).bind fun u15=>
    (some (qeL (l.take p++List.replicate (l.length+1-p) z) j14 [s])).bind fun l16=>some l16:Option (List qj))=some (l.take p++s::List.replicate (l.length-p) z):=by
   by_cases h0:p=0
   ·subst h0
    rw[if_pos (by rfl)]
    simp only[Option.bind_some,List.take_zero,List.nil_append,e2]
    simp[cpy]
   ·rw[if_neg (by omega),qjm (by simp;omega),Option.bind_some,if_pos (by simp;omega),Option.bind_some,Option.bind_some]
    simp only[qeL,List.take_append,List.drop_append,lt,Nat.sub_self,List.take_zero,List.append_nil,List.drop_zero]
    rw[List.take_of_length_le (by omega),List.drop_of_length_le (by omega),List.nil_append,e2]
    simp[cpy]
  rw[e3,Option.bind_some,if_neg (by omega),qjm (by simp;omega),Option.bind_some,if_pos (by simp;omega),Option.bind_some,Option.bind_some]
  have e4:(l.take p++s::List.replicate (l.length-p) z).take (p+1)=l.take p++[s]:=by
   rw[List.take_append,lt,List.take_of_length_le (by omega),show p+1-p=1 by omega];rfl
  have e5:(l.take p++s::List.replicate (l.length-p) z).drop (p+1)=List.replicate (l.length-p) z:=by
   rw[List.drop_append,lt,List.drop_of_length_le (by omega),show p+1-p=1 by omega];rfl
  simp only[qeL,e4,e5]
  rw[qi9 (by simp),List.append_assoc]
  rfl
def qac (d day:Int):Int:=if day>99999 then 3 else if day<d then 19 else 0
theorem qk2 {N:Nat} (hN:2<N) {d day:Int} (h:0≤day):qV N [if j3 day 0 99999=true then 3 else 0,if decide (day<d)=true then 19 else 0]=some (qac d day):=by
 rw[xG (by simp) (by simpa using hN)]
 unfold j3 qac
 by_cases h1:day>99999
 ·simp[h1,qR]
 ·have: ¬day<0:=by omega
  by_cases h2:day<d<;>simp[h1,h2,this,qR]
theorem qfr (n:Int):vN n=some (if j3 n 0 99999=true then 3 else 0):=by
 unfold vN;rw[qaG];rfl
structure qbb (N:Nat) (l:List qj):Prop where
 asc:Asc l
 len:l.length≤1000
 big:2000<N
 max:N<4611686018427387904
def qeC (r:Option (Int×List qj×Int)) (err day:Int) (new:List qj):Prop:= ∃x l',r=some (x,l',err)∧(err=0→x=day∧l'=new)
structure qkn (N:Nat) (d:Int) (l:List qj) (e:ql) (err day:Int) (new:List qj):Prop where
 ref:zV N ⟨d,l⟩ e=some err
 aft:err=0→jc N ⟨d,l⟩ e=some ⟨day,new⟩
theorem qeC.day {N:Nat} (hN:2000<N) {d:Int} {l new:List qj} {num:Int} {k:Str} {ns:List Str} {vs:List Int} {t:Str} {day err err2:Int} (hv:vs[0]? =some day) (h0:0≤day) (he:err=if qac d day=0 then err2 else qac d day)
 (hk:qac d day=0→ ∃l',(((zA).bind fun r9=>
    if(k==[109,97,107,101])=true then(qC d l).bind fun l12=>(xk N d l12 num k ns vs t).bind fun(l14,e_15)=>some (l14,e_15)
    else if(k==[116,101,115,116])=true then(qC d l).bind fun l18=>(yc N d l18 num k ns vs t).bind fun(l20,e_21)=>some (l20,e_21)
    else if(k==[117,115,101])=true then(qC d l).bind fun l24=>(xm N d l24 num k ns vs t).bind fun(l26,e_27)=>some (l26,e_27)
    else if(k==[102,97,105,108])=true then(qC d l).bind fun l30=>(vZ N d l30 num k ns vs t).bind fun(l32,e_33)=>some (l32,e_33)
    else if(k==[114,101,99,97,108,108])=true then(qC d l).bind fun l36=>(vE N d l36 num k ns vs t).bind fun(l38,e_39)=>some (l38,e_39)
    else if(k==[117,110,100,111])=true then none else none:Option (List qj×Int))=some (l',err2))∧(err2=0→l'=new)):
 qeC (qG N d l num k ns vs t) err day new:=by
 unfold qeC qG
 rw[yX,hv,Option.bind_some,qfr,Option.bind_some,qaQ,Option.bind_some,qk2 (by omega) h0,Option.bind_some]
 by_cases hd:qac d day=0
 ·obtain⟨l',h1,h2⟩:=hk hd
  rw[if_pos hd]at he
  subst he
  rw[if_neg (by simp[hd]),h1,Option.bind_some]
  exact⟨day,l',rfl,fun h=>⟨rfl,h2 h⟩⟩
 ·rw[if_neg hd]at he
  subst he
  rw[if_pos (by simp[hd])]
  exact⟨0,[],rfl,fun h=>absurd h hd⟩
def qgD (l:List qj) (n:Str) (day life uses:Int):Int:=
 if xe l n=true then 9 else if j3 life 1 9999=true then 3 else if j3 uses 1 9999=true then 3 else if w64 (day+life)>99999 then 3 else if l.length≥256 then 5 else 0
theorem qnp {N:Nat} {d:Int} {l:List qj} (h:qbb N l) {num day life uses:Int} {n b t:Str} (h0:0≤day∧day≤999999999) (h1:0≤life∧life≤999999999):
 qeC (qG N d l num xA [n,b] [day,life,uses] t) (if qac d day=0 then qgD l n day life uses else qac d day) day (qf2 l ⟨n,b,day,w64 (day+life),uses,0,0,0,false⟩):=by
 obtain⟨ha,hl,hN,hM⟩:=h
 refine qeC.day hN rfl h0.1 rfl fun hd=>?_
 simp only[zA,Option.bind_some,show(xA==[109,97,107,101])=true by decide,if_true,qcb hl,xk,yX,qd5,qlV,List.getElem?_cons_zero,List.getElem?_cons_succ,qkf (N:=N) (l:=l) (by omega) (by omega),qaQ,qaG,qfr]
 rw[xG (by simp) (by simp;omega),Option.bind_some]
 have e:qR [if xe l n=true then 9 else 0,if j3 life 1 9999=true then 3 else 0,if j3 uses 1 9999=true then 3 else 0,if j3 (w64 (day+life)) 0 99999=true then 3 else 0,if decide ((l.length:Int)≥256)=true then 5 else 0]=qgD l n day life uses:=by
  have hw:w64 (day+life)=day+life:=qaL (by omega) (by omega)
  rw[hw]
  unfold qgD
  rw[hw]
  by_cases a1:xe l n=true
  ·simp[a1,qR]
  ·by_cases a2:j3 life 1 9999=true
   ·simp[a1,a2,qR]
   ·by_cases a3:j3 uses 1 9999=true
    ·simp[a1,a2,a3,qR]
    ·by_cases a4:day+life>99999
     ·have:j3 (day+life) 0 99999=true:=by simp[j3];omega
      simp[a1,a2,a3,a4,this,qR]
     ·have:j3 (day+life) 0 99999=false:=by simp[j3];omega
      by_cases a5:l.length≥256
      ·have:(l.length:Int)≥256:=by omega
       simp[a1,a2,a3,a4,a5,this,qR, *]
      ·have: ¬(l.length:Int)≥256:=by omega
       simp[a1,a2,a3,a4,a5,this,qR, *]
 rw[e]
 by_cases hz:qgD l n day life uses=0
 ·rw[if_neg (by simp[hz])]
  simp only[qkY hl (qes l n),Option.bind_some]
  exact⟨_,by rw[hz];rfl,fun _=>rfl⟩
 ·rw[if_pos (by simp[hz])]
  exact⟨_,rfl,fun h=>absurd h hz⟩
theorem qi1 (l:List qj) (hl:l.length≤1000) (n:Str) (x:Int): ∀(K k:Nat),k≤l.length→l.length<K+k→jr l n K x (k:Int)=some (x,((k+j6 (l.drop k) n:Nat):Int))
 |0,k,h,hK=>by omega
 |K+1,k,h,hK=>by
  unfold jr
  by_cases hk:k<l.length
  ·rw[if_pos (by omega),qE,List.getElem?_eq_getElem hk,List.drop_eq_getElem_cons hk,qM (by omega),qi1 l hl n x K (k+1) (by omega) (by omega)]
   simp only[Option.bind_some,j6]
   by_cases hc:ltL (l[k]).Name n=true
   ·simp only[hc,if_true,Option.some.injEq,Prod.mk.injEq,true_and]
    omega
   ·simp[hc]
  ·rw[if_neg (by omega),List.drop_of_length_le (by omega)]
   simp[j6]
theorem qnl {N:Nat} {d:Int} {l:List qj} (h:qbb N l) {num day life uses:Int} {n b t:Str}:
 qkn N d l ⟨num,xA,[n,b],[day,life,uses],t⟩ (if qac d day=0 then qgD l n day life uses else qac d day) day (qf2 l ⟨n,b,day,w64 (day+life),uses,0,0,0,false⟩):=by
 obtain⟨ha,hl,hN,hM⟩:=h
 constructor
 ·unfold zV
  simp only[yX,qd5,qlV,List.getElem?_cons_zero,List.getElem?_cons_succ,Option.bind_some,qlZ (N:=N) (r:=⟨d,l⟩) (show l.length<_ by omega) (show l.length<N by omega) ha,qaM,show(xA==[109,97,107,101])=true by decide,if_true]
  unfold qac qgD
  by_cases a1:day>99999
  ·simp[a1]
  by_cases a2:day<d
  ·simp[a1,a2]
  simp only[a1,a2,if_false,if_true]
  by_cases a3:xe l n=true
  ·simp[a3]
  ·have: ¬((-1:Int)≥0):=by omega
   simp only[a3,this,if_false,Bool.false_eq_true]
   by_cases a4:j3 life 1 9999=true
   ·simp[a4]
   ·by_cases a5:j3 uses 1 9999=true
    ·simp[a4,a5]
    ·by_cases a6:w64 (day+life)>99999
     ·simp[a4,a5,a6]
     ·by_cases a7:l.length≥256
      ·have:(l.length:Int)≥256:=by omega
       simp[a4,a5,a6,a7,this]
      ·have: ¬(l.length:Int)≥256:=by omega
       simp[a4,a5,a6,a7,this]
 ·intro hz
  unfold jc
  have e0:(0:Int)=((0:Nat):Int):=rfl
  simp only[yX,qd5,qlV,List.getElem?_cons_zero,List.getElem?_cons_succ,Option.bind_some,show(xA==[109,97,107,101])=true by decide,if_true]
  rw[zB (by simp;omega) (by simp;omega),Option.bind_some,List.nil_append]
  rw[show(jr l n N (w64 (day+life)) 0)=jr l n N (w64 (day+life)) ((0:Nat):Int)from rfl,qi1 l hl n _ N 0 (by omega) (by omega),List.drop_zero,Option.bind_some]
  have hp:=qes l n
  simp only[Nat.zero_add]
  rw[qb0 hp,Option.bind_some,zB (by simp;omega) (by simp;omega),Option.bind_some,List.nil_append,zB (by simp;omega) (by simp;omega),Option.bind_some,qeu hp,Option.bind_some,zB (by simp;omega) (by simp;omega),Option.bind_some]
  simp[qf2]
def qfH (l:List qj) (n:Str) (f:qj→qj):List qj:=l.map fun s=>if(s.Name==n)=true then f s else s
theorem Asc.set {l:List qj} (h:Asc l) {i:Nat} {s:qj} {n:Str} (hi:l[i]? =some s) (hs:s.Name=n) (f:qj→qj):qfH l n f=l.set i (f s):=by
 refine List.ext_getElem? fun j=>?_
 have hlt:=(List.getElem?_eq_some_iff.1 hi).1
 unfold qfH
 rw[List.getElem?_map,List.getElem?_set]
 by_cases hj:i=j
 ·subst hj
  rw[if_pos rfl,hi]
  simp[hs,hlt]
 ·rw[if_neg hj]
  cases hq:l[j]? with
  |none=>rfl
  |some t=>
   have: ¬(t.Name==n)=true:=fun e=>hj ((h.uniq hi hs).2.symm.trans (h.uniq hq (beq_iff_eq.1 e)).2)
   simp only[Option.map_some,this,if_false,Bool.false_eq_true]
def qcg (l:List qj) (n:Str) (day:Int) (more:qj→Int):Int:=match l[j6 l n]? with
 |some s=>if xe l n=true then if qcd s day=true then 20 else more s else 10
 |none=>10
theorem qib {N:Nat} {d:Int} {l:List qj} (h:qbb N l) (n:Str) (day:Int):kT N d l n day=match l[j6 l n]? with
 |some s=>if xe l n=true then some ((j6 l n:Int),true,if qcd s day=true then 20 else 0)else some (0,false,10)
 |none=>some (0,false,10):=by
 obtain⟨ha,hl,hN,hM⟩:=h
 unfold kT
 rw[qkf (by omega) (by omega),Option.bind_some]
 cases hq:l[j6 l n]? with
 |none=>
  have:xe l n=false:=by
   cases hh:xe l n with
   |false=>rfl
   |true=>have:=qdD hh;rw[List.getElem?_eq_getElem this]at hq;cases hq
  simp[this]
 |some s=>
  by_cases hh:xe l n=true
  ·simp only[hh,Bool.not_true,Bool.false_eq_true,if_false,if_true,qE,hq,Option.bind_some,qf0,qaQ]
  ·simp[hh]
theorem qhX {l:List qj} {n:Str} {s:qj} (hq:l[j6 l n]? =some s) (hh:xe l n=true):s.Name=n:=by
 have:=qeE hq
 rw[hh]at this
 exact beq_iff_eq.1 this.symm
theorem qaf {l:List qj} {n:Str} {day:Int} {m:qj→Int} (h:xe l n=false):qcg l n day m=10:=by
 unfold qcg
 cases l[j6 l n]? with
 |none=>rfl
 |some s=>simp[h]
theorem qfU {l:List qj} {n:Str} (h:xe l n=true): ∃s,l[j6 l n]? =some s∧j6 l n<l.length:=⟨_,List.getElem?_eq_getElem (qdD h),qdD h⟩
theorem qei {N:Nat} {d:Int} {l:List qj} (h:qbb N l) {e:ql} {n:Str} {day:Int} (hn:e.Names[0]? =some n) (hv:e.Values[0]? =some day) (h1:(e.Kind==xA)=false) (h5:(e.Kind==zR)=false) {m:qj→Int}
 (hm: ∀s:qj,(((if(e.Kind==[116,101,115,116])=true then(idx e.Values 1).bind fun x43=>(zk x43 2 999999999).bind fun r44=>some r44 else some false:Option Bool).bind fun b45=>
    if b45=true then some 3 else((if(e.Kind==[117,115,101])=true then(qal s day).bind fun r51=>if(!r51)=true then some (.inr 24)else(idx e.Values 1).bind fun x53=>if x53>s.Limit then some (.inr 31)else some (.inl ())else some (.inl ()):Option (Unit⊕Int))).bind (fun
     |(.inl ())=>some 0
     |(.inr q55)=>some q55)):Option Int)=some (m s)):
 zV N ⟨d,l⟩ e=some (if qac d day=0 then qcg l n day m else qac d day):=by
 obtain⟨ha,hl,hN,hM⟩:=h
 unfold zV
 simp only[yX,hv,hn,Option.bind_some,qlZ (N:=N) (r:=⟨d,l⟩) (show l.length<_ by omega) (show l.length<N by omega) ha]
 have h1': ¬(e.Kind==[109,97,107,101])=true:=by rw[show([109,97,107,101]:Str)=xA from rfl,h1];simp
 have h5': ¬(e.Kind==[114,101,99,97,108,108])=true:=by rw[show([114,101,99,97,108,108]:Str)=zR from rfl,h5];simp
 rw[if_neg h1',if_neg h5']
 unfold qac
 by_cases a1:day>99999
 ·simp[a1]
 by_cases a2:day<d
 ·simp[a1,a2]
 simp only[a1,a2,if_false,if_true]
 cases hh:xe l n with
 |false=>rw[qaf hh];rfl
 |true=>
  obtain⟨s,hs,hlt⟩:=qfU hh
  rw[if_pos rfl,if_neg (by omega),qE,hs,Option.bind_some,qfq,Option.bind_some]
  unfold qcg
  rw[hs]
  simp only[hh,if_true]
  by_cases hr:qcd s day=true
  ·simp[hr]
  ·rw[if_neg hr,if_neg hr]
   exact hm s
theorem qda {e:ql} {day:Int} {n:Str} (hn:e.Names[0]? =some n) (f:qj→qj) (hf: ∀(s:qj) (l:List qj) (k:Nat),l[k]? =some s→(((if(e.Kind==[116,101,115,116])=true then some (s.Name==n)else some false:Option Bool).bind fun b33=>
 if b33=true then(idx e.Values 1).bind fun x36=>(put l k (⟨s.Name,s.Batch,s.Born,s.Last,s.Uses,s.Used,w64 (x36.tdiv 2),s.Until,s.Gone⟩:qj)).bind fun l37=>(idx l37 k).bind fun x38=>
  (put l37 k (⟨x38.Name,x38.Batch,x38.Born,x38.Last,x38.Uses,x38.Used,x38.Limit,(if x38.Last<(w64 (day+365))then x38.Last else(w64 (day+365))),x38.Gone⟩:qj)).bind fun l39=>some l39
 else(if(e.Kind==[117,115,101])=true then some (s.Name==n)else some false:Option Bool).bind fun b41=>
 if b41=true then(put l k (⟨s.Name,s.Batch,s.Born,s.Last,s.Uses,w64 (s.Used+1),s.Limit,s.Until,s.Gone⟩:qj)).bind fun l44=>some l44
 else(if(e.Kind==[102,97,105,108])=true then some (s.Name==n)else some false:Option Bool).bind fun b46=>
 ((if b46=true then some b46 else(if(e.Kind==[114,101,99,97,108,108])=true then some (s.Batch==n)else some false:Option Bool).bind fun b52=>some b52:Option Bool)).bind fun b48=>
 if b48=true then(put l k (⟨s.Name,s.Batch,s.Born,s.Last,s.Uses,s.Used,s.Limit,s.Until,true⟩:qj)).bind fun l55=>some l55 else some l):Option (List qj))=some (l.set k (f s))):
 ∀(K:Nat) (l:List qj) (k:Nat),l.length≤1000→k≤l.length→l.length<K+k→zW e day K l (k:Int)=some (l.take k++(l.drop k).map f)
 |0,l,k,hl,h,hK=>by omega
 |K+1,l,k,hl,h,hK=>by
  unfold zW
  by_cases hk:k<l.length
  ·have hg:l[k]? =some l[k]:=List.getElem?_eq_getElem hk
   rw[if_pos (by omega),qE,hg,Option.bind_some,yX,hn,Option.bind_some]
   have:=hf l[k] l k hg
   rw[this,Option.bind_some,qM (by omega),qda hn f hf K (l.set k (f l[k])) (k+1) (by simp;omega) (by simp;omega) (by simp;omega)]
   congr 1
   rw[List.drop_eq_getElem_cons hk,List.drop_set,if_pos (by omega),List.map_cons,List.take_add_one,List.getElem?_set_self hk,List.take_set,List.set_eq_of_length_le (by simp;exact Nat.min_le_left _ _)]
   simp
  ·rw[if_neg (by omega),List.take_of_length_le (by omega),List.drop_of_length_le (by omega)]
   simp
theorem qdI {N:Nat} {d:Int} {l:List qj} (h:qbb N l) {e:ql} {day:Int} {n:Str} (hn:e.Names[0]? =some n) (hv:e.Values[0]? =some day) (h1:(e.Kind==xA)=false) (f:qj→qj)
 (hK: ∀(K:Nat) (l:List qj) (k:Nat),l.length≤1000→k≤l.length→l.length<K+k→zW e day K l (k:Int)=some (l.take k++(l.drop k).map f)):jc N ⟨d,l⟩ e=some ⟨day,l.map f⟩:=by
 obtain⟨ha,hl,hN,hM⟩:=h
 unfold jc
 rw[yX,hv,Option.bind_some]
 have h1': ¬(e.Kind==[109,97,107,101])=true:=by rw[show([109,97,107,101]:Str)=xA from rfl,h1];simp
 simp only
 rw[zB (by simp;omega) (by simp;omega),Option.bind_some,List.nil_append,if_neg h1']
 rw[show zW e day N l 0=zW e day N l ((0:Nat):Int)from rfl,hK N l 0 hl (by omega) (by omega)]
 simp
def qj5 (load:Int) (_:qj):Int:=if j3 load 2 999999999=true then 3 else 0
def qlD (day load:Int) (s:qj):qj:=⟨s.Name,s.Batch,s.Born,s.Last,s.Uses,s.Used,w64 (load.tdiv 2),(if s.Last<w64 (day+365)then s.Last else w64 (day+365)),s.Gone⟩
theorem qlj {N:Nat} {d:Int} {l:List qj} (h:qbb N l) {num day load:Int} {n t:Str} (h0:0≤day):
 qeC (qG N d l num qak [n] [day,load] t) (if qac d day=0 then qcg l n day (qj5 load)else qac d day) day (qfH l n (qlD day load)):=by
 have h':=h
 obtain⟨ha,hl,hN,hM⟩:=h
 refine qeC.day hN rfl h0 rfl fun hd=>?_
 simp only[zA,Option.bind_some,show(qak==[109,97,107,101])=false by decide,show(qak==[116,101,115,116])=true by decide,Bool.false_eq_true,if_false,if_true,qcb hl,yc,yX,qd5,List.getElem?_cons_zero,List.getElem?_cons_succ,qaG]
 rw[qib h']
 cases hh:xe l n with
 |false=>
  refine⟨l,?_,fun h=>?_⟩
  ·rw[qaf hh]
   cases hq:l[j6 l n]? with
   |none=>
    simp only[Option.bind_some]
    rw[xG (by simp) (by simp;omega)]
    simp[qR]
   |some s=>
    simp only[hh,Bool.false_eq_true,if_false,Option.bind_some]
    rw[xG (by simp) (by simp;omega)]
    simp[qR]
  ·rw[qaf hh]at h;cases h
 |true=>
  obtain⟨s,hs,hlt⟩:=qfU hh
  have hname:=qhX hs hh
  unfold qcg
  rw[hs]
  simp only[hh,if_true,Option.bind_some]
  rw[xG (by simp) (by simp;omega)]
  unfold qj5
  by_cases hr:qcd s day=true
  ·exact⟨l,by simp[hr,qR],fun h=>by rw[if_pos hr]at h;cases h⟩
  ·by_cases ho:j3 load 2 999999999=true
   ·exact⟨l,by simp[hr,ho,qR],fun h=>by rw[if_neg hr,if_pos ho]at h;cases h⟩
   ·refine⟨l.set (j6 l n) (qlD day load s),?_,fun _=>(ha.set hs hname _).symm⟩
    have hlen:j6 l n<(l.set (j6 l n) (⟨s.Name,s.Batch,s.Born,s.Last,s.Uses,s.Used,w64 (load.tdiv 2),s.Until,s.Gone⟩:qj)).length:=by simpa using hlt
    simp only[hr,ho,if_false,qR,if_true,Bool.false_eq_true,Option.bind_some,decide_true,Bool.not_true,qE,hs,yY hlt,List.getElem?_set_self hlt,yY hlen,List.set_set]
    rfl
theorem qly {N:Nat} {d:Int} {l:List qj} (h:qbb N l) {num day load:Int} {n t:Str}:
 qkn N d l ⟨num,qak,[n],[day,load],t⟩ (if qac d day=0 then qcg l n day (qj5 load)else qac d day) day (qfH l n (qlD day load)):=by
 constructor
 ·refine qei h rfl rfl (by show(qak==xA)=false;decide) (by show(qak==zR)=false;decide) fun s=>?_
  simp only[show(qak==[116,101,115,116])=true by decide,show(qak==[117,115,101])=false by decide,if_true,if_false,Bool.false_eq_true,qd5,List.getElem?_cons_succ,List.getElem?_cons_zero,Option.bind_some,qaM,qj5]
  by_cases ho:j3 load 2 999999999=true<;>simp[ho]
 ·intro _
  refine qdI h rfl rfl (by show(qak==xA)=false;decide) _ (qda (n:=n) rfl _ fun s l k hk=>?_)
  have hlt:=(List.getElem?_eq_some_iff.1 hk).1
  simp only[show(qak==[116,101,115,116])=true by decide,show(qak==[117,115,101])=false by decide,show(qak==[102,97,105,108])=false by decide,show(qak==[114,101,99,97,108,108])=false by decide,if_true,if_false,Bool.false_eq_true,qd5,List.getElem?_cons_succ,List.getElem?_cons_zero,Option.bind_some]
  by_cases hb:(s.Name==n)=true
  ·simp only[hb,if_true,yY hlt,Option.bind_some,qE,List.getElem?_set_self hlt]
   rw[yY (by simpa using hlt),List.set_set]
   rfl
  ·simp only[hb,if_false,Bool.false_eq_true]
   rw[show l.set k s=l from by
    have e:l[k]=s:=by rw[List.getElem?_eq_getElem hlt]at hk;injection hk
    rw[←e,List.set_getElem_self]]
def useM (day load:Int) (s:qj):Int:=if qfZ s day=false then 24 else if load>s.Limit then 31 else 0
def useF (s:qj):qj:=⟨s.Name,s.Batch,s.Born,s.Last,s.Uses,w64 (s.Used+1),s.Limit,s.Until,s.Gone⟩
theorem qnF {N:Nat} {d:Int} {l:List qj} (h:qbb N l) {num day load:Int} {n t:Str} (h0:0≤day):
 qeC (qG N d l num qbT [n] [day,load] t) (if qac d day=0 then qcg l n day (useM day load)else qac d day) day (qfH l n useF):=by
 have h':=h
 obtain⟨ha,hl,hN,hM⟩:=h
 refine qeC.day hN rfl h0 rfl fun hd=>?_
 simp only[zA,Option.bind_some,show(qbT==[109,97,107,101])=false by decide,show(qbT==[116,101,115,116])=false by decide,show(qbT==[117,115,101])=true by decide,Bool.false_eq_true,if_false,if_true,qcb hl,xm,yX,qd5,List.getElem?_cons_zero,List.getElem?_cons_succ]
 rw[qib h']
 cases hh:xe l n with
 |false=>
  refine⟨l,?_,fun h=>by rw[qaf hh]at h;cases h⟩
  rw[qaf hh]
  cases hq:l[j6 l n]? with
  |none=>simp
  |some s=>simp[hh]
 |true=>
  obtain⟨s,hs,hlt⟩:=qfU hh
  have hname:=qhX hs hh
  unfold qcg
  rw[hs]
  simp only[hh,if_true,Option.bind_some]
  by_cases hr:qcd s day=true
  ·exact⟨l,by simp[hr],fun h=>by rw[if_pos hr]at h;cases h⟩
  ·simp only[hr,if_false,Bool.false_eq_true,decide_true,Bool.not_true,qE,hs,Option.bind_some,qla,qaQ]
   rw[xG (by simp) (by simp;omega)]
   unfold useM
   simp only[Option.bind_some]
   by_cases hH:qfZ s day=true
   ·by_cases hL:load>s.Limit
    ·exact⟨l,by simp[hH,hL,qR],fun h=>by simp[hH,hL]at h⟩
    ·refine⟨l.set (j6 l n) (useF s),?_,fun _=>(ha.set hs hname _).symm⟩
     simp only[hH,hL,qR,Bool.not_true,Bool.false_eq_true,if_false,if_true,decide_false,decide_true,yY hlt,Option.bind_some]
     rfl
   ·exact⟨l,by simp[hH,qR],fun h=>by simp[hH]at h⟩
theorem qnJ {N:Nat} {d:Int} {l:List qj} (h:qbb N l) {num day load:Int} {n t:Str}:
 qkn N d l ⟨num,qbT,[n],[day,load],t⟩ (if qac d day=0 then qcg l n day (useM day load)else qac d day) day (qfH l n useF):=by
 constructor
 ·refine qei h rfl rfl (by show(qbT==xA)=false;decide) (by show(qbT==zR)=false;decide) fun s=>?_
  simp only[show(qbT==[116,101,115,116])=false by decide,show(qbT==[117,115,101])=true by decide,if_true,if_false,Bool.false_eq_true,qd5,List.getElem?_cons_succ,List.getElem?_cons_zero,Option.bind_some,qkr,useM]
  by_cases hH:qfZ s day=true
  ·by_cases hL:load>s.Limit<;>simp[hH,hL]
  ·simp[hH]
 ·intro _
  refine qdI h rfl rfl (by show(qbT==xA)=false;decide) _ (qda (n:=n) rfl _ fun s l k hk=>?_)
  have hlt:=(List.getElem?_eq_some_iff.1 hk).1
  simp only[show(qbT==[116,101,115,116])=false by decide,show(qbT==[117,115,101])=true by decide,show(qbT==[102,97,105,108])=false by decide,show(qbT==[114,101,99,97,108,108])=false by decide,if_true,if_false,Bool.false_eq_true,Option.bind_some]
  by_cases hb:(s.Name==n)=true
  ·simp only[hb,if_true,yY hlt,Option.bind_some]
   rfl
  ·simp only[hb,if_false,Bool.false_eq_true]
   rw[show l.set k s=l from by
    have e:l[k]=s:=by rw[List.getElem?_eq_getElem hlt]at hk;injection hk
    rw[←e,List.set_getElem_self]]
def qj7 (s:qj):qj:=⟨s.Name,s.Batch,s.Born,s.Last,s.Uses,s.Used,s.Limit,s.Until,true⟩
theorem qmm {N:Nat} {d:Int} {l:List qj} (h:qbb N l) {num day:Int} {n t:Str} (h0:0≤day):
 qeC (qG N d l num xJ [n] [day] t) (if qac d day=0 then qcg l n day (fun _=>0)else qac d day) day (qfH l n qj7):=by
 have h':=h
 obtain⟨ha,hl,hN,hM⟩:=h
 refine qeC.day hN rfl h0 rfl fun hd=>?_
 simp only[zA,Option.bind_some,show(xJ==[109,97,107,101])=false by decide,show(xJ==[116,101,115,116])=false by decide,show(xJ==[117,115,101])=false by decide,show(xJ==[102,97,105,108])=true by decide,Bool.false_eq_true,if_false,if_true,qcb hl,vZ,yX,qd5,List.getElem?_cons_zero,List.getElem?_cons_succ]
 rw[qib h']
 cases hh:xe l n with
 |false=>
  refine⟨l,?_,fun h=>by rw[qaf hh]at h;cases h⟩
  rw[qaf hh]
  cases hq:l[j6 l n]? with
  |none=>simp
  |some s=>simp[hh]
 |true=>
  obtain⟨s,hs,hlt⟩:=qfU hh
  have hname:=qhX hs hh
  unfold qcg
  rw[hs]
  simp only[hh,if_true,Option.bind_some]
  by_cases hr:qcd s day=true
  ·exact⟨l,by simp[hr],fun h=>by rw[if_pos hr]at h;cases h⟩
  ·refine⟨l.set (j6 l n) (qj7 s),?_,fun _=>(ha.set hs hname _).symm⟩
   simp only[hr,if_false,Bool.false_eq_true,decide_true,Bool.not_true,qE,hs,Option.bind_some,yY hlt]
   rfl
theorem qlJ {N:Nat} {d:Int} {l:List qj} (h:qbb N l) {num day:Int} {n t:Str}:
 qkn N d l ⟨num,xJ,[n],[day],t⟩ (if qac d day=0 then qcg l n day (fun _=>0)else qac d day) day (qfH l n qj7):=by
 constructor
 ·refine qei h rfl rfl (by show(xJ==xA)=false;decide) (by show(xJ==zR)=false;decide) fun s=>?_
  simp only[show(xJ==[116,101,115,116])=false by decide,show(xJ==[117,115,101])=false by decide,if_true,if_false,Bool.false_eq_true,Option.bind_some]
 ·intro _
  refine qdI h rfl rfl (by show(xJ==xA)=false;decide) _ (qda (n:=n) rfl _ fun s l k hk=>?_)
  have hlt:=(List.getElem?_eq_some_iff.1 hk).1
  simp only[show(xJ==[116,101,115,116])=false by decide,show(xJ==[117,115,101])=false by decide,show(xJ==[102,97,105,108])=true by decide,show(xJ==[114,101,99,97,108,108])=false by decide,if_true,if_false,Bool.false_eq_true,Option.bind_some]
  by_cases hb:(s.Name==n)=true
  ·simp only[hb,if_true,yY hlt,Option.bind_some]
   rfl
  ·simp only[hb,if_false,Bool.false_eq_true,Option.bind_some]
   rw[show l.set k s=l from by
    have e:l[k]=s:=by rw[List.getElem?_eq_getElem hlt]at hk;injection hk
    rw[←e,List.set_getElem_self]]
def qcA (n:Str) (s:qj):qj:=if(s.Batch==n)=true then qj7 s else s
def qgJ (n:Str) (day:Int):Int→List qj→Int
 |b,[]=>b
 |b,s::l=>qgJ n day (if(s.Batch==n)=true then if qcd s day=true then if b=10 then 20 else b else 0 else b) l
def qfc (l:List qj) (n:Str) (day:Int):Int:=if(l.any fun s=>s.Batch==n)=false then 10 else if(l.any fun s=>s.Batch==n&&!qcd s day)=false then 20 else 0
theorem qgE (n:Str) (day:Int): ∀l,qgJ n day 0 l=0
 |[]=>rfl
 |s::l=>by
  unfold qgJ
  by_cases h:(s.Batch==n)=true
  ·by_cases h2:qcd s day=true
   ·simp only[h,h2,if_true];rw[if_neg (by decide)];exact qgE n day l
   ·simp only[h,h2,if_true,if_false,Bool.false_eq_true];exact qgE n day l
  ·simp only[h,if_false,Bool.false_eq_true];exact qgE n day l
theorem qhK (n:Str) (day:Int): ∀l:List qj,qgJ n day 20 l=if(l.any fun s=>s.Batch==n&&!qcd s day)=false then 20 else 0
 |[]=>rfl
 |s::l=>by
  unfold qgJ
  rw[List.any_cons]
  by_cases h:(s.Batch==n)=true
  ·by_cases h2:qcd s day=true
   ·simp only[h,h2,if_true];rw[if_neg (by decide),qhK n day l];simp
   ·simp only[h,h2,if_true,if_false,Bool.false_eq_true];rw[qgE];simp
  ·simp only[h,if_false,Bool.false_eq_true];rw[qhK n day l];simp
theorem qj6 (n:Str) (day:Int): ∀l:List qj,qgJ n day 10 l=qfc l n day
 |[]=>rfl
 |s::l=>by
  unfold qgJ qfc
  rw[List.any_cons,List.any_cons]
  by_cases h:(s.Batch==n)=true
  ·by_cases h2:qcd s day=true
   ·simp only[h,h2,if_true];rw[qhK n day l];simp
   ·simp only[h,h2,if_true,if_false,Bool.false_eq_true];rw[qgE];simp
  ·simp only[h,if_false,Bool.false_eq_true];rw[qj6 n day l];simp[qfc]
theorem qam {l:List qj} (hl:l.length≤1000) {n:Str} {day:Int}: ∀(K k:Nat) (b:Int),k≤l.length→l.length<K+k→
 kz l [n] [day] K ((l.take k).map (qcA n)++l.drop k) (k:Int) b=some (l.map (qcA n),qgJ n day b (l.drop k))
 |0,k,b,h,hK=>by omega
 |K+1,k,b,h,hK=>by
  unfold kz
  by_cases hk:k<l.length
  ·have hlen:((l.take k).map (qcA n)).length=k:=by simp;omega
   have hg:((l.take k).map (qcA n)++l.drop k)[k]? =some l[k]:=by
    rw[List.getElem?_append_right (by omega),hlen,Nat.sub_self,List.drop_eq_getElem_cons hk];rfl
   have hlt:k<((l.take k).map (qcA n)++l.drop k).length:=by rw[List.length_append,hlen,List.length_drop];omega
   rw[if_pos (by omega),qE,hg,Option.bind_some,yX]
   simp only[List.getElem?_cons_zero,Option.bind_some]
   have hset: ∀x:qj,((l.take k).map (qcA n)++l.drop k).set k x=(l.take k).map (qcA n)++x::l.drop (k+1):=by
    intro x
    rw[List.set_append_right _ _ (by omega),hlen,Nat.sub_self,List.drop_eq_getElem_cons hk,List.set_cons_zero]
   have hnext: ∀x:qj,x=qcA n l[k]→(l.take k).map (qcA n)++x::l.drop (k+1)=(l.take (k+1)).map (qcA n)++l.drop (k+1):=by
    rintro x rfl
    rw[List.take_add_one,List.getElem?_eq_getElem hk,List.map_append,List.append_assoc]
    rfl
   have hsame:(l.take k).map (qcA n)++l.drop k=(l.take k).map (qcA n)++l[k]::l.drop (k+1):=by rw[List.drop_eq_getElem_cons hk]
   have e1:qgJ n day b (l.drop k)=qgJ n day (if((l[k]).Batch==n)=true then if qcd l[k] day=true then if b=10 then 20 else b else 0 else b) (l.drop (k+1)):=by
    rw[List.drop_eq_getElem_cons hk];rfl
   rw[e1]
   by_cases hb:((l[k]).Batch==n)=true
   ·simp only[hb,Bool.not_true,Bool.false_eq_true,if_false,if_true,qf0,Option.bind_some,yY hlt,hset]
    have hF:(⟨(l[k]).Name,(l[k]).Batch,(l[k]).Born,(l[k]).Last,(l[k]).Uses,(l[k]).Used,(l[k]).Limit,(l[k]).Until,true⟩:qj)=qcA n l[k]:=by unfold qcA;rw[if_pos hb];rfl
    rw[hnext _ hF]
    by_cases hr:qcd l[k] day=true
    ·by_cases hb10:b=10
     ·simp only[hr,hb10,if_true,yX,List.getElem?_cons_zero,Bool.not_true,Bool.false_eq_true,if_false,Option.bind_some]
      rw[qM (by omega),qam hl K (k+1) _ (by omega) (by omega)]
     ·simp only[hr,hb10,if_true,yX,List.getElem?_cons_zero,Bool.not_true,Bool.false_eq_true,if_false,Option.bind_some]
      rw[qM (by omega),qam hl K (k+1) _ (by omega) (by omega)]
    ·by_cases hb10:b=10
     ·simp only[hr,hb10,if_true,yX,List.getElem?_cons_zero,Bool.not_false,Bool.false_eq_true,if_false,Option.bind_some]
      rw[qM (by omega),qam hl K (k+1) _ (by omega) (by omega)]
     ·simp only[hr,hb10,if_true,yX,List.getElem?_cons_zero,Bool.not_false,Bool.false_eq_true,if_false,Option.bind_some]
      rw[qM (by omega),qam hl K (k+1) _ (by omega) (by omega)]
   ·simp only[hb,Bool.not_false,Bool.false_eq_true,if_false,if_true,Option.bind_some]
    rw[hsame,hnext _ (by unfold qcA;rw[if_neg hb]),qM (by omega),qam hl K (k+1) _ (by omega) (by omega)]
  ·have:l.take k=l:=List.take_of_length_le (by omega)
   rw[if_neg (by omega),List.drop_of_length_le (by omega),this]
   simp[qgJ]
theorem qjI {N:Nat} {d:Int} {l:List qj} (h:qbb N l) {num day:Int} {n t:Str} (h0:0≤day):
 qeC (qG N d l num zR [n] [day] t) (if qac d day=0 then qfc l n day else qac d day) day (l.map (qcA n)):=by
 obtain⟨ha,hl,hN,hM⟩:=h
 refine qeC.day hN rfl h0 rfl fun hd=>?_
 simp only[zA,Option.bind_some,show(zR==[109,97,107,101])=false by decide,show(zR==[116,101,115,116])=false by decide,show(zR==[117,115,101])=false by decide,show(zR==[102,97,105,108])=false by decide,show(zR==[114,101,99,97,108,108])=true by decide,Bool.false_eq_true,if_false,if_true,qcb hl,vE]
 have:=qam hl (n:=n) (day:=day) N 0 10 (by omega) (by omega)
 rw[List.take_zero,List.map_nil,List.nil_append,List.drop_zero]at this
 rw[show kz l [n] [day] N l 0 10=kz l [n] [day] N l ((0:Nat):Int) 10 from rfl,this,qj6]
 exact⟨_,rfl,fun _=>rfl⟩
theorem qcn {N:Nat} {r:qK} (hl:r.Slings.length≤1000) {e:ql} {n:Str} (hn:e.Names[0]? =some n) (day:Int): ∀(K k:Nat) (a b:Bool),k≤r.Slings.length→r.Slings.length<K+k→
 zK r e day K a b (k:Int)=some (a||(r.Slings.drop k).any (fun s=>s.Batch==n),b||(r.Slings.drop k).any (fun s=>s.Batch==n&&!qcd s day))
 |0,k,a,b,h,hK=>by omega
 |K+1,k,a,b,h,hK=>by
  unfold zK
  by_cases hk:k<r.Slings.length
  ·rw[if_pos (by omega),qE,List.getElem?_eq_getElem hk,Option.bind_some,yX,hn,Option.bind_some,qM (by omega),List.drop_eq_getElem_cons hk,List.any_cons,List.any_cons]
   by_cases hb:((r.Slings[k]).Batch==n)=true
   ·by_cases hq:b=true
    ·simp only[hb,hq,if_true,Option.bind_some]
     rw[qcn (N:=N) hl hn day K (k+1) _ _ (by omega) (by omega)]
     simp
    ·simp only[hb,hq,if_true,if_false,Option.bind_some,qfq,Bool.false_eq_true]
     rw[qcn (N:=N) hl hn day K (k+1) _ _ (by omega) (by omega)]
     simp
   ·simp only[hb,if_false,Option.bind_some,Bool.false_eq_true]
    rw[qcn (N:=N) hl hn day K (k+1) _ _ (by omega) (by omega)]
    simp
  ·rw[if_neg (by omega),List.drop_of_length_le (by omega)]
   simp
theorem qjq {N:Nat} {d:Int} {l:List qj} (h:qbb N l) {num day:Int} {n t:Str}:
 qkn N d l ⟨num,zR,[n],[day],t⟩ (if qac d day=0 then qfc l n day else qac d day) day (l.map (qcA n)):=by
 constructor
 ·obtain⟨ha,hl,hN,hM⟩:=h
  unfold zV
  simp only[yX,List.getElem?_cons_zero,Option.bind_some,qlZ (N:=N) (r:=⟨d,l⟩) (show l.length<_ by omega) (show l.length<N by omega) ha,show(zR==[109,97,107,101])=false by decide,show(zR==[114,101,99,97,108,108])=true by decide,if_true,if_false,Bool.false_eq_true]
  unfold qac
  by_cases a1:day>99999
  ·simp[a1]
  by_cases a2:day<d
  ·simp[a1,a2]
  simp only[a1,a2,if_false,if_true]
  rw[show∀e,zK ⟨d,l⟩ e day N false false 0=zK ⟨d,l⟩ e day N false false ((0:Nat):Int)from fun _=>rfl,qcn (N:=N) (r:=⟨d,l⟩) hl (n:=n) rfl day N 0 false false (Nat.zero_le _) (show l.length<N+0 by omega),List.drop_zero,Option.bind_some]
  unfold qfc
  simp only[Bool.false_or]
  by_cases b1:(l.any fun s=>s.Batch==n)=true
  ·by_cases b2:(l.any fun s=>s.Batch==n&&!qcd s day)=true<;>simp[b1,b2]
  ·simp[b1]
 ·intro _
  refine qdI h rfl rfl (by show(zR==xA)=false;decide) _ (qda (n:=n) rfl _ fun s l k hk=>?_)
  have hlt:=(List.getElem?_eq_some_iff.1 hk).1
  simp only[show(zR==[116,101,115,116])=false by decide,show(zR==[117,115,101])=false by decide,show(zR==[102,97,105,108])=false by decide,show(zR==[114,101,99,97,108,108])=true by decide,if_true,if_false,Bool.false_eq_true,Option.bind_some]
  unfold qcA
  by_cases hb:(s.Batch==n)=true
  ·simp only[hb,if_true,yY hlt,Option.bind_some]
   rfl
  ·simp only[hb,if_false,Bool.false_eq_true,Option.bind_some]
   rw[show l.set k s=l from by
    have e:l[k]=s:=by rw[List.getElem?_eq_getElem hlt]at hk;injection hk
    rw[←e,List.set_getElem_self]]
theorem Asc.map {l:List qj} (h:Asc l) {f:qj→qj} (hf: ∀s,(f s).Name=s.Name):Asc (l.map f):=by
 unfold Asc
 rw[List.pairwise_map]
 exact h.imp fun {a b} hab=>by rw[hf,hf];exact hab
theorem qhh (t:qj) (l:List qj) (s:qj):qf2 (t::l) s=if ltL t.Name s.Name=true then t::qf2 l s else s::t::l:=by
 unfold qf2
 rw[j6]
 split<;>simp
theorem qi7 {x s:qj}: ∀{l:List qj},x∈qf2 l s→x=s∨x∈l
 |[],h=>by simp[qf2,j6]at h;exact .inl h
 |t::l,h=>by
  rw[qhh]at h
  split at h
  ·rcases List.mem_cons.1 h with rfl|h
   ·exact .inr (by simp)
   ·rcases qi7 h with h|h
    ·exact .inl h
    ·exact .inr (by simp[h])
  ·rcases List.mem_cons.1 h with rfl|h
   ·exact .inl rfl
   ·exact .inr h
theorem Asc.ins {s:qj}: ∀{l:List qj},Asc l→xe l s.Name=false→Asc (qf2 l s)
 |[],_,_=>by simp[qf2,j6,Asc]
 |t::l,h,hn=>by
  obtain⟨h1,h2⟩:=List.pairwise_cons.1 h
  rw[qhh]
  unfold xe at hn
  split
  ·rename_i hc
   rw[if_pos hc]at hn
   refine List.pairwise_cons.2 ⟨fun x hx=>?_,Asc.ins h2 hn⟩
   rcases qi7 hx with rfl|hx
   ·exact hc
   ·exact h1 x hx
  ·rename_i hc
   rw[if_neg hc]at hn
   have hlt:ltL s.Name t.Name=true:=by
    cases hq:ltL s.Name t.Name with
    |true=>rfl
    |false=>exact absurd (qev _ _ (by simpa using hc) hq) (beq_eq_false_iff_ne.1 hn)
   refine List.pairwise_cons.2 ⟨fun x hx=>?_,h⟩
   rcases List.mem_cons.1 hx with rfl|hx
   ·exact hlt
   ·exact qdE hlt (h1 x hx)
theorem qhT (l:List qj) (n:Str) (f:qj→qj):qfH l n f=l.map fun s=>if(s.Name==n)=true then f s else s:=rfl
theorem qms {α:Type} {l:List α} (h:(l.length:Int)=2): ∃a b,l=[a,b]:=by
 match l,h with
 |[a,b],_=>exact⟨a,b,rfl⟩
 |[],h=>simp at h
 |[_],h=>simp at h
 |_::_::_::_,h=>simp at h;omega
theorem qge {α:Type} {l:List α} (h:(l.length:Int)=1): ∃a,l=[a]:=by
 match l,h with
 |[a],_=>exact⟨a,rfl⟩
 |[],h=>simp at h
 |_::_::_,h=>simp at h;omega
theorem list3 {α:Type} {l:List α} (h:(l.length:Int)=3): ∃a b c,l=[a,b,c]:=by
 match l,h with
 |[a,b,c],_=>exact⟨a,b,c,rfl⟩
 |[],h=>simp at h
 |[_],h=>simp at h
 |[_,_],h=>simp at h
 |_::_::_::_::_,h=>simp at h;omega
structure qnc (e:ql):Prop where
 num:1≤e.Number∧e.Number≤1000
 form:(jm e.Kind).2.2=true
 names:(e.Names.length:Int)=(jm e.Kind).1
 values:(e.Values.length:Int)=(jm e.Kind).2.1
 range: ∀v∈e.Values,0≤v∧v≤999999999
 text:e.Text=[]
theorem qeB {e:ql} (h:yG e=0):qnc e:=by
 unfold yG at h
 by_cases h1:j3 e.Number 1 1000=true
 ·rw[if_pos h1]at h;cases h
 rw[if_neg h1]at h
 by_cases h2:(jm e.Kind).2.2=false
 ·rw[if_pos h2]at h;cases h
 rw[if_neg h2]at h
 by_cases h3:((e.Names.length:Int)=(jm e.Kind).1∧(e.Values.length:Int)=(jm e.Kind).2.1)
 ·rw[if_neg (by simpa using h3)]at h
  by_cases h4:e.Names.all xD=false
  ·rw[if_pos h4]at h;cases h
  rw[if_neg h4]at h
  by_cases h5:e.Values.all (fun v=>!j3 v 0 999999999)=false
  ·rw[if_pos h5]at h;cases h
  rw[if_neg h5]at h
  by_cases h6:e.Text=[]
  ·refine⟨?_,by simpa using h2,h3.1,h3.2,fun v hv=>?_,h6⟩
   ·simp[j3]at h1;omega
   ·have h5:e.Values.all (fun v=>!j3 v 0 999999999)=true:=by simpa using h5
    have:=List.all_eq_true.1 h5 v hv
    simp[j3]at this
    exact this
  ·rw[if_neg h6]at h;cases h
 ·rw[if_pos h3]at h;cases h
theorem qlp {k:Str} (h:(jm k).2.2=true):k=xA∨k=qak∨k=qbT∨k=xJ∨k=zR∨k=yZ:=by
 unfold jm at h
 by_cases h1:(k==xA)=true
 ·exact .inl (beq_iff_eq.1 h1)
 by_cases h2:(k==qak)=true
 ·exact .inr (.inl (beq_iff_eq.1 h2))
 by_cases h3:(k==qbT)=true
 ·exact .inr (.inr (.inl (beq_iff_eq.1 h3)))
 by_cases h4:(k==xJ)=true
 ·exact .inr (.inr (.inr (.inl (beq_iff_eq.1 h4))))
 by_cases h5:(k==zR)=true
 ·exact .inr (.inr (.inr (.inr (.inl (beq_iff_eq.1 h5)))))
 by_cases h6:(k==yZ)=true
 ·exact .inr (.inr (.inr (.inr (.inr (beq_iff_eq.1 h6)))))
 simp[h1,h2,h3,h4,h5,h6]at h
theorem qj2 {N:Nat} {d:Int} {l:List qj} (h:qbb N l) {e:ql} (hv:qnc e) (hu:(e.Kind==yZ)=false):
 ∃err day new,qeC (qG N d l e.Number e.Kind e.Names e.Values e.Text) err day new∧qkn N d l e err day new∧(err=0→Asc new∧new.length≤l.length+1):=by
 obtain⟨num,k,ns,vs,t⟩:=e
 obtain⟨_,hf,hn,hs,hr,_⟩:=hv
 simp only at hf hn hs hr hu
 have ha:=h.asc
 rcases qlp hf with rfl|rfl|rfl|rfl|rfl|rfl
 ·obtain⟨n,b,rfl⟩:=qms (show(ns.length:Int)=2 from hn)
  obtain⟨day,life,uses,rfl⟩:=list3 (show(vs.length:Int)=3 from hs)
  refine⟨_,_,_,qnp h (hr _ (by simp)) (hr _ (by simp)),qnl h,fun h0=>?_⟩
  have hh:xe l n=false:=by
   cases hq:xe l n with
   |false=>rfl
   |true=>
    split at h0
    ·simp[qgD,hq]at h0
    ·rename_i hd;exact absurd h0 hd
  refine⟨Asc.ins ha hh,?_⟩
  have hp:=qes l n
  simp[qf2]
  omega
 ·obtain⟨n,rfl⟩:=qge (show(ns.length:Int)=1 from hn)
  obtain⟨day,load,rfl⟩:=qms (show(vs.length:Int)=2 from hs)
  refine⟨_,_,_,qlj h (hr _ (by simp)).1,qly h,fun _=>⟨?_,by simp[qfH]⟩⟩
  rw[qhT]
  exact ha.map fun s=>by split<;>rfl
 ·obtain⟨n,rfl⟩:=qge (show(ns.length:Int)=1 from hn)
  obtain⟨day,load,rfl⟩:=qms (show(vs.length:Int)=2 from hs)
  refine⟨_,_,_,qnF h (hr _ (by simp)).1,qnJ h,fun _=>⟨?_,by simp[qfH]⟩⟩
  rw[qhT]
  exact ha.map fun s=>by split<;>rfl
 ·obtain⟨n,rfl⟩:=qge (show(ns.length:Int)=1 from hn)
  obtain⟨day,rfl⟩:=qge (show(vs.length:Int)=1 from hs)
  refine⟨_,_,_,qmm h (hr _ (by simp)).1,qlJ h,fun _=>⟨?_,by simp[qfH]⟩⟩
  rw[qhT]
  exact ha.map fun s=>by split<;>rfl
 ·obtain⟨n,rfl⟩:=qge (show(ns.length:Int)=1 from hn)
  obtain⟨day,rfl⟩:=qge (show(vs.length:Int)=1 from hs)
  refine⟨_,_,_,qjI h (hr _ (by simp)).1,qjq h,fun _=>⟨?_,by simp⟩⟩
  exact ha.map fun s=>by unfold qcA;split<;>rfl
 ·simp at hu
def qh1 (N:Nat) (c:List ql):Option qK:=c.foldlM (fun r e=>jc N r e) ⟨0,[]⟩
theorem qfs {N:Nat} (c:List ql) (hc:c.length≤1000): ∀(K k:Nat) (d:Int) (l:List qj),k≤c.length→c.length<K+k→zy N c K d l (k:Int)=((c.drop k).foldlM (fun r e=>jc N r e) (⟨d,l⟩:qK)).map fun r=>(r.Day,r.Slings)
 |0,k,d,l,h,hK=>by omega
 |K+1,k,d,l,h,hK=>by
  unfold zy
  by_cases hk:k<c.length
  ·rw[if_pos (by omega),qE,List.getElem?_eq_getElem hk,Option.bind_some,List.drop_eq_getElem_cons hk,List.foldlM_cons,qM (by omega)]
   cases jc N ⟨d,l⟩ c[k]with
   |none=>rfl
   |some r=>
    simp only[Option.bind_some]
    rw[qfs c hc K (k+1) _ _ (by omega) (by omega)]
    rfl
  ·rw[if_neg (by omega),List.drop_of_length_le (by omega)]
   rfl
theorem qfB {N:Nat} {c:List ql} (hc:c.length≤1000) (hN:2000<N):zU N c=qh1 N c:=by
 unfold zU
 rw[show zy N c N 0 [] 0=zy N c N 0 [] ((0:Nat):Int)from rfl,qfs c hc N 0 0 [] (by omega) (by omega),List.drop_zero]
 unfold qh1
 cases c.foldlM (fun r e=>jc N r e) (⟨0,[]⟩:qK)<;>rfl
theorem qkx (N:Nat) (c:List ql) (e:ql):qh1 N (c++[e])=(qh1 N c).bind fun r=>jc N r e:=by
 unfold qh1
 rw[List.foldlM_append]
 cases c.foldlM (fun r e=>jc N r e) (⟨0,[]⟩:qK)with
 |none=>rfl
 |some r=>simp[List.foldlM]
structure Rel (N:Nat) (c:List ql) (ss:List StateT):Prop where
 len:ss.length=c.length
 at_: ∀(j:Nat) (s:StateT) (e:ql),ss[j]? =some s→c[j]? =some e→s.number=e.Number∧qh1 N (c.take (j+1))=some ⟨s.register.Day,s.register.Slings⟩∧Asc s.register.Slings∧s.register.Slings.length≤j+1
theorem Rel.nil (N:Nat):Rel N [] []:=⟨rfl,by simp⟩
theorem Rel.last {N:Nat} {c:List ql} {ss:List StateT} (h:Rel N c ss):(ss=[]∧c=[])∨ ∃s,ss[ss.length-1]? =some s∧0<ss.length∧qh1 N c=some ⟨s.register.Day,s.register.Slings⟩∧Asc s.register.Slings∧s.register.Slings.length≤c.length:=by
 rcases Nat.eq_zero_or_pos ss.length with h0|h0
 ·have h1:=h.len
  exact .inl ⟨List.length_eq_zero_iff.1 h0,List.length_eq_zero_iff.1 (by omega)⟩
 ·have hlt:ss.length-1<ss.length:=by omega
  have hlc:ss.length-1<c.length:=by have:=h.len;omega
  obtain⟨_,h2,h3,h4⟩:=h.at_ _ _ _ (List.getElem?_eq_getElem hlt) (List.getElem?_eq_getElem hlc)
  rw[show ss.length-1+1=c.length by have:=h.len;omega,List.take_length]at h2
  exact .inr ⟨_,List.getElem?_eq_getElem hlt,h0,h2,h3,by omega⟩
theorem Rel.pop {N:Nat} {c:List ql} {ss:List StateT} (h:Rel N c ss):Rel N c.dropLast (ss.take (ss.length-1)):=by
 refine⟨by rw[List.length_take,List.length_dropLast,h.len];omega,fun j s e hs he=>?_⟩
 rw[List.getElem?_take]at hs
 rw[List.getElem?_dropLast]at he
 split at hs
 ·rename_i hj
  split at he
  ·rename_i hj2
   obtain⟨h1,h2,h3,h4⟩:=h.at_ j s e hs he
   refine⟨h1,?_,h3,h4⟩
   rw[List.dropLast_eq_take,List.take_take,Nat.min_eq_left (by omega)]
   exact h2
  ·cases he
 ·cases hs
theorem Rel.push {N:Nat} {c:List ql} {ss:List StateT} (h:Rel N c ss) {e:ql} {d:Int} {l:List qj} (hr:qh1 N (c++[e])=some ⟨d,l⟩) (ha:Asc l) (hl:l.length≤c.length+1):Rel N (c++[e]) (ss++[⟨e.Number,⟨d,l⟩⟩]):=by
 have hlen:=h.len
 refine⟨by simp[hlen],fun j s e' hs he=>?_⟩
 rcases Nat.lt_or_ge j ss.length with hj|hj
 ·rw[List.getElem?_append_left hj]at hs
  rw[List.getElem?_append_left (by omega)]at he
  obtain⟨h1,h2,h3,h4⟩:=h.at_ j s e' hs he
  refine⟨h1,?_,h3,h4⟩
  rw[List.take_append_of_le_length (by omega)]
  exact h2
 ·rw[List.getElem?_append_right hj]at hs
  rw[List.getElem?_append_right (by omega)]at he
  have hj0:j-ss.length=0:=by
   have:=(List.getElem?_eq_some_iff.1 hs).1
   simp at this
   omega
  rw[hj0]at hs
  rw[show j-c.length=0 by omega]at he
  simp only[List.getElem?_cons_zero,Option.some.injEq]at hs he
  subst hs he
  refine⟨rfl,?_,ha,by simp only;omega⟩
  rw[List.take_of_length_le (by simp;omega)]
  exact hr
def xQ (N:Nat) (c:List ql) (k:Nat) (e:ql):Int:=
 if yG e≠0 then yG e else if e.Number≠((k+1:Nat):Int)then 11 else if(e.Kind==yZ)=true then(if c=[]then 12 else 0)else((zU N c).bind fun r=>zV N r e).getD 0
def qdw (c:List ql) (e:ql):List ql:=if(e.Kind==yZ)=true then c.dropLast else c++[e]
structure Pre (N:Nat) (c:List ql) (ss:List StateT) (k:Nat) (e:ql):Prop where
 rel:Rel N c ss
 ck:c.length≤k
 k1:k<1000
 big:2000<N
 max:N<4611686018427387904
 short:qef N e
theorem qbo {evs:List ql} {o:Option (List StateT)} {N:Nat} {c:List ql} (h:Rel N c (hof o)) (hc:c.length≤1000) (hN:2000<N): ∃o' d l,kM evs o=some (o',d,l)∧hof o'=hof o∧zU N c=some ⟨d,l⟩∧Asc l∧l.length≤c.length:=by
 rw[qfB hc hN]
 rcases h.last with⟨h1,rfl⟩|⟨s,h1,h2,h3,h4,h5⟩
 ·cases o with
  |none=>exact⟨none,0,[],by simp[kM],rfl,rfl,List.Pairwise.nil,by simp⟩
  |some l=>
   have:l=[]:=h1
   subst this
   exact⟨some [],0,[],by simp[kM],rfl,rfl,List.Pairwise.nil,by simp⟩
 ·cases o with
  |none=>simp[hof]at h2
  |some l=>
   have h1:l[l.length-1]? =some s:=h1
   have h2:0<l.length:=h2
   have hlen:l.length=c.length:=h.len
   refine⟨some l,s.register.Day,s.register.Slings,?_,rfl,h3,h4,h5⟩
   have: ¬((l.length:Int)=0):=by omega
   simp only[kM,this,decide_false,Option.bind_some,Bool.false_eq_true,if_false]
   rw[qdm (by omega) h2,qE,h1]
   rfl
theorem qgv {e:ql} (hn:e.Names.length≤1000) (hv:e.Values.length≤1000):z8 e=some e:=by
 have e1:slices_Clone_string e.Names=some e.Names:=by
  cases hq:e.Names with
  |nil=>
   simp only[slices_Clone_string,jG,qew]
   rw[zB (by simp) (by simp)]
   simp
  |cons x xs=>
   rw[hq]at hn
   simp only[slices_Clone_string,zS]
   rw[zB (by simp only[List.length_nil];omega) (by simp only[List.length_nil];omega)]
   rfl
 have e2:slices_Clone_int e.Values=some e.Values:=by
  cases hq:e.Values with
  |nil=>
   simp only[slices_Clone_int,yB,qew]
   rw[zB (by simp) (by simp)]
   simp
  |cons x xs=>
   rw[hq]at hv
   simp only[slices_Clone_int,yJ]
   rw[zB (by simp only[List.length_nil];omega) (by simp only[List.length_nil];omega)]
   rfl
 unfold z8
 rw[e1,e2]
 rfl
theorem qkF {N:Nat} {c:List ql} {k:Nat} {e:ql} {evs:List ql} {o:Option (List StateT)} (h:Pre N c (hof o) k e) (hk:evs.length=k) (hc:yG e=0):
 ∃evs' o',jA N evs o e.Number e.Kind e.Names e.Values e.Text=some (evs',o',xQ N c k e)∧(xQ N c k e=0→evs'=evs++[e]∧Rel N (qdw c e) (hof o')∧(qdw c e).length≤k+1)∧(xQ N c k e≠0→evs'=evs∧hof o'=hof o):=by
 obtain⟨hrel,hck,hk1,hN,hM,hs⟩:=h
 have hv:=qeB hc
 have hlen:(e.Names.length≤3)∧(e.Values.length≤3):=by
  have h1:=hv.names
  have h2:=hv.values
  have h3:(jm e.Kind).1≤2∧(jm e.Kind).2.1≤3:=by
   unfold jm
   repeat' split
   all_goals decide
  omega
 have hcopy:z8 (⟨e.Number,e.Kind,e.Names,e.Values,e.Text⟩:ql)=some e:=qgv (e:=e) (by omega) (by omega)
 have happ:app 88 evs [e]=some (evs++[e]):=zB (by simp;omega) (by simp;omega)
 unfold jA
 have hw:w64 ((evs.length:Int)+1)=((k+1:Nat):Int):=by rw[qM (by omega),hk]
 rw[hw]
 rw[show([117,110,100,111]:Str)=yZ from rfl]
 have c0:(yG e≠0)=False:=by simp[hc]
 unfold xQ
 simp only[c0,if_false]
 by_cases h1:e.Number=((k+1:Nat):Int)
 ·have c1:((!decide (e.Number=((k+1:Nat):Int)))=true)=False:=by simp[h1]
  have c2:(e.Number≠((k+1:Nat):Int))=False:=by simp[h1]
  simp only[c1,c2,if_false]
  by_cases hu:(e.Kind==yZ)=true
  ·simp only[hu,if_true]
   cases o with
   |none=>
    have hc0:c=[]:=by have:=hrel.len;simp[hof]at this;exact List.length_eq_zero_iff.1 this.symm
    rw[if_pos hc0]
    exact⟨evs,none,by simp,fun h=>(by cases h),fun _=>⟨rfl,rfl⟩⟩
   |some l=>
    have hl:l.length=c.length:=hrel.len
    by_cases hl0:l.length=0
    ·have hc0:c=[]:=List.length_eq_zero_iff.1 (by omega)
     rw[if_pos hc0]
     exact⟨evs,some l,by simp[hl0],fun h=>(by cases h),fun _=>⟨rfl,rfl⟩⟩
    ·have hc0: ¬c=[]:=fun e=>hl0 (by rw[hl,e];rfl)
     rw[if_neg hc0]
     have: ¬((l.length:Int)=0):=by omega
     refine⟨evs++[e],some (l.take (l.length-1)),?_,fun _=>⟨rfl,?_,?_⟩,fun h=>absurd rfl h⟩
     ·simp only[this,decide_false,Option.bind_some,Bool.false_eq_true,if_false]
      rw[qdm (by omega) (by omega),qb0 (by omega)]
      simp only[Option.bind_some]
      rw[hcopy,Option.bind_some,happ]
      rfl
     ·unfold qdw
      rw[if_pos hu]
      exact hrel.pop
     ·unfold qdw
      rw[if_pos hu,List.length_dropLast]
      omega
  ·simp only[hu,if_false,Bool.false_eq_true]
   obtain⟨o',d,l,e1,e2,e3,e4,e5⟩:=qbo (evs:=evs) hrel (by omega) hN
   obtain⟨err,day,new,hP,hR,hA⟩:=qj2 (d:=d) (⟨e4,by omega,hN,hM⟩:qbb N l) hv (by simpa using hu)
   obtain⟨x,l',hP1,hP2⟩:=hP
   rw[e1,Option.bind_some]
   simp only
   rw[hP1,Option.bind_some,e3,Option.bind_some,hR.ref,Option.getD_some]
   simp only
   by_cases h0:err=0
   ·obtain⟨rfl,rfl⟩:=hP2 h0
    rw[if_neg (by simp[h0])]
    obtain⟨hA1,hA2⟩:=hA h0
    have hreg:qh1 N (c++[e])=some ⟨x,l'⟩:=by
     rw[qkx,←qfB (by omega) hN,e3,Option.bind_some]
     exact hR.aft h0
    have hrel':Rel N (c++[e]) (hof o'++[⟨e.Number,⟨x,l'⟩⟩]):=by
     rw[e2]
     exact hrel.push hreg hA1 (by omega)
    have hlo:(hof o').length≤1000:=by rw[e2,hrel.len];omega
    have fin: ∀o2:Option (List StateT),hof o2=hof o'++[⟨e.Number,⟨x,l'⟩⟩]→err=0→(evs++[e]=evs++[e]∧Rel N (qdw c e) (hof o2)∧(qdw c e).length≤k+1):=by
     intro o2 ho2 _
     unfold qdw
     rw[if_neg hu,ho2]
     exact⟨rfl,hrel',by simp;omega⟩
    cases o' with
    |none=>
     simp only[Option.bind_some]
     rw[hcopy,Option.bind_some,happ,Option.bind_some]
     exact⟨_,_,by rw[h0],fin (some [⟨e.Number,⟨x,l'⟩⟩]) rfl,fun h=>absurd h0 h⟩
    |some l2=>
     have hlo:l2.length≤1000:=hlo
     simp only
     rw[zB (by simp;omega) (by simp;omega)]
     simp only[Option.bind_some]
     rw[hcopy,Option.bind_some,happ,Option.bind_some]
     exact⟨_,_,by rw[h0],fin (some (l2++[⟨e.Number,⟨x,l'⟩⟩])) rfl,fun h=>absurd h0 h⟩
   ·rw[if_pos (by simp[h0])]
    exact⟨evs,o',rfl,fun h=>absurd h h0,fun _=>⟨rfl,e2⟩⟩
 ·have c1:((!decide (e.Number=((k+1:Nat):Int)))=true)=True:=by simp only[h1,decide_false,Bool.not_false]
  have c2:(e.Number≠((k+1:Nat):Int))=True:=eq_true h1
  simp only[c1,c2,if_true]
  exact⟨evs,o,rfl,fun h=>(by cases h),fun _=>⟨rfl,rfl⟩⟩
theorem qia {N:Nat} {c:List ql} {k:Nat} {e:ql} {evs:List ql} {o:Option (List StateT)} (h:Pre N c (hof o) k e) (hk:evs.length=k):
 ∃evs' o',zM N evs o e.Number e.Kind e.Names e.Values e.Text=some (evs',o',xQ N c k e)∧(xQ N c k e=0→evs'=evs++[e]∧Rel N (qdw c e) (hof o')∧(qdw c e).length≤k+1)∧(xQ N c k e≠0→evs'=evs∧hof o'=hof o):=by
 unfold zM
 have hN:=h.big
 rw[show(⟨e.Number,e.Kind,e.Names,e.Values,e.Text⟩:ql)=e from rfl,qg5 h.max (by omega) h.short,Option.bind_some]
 by_cases hc:yG e=0
 ·rw[if_neg (by simp[hc])]
  obtain⟨evs',o',h1,h2⟩:=qkF h hk hc
  rw[h1]
  exact⟨evs',o',rfl,h2⟩
 ·rw[if_pos (by simp[hc])]
  have:xQ N c k e=yG e:=by unfold xQ;rw[if_pos hc]
  rw[this]
  exact⟨evs,o,rfl,fun h=>absurd h hc,fun _=>⟨rfl,rfl⟩⟩
def yu (N:Nat):List ql→Nat→List ql→Int×Int×List ql
 |[],_,c=>(0,0,c)
 |e::es,k,c=>if xQ N c k e=0 then yu N es (k+1) (qdw c e)else(((k+1:Nat):Int),xQ N c k e,[])
theorem qgG {N:Nat} (hN:2000<N) (hM:N<4611686018427387904) {l:List ql} (hl:l.length≤1000) (hs: ∀e∈l,qef N e): ∀(K k:Nat) (c:List ql) (ss:List StateT),k≤l.length→l.length<K+k→Rel N c ss→c.length≤k→
 zJ N l K c (k:Int)=some (if(yu N (l.drop k) k c).2.1=0 then .inl (yu N (l.drop k) k c).2.2 else .inr ([],(yu N (l.drop k) k c).1,(yu N (l.drop k) k c).2.1))
 |0,k,c,ss,h,hK,_,_=>by omega
 |K+1,k,c,ss,h,hK,hr,hc=>by
  unfold zJ
  by_cases hk:k<l.length
  ·have hsh:=hs _ (List.getElem_mem hk)
   rw[if_pos (by omega),qE,List.getElem?_eq_getElem hk,Option.bind_some,qdo hM hsh,Option.bind_some,qM (by omega),List.drop_eq_getElem_cons hk]
   unfold yu
   generalize he:l[k]=e at*
   obtain⟨o,rfl⟩: ∃o:Option (List StateT),hof o=ss:=⟨some ss,rfl⟩
   have pre:Pre N c (hof o) k e:=⟨hr,hc,by omega,hN,hM,hsh⟩
   obtain⟨evs',o',_,h2,_⟩:=qia (evs:=l.take k) pre (by rw[List.length_take];omega)
   have key:((if yG e=0 then some (!decide (e.Number=((k+1:Nat):Int)))else some false:Option Bool).bind fun b13=>((if b13=true then some 11 else some (yG e):Option Int)).bind fun e_15=>
    (if e_15=0 then if(e.Kind==[117,110,100,111])=true then some (decide ((c.length:Int)=0))else some false else some false:Option Bool).bind fun b20=>((if b20=true then some 12 else some e_15:Option Int)).bind fun e_22=>
    (if e_22=0 then some (!(e.Kind==[117,110,100,111]))else some false:Option Bool).bind fun b26=>((if b26=true then(zU N c).bind fun r31=>(zV N r31 e).bind fun r32=>some r32 else some e_22:Option Int)))=some (xQ N c k e):=by
    unfold xQ
    have hku:([117,110,100,111]:Str)=yZ:=rfl
    rw[hku]
    by_cases a1:yG e=0
    ·by_cases a2:e.Number=((k+1:Nat):Int)
     ·by_cases a3:(e.Kind==yZ)=true
      ·by_cases a4:c=[]
       ·simp[a1,a2,a3,a4]
       ·have: ¬c.length=0:=fun h=>a4 (List.length_eq_zero_iff.1 h)
        simp[a1,a2,a3,a4,this]
      ·obtain⟨_,d,l2,_,_,e3,e4,e5⟩:=qbo (evs:=[]) hr (by omega) hN
       obtain⟨err,day,new,_,hR,_⟩:=qj2 (d:=d) (⟨e4,by omega,hN,hM⟩:qbb N l2) (qeB a1) (by simpa using a3)
       simp[a1,a2,a3,e3,hR.ref]
     ·have a2': ¬e.Number=(k:Int)+1:=by simpa using a2
      simp[a1,a2']
    ·simp[a1]
   have key2: ∀F:Int→Option (List ql⊕(List ql×Int×Int)),((if yG e=0 then some (!decide (e.Number=((k+1:Nat):Int)))else some false:Option Bool).bind fun b13=>((if b13=true then some 11 else some (yG e):Option Int)).bind fun e_15=>
    (if e_15=0 then if(e.Kind==[117,110,100,111])=true then some (decide ((c.length:Int)=0))else some false else some false:Option Bool).bind fun b20=>((if b20=true then some 12 else some e_15:Option Int)).bind fun e_22=>
    (if e_22=0 then some (!(e.Kind==[117,110,100,111]))else some false:Option Bool).bind fun b26=>((if b26=true then(zU N c).bind fun r31=>(zV N r31 e).bind fun r32=>some r32 else some e_22:Option Int)).bind F)=F (xQ N c k e):=by
    intro F
    have:=congrArg (fun x=>Option.bind x F) key
    simp only[Option.bind_some,Option.bind_assoc]at this
    exact this
   rw[key2]
   by_cases h0:xQ N c k e=0
   ·obtain⟨_,g2,g3⟩:=h2 h0
    rw[if_neg (show¬((!decide (xQ N c k e=0))=true)by simp[h0]),if_pos h0,←qgG hN hM hl hs K (k+1) _ (hof o') (by omega) (by omega) g2 g3]
    unfold qdw
    by_cases hu:(e.Kind==yZ)=true
    ·have hu':(e.Kind==[117,110,100,111])=true:=hu
     rw[if_pos hu',if_pos hu]
     have hc0:c≠[]:=by
      intro hc0
      unfold xQ at h0
      by_cases a1:yG e=0
      ·rw[if_neg (by simp[a1])]at h0
       by_cases a2:e.Number=((k+1:Nat):Int)
       ·rw[if_neg (by simp[a2]),if_pos hu,if_pos hc0]at h0;cases h0
       ·rw[if_pos a2]at h0;cases h0
      ·rw[if_pos a1]at h0;exact a1 h0
     have hcl:0<c.length:=List.length_pos_iff.2 hc0
     rw[qdm (by omega) hcl,qb0 (by omega),List.dropLast_eq_take]
     rfl
    ·have hu': ¬(e.Kind==[117,110,100,111])=true:=hu
     rw[if_neg hu',if_neg hu,zB (by simp;omega) (by simp;omega),Option.bind_some,zB (by simp;omega) (by simp;omega)]
     rfl
   ·rw[if_pos (show((!decide (xQ N c k e=0))=true)by simp[h0]),if_neg h0]
    simp[h0]
  ·rw[if_neg (by omega),List.drop_of_length_le (by omega)]
   rfl
structure Evs (N:Nat) (l:List ql):Prop where
 len:l.length≤1000
 short: ∀e∈l,qef N e
 big:2000<N
 max:N<4611686018427387904
theorem qgp {N:Nat} {l:List ql} (h:Evs N l):((yu N l 0 []).2.1≠0∧yT N l=some ([],(yu N l 0 []).1,(yu N l 0 []).2.1))∨((yu N l 0 []).2.1=0∧yT N l=some ((yu N l 0 []).2.2,0,0)):=by
 obtain⟨hl,hs,hN,hM⟩:=h
 have h2:=qgG hN hM hl hs N 0 [] [] (by omega) (by omega) (Rel.nil N) (by simp)
 rw[List.drop_zero]at h2
 have e2: ∀a b,zJ N l a b 0=zJ N l a b ((0:Nat):Int):=fun _ _=>rfl
 unfold yT
 rw[e2,h2]
 by_cases h0:(yu N l 0 []).2.1=0
 ·exact .inr ⟨h0,by simp[h0]⟩
 ·exact .inl ⟨h0,by simp[h0]⟩
theorem qgR {N:Nat} {l:List ql} (h:Evs N l) {ss:List StateT} (h0:(yu N l 0 []).2.1=0) (hr:Rel N (yu N l 0 []).2.2 ss) (hc:(yu N l 0 []).2.2.length≤1000): ∃d s,vS N l=some (⟨d,s⟩,0,0):=by
 have hl:=h.len
 unfold vS
 rw[if_neg (by omega)]
 rcases qgp h with⟨g1,_⟩|⟨_,g3⟩
 ·exact absurd h0 g1
 ·rw[g3,Option.bind_some]
  obtain⟨_,d,s,_,_,e3,_,_⟩:=qbo (evs:=[]) (o:=some ss) hr hc h.big
  refine⟨d,s,?_⟩
  simp only
  rw[if_neg (by simp),e3]
  rfl
theorem qjN {N:Nat} {l:List ql} (h:Evs N l) (h0:(yu N l 0 []).2.1≠0):vS N l=some (⟨0,[]⟩,(yu N l 0 []).1,(yu N l 0 []).2.1):=by
 have hl:=h.len
 unfold vS
 rw[if_neg (by omega)]
 rcases qgp h with⟨g1,g3⟩|⟨g1,_⟩
 ·rw[g3,Option.bind_some]
  simp only
  rw[if_pos (by simp[g1])]
 ·exact absurd g1 h0
theorem qdL (N:Nat) (e:ql) (es:List ql) (k:Nat) (c:List ql):yu N (e::es) k c=if xQ N c k e=0 then yu N es (k+1) (qdw c e)else(((k+1:Nat):Int),xQ N c k e,[]):=rfl
theorem qdx (N:Nat) (e:ql): ∀(l:List ql) (k:Nat) (c:List ql),yu N (l++[e]) k c=if(yu N l k c).2.1=0 then yu N [e] (k+l.length) (yu N l k c).2.2 else yu N l k c
 |[],k,c=>by
  show yu N [e] k c=if(0:Int)=0 then yu N [e] (k+0) c else _
  rw[if_pos rfl]
  rfl
 |x::l,k,c=>by
  rw[List.cons_append,qdL N x (l++[e]),qdL N x l]
  by_cases h:xQ N c k x=0
  ·rw[if_pos h,if_pos h,qdx N e l (k+1) (qdw c x),List.length_cons,show k+1+l.length=k+(l.length+1)by omega]
  ·rw[if_neg h,if_neg h,if_neg h]
theorem qjb {N:Nat} {l:List ql} (h:Evs N l) {o:Option (List StateT)} (h0:(yu N l 0 []).2.1=0) (hr:Rel N (yu N l 0 []).2.2 (hof o)) (hck:(yu N l 0 []).2.2.length≤l.length) (hl1:l.length<1000) {e:ql} (he:qef N e):xX N l e=some (xQ N (yu N l 0 []).2.2 l.length e):=by
 have hl:=h.len
 have hN:=h.big
 have hM:=h.max
 unfold xX
 obtain⟨d,s,e1⟩:=qgR h h0 hr (by omega)
 rw[e1,qdo hM he]
 have hlen: ¬(l.length:Int)≥1000:=by omega
 simp only[Option.bind_some,if_true]
 by_cases hc:yG e=0
 ·rw[hc,if_neg (by simp),if_neg hlen,zB (by simp;omega) (by simp;omega),Option.bind_some,List.nil_append,zB (by simp;omega) (by simp;omega),Option.bind_some]
  have h':Evs N (l++[e]):=⟨by simp;omega,fun x hx=>by
   rcases List.mem_append.1 hx with hx|hx
   ·exact h.short x hx
   ·simp at hx;subst hx;exact he,hN,hM⟩
  have ca:(yu N (l++[e]) 0 []).2.1=xQ N (yu N l 0 []).2.2 l.length e∧(xQ N (yu N l 0 []).2.2 l.length e=0→(yu N (l++[e]) 0 []).2.2=qdw (yu N l 0 []).2.2 e):=by
   rw[qdx,if_pos h0,Nat.zero_add,qdL]
   by_cases hz:xQ N (yu N l 0 []).2.2 l.length e=0
   ·rw[if_pos hz];exact⟨hz.symm,fun _=>rfl⟩
   ·rw[if_neg hz];exact⟨rfl,fun h=>absurd h hz⟩
  by_cases hz:xQ N (yu N l 0 []).2.2 l.length e=0
  ·obtain⟨evs',o',_,a2,_⟩:=qia (evs:=l) (⟨hr,hck,hl1,hN,hM,he⟩:Pre N (yu N l 0 []).2.2 (hof o) l.length e) rfl
   obtain⟨_,a3,a4⟩:=a2 hz
   obtain⟨d2,s2,e2⟩:=qgR h' (by rw[ca.1,hz]) (ss:=hof o') (by rw[ca.2 hz];exact a3) (by rw[ca.2 hz];omega)
   rw[e2,hz]
   rfl
  ·rw[qjN h' (by rw[ca.1];exact hz),Option.bind_some]
   exact congrArg some ca.1
 ·rw[if_pos (by simp[hc])]
  unfold xQ
  rw[if_pos hc]
end Go.Av
