/-
  Chapter 10: names and events.
-/
import Derived.Test.YtphbhegcojmijaaGreatDoorAvPl
import Derived.Test.YtphbhegcojmijaaGreatDoorQGenC
noncomputable section
namespace Go.Av
set_option linter.unusedSimpArgs false
set_option linter.unusedVariables false
theorem qiH {s:Str} {k:Nat} {c:UInt8} (h:s[k]? =some c):((⟨s.toArray⟩:ByteArray).get! k)=c:=by
 have hk:=(List.getElem?_eq_some_iff.1 h).1
 show s.toArray[k]! =c
 rw[getElem!_def]
 simp[h]
theorem qkt {s:Str} {k:Nat} {c:UInt8} (h:s[k]? =some c) (hc:c.toNat<128):vR s k=c.toNat∧runeLen s k=1:=by
 have e:=qiH h
 unfold vR runeLen Utf8.decode
 simp only[Nat.add_zero,e,if_pos hc,and_self]
theorem qlH {s:Str} {k:Nat} {c:UInt8} (h:s[k]? =some c) (hc:128≤c.toNat):128≤vR s k:=by
 have e:=qiH h
 unfold vR Utf8.decode
 simp only[Nat.add_zero,e,if_neg (Nat.not_lt.2 hc)]
 have hr:(128:Nat)≤Utf8.runeError:=by decide
 repeat' split
 all_goals first|(simp only[Bool.and_eq_true,decide_eq_true_eq]at*;omega)|(simp;omega)|omega
def qhe (c:Int):Bool:=(decide (97≤c)&&decide (c≤122))||(decide (65≤c)&&decide (c≤90))
theorem qfr (c:Int):vX c=some (qhe c):=by
 unfold vX qhe
 by_cases h1:c≥97<;>by_cases h2:c≤122<;>by_cases h3:c≥65<;>by_cases h4:c≤90<;>simp[h1,h2,h3,h4]<;>omega
def qjl (k:Nat) (c:Int):Bool:=!qhe c&&(decide (k=0)||(!decide (c=95)&&(decide (c<48)||decide (c>57))))
def yZ (s:Str):Bool:=decide (1≤s.length)&&decide (s.length≤24)&&!((List.range s.length).any fun k=>qjl k (s.getD k 0).toNat)
theorem qm6 {k:Nat} {c:Int} (h:128≤c):qjl k c=true:=by
 unfold qjl qhe
 simp
 omega
def qan (s:Str) (k:Nat):Bool:=(List.range (s.length-k)).any fun j=>qjl (k+j) (s.getD (k+j) 0).toNat
theorem qeQ {s:Str} {k:Nat} {c:UInt8} (h:s[k]? =some c):qan s k=(qjl k c.toNat||qan s (k+1)):=by
 have hk:=(List.getElem?_eq_some_iff.1 h).1
 unfold qan
 rw[show s.length-k=(s.length-(k+1))+1 by omega,List.range_succ_eq_map,List.any_cons,List.any_map]
 congr 1
 ·simp[List.getD,h]
 ·congr 1
  funext j
  simp only[Function.comp,Nat.succ_eq_add_one]
  rw[show k+(j+1)=k+1+j by omega]
theorem qfC {s:Str} {k:Nat} (h:s.length≤k):qan s k=false:=by
 unfold qan
 rw[show s.length-k=0 by omega]
 rfl
theorem qhU (s:Str): ∀(K k:Nat),k≤s.length→s.length<K+k→jQ s K k=some (if qan s k then .inr false else .inl ())
 |0,k,h,hK=>by omega
 |K+1,k,h,hK=>by
  unfold jQ
  by_cases hk:k<s.length
  ·have hc:s[k]? =some s[k]:=List.getElem?_eq_getElem hk
   rw[if_pos hk,qfr,qeQ hc]
   by_cases ha:(s[k]).toNat<128
   ·obtain⟨e1,e2⟩:=qkt hc ha
    rw[e1,e2,qhU s K (k+1) (by omega) (by omega)]
    have ek:((k:Int)=0)↔k=0:=by omega
    unfold qjl
    generalize ((s[k]).toNat:Int)=c
    cases hl:qhe c<;>by_cases h0:k=0<;>by_cases h1:c=95<;>by_cases h2:c<48<;>by_cases h3:57<c<;>
     simp[hl,h0,h1,h2,h3]
   ·have hw:=qlH hc (by omega)
    rw[qm6 (show(128:Int)≤((s[k]).toNat:Int)by omega)]
    have hl:qhe (vR s k)=false:=by unfold qhe;simp;omega
    have h1: ¬vR s k=95:=by omega
    have h2: ¬vR s k<48:=by omega
    have h3:vR s k>57:=by omega
    have ek:((k:Int)=0)↔k=0:=by omega
    simp only[hl,Option.bind_some,Bool.not_false,if_true,h1,h2,h3,decide_true,decide_false,if_false,Bool.true_or,ek]
    by_cases h0:k=0
    ·simp only[h0,if_true,Option.bind_some]
    ·simp only[h0,if_false,Option.bind_some,if_true]
  ·rw[if_neg hk,qfC (by omega)]
   rfl
theorem qgi (s:Str):yZ s=(decide (1≤s.length)&&decide (s.length≤24)&&!qan s 0):=by
 unfold yZ qan
 simp
theorem qlQ {N:Nat} {s:Str} (h:s.length<N):xL N s=some (yZ s):=by
 unfold xL
 rw[qhU s N 0 (Nat.zero_le _) (by omega),qgi]
 cases hb:qan s 0
 ·cases s with
  |nil=>simp
  |cons x xs=>
   have e:((x::xs)==([]:Str))=false:=rfl
   simp only[Option.bind_some,Bool.false_eq_true,if_false,e,Bool.not_false,if_true,Bool.and_true,Option.some.injEq]
   have:(1≤(x::xs).length):=by simp
   rw[Bool.eq_iff_iff]
   simp only[decide_eq_true_eq,Bool.and_eq_true,this,true_and]
   omega
 ·simp
theorem qgd (s:Str) (hs:s.length<4611686018427387904): ∀(K k:Nat),k≤s.length→s.length<K+k→vC s K (k:Int)=some (if qan s k then .inr false else .inl ())
 |0,k,h,hK=>by omega
 |K+1,k,h,hK=>by
  unfold vC
  by_cases hk:k<s.length
  ·have hc:s[k]? =some s[k]:=List.getElem?_eq_getElem hk
   rw[if_pos (by omega),qA,hc,qeQ hc,qK (by omega),qgd s hs K (k+1) (by omega) (by omega)]
   simp only[Option.bind_some]
   have ek:((k:Int)=0)↔k=0:=by omega
   unfold qjl
   generalize ((s[k]).toNat:Int)=c
   rw[show(if c≥97 then if c≤122 then some true else if c≥65 then some (decide (c≤90))else some false else if c≥65 then some (decide (c≤90))else some false:Option Bool)=some (qhe c)from by
    have:=qfr c
    unfold vX at this
    rw[←this]
    cases(if c≥97 then if c≤122 then some true else if c≥65 then some (decide (c≤90))else some false else if c≥65 then some (decide (c≤90))else some false:Option Bool)<;>rfl]
   simp only[Option.bind_some,ek]
   cases qhe c
   ·by_cases h5:k=0
    ·simp[h5]
    ·by_cases h6:c≥48
     ·by_cases h7:c≤57
      ·have a1: ¬c<48:=by omega
       have a2: ¬c>57:=by omega
       simp[h5,h6,h7,a1,a2]
      ·have a1: ¬c<48:=by omega
       have a2:c>57:=by omega
       by_cases h8:c=95<;>simp[h5,h6,h7,h8,a1,a2]
     ·have a1:c<48:=by omega
      by_cases h8:c=95<;>simp[h5,h6,h8,a1]
   ·simp
  ·rw[if_neg (by omega),qfC (by omega)]
   rfl
theorem qj5 {N:Nat} {s:Str} (h:s.length<N) (hs:s.length<4611686018427387904):qao N s=some (yZ s):=by
 unfold qao
 rw[show(0:Int)=((0:Nat):Int)from rfl,qgd s hs N 0 (Nat.zero_le _) (by omega),qgi]
 by_cases h1:s.length<1
 ·rw[if_pos (by omega)]
  simp[show¬1≤s.length by omega]
 ·by_cases h2:s.length>24
  ·rw[if_neg (by omega)]
   simp only[Option.bind_some,show((s.length:Int)>24)by omega,decide_true,if_true,show¬s.length≤24 by omega,decide_false,Bool.and_false,Bool.false_and]
  ·rw[if_neg (by omega)]
   simp only[Option.bind_some,show¬((s.length:Int)>24)by omega,decide_false,Bool.false_eq_true,if_false,show 1≤s.length by omega,show s.length≤24 by omega,decide_true,Bool.true_and]
   cases hb:qan s 0<;>rfl
def zl:List Int→Int
 |[]=>0
 |x::xs=>if x=0 then zl xs else x
theorem qju (l:List Int) (hl:l.length<4611686018427387904): ∀(K k:Nat),k≤l.length→l.length<K+k→vz l K (k:Int)=some (if zl (l.drop k)=0 then .inl ()else .inr (zl (l.drop k)))
 |0,k,h,hK=>by omega
 |K+1,k,h,hK=>by
  unfold vz
  by_cases hk:k<l.length
  ·rw[if_pos (by omega),qA,List.getElem?_eq_getElem hk,List.drop_eq_getElem_cons hk,qK (by omega),qju l hl K (k+1) (by omega) (by omega)]
   simp only[Option.bind_some,zl]
   by_cases h0:l[k]=0
   ·simp[h0]
   ·simp[h0]
  ·rw[if_neg (by omega),List.drop_of_length_le (by omega)]
   rfl
theorem xR {N:Nat} {l:List Int} (hl:l.length<4611686018427387904) (h:l.length<N):zH N l=some (zl l):=by
 unfold zH
 rw[show(0:Int)=((0:Nat):Int)from rfl,qju l hl N 0 (Nat.zero_le _) (by omega),List.drop_zero]
 by_cases h0:zl l=0
 ·simp[h0]
 ·simp[h0]
theorem qaQ (b:Bool) (e:Int):qX b e=some (if b=true then e else 0):=by
 unfold qX;split<;>rfl
def vI (n lo hi:Int):Bool:=decide (n<lo)||decide (n>hi)
theorem qb9 (n lo hi:Int):jm n lo hi=some (if vI n lo hi=true then 3 else 0):=by
 unfold jm vI
 simp only[qaQ]
 by_cases h:n<lo<;>simp[h]
theorem qcx (n lo hi:Int):jo n lo hi=some (vI n lo hi):=by
 unfold jo vI
 by_cases h:n<lo<;>simp[h]
theorem qmV {N:Nat} {s:Str} (h:s.length<N):qaj N s=some (if yZ s=true then 0 else 8):=by
 unfold qaj
 simp only[qlQ h,qaQ,Option.bind_some]
 cases yZ s<;>rfl
def y8:Str:=[109,97,107,101]
def xS:Str:=[116,101,115,116]
def qbB:Str:=[117,115,101]
def xg:Str:=[102,97,105,108]
def zS:Str:=[114,101,99,97,108,108]
def xx:Str:=[117,110,100,111]
def zx (k:Str):Int×Int×Bool:=
 if(k==y8)=true then(2,3,true)else if(k==xS)=true then(1,2,true)else if(k==qbB)=true then(1,2,true)else if(k==xg)=true then(1,1,true)
 else if(k==zS)=true then(1,1,true)else if(k==xx)=true then(0,0,true)else(0,0,false)
theorem qoo (k:Str):qby k=some (zx k):=by
 unfold qby zx y8 xS qbB xg zS xx
 by_cases h1:(k==[109,97,107,101])=true
 ·simp only[h1,if_true]
 ·by_cases h2:(k==[116,101,115,116])=true
  ·simp only[h1,h2,if_false,if_true,Option.bind_some];rfl
  ·by_cases h3:(k==[117,115,101])=true
   ·simp only[h1,h2,h3,if_false,if_true,Option.bind_some];rfl
   ·by_cases h4:(k==[102,97,105,108])=true
    ·simp only[h1,h2,h3,h4,if_false,if_true,Option.bind_some];rfl
    ·by_cases h5:(k==[114,101,99,97,108,108])=true
     ·simp only[h1,h2,h3,h4,h5,if_false,if_true,Option.bind_some];rfl
     ·simp only[h1,h2,h3,h4,h5,if_false,Option.bind_some,Bool.false_eq_true]
      split<;>rfl
def qG (e:qb):Int:=
 if vI e.Number 1 1000=true then 3
 else if(zx e.Kind).2.2=false then 13
 else if¬((e.Names.length:Int)=(zx e.Kind).1∧(e.Values.length:Int)=(zx e.Kind).2.1)then 2
 else if e.Names.all yZ=false then 8
 else if e.Values.all (fun v=>!vI v 0 999999999)=false then 3
 else if e.Text=[]then 0 else 1
theorem qow {N:Nat} (e:qb) (hl:e.Names.length<4611686018427387904) (hs: ∀s∈e.Names,s.length<N): ∀(K k:Nat),k≤e.Names.length→e.Names.length<K+k→zN N e K (k:Int)=some (if(e.Names.drop k).all yZ=true then .inl ()else .inr 8)
 |0,k,h,hK=>by omega
 |K+1,k,h,hK=>by
  unfold zN
  by_cases hk:k<e.Names.length
  ·rw[if_pos (by omega),qA,List.getElem?_eq_getElem hk,List.drop_eq_getElem_cons hk,qK (by omega),qow e hl hs K (k+1) (by omega) (by omega)]
   simp only[Option.bind_some,qmV (hs _ (List.getElem_mem hk)),List.all_cons]
   by_cases hq:yZ e.Names[k]=true<;>simp[hq]
  ·rw[if_neg (by omega),List.drop_of_length_le (by omega)]
   rfl
theorem qoB (e:qb) (hl:e.Values.length<4611686018427387904): ∀(K k:Nat),k≤e.Values.length→e.Values.length<K+k→zP e K (k:Int)=some (if(e.Values.drop k).all (fun v=>!vI v 0 999999999)=true then .inl ()else .inr 3)
 |0,k,h,hK=>by omega
 |K+1,k,h,hK=>by
  unfold zP
  by_cases hk:k<e.Values.length
  ·rw[if_pos (by omega),qA,List.getElem?_eq_getElem hk,List.drop_eq_getElem_cons hk,qK (by omega),qoB e hl K (k+1) (by omega) (by omega)]
   simp only[Option.bind_some,qb9,List.all_cons]
   by_cases hq:vI e.Values[k] 0 999999999=true<;>simp[hq]
  ·rw[if_neg (by omega),List.drop_of_length_le (by omega)]
   rfl
structure qaI (N:Nat) (e:qb):Prop where
 n:e.Names.length<N
 v:e.Values.length<N
 s: ∀s∈e.Names,s.length<N
theorem qb0 {N:Nat} (hN:N<4611686018427387904) (h3:3<N) {e:qb} (h:qaI N e):jA N e=some (qG e):=by
 obtain⟨hn,hv,hs⟩:=h
 unfold jA
 have hf:((zF).bind fun r1=>
  if(e.Kind==[109,97,107,101])=true then some (2,3,true)else if(e.Kind==[116,101,115,116])=true then some (1,2,true)else if(e.Kind==[117,115,101])=true then some (1,2,true)
  else if(e.Kind==[102,97,105,108])=true then some (1,1,true)else if(e.Kind==[114,101,99,97,108,108])=true then some (1,1,true)else if(e.Kind==[117,110,100,111])=true then some (0,0,true)
  else some (0,0,false):Option (Int×Int×Bool))=some (zx e.Kind):=by
  simp only[zF,Option.bind_some,zx,y8,xS,qbB,xg,zS,xx]
  by_cases h1:(e.Kind==[109,97,107,101])=true
  ·simp only[h1,if_true]
  by_cases h2:(e.Kind==[116,101,115,116])=true
  ·simp only[h1,h2,if_true,if_false,Bool.false_eq_true]
  by_cases h3:(e.Kind==[117,115,101])=true
  ·simp only[h1,h2,h3,if_true,if_false,Bool.false_eq_true]
  by_cases h4:(e.Kind==[102,97,105,108])=true
  ·simp only[h1,h2,h3,h4,if_true,if_false,Bool.false_eq_true]
  by_cases h5:(e.Kind==[114,101,99,97,108,108])=true
  ·simp only[h1,h2,h3,h4,h5,if_true,if_false,Bool.false_eq_true]
  by_cases h6:(e.Kind==[117,110,100,111])=true
  ·simp only[h1,h2,h3,h4,h5,h6,if_true,if_false,Bool.false_eq_true]
  simp only[h1,h2,h3,h4,h5,h6,if_true,if_false,Bool.false_eq_true]
 rw[hf]
 have e0:(0:Int)=((0:Nat):Int):=rfl
 simp only[Option.bind_some,qb9,qaQ,xR (N:=N) (l:=[_,_,_]) (by simp) (by simpa using h3)]
 rw[e0,qow e (by omega) hs N 0 (by omega) (by omega),qoB e (by omega) N 0 (by omega) (by omega),List.drop_zero,List.drop_zero]
 unfold qG
 generalize zx e.Kind=f
 obtain⟨a,b,c⟩:=f
 by_cases h1:vI e.Number 1 1000=true
 ·by_cases hx:(e.Names.length:Int)=a<;>simp[h1,zl,hx]
 ·cases c
  ·by_cases hx:(e.Names.length:Int)=a<;>simp[h1,zl,hx]
  ·by_cases hx:(e.Names.length:Int)=a
   ·by_cases hy:(e.Values.length:Int)=b
    ·cases hA:e.Names.all yZ
     ·simp[h1,zl,hx,hy,hA]
     ·cases hB:e.Values.all (fun v=>!vI v 0 999999999)
      ·simp[h1,zl,hx,hy,hA,hB]
      ·by_cases ht:e.Text=[]
       ·simp[h1,zl,hx,hy,hA,hB,ht]
       ·have:(e.Text==[])=false:=by cases hq:e.Text with|nil=>exact absurd hq ht|cons=>rfl
        simp[h1,zl,hx,hy,hA,hB,ht,this]
    ·simp[h1,zl,hx,hy]
   ·simp[h1,zl,hx]
theorem qnx {N:Nat} (hN:N<4611686018427387904) (e:qb) {r:Int×Int×Bool} (hr:(e.Names.length:Int)=r.1) (hl:e.Names.length<4611686018427387904) (hs: ∀s∈e.Names,s.length<N): ∀(K k:Nat),k≤e.Names.length→e.Names.length<K+k→zY N e r K (k:Int)=some (if(e.Names.drop k).all yZ=true then .inl ()else .inr 8)
 |0,k,h,hK=>by omega
 |K+1,k,h,hK=>by
  unfold zY
  by_cases hk:k<e.Names.length
  ·have:=hs _ (List.getElem_mem hk)
   rw[if_pos (by omega),qA,List.getElem?_eq_getElem hk,List.drop_eq_getElem_cons hk,qK (by omega),qnx hN e hr hl hs K (k+1) (by omega) (by omega)]
   simp only[Option.bind_some,qj5 this (by omega),List.all_cons]
   by_cases hq:yZ e.Names[k]=true<;>simp[hq]
  ·rw[if_neg (by omega),List.drop_of_length_le (by omega)]
   rfl
theorem qmj (e:qb) {r:Int×Int×Bool} (hr:(e.Values.length:Int)=r.2.1) (hl:e.Values.length<4611686018427387904): ∀(K k:Nat),k≤e.Values.length→e.Values.length<K+k→zW e r K (k:Int)=some (if(e.Values.drop k).all (fun v=>!vI v 0 999999999)=true then .inl ()else .inr 3)
 |0,k,h,hK=>by omega
 |K+1,k,h,hK=>by
  unfold zW
  by_cases hk:k<e.Values.length
  ·rw[if_pos (by omega),qA,List.getElem?_eq_getElem hk,List.drop_eq_getElem_cons hk,qK (by omega),qmj e hr hl K (k+1) (by omega) (by omega)]
   simp only[Option.bind_some,qcx,List.all_cons]
   by_cases hq:vI e.Values[k] 0 999999999=true<;>simp[hq]
  ·rw[if_neg (by omega),List.drop_of_length_le (by omega)]
   rfl
theorem qg0 {N:Nat} (hN:N<4611686018427387904) {e:qb} (h:qaI N e):yA N e=some (qG e):=by
 obtain⟨hn,hv,hs⟩:=h
 unfold yA qG
 rw[qcx,qoo]
 simp only[Option.bind_some]
 by_cases h1:vI e.Number 1 1000=true
 ·simp[h1]
 ·rw[if_neg h1,if_neg h1]
  cases hc:(zx e.Kind).2.2
  ·simp
  ·by_cases hx:(e.Names.length:Int)=(zx e.Kind).1
   ·by_cases hy:(e.Values.length:Int)=(zx e.Kind).2.1
    ·have e0:(0:Int)=((0:Nat):Int):=rfl
     rw[e0,qnx hN e hx (by omega) hs N 0 (by omega) (by omega),qmj e hy (by omega) N 0 (by omega) (by omega),List.drop_zero,List.drop_zero]
     cases hA:e.Names.all yZ
     ·simp[hx,hy]
     ·cases hB:e.Values.all (fun v=>!vI v 0 999999999)
      ·simp[hx,hy]
      ·by_cases ht:e.Text=[]
       ·simp[hx,hy,ht]
       ·have:(e.Text==[])=false:=by cases hq:e.Text with|nil=>exact absurd hq ht|cons=>rfl
        simp[hx,hy,ht,this]
    ·simp[hx,hy]
   ·simp[hx]
def qaD (s:qc) (d:Int):Bool:=s.Gone||(decide (d>s.Last)||decide (s.Used=s.Uses))
def qeJ (s:qc) (d:Int):Bool:=decide (s.Limit>0)&&decide (d≤s.Until)
theorem qet (s:qc) (d:Int):zR s d=some (qaD s d):=by
 unfold zR qaD
 by_cases h:s.Gone=true
 ·simp[h]
 ·by_cases h2:d>s.Last<;>simp[h,h2]
theorem qfv (s:qc) (d:Int):yR s d=some (qaD s d):=by
 unfold yR qaD
 by_cases h:s.Gone=true
 ·simp[h]
 ·by_cases h2:d>s.Last<;>simp[h,h2]
theorem qjz (s:qc) (d:Int):jK s d=some (qeJ s d):=by
 unfold jK qeJ
 by_cases h:s.Limit>0<;>simp[h]
theorem ql5 (s:qc) (d:Int):qah s d=some (qeJ s d):=by
 unfold qah qeJ
 by_cases h:s.Limit>0<;>simp[h]
def vE:List qc→Str→Nat
 |[],_=>0
 |s::l,n=>if ltL s.Name n=true then vE l n+1 else 0
def yV:List qc→Str→Bool
 |[],_=>false
 |s::l,n=>if ltL s.Name n=true then yV l n else s.Name==n
theorem qeM: ∀(l:List qc) (n:Str),vE l n≤l.length
 |[],_=>Nat.le_refl _
 |s::l,n=>by
  unfold vE
  split
  ·have:=qeM l n;simp only[List.length_cons];omega
  ·simp
theorem qdA: ∀{l:List qc} {n:Str},yV l n=true→vE l n<l.length
 |[],_,h=>by simp[yV]at h
 |s::l,n,h=>by
  unfold yV at h
  unfold vE
  by_cases hc:ltL s.Name n=true
  ·rw[if_pos hc]at h⊢
   have:=qdA h
   simp only[List.length_cons];omega
  ·rw[if_neg hc];simp
theorem qeW: ∀{l:List qc} {n:Str} {s:qc},l[vE l n]? =some s→yV l n=(s.Name==n)
 |[],_,_,h=>by simp at h
 |t::l,n,s,h=>by
  unfold vE at h
  unfold yV
  by_cases hc:ltL t.Name n=true
  ·rw[if_pos hc]at h⊢
   exact qeW (by simpa using h)
  ·rw[if_neg hc]at h⊢
   simp only[List.getElem?_cons_zero,Option.some.injEq]at h
   rw[h]
theorem qeK (l:List qc) (hl:l.length<4611686018427387904) (n:Str): ∀(K k:Nat),k≤l.length→l.length<K+k→qL l n K (k:Int)=some (if vE (l.drop k) n<(l.drop k).length then .inr ((k+vE (l.drop k) n:Nat):Int)else .inl ())
 |0,k,h,hK=>by omega
 |K+1,k,h,hK=>by
  unfold qL
  by_cases hk:k<l.length
  ·rw[if_pos (by omega),qA,List.getElem?_eq_getElem hk,List.drop_eq_getElem_cons hk,qK (by omega),qeK l hl n K (k+1) (by omega) (by omega)]
   simp only[Option.bind_some,jy,vE,List.length_cons]
   by_cases hc:ltL (l[k]).Name n=true
   ·simp only[hc,Bool.not_true,Bool.false_eq_true,if_false,if_true,Nat.add_lt_add_iff_right]
    split
    ·rw[show k+1+vE (List.drop (k+1) l) n=k+(vE (List.drop (k+1) l) n+1)by omega]
    ·rfl
   ·simp[hc]
  ·rw[if_neg (by omega),List.drop_of_length_le (by omega)]
   rfl
theorem qkP {N:Nat} {l:List qc} (hl:l.length<4611686018427387904) (hN:l.length<N) (d:Int) (n:Str):jg N ⟨d,l⟩ n=some ((vE l n:Int),yV l n):=by
 unfold jg jF
 rw[show(0:Int)=((0:Nat):Int)from rfl,qeK l hl n N 0 (by omega) (by omega),List.drop_zero]
 by_cases h:vE l n<l.length
 ·have hg:l[vE l n]? =some (l[vE l n]):=List.getElem?_eq_getElem h
  have h2: ¬((vE l n:Nat):Int)<0:=by omega
  simp only[h,if_true,Nat.zero_add,Option.bind_some]
  rw[if_neg (by omega),qA,hg,Option.bind_some,qeW hg]
 ·have h0:yV l n=false:=by
   cases hq:yV l n with
   |false=>rfl
   |true=>exact absurd (qdA hq) h
  have h1:vE l n=l.length:=by have:=qeM l n;omega
  simp[h,h0,h1]
def Asc (l:List qc):Prop:=l.Pairwise fun a b=>ltL a.Name b.Name=true
theorem Asc.find: ∀{l:List qc},Asc l→ ∀n:Str,l.findIdx? (fun s=>s.Name==n)=if yV l n=true then some (vE l n)else none
 |[],_,n=>by simp[yV]
 |s::l,h,n=>by
  have h1:=(List.pairwise_cons.1 h).1
  have h2:=Asc.find (List.pairwise_cons.1 h).2 n
  rw[List.findIdx?_cons]
  unfold yV vE
  by_cases hc:ltL s.Name n=true
  ·have:(s.Name==n)=false:=beq_eq_false_iff_ne.2 (qil hc)
   rw[if_pos hc,if_pos hc,this,h2]
   simp only[Bool.false_eq_true,if_false]
   split<;>rfl
  ·rw[if_neg hc,if_neg hc]
   by_cases he:(s.Name==n)=true
   ·simp[he]
   ·simp only[he,if_false,Bool.false_eq_true]
    have hgt:ltL n s.Name=true:=by
     cases hq:ltL n s.Name with
     |true=>rfl
     |false=>exact absurd (beq_iff_eq.2 (qiu _ _ (by simpa using hc) hq)) he
    have:l.findIdx? (fun s=>s.Name==n)=none:=by
     rw[List.findIdx?_eq_none_iff]
     intro x hx
     exact beq_eq_false_iff_ne.2 fun e=>qil (qfb hgt (h1 x hx)) e.symm
    rw[this];rfl
theorem qoy (r:qp) (hl:r.Slings.length<4611686018427387904) (n:Str): ∀(K k:Nat),k≤r.Slings.length→r.Slings.length<K+k→xm r n K (k:Int)=some (match(r.Slings.drop k).findIdx? (fun s=>s.Name==n)with|some j=> .inr ((k+j:Nat):Int)|none=> .inl ())
 |0,k,h,hK=>by omega
 |K+1,k,h,hK=>by
  unfold xm
  by_cases hk:k<r.Slings.length
  ·rw[if_pos (by omega),qA,List.getElem?_eq_getElem hk,List.drop_eq_getElem_cons hk,qK (by omega),qoy r hl n K (k+1) (by omega) (by omega),List.findIdx?_cons]
   simp only[Option.bind_some]
   by_cases he:((r.Slings[k]).Name==n)=true
   ·simp[he]
   ·simp only[he,if_false,Bool.false_eq_true]
    cases(r.Slings.drop (k+1)).findIdx? (fun s=>s.Name==n)with
    |none=>rfl
    |some j=>simp only[Option.map_some];rw[show k+1+j=k+(j+1)by omega]
  ·rw[if_neg (by omega),List.drop_of_length_le (by omega)]
   rfl
theorem qnt {N:Nat} {r:qp} (hl:r.Slings.length<4611686018427387904) (hN:r.Slings.length<N) (ha:Asc r.Slings) (n:Str):qdt N r n=some (if yV r.Slings n=true then(vE r.Slings n:Int)else-1):=by
 unfold qdt
 rw[show(0:Int)=((0:Nat):Int)from rfl,qoy r hl n N 0 (by omega) (by omega),List.drop_zero,ha.find n]
 by_cases h:yV r.Slings n=true<;>simp[h]
theorem Asc.uniq {l:List qc} (h:Asc l) {i:Nat} {s:qc} {n:Str} (hi:l[i]? =some s) (hs:s.Name=n):yV l n=true∧vE l n=i:=by
 have hf:=h.find n
 have hlt:=(List.getElem?_eq_some_iff.1 hi).1
 cases hq:yV l n with
 |false=>
  rw[hq,if_neg (by simp),List.findIdx?_eq_none_iff]at hf
  have:=hf s (List.mem_of_getElem? hi)
  simp[hs]at this
 |true=>
  refine⟨rfl,?_⟩
  have hp:=qdA hq
  have hg:l[vE l n]? =some (l[vE l n]):=List.getElem?_eq_getElem hp
  have hn:=qeW hg
  rw[hq]at hn
  have hn:(l[vE l n]).Name=n:=(beq_iff_eq.1 hn.symm)
  have he:l[i]=s:=by
   rw[List.getElem?_eq_getElem hlt]at hi
   injection hi
  rcases Nat.lt_trichotomy (vE l n) i with hlt2|e|hgt
  ·have:=List.pairwise_iff_getElem.1 h _ _ hp hlt hlt2
   rw[he,hn,hs]at this
   exact absurd rfl (qil this)
  ·exact e
  ·have:=List.pairwise_iff_getElem.1 h _ _ hlt hp hgt
   rw[he,hn,hs]at this
   exact absurd rfl (qil this)
def qgF (l:List qc) (s:qc):List qc:=l.take (vE l s.Name)++s::l.drop (vE l s.Name)
theorem qbi {d:Int} {l:List qc} (h:l.length≤1000):qm d l=some l:=by
 unfold qm
 have e:mk 88 (l.length:Int) (⟨[],[],0,0,0,0,0,0,false⟩:qc)=some (List.replicate l.length ⟨[],[],0,0,0,0,0,0,false⟩):=by
  unfold mk
  rw[if_pos ⟨by omega,by omega,by omega⟩,Int.toNat_natCast]
 rw[e,Option.bind_some,qi4 (by simp)]
 rfl
theorem qlo {l:List qc} (h:l.length≤1000) {p:Nat} (hp:p≤l.length) (a b:Str) (c d e f g i:Int) (j:Bool):jD l (p:Int) a b c d e f g i j=some (l.take p++⟨a,b,c,d,e,f,g,i,j⟩::l.drop p):=by
 unfold jD
 generalize hs:(⟨a,b,c,d,e,f,g,i,j⟩:qc)=s
 rw[qj9 hp,Option.bind_some,if_neg (by decide)]
 by_cases he:p=l.length
 ·rw[if_pos (by omega),he,List.take_length,List.drop_length]
  cases l with
  |nil=>rfl
  |cons x xs=>
   simp only[List.length_cons]at h
   simp only[vv (b:=88) (l:=x::xs) (xs:=[s]) (by simp;omega) (by simp;omega),Option.bind_some]
 ·rw[if_neg (by omega)]
  have w1:w64 ((l.length:Int)+1)=((l.length+1:Nat):Int):=qK (by omega)
  have w2:w64 (((l.length+1:Nat):Int)-(p:Int))=((l.length+1-p:Nat):Int):=by rw[jP (by omega) (by omega)];omega
  have w3:w64 ((p:Int)+1)=((p+1:Nat):Int):=qK (by omega)
  rw[w1,if_pos (by omega),w2,w3]
  have e1:qll 88 l p ((l.length+1-p:Nat):Int) (⟨[],[],0,0,0,0,0,0,false⟩:qc)=some (l.take p++List.replicate (l.length+1-p) ⟨[],[],0,0,0,0,0,0,false⟩):=by
   unfold qll
   rw[if_pos ⟨by omega,by omega,by omega,by omega,hp,by simp only[Int.toNat_natCast];omega,by simp only[Int.toNat_natCast];omega,by simp only[Int.toNat_natCast];omega⟩,Int.toNat_natCast]
  rw[e1,Option.bind_some]
  obtain⟨z,hz⟩: ∃z:qc,z=⟨[],[],0,0,0,0,0,0,false⟩:=⟨_,rfl⟩
  rw[←hz]
  have e2:List.replicate (l.length+1-p) z=z::List.replicate (l.length-p) z:=by
   rw[show l.length+1-p=(l.length-p)+1 by omega];rfl
  have lt:(l.take p).length=p:=by rw[List.length_take];omega
  have e3:(if(p:Int)=0 then(some (cpy (l.take p++List.replicate (l.length+1-p) z) [s])).bind fun l13=>some l13
   else(at' (l.take p++List.replicate (l.length+1-p) z) (p:Int)).bind fun j14=>((if j14<(l.take p++List.replicate (l.length+1-p) z).length then some ()else none:Option Unit)).bind fun u15=>
    (some (qeX (l.take p++List.replicate (l.length+1-p) z) j14 [s])).bind fun l16=>some l16:Option (List qc))=some (l.take p++s::List.replicate (l.length-p) z):=by
   by_cases h0:p=0
   ·subst h0
    rw[if_pos (by rfl)]
    simp only[Option.bind_some,List.take_zero,List.nil_append,e2]
    simp[cpy]
   ·rw[if_neg (by omega),qj9 (by simp;omega),Option.bind_some,if_pos (by simp;omega),Option.bind_some,Option.bind_some]
    simp only[qeX,List.take_append,List.drop_append,lt,Nat.sub_self,List.take_zero,List.append_nil,List.drop_zero]
    rw[List.take_of_length_le (by omega),List.drop_of_length_le (by omega),List.nil_append,e2]
    simp[cpy]
  rw[e3,Option.bind_some,if_neg (by omega),qj9 (by simp;omega),Option.bind_some,if_pos (by simp;omega),Option.bind_some,Option.bind_some]
  have e4:(l.take p++s::List.replicate (l.length-p) z).take (p+1)=l.take p++[s]:=by
   rw[List.take_append,lt,List.take_of_length_le (by omega),show p+1-p=1 by omega];rfl
  have e5:(l.take p++s::List.replicate (l.length-p) z).drop (p+1)=List.replicate (l.length-p) z:=by
   rw[List.drop_append,lt,List.drop_of_length_le (by omega),show p+1-p=1 by omega];rfl
  simp only[qeX,e4,e5]
  rw[qi4 (by simp),List.append_assoc]
  rfl
def xy (d day:Int):Int:=if day>99999 then 3 else if day<d then 19 else 0
theorem qlC {N:Nat} (hN:2<N) {d day:Int} (h:0≤day):zH N [if vI day 0 99999=true then 3 else 0,if decide (day<d)=true then 19 else 0]=some (xy d day):=by
 rw[xR (by simp) (by simpa using hN)]
 unfold vI xy
 by_cases h1:day>99999
 ·simp[h1,zl]
 ·have: ¬day<0:=by omega
  by_cases h2:day<d<;>simp[h1,h2,this,zl]
theorem qdu (n:Int):vw n=some (if vI n 0 99999=true then 3 else 0):=by
 unfold vw;rw[qb9];rfl
structure qa9 (N:Nat) (l:List qc):Prop where
 asc:Asc l
 len:l.length≤1000
 big:6000<N
 max:N<4611686018427387904
def qeZ (r:Option (Int×List qc×Int)) (err day:Int) (new:List qc):Prop:= ∃x l',r=some (x,l',err)∧(err=0→x=day∧l'=new)
structure qlM (N:Nat) (d:Int) (l:List qc) (e:qb) (err day:Int) (new:List qc):Prop where
 ref:zf N ⟨d,l⟩ e=some err
 aft:err=0→zg N ⟨d,l⟩ e=some ⟨day,new⟩
theorem qeZ.day {N:Nat} (hN:6000<N) {d:Int} {l new:List qc} {num:Int} {k:Str} {ns:List Str} {vs:List Int} {t:Str} {day err err2:Int} (hv:vs[0]? =some day) (h0:0≤day) (he:err=if xy d day=0 then err2 else xy d day)
 (hk:xy d day=0→ ∃l',(((zF).bind fun r9=>
    if(k==[109,97,107,101])=true then(qm d l).bind fun l12=>(xB N d l12 num k ns vs t).bind fun(l14,e_15)=>some (l14,e_15)
    else if(k==[116,101,115,116])=true then(qm d l).bind fun l18=>(yw N d l18 num k ns vs t).bind fun(l20,e_21)=>some (l20,e_21)
    else if(k==[117,115,101])=true then(qm d l).bind fun l24=>(xA N d l24 num k ns vs t).bind fun(l26,e_27)=>some (l26,e_27)
    else if(k==[102,97,105,108])=true then(qm d l).bind fun l30=>(ym N d l30 num k ns vs t).bind fun(l32,e_33)=>some (l32,e_33)
    else if(k==[114,101,99,97,108,108])=true then(qm d l).bind fun l36=>(vT N d l36 num k ns vs t).bind fun(l38,e_39)=>some (l38,e_39)
    else if(k==[117,110,100,111])=true then none else none:Option (List qc×Int))=some (l',err2))∧(err2=0→l'=new)):
 qeZ (qx N d l num k ns vs t) err day new:=by
 unfold qeZ qx
 rw[xN,hv,Option.bind_some,qdu,Option.bind_some,qaQ,Option.bind_some,qlC (by omega) h0,Option.bind_some]
 by_cases hd:xy d day=0
 ·obtain⟨l',h1,h2⟩:=hk hd
  rw[if_pos hd]at he
  subst he
  rw[if_neg (by simp[hd]),h1,Option.bind_some]
  exact⟨day,l',rfl,fun h=>⟨rfl,h2 h⟩⟩
 ·rw[if_neg hd]at he
  subst he
  rw[if_pos (by simp[hd])]
  exact⟨0,[],rfl,fun h=>absurd h hd⟩
def qeV (l:List qc) (n:Str) (day life uses:Int):Int:=
 if yV l n=true then 9 else if vI life 1 9999=true then 3 else if vI uses 1 9999=true then 3 else if w64 (day+life)>99999 then 3 else if l.length≥256 then 5 else 0
theorem qo4 {N:Nat} {d:Int} {l:List qc} (h:qa9 N l) {num day life uses:Int} {n b t:Str} (h0:0≤day∧day≤999999999) (h1:0≤life∧life≤999999999):
 qeZ (qx N d l num y8 [n,b] [day,life,uses] t) (if xy d day=0 then qeV l n day life uses else xy d day) day (qgF l ⟨n,b,day,w64 (day+life),uses,0,0,0,false⟩):=by
 obtain⟨ha,hl,hN,hM⟩:=h
 refine qeZ.day hN rfl h0.1 rfl fun hd=>?_
 simp only[zF,Option.bind_some,show(y8==[109,97,107,101])=true by decide,if_true,qbi hl,xB,xN,qeI,qnl,List.getElem?_cons_zero,List.getElem?_cons_succ,qkP (N:=N) (l:=l) (by omega) (by omega),qaQ,qb9,qdu]
 rw[xR (by simp) (by simp;omega),Option.bind_some]
 have e:zl [if yV l n=true then 9 else 0,if vI life 1 9999=true then 3 else 0,if vI uses 1 9999=true then 3 else 0,if vI (w64 (day+life)) 0 99999=true then 3 else 0,if decide ((l.length:Int)≥256)=true then 5 else 0]=qeV l n day life uses:=by
  have hw:w64 (day+life)=day+life:=jP (by omega) (by omega)
  rw[hw]
  unfold qeV
  rw[hw]
  by_cases a1:yV l n=true
  ·simp[a1,zl]
  ·by_cases a2:vI life 1 9999=true
   ·simp[a1,a2,zl]
   ·by_cases a3:vI uses 1 9999=true
    ·simp[a1,a2,a3,zl]
    ·by_cases a4:day+life>99999
     ·have:vI (day+life) 0 99999=true:=by simp[vI];omega
      simp[a1,a2,a3,a4,this,zl]
     ·have:vI (day+life) 0 99999=false:=by simp[vI];omega
      by_cases a5:l.length≥256
      ·have:(l.length:Int)≥256:=by omega
       simp[a1,a2,a3,a4,a5,this,zl, *]
      ·have: ¬(l.length:Int)≥256:=by omega
       simp[a1,a2,a3,a4,a5,this,zl, *]
 rw[e]
 by_cases hz:qeV l n day life uses=0
 ·rw[if_neg (by simp[hz])]
  simp only[qlo hl (qeM l n),Option.bind_some]
  exact⟨_,by rw[hz];rfl,fun _=>rfl⟩
 ·rw[if_pos (by simp[hz])]
  exact⟨_,rfl,fun h=>absurd h hz⟩
theorem qjf (l:List qc) (hl:l.length≤1000) (n:Str) (x:Int): ∀(K k:Nat),k≤l.length→l.length<K+k→jC l n K x (k:Int)=some (x,((k+vE (l.drop k) n:Nat):Int))
 |0,k,h,hK=>by omega
 |K+1,k,h,hK=>by
  unfold jC
  by_cases hk:k<l.length
  ·rw[if_pos (by omega),qA,List.getElem?_eq_getElem hk,List.drop_eq_getElem_cons hk,qK (by omega),qjf l hl n x K (k+1) (by omega) (by omega)]
   simp only[Option.bind_some,vE]
   by_cases hc:ltL (l[k]).Name n=true
   ·simp only[hc,if_true,Option.some.injEq,Prod.mk.injEq,true_and]
    omega
   ·simp[hc]
  ·rw[if_neg (by omega),List.drop_of_length_le (by omega)]
   simp[vE]
theorem qpi {N:Nat} {d:Int} {l:List qc} (h:qa9 N l) {num day life uses:Int} {n b t:Str}:
 qlM N d l ⟨num,y8,[n,b],[day,life,uses],t⟩ (if xy d day=0 then qeV l n day life uses else xy d day) day (qgF l ⟨n,b,day,w64 (day+life),uses,0,0,0,false⟩):=by
 obtain⟨ha,hl,hN,hM⟩:=h
 constructor
 ·unfold zf
  simp only[xN,qeI,qnl,List.getElem?_cons_zero,List.getElem?_cons_succ,Option.bind_some,qnt (N:=N) (r:=⟨d,l⟩) (show l.length<_ by omega) (show l.length<N by omega) ha,qcx,show(y8==[109,97,107,101])=true by decide,if_true]
  unfold xy qeV
  by_cases a1:day>99999
  ·simp[a1]
  by_cases a2:day<d
  ·simp[a1,a2]
  simp only[a1,a2,if_false,if_true]
  by_cases a3:yV l n=true
  ·simp[a3]
  ·have: ¬((-1:Int)≥0):=by omega
   simp only[a3,this,if_false,Bool.false_eq_true]
   by_cases a4:vI life 1 9999=true
   ·simp[a4]
   ·by_cases a5:vI uses 1 9999=true
    ·simp[a4,a5]
    ·by_cases a6:w64 (day+life)>99999
     ·simp[a4,a5,a6]
     ·by_cases a7:l.length≥256
      ·have:(l.length:Int)≥256:=by omega
       simp[a4,a5,a6,a7,this]
      ·have: ¬(l.length:Int)≥256:=by omega
       simp[a4,a5,a6,a7,this]
 ·intro hz
  unfold zg
  have e0:(0:Int)=((0:Nat):Int):=rfl
  simp only[xN,qeI,qnl,List.getElem?_cons_zero,List.getElem?_cons_succ,Option.bind_some,show(y8==[109,97,107,101])=true by decide,if_true]
  rw[vv (by simp;omega) (by simp;omega),Option.bind_some,List.nil_append]
  rw[show(jC l n N (w64 (day+life)) 0)=jC l n N (w64 (day+life)) ((0:Nat):Int)from rfl,qjf l hl n _ N 0 (by omega) (by omega),List.drop_zero,Option.bind_some]
  have hp:=qeM l n
  simp only[Nat.zero_add]
  rw[yN hp,Option.bind_some,vv (by simp;omega) (by simp;omega),Option.bind_some,List.nil_append,vv (by simp;omega) (by simp;omega),Option.bind_some,xJ hp,Option.bind_some,vv (by simp;omega) (by simp;omega),Option.bind_some]
  simp[qgF]
def qfi (l:List qc) (n:Str) (f:qc→qc):List qc:=l.map fun s=>if(s.Name==n)=true then f s else s
theorem Asc.set {l:List qc} (h:Asc l) {i:Nat} {s:qc} {n:Str} (hi:l[i]? =some s) (hs:s.Name=n) (f:qc→qc):qfi l n f=l.set i (f s):=by
 refine List.ext_getElem? fun j=>?_
 have hlt:=(List.getElem?_eq_some_iff.1 hi).1
 unfold qfi
 rw[List.getElem?_map,List.getElem?_set]
 by_cases hj:i=j
 ·subst hj
  rw[if_pos rfl,hi]
  simp[hs,hlt]
 ·rw[if_neg hj]
  cases hq:l[j]? with
  |none=>rfl
  |some t=>
   have: ¬(t.Name==n)=true:=fun e=>hj ((h.uniq hi hs).2.symm.trans (h.uniq hq (beq_iff_eq.1 e)).2)
   simp only[Option.map_some,this,if_false,Bool.false_eq_true]
def qbm (l:List qc) (n:Str) (day:Int) (more:qc→Int):Int:=match l[vE l n]? with
 |some s=>if yV l n=true then if qaD s day=true then 20 else more s else 10
 |none=>10
theorem qis {N:Nat} {d:Int} {l:List qc} (h:qa9 N l) (n:Str) (day:Int):zn N d l n day=match l[vE l n]? with
 |some s=>if yV l n=true then some ((vE l n:Int),true,if qaD s day=true then 20 else 0)else some (0,false,10)
 |none=>some (0,false,10):=by
 obtain⟨ha,hl,hN,hM⟩:=h
 unfold zn
 rw[qkP (by omega) (by omega),Option.bind_some]
 cases hq:l[vE l n]? with
 |none=>
  have:yV l n=false:=by
   cases hh:yV l n with
   |false=>rfl
   |true=>have:=qdA hh;rw[List.getElem?_eq_getElem this]at hq;cases hq
  simp[this]
 |some s=>
  by_cases hh:yV l n=true
  ·simp only[hh,Bool.not_true,Bool.false_eq_true,if_false,if_true,qA,hq,Option.bind_some,qet,qaQ]
  ·simp[hh]
theorem qii {l:List qc} {n:Str} {s:qc} (hq:l[vE l n]? =some s) (hh:yV l n=true):s.Name=n:=by
 have:=qeW hq
 rw[hh]at this
 exact beq_iff_eq.1 this.symm
theorem qab {l:List qc} {n:Str} {day:Int} {m:qc→Int} (h:yV l n=false):qbm l n day m=10:=by
 unfold qbm
 cases l[vE l n]? with
 |none=>rfl
 |some s=>simp[h]
theorem qfL {l:List qc} {n:Str} (h:yV l n=true): ∃s,l[vE l n]? =some s∧vE l n<l.length:=⟨_,List.getElem?_eq_getElem (qdA h),qdA h⟩
theorem qev {N:Nat} {d:Int} {l:List qc} (h:qa9 N l) {e:qb} {n:Str} {day:Int} (hn:e.Names[0]? =some n) (hv:e.Values[0]? =some day) (h1:(e.Kind==y8)=false) (h5:(e.Kind==zS)=false) {m:qc→Int}
 (hm: ∀s:qc,(((if(e.Kind==[116,101,115,116])=true then(idx e.Values 1).bind fun x43=>(jo x43 2 999999999).bind fun r44=>some r44 else some false:Option Bool).bind fun b45=>
    if b45=true then some 3 else((if(e.Kind==[117,115,101])=true then(qah s day).bind fun r51=>if(!r51)=true then some (.inr 24)else(idx e.Values 1).bind fun x53=>if x53>s.Limit then some (.inr 31)else some (.inl ())else some (.inl ()):Option (Unit⊕Int))).bind (fun
     |(.inl ())=>some 0
     |(.inr q55)=>some q55)):Option Int)=some (m s)):
 zf N ⟨d,l⟩ e=some (if xy d day=0 then qbm l n day m else xy d day):=by
 obtain⟨ha,hl,hN,hM⟩:=h
 unfold zf
 simp only[xN,hv,hn,Option.bind_some,qnt (N:=N) (r:=⟨d,l⟩) (show l.length<_ by omega) (show l.length<N by omega) ha]
 have h1': ¬(e.Kind==[109,97,107,101])=true:=by rw[show([109,97,107,101]:Str)=y8 from rfl,h1];simp
 have h5': ¬(e.Kind==[114,101,99,97,108,108])=true:=by rw[show([114,101,99,97,108,108]:Str)=zS from rfl,h5];simp
 rw[if_neg h1',if_neg h5']
 unfold xy
 by_cases a1:day>99999
 ·simp[a1]
 by_cases a2:day<d
 ·simp[a1,a2]
 simp only[a1,a2,if_false,if_true]
 cases hh:yV l n with
 |false=>rw[qab hh];rfl
 |true=>
  obtain⟨s,hs,hlt⟩:=qfL hh
  rw[if_pos rfl,if_neg (by omega),qA,hs,Option.bind_some,qfv,Option.bind_some]
  unfold qbm
  rw[hs]
  simp only[hh,if_true]
  by_cases hr:qaD s day=true
  ·simp[hr]
  ·rw[if_neg hr,if_neg hr]
   exact hm s
theorem qdk {e:qb} {day:Int} {n:Str} (hn:e.Names[0]? =some n) (f:qc→qc) (hf: ∀(s:qc) (l:List qc) (k:Nat),l[k]? =some s→(((if(e.Kind==[116,101,115,116])=true then some (s.Name==n)else some false:Option Bool).bind fun b33=>
 if b33=true then(idx e.Values 1).bind fun x36=>(put l k (⟨s.Name,s.Batch,s.Born,s.Last,s.Uses,s.Used,w64 (x36.tdiv 2),s.Until,s.Gone⟩:qc)).bind fun l37=>(idx l37 k).bind fun x38=>
  (put l37 k (⟨x38.Name,x38.Batch,x38.Born,x38.Last,x38.Uses,x38.Used,x38.Limit,(if x38.Last<(w64 (day+365))then x38.Last else(w64 (day+365))),x38.Gone⟩:qc)).bind fun l39=>some l39
 else(if(e.Kind==[117,115,101])=true then some (s.Name==n)else some false:Option Bool).bind fun b41=>
 if b41=true then(put l k (⟨s.Name,s.Batch,s.Born,s.Last,s.Uses,w64 (s.Used+1),s.Limit,s.Until,s.Gone⟩:qc)).bind fun l44=>some l44
 else(if(e.Kind==[102,97,105,108])=true then some (s.Name==n)else some false:Option Bool).bind fun b46=>
 ((if b46=true then some b46 else(if(e.Kind==[114,101,99,97,108,108])=true then some (s.Batch==n)else some false:Option Bool).bind fun b52=>some b52:Option Bool)).bind fun b48=>
 if b48=true then(put l k (⟨s.Name,s.Batch,s.Born,s.Last,s.Uses,s.Used,s.Limit,s.Until,true⟩:qc)).bind fun l55=>some l55 else some l):Option (List qc))=some (l.set k (f s))):
 ∀(K:Nat) (l:List qc) (k:Nat),l.length≤1000→k≤l.length→l.length<K+k→zm e day K l (k:Int)=some (l.take k++(l.drop k).map f)
 |0,l,k,hl,h,hK=>by omega
 |K+1,l,k,hl,h,hK=>by
  unfold zm
  by_cases hk:k<l.length
  ·have hg:l[k]? =some l[k]:=List.getElem?_eq_getElem hk
   rw[if_pos (by omega),qA,hg,Option.bind_some,xN,hn,Option.bind_some]
   have:=hf l[k] l k hg
   rw[this,Option.bind_some,qK (by omega),qdk hn f hf K (l.set k (f l[k])) (k+1) (by simp;omega) (by simp;omega) (by simp;omega)]
   congr 1
   rw[List.drop_eq_getElem_cons hk,List.drop_set,if_pos (by omega),List.map_cons,List.take_add_one,List.getElem?_set_self hk,List.take_set,List.set_eq_of_length_le (by simp;exact Nat.min_le_left _ _)]
   simp
  ·rw[if_neg (by omega),List.take_of_length_le (by omega),List.drop_of_length_le (by omega)]
   simp
theorem qdD {N:Nat} {d:Int} {l:List qc} (h:qa9 N l) {e:qb} {day:Int} {n:Str} (hn:e.Names[0]? =some n) (hv:e.Values[0]? =some day) (h1:(e.Kind==y8)=false) (f:qc→qc)
 (hK: ∀(K:Nat) (l:List qc) (k:Nat),l.length≤1000→k≤l.length→l.length<K+k→zm e day K l (k:Int)=some (l.take k++(l.drop k).map f)):zg N ⟨d,l⟩ e=some ⟨day,l.map f⟩:=by
 obtain⟨ha,hl,hN,hM⟩:=h
 unfold zg
 rw[xN,hv,Option.bind_some]
 have h1': ¬(e.Kind==[109,97,107,101])=true:=by rw[show([109,97,107,101]:Str)=y8 from rfl,h1];simp
 simp only
 rw[vv (by simp;omega) (by simp;omega),Option.bind_some,List.nil_append,if_neg h1']
 rw[show zm e day N l 0=zm e day N l ((0:Nat):Int)from rfl,hK N l 0 hl (by omega) (by omega)]
 simp
def qiB (load:Int) (_:qc):Int:=if vI load 2 999999999=true then 3 else 0
def qhN (day load:Int) (s:qc):qc:=⟨s.Name,s.Batch,s.Born,s.Last,s.Uses,s.Used,w64 (load.tdiv 2),(if s.Last<w64 (day+365)then s.Last else w64 (day+365)),s.Gone⟩
theorem qmM {N:Nat} {d:Int} {l:List qc} (h:qa9 N l) {num day load:Int} {n t:Str} (h0:0≤day):
 qeZ (qx N d l num xS [n] [day,load] t) (if xy d day=0 then qbm l n day (qiB load)else xy d day) day (qfi l n (qhN day load)):=by
 have h':=h
 obtain⟨ha,hl,hN,hM⟩:=h
 refine qeZ.day hN rfl h0 rfl fun hd=>?_
 simp only[zF,Option.bind_some,show(xS==[109,97,107,101])=false by decide,show(xS==[116,101,115,116])=true by decide,Bool.false_eq_true,if_false,if_true,qbi hl,yw,xN,qeI,List.getElem?_cons_zero,List.getElem?_cons_succ,qb9]
 rw[qis h']
 cases hh:yV l n with
 |false=>
  refine⟨l,?_,fun h=>?_⟩
  ·rw[qab hh]
   cases hq:l[vE l n]? with
   |none=>
    simp only[Option.bind_some]
    rw[xR (by simp) (by simp;omega)]
    simp[zl]
   |some s=>
    simp only[hh,Bool.false_eq_true,if_false,Option.bind_some]
    rw[xR (by simp) (by simp;omega)]
    simp[zl]
  ·rw[qab hh]at h;cases h
 |true=>
  obtain⟨s,hs,hlt⟩:=qfL hh
  have hname:=qii hs hh
  unfold qbm
  rw[hs]
  simp only[hh,if_true,Option.bind_some]
  rw[xR (by simp) (by simp;omega)]
  unfold qiB
  by_cases hr:qaD s day=true
  ·exact⟨l,by simp[hr,zl],fun h=>by rw[if_pos hr]at h;cases h⟩
  ·by_cases ho:vI load 2 999999999=true
   ·exact⟨l,by simp[hr,ho,zl],fun h=>by rw[if_neg hr,if_pos ho]at h;cases h⟩
   ·refine⟨l.set (vE l n) (qhN day load s),?_,fun _=>(ha.set hs hname _).symm⟩
    have hlen:vE l n<(l.set (vE l n) (⟨s.Name,s.Batch,s.Born,s.Last,s.Uses,s.Used,w64 (load.tdiv 2),s.Until,s.Gone⟩:qc)).length:=by simpa using hlt
    simp only[hr,ho,if_false,zl,if_true,Bool.false_eq_true,Option.bind_some,decide_true,Bool.not_true,qA,hs,xU hlt,List.getElem?_set_self hlt,xU hlen,List.set_set]
    rfl
theorem qmg {N:Nat} {d:Int} {l:List qc} (h:qa9 N l) {num day load:Int} {n t:Str}:
 qlM N d l ⟨num,xS,[n],[day,load],t⟩ (if xy d day=0 then qbm l n day (qiB load)else xy d day) day (qfi l n (qhN day load)):=by
 constructor
 ·refine qev h rfl rfl (by show(xS==y8)=false;decide) (by show(xS==zS)=false;decide) fun s=>?_
  simp only[show(xS==[116,101,115,116])=true by decide,show(xS==[117,115,101])=false by decide,if_true,if_false,Bool.false_eq_true,qeI,List.getElem?_cons_succ,List.getElem?_cons_zero,Option.bind_some,qcx,qiB]
  by_cases ho:vI load 2 999999999=true<;>simp[ho]
 ·intro _
  refine qdD h rfl rfl (by show(xS==y8)=false;decide) _ (qdk (n:=n) rfl _ fun s l k hk=>?_)
  have hlt:=(List.getElem?_eq_some_iff.1 hk).1
  simp only[show(xS==[116,101,115,116])=true by decide,show(xS==[117,115,101])=false by decide,show(xS==[102,97,105,108])=false by decide,show(xS==[114,101,99,97,108,108])=false by decide,if_true,if_false,Bool.false_eq_true,qeI,List.getElem?_cons_succ,List.getElem?_cons_zero,Option.bind_some]
  by_cases hb:(s.Name==n)=true
  ·simp only[hb,if_true,xU hlt,Option.bind_some,qA,List.getElem?_set_self hlt]
   rw[xU (by simpa using hlt),List.set_set]
   rfl
  ·simp only[hb,if_false,Bool.false_eq_true]
   rw[show l.set k s=l from by
    have e:l[k]=s:=by rw[List.getElem?_eq_getElem hlt]at hk;injection hk
    rw[←e,List.set_getElem_self]]
def useM (day load:Int) (s:qc):Int:=if qeJ s day=false then 24 else if load>s.Limit then 31 else 0
def qno (s:qc):qc:=⟨s.Name,s.Batch,s.Born,s.Last,s.Uses,w64 (s.Used+1),s.Limit,s.Until,s.Gone⟩
theorem qpn {N:Nat} {d:Int} {l:List qc} (h:qa9 N l) {num day load:Int} {n t:Str} (h0:0≤day):
 qeZ (qx N d l num qbB [n] [day,load] t) (if xy d day=0 then qbm l n day (useM day load)else xy d day) day (qfi l n qno):=by
 have h':=h
 obtain⟨ha,hl,hN,hM⟩:=h
 refine qeZ.day hN rfl h0 rfl fun hd=>?_
 simp only[zF,Option.bind_some,show(qbB==[109,97,107,101])=false by decide,show(qbB==[116,101,115,116])=false by decide,show(qbB==[117,115,101])=true by decide,Bool.false_eq_true,if_false,if_true,qbi hl,xA,xN,qeI,List.getElem?_cons_zero,List.getElem?_cons_succ]
 rw[qis h']
 cases hh:yV l n with
 |false=>
  refine⟨l,?_,fun h=>by rw[qab hh]at h;cases h⟩
  rw[qab hh]
  cases hq:l[vE l n]? with
  |none=>simp
  |some s=>simp[hh]
 |true=>
  obtain⟨s,hs,hlt⟩:=qfL hh
  have hname:=qii hs hh
  unfold qbm
  rw[hs]
  simp only[hh,if_true,Option.bind_some]
  by_cases hr:qaD s day=true
  ·exact⟨l,by simp[hr],fun h=>by rw[if_pos hr]at h;cases h⟩
  ·simp only[hr,if_false,Bool.false_eq_true,decide_true,Bool.not_true,qA,hs,Option.bind_some,qjz,qaQ]
   rw[xR (by simp) (by simp;omega)]
   unfold useM
   simp only[Option.bind_some]
   by_cases hH:qeJ s day=true
   ·by_cases hL:load>s.Limit
    ·exact⟨l,by simp[hH,hL,zl],fun h=>by simp[hH,hL]at h⟩
    ·refine⟨l.set (vE l n) (qno s),?_,fun _=>(ha.set hs hname _).symm⟩
     simp only[hH,hL,zl,Bool.not_true,Bool.false_eq_true,if_false,if_true,decide_false,decide_true,xU hlt,Option.bind_some]
     rfl
   ·exact⟨l,by simp[hH,zl],fun h=>by simp[hH]at h⟩
theorem qo6 {N:Nat} {d:Int} {l:List qc} (h:qa9 N l) {num day load:Int} {n t:Str}:
 qlM N d l ⟨num,qbB,[n],[day,load],t⟩ (if xy d day=0 then qbm l n day (useM day load)else xy d day) day (qfi l n qno):=by
 constructor
 ·refine qev h rfl rfl (by show(qbB==y8)=false;decide) (by show(qbB==zS)=false;decide) fun s=>?_
  simp only[show(qbB==[116,101,115,116])=false by decide,show(qbB==[117,115,101])=true by decide,if_true,if_false,Bool.false_eq_true,qeI,List.getElem?_cons_succ,List.getElem?_cons_zero,Option.bind_some,ql5,useM]
  by_cases hH:qeJ s day=true
  ·by_cases hL:load>s.Limit<;>simp[hH,hL]
  ·simp[hH]
 ·intro _
  refine qdD h rfl rfl (by show(qbB==y8)=false;decide) _ (qdk (n:=n) rfl _ fun s l k hk=>?_)
  have hlt:=(List.getElem?_eq_some_iff.1 hk).1
  simp only[show(qbB==[116,101,115,116])=false by decide,show(qbB==[117,115,101])=true by decide,show(qbB==[102,97,105,108])=false by decide,show(qbB==[114,101,99,97,108,108])=false by decide,if_true,if_false,Bool.false_eq_true,Option.bind_some]
  by_cases hb:(s.Name==n)=true
  ·simp only[hb,if_true,xU hlt,Option.bind_some]
   rfl
  ·simp only[hb,if_false,Bool.false_eq_true]
   rw[show l.set k s=l from by
    have e:l[k]=s:=by rw[List.getElem?_eq_getElem hlt]at hk;injection hk
    rw[←e,List.set_getElem_self]]
def qiQ (s:qc):qc:=⟨s.Name,s.Batch,s.Born,s.Last,s.Uses,s.Used,s.Limit,s.Until,true⟩
theorem qnK {N:Nat} {d:Int} {l:List qc} (h:qa9 N l) {num day:Int} {n t:Str} (h0:0≤day):
 qeZ (qx N d l num xg [n] [day] t) (if xy d day=0 then qbm l n day (fun _=>0)else xy d day) day (qfi l n qiQ):=by
 have h':=h
 obtain⟨ha,hl,hN,hM⟩:=h
 refine qeZ.day hN rfl h0 rfl fun hd=>?_
 simp only[zF,Option.bind_some,show(xg==[109,97,107,101])=false by decide,show(xg==[116,101,115,116])=false by decide,show(xg==[117,115,101])=false by decide,show(xg==[102,97,105,108])=true by decide,Bool.false_eq_true,if_false,if_true,qbi hl,ym,xN,qeI,List.getElem?_cons_zero,List.getElem?_cons_succ]
 rw[qis h']
 cases hh:yV l n with
 |false=>
  refine⟨l,?_,fun h=>by rw[qab hh]at h;cases h⟩
  rw[qab hh]
  cases hq:l[vE l n]? with
  |none=>simp
  |some s=>simp[hh]
 |true=>
  obtain⟨s,hs,hlt⟩:=qfL hh
  have hname:=qii hs hh
  unfold qbm
  rw[hs]
  simp only[hh,if_true,Option.bind_some]
  by_cases hr:qaD s day=true
  ·exact⟨l,by simp[hr],fun h=>by rw[if_pos hr]at h;cases h⟩
  ·refine⟨l.set (vE l n) (qiQ s),?_,fun _=>(ha.set hs hname _).symm⟩
   simp only[hr,if_false,Bool.false_eq_true,decide_true,Bool.not_true,qA,hs,Option.bind_some,xU hlt]
   rfl
theorem qmy {N:Nat} {d:Int} {l:List qc} (h:qa9 N l) {num day:Int} {n t:Str}:
 qlM N d l ⟨num,xg,[n],[day],t⟩ (if xy d day=0 then qbm l n day (fun _=>0)else xy d day) day (qfi l n qiQ):=by
 constructor
 ·refine qev h rfl rfl (by show(xg==y8)=false;decide) (by show(xg==zS)=false;decide) fun s=>?_
  simp only[show(xg==[116,101,115,116])=false by decide,show(xg==[117,115,101])=false by decide,if_true,if_false,Bool.false_eq_true,Option.bind_some]
 ·intro _
  refine qdD h rfl rfl (by show(xg==y8)=false;decide) _ (qdk (n:=n) rfl _ fun s l k hk=>?_)
  have hlt:=(List.getElem?_eq_some_iff.1 hk).1
  simp only[show(xg==[116,101,115,116])=false by decide,show(xg==[117,115,101])=false by decide,show(xg==[102,97,105,108])=true by decide,show(xg==[114,101,99,97,108,108])=false by decide,if_true,if_false,Bool.false_eq_true,Option.bind_some]
  by_cases hb:(s.Name==n)=true
  ·simp only[hb,if_true,xU hlt,Option.bind_some]
   rfl
  ·simp only[hb,if_false,Bool.false_eq_true,Option.bind_some]
   rw[show l.set k s=l from by
    have e:l[k]=s:=by rw[List.getElem?_eq_getElem hlt]at hk;injection hk
    rw[←e,List.set_getElem_self]]
def qck (n:Str) (s:qc):qc:=if(s.Batch==n)=true then qiQ s else s
def qgP (n:Str) (day:Int):Int→List qc→Int
 |b,[]=>b
 |b,s::l=>qgP n day (if(s.Batch==n)=true then if qaD s day=true then if b=10 then 20 else b else 0 else b) l
def qfe (l:List qc) (n:Str) (day:Int):Int:=if(l.any fun s=>s.Batch==n)=false then 10 else if(l.any fun s=>s.Batch==n&&!qaD s day)=false then 20 else 0
theorem qgX (n:Str) (day:Int): ∀l,qgP n day 0 l=0
 |[]=>rfl
 |s::l=>by
  unfold qgP
  by_cases h:(s.Batch==n)=true
  ·by_cases h2:qaD s day=true
   ·simp only[h,h2,if_true];rw[if_neg (by decide)];exact qgX n day l
   ·simp only[h,h2,if_true,if_false,Bool.false_eq_true];exact qgX n day l
  ·simp only[h,if_false,Bool.false_eq_true];exact qgX n day l
theorem qix (n:Str) (day:Int): ∀l:List qc,qgP n day 20 l=if(l.any fun s=>s.Batch==n&&!qaD s day)=false then 20 else 0
 |[]=>rfl
 |s::l=>by
  unfold qgP
  rw[List.any_cons]
  by_cases h:(s.Batch==n)=true
  ·by_cases h2:qaD s day=true
   ·simp only[h,h2,if_true];rw[if_neg (by decide),qix n day l];simp
   ·simp only[h,h2,if_true,if_false,Bool.false_eq_true];rw[qgX];simp
  ·simp only[h,if_false,Bool.false_eq_true];rw[qix n day l];simp
theorem qkM (n:Str) (day:Int): ∀l:List qc,qgP n day 10 l=qfe l n day
 |[]=>rfl
 |s::l=>by
  unfold qgP qfe
  rw[List.any_cons,List.any_cons]
  by_cases h:(s.Batch==n)=true
  ·by_cases h2:qaD s day=true
   ·simp only[h,h2,if_true];rw[qix n day l];simp
   ·simp only[h,h2,if_true,if_false,Bool.false_eq_true];rw[qgX];simp
  ·simp only[h,if_false,Bool.false_eq_true];rw[qkM n day l];simp[qfe]
theorem qae {l:List qc} (hl:l.length≤1000) {n:Str} {day:Int}: ∀(K k:Nat) (b:Int),k≤l.length→l.length<K+k→
 qU l [n] [day] K ((l.take k).map (qck n)++l.drop k) (k:Int) b=some (l.map (qck n),qgP n day b (l.drop k))
 |0,k,b,h,hK=>by omega
 |K+1,k,b,h,hK=>by
  unfold qU
  by_cases hk:k<l.length
  ·have hlen:((l.take k).map (qck n)).length=k:=by simp;omega
   have hg:((l.take k).map (qck n)++l.drop k)[k]? =some l[k]:=by
    rw[List.getElem?_append_right (by omega),hlen,Nat.sub_self,List.drop_eq_getElem_cons hk];rfl
   have hlt:k<((l.take k).map (qck n)++l.drop k).length:=by rw[List.length_append,hlen,List.length_drop];omega
   rw[if_pos (by omega),qA,hg,Option.bind_some,xN]
   simp only[List.getElem?_cons_zero,Option.bind_some]
   have hset: ∀x:qc,((l.take k).map (qck n)++l.drop k).set k x=(l.take k).map (qck n)++x::l.drop (k+1):=by
    intro x
    rw[List.set_append_right _ _ (by omega),hlen,Nat.sub_self,List.drop_eq_getElem_cons hk,List.set_cons_zero]
   have hnext: ∀x:qc,x=qck n l[k]→(l.take k).map (qck n)++x::l.drop (k+1)=(l.take (k+1)).map (qck n)++l.drop (k+1):=by
    rintro x rfl
    rw[List.take_add_one,List.getElem?_eq_getElem hk,List.map_append,List.append_assoc]
    rfl
   have hsame:(l.take k).map (qck n)++l.drop k=(l.take k).map (qck n)++l[k]::l.drop (k+1):=by rw[List.drop_eq_getElem_cons hk]
   have e1:qgP n day b (l.drop k)=qgP n day (if((l[k]).Batch==n)=true then if qaD l[k] day=true then if b=10 then 20 else b else 0 else b) (l.drop (k+1)):=by
    rw[List.drop_eq_getElem_cons hk];rfl
   rw[e1]
   by_cases hb:((l[k]).Batch==n)=true
   ·simp only[hb,Bool.not_true,Bool.false_eq_true,if_false,if_true,qet,Option.bind_some,xU hlt,hset]
    have hF:(⟨(l[k]).Name,(l[k]).Batch,(l[k]).Born,(l[k]).Last,(l[k]).Uses,(l[k]).Used,(l[k]).Limit,(l[k]).Until,true⟩:qc)=qck n l[k]:=by unfold qck;rw[if_pos hb];rfl
    rw[hnext _ hF]
    by_cases hr:qaD l[k] day=true
    ·by_cases hb10:b=10
     ·simp only[hr,hb10,if_true,xN,List.getElem?_cons_zero,Bool.not_true,Bool.false_eq_true,if_false,Option.bind_some]
      rw[qK (by omega),qae hl K (k+1) _ (by omega) (by omega)]
     ·simp only[hr,hb10,if_true,xN,List.getElem?_cons_zero,Bool.not_true,Bool.false_eq_true,if_false,Option.bind_some]
      rw[qK (by omega),qae hl K (k+1) _ (by omega) (by omega)]
    ·by_cases hb10:b=10
     ·simp only[hr,hb10,if_true,xN,List.getElem?_cons_zero,Bool.not_false,Bool.false_eq_true,if_false,Option.bind_some]
      rw[qK (by omega),qae hl K (k+1) _ (by omega) (by omega)]
     ·simp only[hr,hb10,if_true,xN,List.getElem?_cons_zero,Bool.not_false,Bool.false_eq_true,if_false,Option.bind_some]
      rw[qK (by omega),qae hl K (k+1) _ (by omega) (by omega)]
   ·simp only[hb,Bool.not_false,Bool.false_eq_true,if_false,if_true,Option.bind_some]
    rw[hsame,hnext _ (by unfold qck;rw[if_neg hb]),qK (by omega),qae hl K (k+1) _ (by omega) (by omega)]
  ·have:l.take k=l:=List.take_of_length_le (by omega)
   rw[if_neg (by omega),List.drop_of_length_le (by omega),this]
   simp[qgP]
theorem qjR {N:Nat} {d:Int} {l:List qc} (h:qa9 N l) {num day:Int} {n t:Str} (h0:0≤day):
 qeZ (qx N d l num zS [n] [day] t) (if xy d day=0 then qfe l n day else xy d day) day (l.map (qck n)):=by
 obtain⟨ha,hl,hN,hM⟩:=h
 refine qeZ.day hN rfl h0 rfl fun hd=>?_
 simp only[zF,Option.bind_some,show(zS==[109,97,107,101])=false by decide,show(zS==[116,101,115,116])=false by decide,show(zS==[117,115,101])=false by decide,show(zS==[102,97,105,108])=false by decide,show(zS==[114,101,99,97,108,108])=true by decide,Bool.false_eq_true,if_false,if_true,qbi hl,vT]
 have:=qae hl (n:=n) (day:=day) N 0 10 (by omega) (by omega)
 rw[List.take_zero,List.map_nil,List.nil_append,List.drop_zero]at this
 rw[show qU l [n] [day] N l 0 10=qU l [n] [day] N l ((0:Nat):Int) 10 from rfl,this,qkM]
 exact⟨_,rfl,fun _=>rfl⟩
theorem qcA {N:Nat} {r:qp} (hl:r.Slings.length≤1000) {e:qb} {n:Str} (hn:e.Names[0]? =some n) (day:Int): ∀(K k:Nat) (a b:Bool),k≤r.Slings.length→r.Slings.length<K+k→
 kw r e day K a b (k:Int)=some (a||(r.Slings.drop k).any (fun s=>s.Batch==n),b||(r.Slings.drop k).any (fun s=>s.Batch==n&&!qaD s day))
 |0,k,a,b,h,hK=>by omega
 |K+1,k,a,b,h,hK=>by
  unfold kw
  by_cases hk:k<r.Slings.length
  ·rw[if_pos (by omega),qA,List.getElem?_eq_getElem hk,Option.bind_some,xN,hn,Option.bind_some,qK (by omega),List.drop_eq_getElem_cons hk,List.any_cons,List.any_cons]
   by_cases hb:((r.Slings[k]).Batch==n)=true
   ·by_cases hq:b=true
    ·simp only[hb,hq,if_true,Option.bind_some]
     rw[qcA (N:=N) hl hn day K (k+1) _ _ (by omega) (by omega)]
     simp
    ·simp only[hb,hq,if_true,if_false,Option.bind_some,qfv,Bool.false_eq_true]
     rw[qcA (N:=N) hl hn day K (k+1) _ _ (by omega) (by omega)]
     simp
   ·simp only[hb,if_false,Option.bind_some,Bool.false_eq_true]
    rw[qcA (N:=N) hl hn day K (k+1) _ _ (by omega) (by omega)]
    simp
  ·rw[if_neg (by omega),List.drop_of_length_le (by omega)]
   simp
theorem qkc {N:Nat} {d:Int} {l:List qc} (h:qa9 N l) {num day:Int} {n t:Str}:
 qlM N d l ⟨num,zS,[n],[day],t⟩ (if xy d day=0 then qfe l n day else xy d day) day (l.map (qck n)):=by
 constructor
 ·obtain⟨ha,hl,hN,hM⟩:=h
  unfold zf
  simp only[xN,List.getElem?_cons_zero,Option.bind_some,qnt (N:=N) (r:=⟨d,l⟩) (show l.length<_ by omega) (show l.length<N by omega) ha,show(zS==[109,97,107,101])=false by decide,show(zS==[114,101,99,97,108,108])=true by decide,if_true,if_false,Bool.false_eq_true]
  unfold xy
  by_cases a1:day>99999
  ·simp[a1]
  by_cases a2:day<d
  ·simp[a1,a2]
  simp only[a1,a2,if_false,if_true]
  rw[show∀e,kw ⟨d,l⟩ e day N false false 0=kw ⟨d,l⟩ e day N false false ((0:Nat):Int)from fun _=>rfl,qcA (N:=N) (r:=⟨d,l⟩) hl (n:=n) rfl day N 0 false false (Nat.zero_le _) (show l.length<N+0 by omega),List.drop_zero,Option.bind_some]
  unfold qfe
  simp only[Bool.false_or]
  by_cases b1:(l.any fun s=>s.Batch==n)=true
  ·by_cases b2:(l.any fun s=>s.Batch==n&&!qaD s day)=true<;>simp[b1,b2]
  ·simp[b1]
 ·intro _
  refine qdD h rfl rfl (by show(zS==y8)=false;decide) _ (qdk (n:=n) rfl _ fun s l k hk=>?_)
  have hlt:=(List.getElem?_eq_some_iff.1 hk).1
  simp only[show(zS==[116,101,115,116])=false by decide,show(zS==[117,115,101])=false by decide,show(zS==[102,97,105,108])=false by decide,show(zS==[114,101,99,97,108,108])=true by decide,if_true,if_false,Bool.false_eq_true,Option.bind_some]
  unfold qck
  by_cases hb:(s.Batch==n)=true
  ·simp only[hb,if_true,xU hlt,Option.bind_some]
   rfl
  ·simp only[hb,if_false,Bool.false_eq_true,Option.bind_some]
   rw[show l.set k s=l from by
    have e:l[k]=s:=by rw[List.getElem?_eq_getElem hlt]at hk;injection hk
    rw[←e,List.set_getElem_self]]
theorem Asc.map {l:List qc} (h:Asc l) {f:qc→qc} (hf: ∀s,(f s).Name=s.Name):Asc (l.map f):=by
 unfold Asc
 rw[List.pairwise_map]
 exact h.imp fun {a b} hab=>by rw[hf,hf];exact hab
theorem qhz (t:qc) (l:List qc) (s:qc):qgF (t::l) s=if ltL t.Name s.Name=true then t::qgF l s else s::t::l:=by
 unfold qgF
 rw[vE]
 split<;>simp
theorem qgp {x s:qc}: ∀{l:List qc},x∈qgF l s→x=s∨x∈l
 |[],h=>by simp[qgF,vE]at h;exact .inl h
 |t::l,h=>by
  rw[qhz]at h
  split at h
  ·rcases List.mem_cons.1 h with rfl|h
   ·exact .inr (by simp)
   ·rcases qgp h with h|h
    ·exact .inl h
    ·exact .inr (by simp[h])
  ·rcases List.mem_cons.1 h with rfl|h
   ·exact .inl rfl
   ·exact .inr h
theorem Asc.ins {s:qc}: ∀{l:List qc},Asc l→yV l s.Name=false→Asc (qgF l s)
 |[],_,_=>by simp[qgF,vE,Asc]
 |t::l,h,hn=>by
  obtain⟨h1,h2⟩:=List.pairwise_cons.1 h
  rw[qhz]
  unfold yV at hn
  split
  ·rename_i hc
   rw[if_pos hc]at hn
   refine List.pairwise_cons.2 ⟨fun x hx=>?_,Asc.ins h2 hn⟩
   rcases qgp hx with rfl|hx
   ·exact hc
   ·exact h1 x hx
  ·rename_i hc
   rw[if_neg hc]at hn
   have hlt:ltL s.Name t.Name=true:=by
    cases hq:ltL s.Name t.Name with
    |true=>rfl
    |false=>exact absurd (qiu _ _ (by simpa using hc) hq) (beq_eq_false_iff_ne.1 hn)
   refine List.pairwise_cons.2 ⟨fun x hx=>?_,h⟩
   rcases List.mem_cons.1 hx with rfl|hx
   ·exact hlt
   ·exact qfb hlt (h1 x hx)
theorem qfO (l:List qc) (n:Str) (f:qc→qc):qfi l n f=l.map fun s=>if(s.Name==n)=true then f s else s:=rfl
theorem qmz {α:Type} {l:List α} (h:(l.length:Int)=2): ∃a b,l=[a,b]:=by
 match l,h with
 |[a,b],_=>exact⟨a,b,rfl⟩
 |[],h=>simp at h
 |[_],h=>simp at h
 |_::_::_::_,h=>simp at h;omega
theorem qg2 {α:Type} {l:List α} (h:(l.length:Int)=1): ∃a,l=[a]:=by
 match l,h with
 |[a],_=>exact⟨a,rfl⟩
 |[],h=>simp at h
 |_::_::_,h=>simp at h;omega
theorem list3 {α:Type} {l:List α} (h:(l.length:Int)=3): ∃a b c,l=[a,b,c]:=by
 match l,h with
 |[a,b,c],_=>exact⟨a,b,c,rfl⟩
 |[],h=>simp at h
 |[_],h=>simp at h
 |[_,_],h=>simp at h
 |_::_::_::_::_,h=>simp at h;omega
structure qoz (e:qb):Prop where
 num:1≤e.Number∧e.Number≤1000
 form:(zx e.Kind).2.2=true
 names:(e.Names.length:Int)=(zx e.Kind).1
 values:(e.Values.length:Int)=(zx e.Kind).2.1
 range: ∀v∈e.Values,0≤v∧v≤999999999
 text:e.Text=[]
theorem jY {e:qb} (h:qG e=0):qoz e:=by
 unfold qG at h
 by_cases h1:vI e.Number 1 1000=true
 ·rw[if_pos h1]at h;cases h
 rw[if_neg h1]at h
 by_cases h2:(zx e.Kind).2.2=false
 ·rw[if_pos h2]at h;cases h
 rw[if_neg h2]at h
 by_cases h3:((e.Names.length:Int)=(zx e.Kind).1∧(e.Values.length:Int)=(zx e.Kind).2.1)
 ·rw[if_neg (by simpa using h3)]at h
  by_cases h4:e.Names.all yZ=false
  ·rw[if_pos h4]at h;cases h
  rw[if_neg h4]at h
  by_cases h5:e.Values.all (fun v=>!vI v 0 999999999)=false
  ·rw[if_pos h5]at h;cases h
  rw[if_neg h5]at h
  by_cases h6:e.Text=[]
  ·refine⟨?_,by simpa using h2,h3.1,h3.2,fun v hv=>?_,h6⟩
   ·simp[vI]at h1;omega
   ·have h5:e.Values.all (fun v=>!vI v 0 999999999)=true:=by simpa using h5
    have:=List.all_eq_true.1 h5 v hv
    simp[vI]at this
    exact this
  ·rw[if_neg h6]at h;cases h
 ·rw[if_pos h3]at h;cases h
theorem qge {k:Str} (h:(zx k).2.2=true):k=y8∨k=xS∨k=qbB∨k=xg∨k=zS∨k=xx:=by
 unfold zx at h
 by_cases h1:(k==y8)=true
 ·exact .inl (beq_iff_eq.1 h1)
 by_cases h2:(k==xS)=true
 ·exact .inr (.inl (beq_iff_eq.1 h2))
 by_cases h3:(k==qbB)=true
 ·exact .inr (.inr (.inl (beq_iff_eq.1 h3)))
 by_cases h4:(k==xg)=true
 ·exact .inr (.inr (.inr (.inl (beq_iff_eq.1 h4))))
 by_cases h5:(k==zS)=true
 ·exact .inr (.inr (.inr (.inr (.inl (beq_iff_eq.1 h5)))))
 by_cases h6:(k==xx)=true
 ·exact .inr (.inr (.inr (.inr (.inr (beq_iff_eq.1 h6)))))
 simp[h1,h2,h3,h4,h5,h6]at h
theorem qbb {e:qb} (h:qG e=0):e.Names.all yZ=true:=by
 unfold qG at h
 by_cases h1:vI e.Number 1 1000=true
 ·rw[if_pos h1]at h;cases h
 rw[if_neg h1]at h
 by_cases h2:(zx e.Kind).2.2=false
 ·rw[if_pos h2]at h;cases h
 rw[if_neg h2]at h
 by_cases h3:((e.Names.length:Int)=(zx e.Kind).1∧(e.Values.length:Int)=(zx e.Kind).2.1)
 ·rw[if_neg (by simpa using h3)]at h
  by_cases h4:e.Names.all yZ=false
  ·rw[if_pos h4]at h;cases h
  ·simpa using h4
 ·rw[if_pos h3]at h;cases h
theorem qhX {s:Str} (h:yZ s=true):s.length≤24:=by
 rw[qgi]at h
 simp only[Bool.and_eq_true,decide_eq_true_eq]at h
 exact h.1.2
structure qha (s:qc):Prop where
 name:yZ s.Name=true
 batch:yZ s.Batch=true
 born:0≤s.Born∧s.Born≤99999
 last:0≤s.Last∧s.Last≤99999
 uses:0≤s.Uses∧s.Uses≤9999
 used:0≤s.Used∧s.Used≤s.Uses
 limit:0≤s.Limit∧s.Limit≤999999999
 till:0≤s.Until∧s.Until≤99999
def qe0 (l:List qc):Prop:= ∀s∈l,qha s
theorem qe0.set {l:List qc} (h:qe0 l) {n:Str} {f:qc→qc} (hf: ∀s∈l,s.Name=n→qha s→qha (f s)):qe0 (qfi l n f):=by
 intro x hx
 rw[qfO,List.mem_map]at hx
 obtain⟨s,hs,rfl⟩:=hx
 split
 ·rename_i hn;exact hf s hs (beq_iff_eq.1 hn) (h s hs)
 ·exact h s hs
theorem qgu {l:List qc} {n:Str} {day:Int} {m:qc→Int} (ha:Asc l) (h:qbm l n day m=0) {s:qc} (hs:s∈l) (hn:s.Name=n):qaD s day=false∧m s=0:=by
 obtain⟨i,hi⟩:=List.getElem?_of_mem hs
 obtain⟨h1,h2⟩:=ha.uniq hi hn
 unfold qbm at h
 rw[h2,hi]at h
 simp only[h1,if_true]at h
 cases hr:qaD s day with
 |true=>rw[hr]at h;simp at h
 |false=>rw[hr]at h;exact⟨rfl,by simpa using h⟩
theorem qeU {d day err:Int} (h:(if xy d day=0 then err else xy d day)=0):day≤99999∧err=0:=by
 by_cases hd:xy d day=0
 ·rw[if_pos hd]at h
  refine⟨?_,h⟩
  unfold xy at hd
  by_cases h1:day>99999
  ·rw[if_pos h1]at hd;cases hd
  ·omega
 ·rw[if_neg hd]at h;exact absurd h hd
theorem qig {n a b:Int} (h: ¬vI n a b=true):a≤n∧n≤b:=by
 unfold vI at h
 simp at h
 omega
theorem mk_ok {l:List qc} {n b:Str} {day life uses:Int} (h:qeV l n day life uses=0) (h0:0≤day) (hd:day≤99999) (hn:yZ n=true) (hb:yZ b=true):qha ⟨n,b,day,w64 (day+life),uses,0,0,0,false⟩:=by
 unfold qeV at h
 by_cases h1:yV l n=true
 ·rw[if_pos h1]at h;cases h
 rw[if_neg h1]at h
 by_cases h2:vI life 1 9999=true
 ·rw[if_pos h2]at h;cases h
 rw[if_neg h2]at h
 by_cases h3:vI uses 1 9999=true
 ·rw[if_pos h3]at h;cases h
 rw[if_neg h3]at h
 by_cases h4:w64 (day+life)>99999
 ·rw[if_pos h4]at h;cases h
 have h2:=qig h2
 have h3:=qig h3
 have e:w64 (day+life)=day+life:=jP (by omega) (by omega)
 rw[e]at h4⊢
 exact⟨hn,hb,⟨h0,hd⟩,⟨by simp only;omega,by simp only;omega⟩,⟨by simp only;omega,by simp only;omega⟩,⟨by simp only;omega,by simp only;omega⟩,⟨by simp only;omega,by simp only;omega⟩,⟨by simp only;omega,by simp only;omega⟩⟩
theorem qnS {day load:Int} {s:qc} (h:qha s) (h0:0≤day) (hd:day≤99999) (hl:2≤load∧load≤999999999):qha (qhN day load s):=by
 have e1:w64 (load.tdiv 2)=load/2:=by
  rw[Int.tdiv_eq_ediv_of_nonneg (by omega)]
  exact jP (by omega) (by omega)
 have e2:w64 (day+365)=day+365:=jP (by omega) (by omega)
 have hL:=h.last
 refine⟨h.name,h.batch,h.born,h.last,h.uses,h.used,?_,?_⟩
 ·unfold qhN
  simp only[e1]
  omega
 ·unfold qhN
  simp only[e2]
  split<;>omega
theorem qoY {s:qc} {day:Int} (h:qha s) (hr:qaD s day=false):qha (qno s):=by
 have hu:=h.used
 have hv:=h.uses
 have hne:s.Used≠s.Uses:=by
  unfold qaD at hr
  simp at hr
  exact hr.2.2
 have e:w64 (s.Used+1)=s.Used+1:=jP (by omega) (by omega)
 refine⟨h.name,h.batch,h.born,h.last,h.uses,?_,h.limit,h.till⟩
 unfold qno
 simp only[e]
 omega
theorem qlj {s:qc} (h:qha s):qha (qiQ s):=⟨h.name,h.batch,h.born,h.last,h.uses,h.used,h.limit,h.till⟩
theorem qle {N:Nat} {d:Int} {l:List qc} (h:qa9 N l) {e:qb} (hv:qoz e) (hu:(e.Kind==xx)=false):
 ∃err day new,qeZ (qx N d l e.Number e.Kind e.Names e.Values e.Text) err day new∧qlM N d l e err day new∧(err=0→Asc new∧new.length≤l.length+1∧(e.Names.all yZ=true→qe0 l→qe0 new)):=by
 obtain⟨num,k,ns,vs,t⟩:=e
 obtain⟨_,hf,hn,hs,hr,_⟩:=hv
 simp only at hf hn hs hr hu
 have ha:=h.asc
 rcases qge hf with rfl|rfl|rfl|rfl|rfl|rfl
 ·obtain⟨n,b,rfl⟩:=qmz (show(ns.length:Int)=2 from hn)
  obtain⟨day,life,uses,rfl⟩:=list3 (show(vs.length:Int)=3 from hs)
  refine⟨_,_,_,qo4 h (hr _ (by simp)) (hr _ (by simp)),qpi h,fun h0=>?_⟩
  have hh:yV l n=false:=by
   cases hq:yV l n with
   |false=>rfl
   |true=>
    split at h0
    ·simp[qeV,hq]at h0
    ·rename_i hd;exact absurd h0 hd
  refine⟨Asc.ins ha hh,?_,fun hnm hok x hx=>?_⟩
  ·have hp:=qeM l n
   simp[qgF]
   omega
  ·rcases qgp hx with rfl|hx
   ·obtain⟨hd,hm⟩:=qeU h0
    simp only[List.all_cons,List.all_nil,Bool.and_true,Bool.and_eq_true]at hnm
    exact mk_ok hm (hr _ (by simp)).1 hd hnm.1 hnm.2
   ·exact hok x hx
 ·obtain⟨n,rfl⟩:=qg2 (show(ns.length:Int)=1 from hn)
  obtain⟨day,load,rfl⟩:=qmz (show(vs.length:Int)=2 from hs)
  refine⟨_,_,_,qmM h (hr _ (by simp)).1,qmg h,fun h0=>⟨?_,by simp[qfi],fun _ hok=>hok.set (fun s hs hn h=>(fun q=>qnS h (hr _ (by simp)).1 (qeU h0).1 (qig (fun c=>by unfold qiB at q;rw[if_pos c]at q;cases q))) (qgu ha (qeU h0).2 hs hn).2)⟩⟩
  rw[qfO]
  exact ha.map fun s=>by split<;>rfl
 ·obtain⟨n,rfl⟩:=qg2 (show(ns.length:Int)=1 from hn)
  obtain⟨day,load,rfl⟩:=qmz (show(vs.length:Int)=2 from hs)
  refine⟨_,_,_,qpn h (hr _ (by simp)).1,qo6 h,fun h0=>⟨?_,by simp[qfi],fun _ hok=>hok.set (fun s hs hn h=>qoY h (qgu ha (qeU h0).2 hs hn).1)⟩⟩
  rw[qfO]
  exact ha.map fun s=>by split<;>rfl
 ·obtain⟨n,rfl⟩:=qg2 (show(ns.length:Int)=1 from hn)
  obtain⟨day,rfl⟩:=qg2 (show(vs.length:Int)=1 from hs)
  refine⟨_,_,_,qnK h (hr _ (by simp)).1,qmy h,fun h0=>⟨?_,by simp[qfi],fun _ hok=>hok.set (fun s _ _ h=>qlj h)⟩⟩
  rw[qfO]
  exact ha.map fun s=>by split<;>rfl
 ·obtain⟨n,rfl⟩:=qg2 (show(ns.length:Int)=1 from hn)
  obtain⟨day,rfl⟩:=qg2 (show(vs.length:Int)=1 from hs)
  refine⟨_,_,_,qjR h (hr _ (by simp)).1,qkc h,fun _=>⟨?_,by simp,fun _ hok x hx=>by
   obtain⟨s,hs,rfl⟩:=List.mem_map.1 hx
   unfold qck
   split
   ·exact qlj (hok s hs)
   ·exact hok s hs⟩⟩
  exact ha.map fun s=>by unfold qck;split<;>rfl
 ·simp at hu
def qip (N:Nat) (c:List qb):Option qp:=c.foldlM (fun r e=>zg N r e) ⟨0,[]⟩
theorem qfw {N:Nat} (c:List qb) (hc:c.length≤1000): ∀(K k:Nat) (d:Int) (l:List qc),k≤c.length→c.length<K+k→zI N c K d l (k:Int)=((c.drop k).foldlM (fun r e=>zg N r e) (⟨d,l⟩:qp)).map fun r=>(r.Day,r.Slings)
 |0,k,d,l,h,hK=>by omega
 |K+1,k,d,l,h,hK=>by
  unfold zI
  by_cases hk:k<c.length
  ·rw[if_pos (by omega),qA,List.getElem?_eq_getElem hk,Option.bind_some,List.drop_eq_getElem_cons hk,List.foldlM_cons,qK (by omega)]
   cases zg N ⟨d,l⟩ c[k]with
   |none=>rfl
   |some r=>
    simp only[Option.bind_some]
    rw[qfw c hc K (k+1) _ _ (by omega) (by omega)]
    rfl
  ·rw[if_neg (by omega),List.drop_of_length_le (by omega)]
   rfl
theorem qbP {N:Nat} {c:List qb} (hc:c.length≤1000) (hN:6000<N):za N c=qip N c:=by
 unfold za
 rw[show zI N c N 0 [] 0=zI N c N 0 [] ((0:Nat):Int)from rfl,qfw c hc N 0 0 [] (by omega) (by omega),List.drop_zero]
 unfold qip
 cases c.foldlM (fun r e=>zg N r e) (⟨0,[]⟩:qp)<;>rfl
theorem qlW (N:Nat) (c:List qb) (e:qb):qip N (c++[e])=(qip N c).bind fun r=>zg N r e:=by
 unfold qip
 rw[List.foldlM_append]
 cases c.foldlM (fun r e=>zg N r e) (⟨0,[]⟩:qp)with
 |none=>rfl
 |some r=>simp[List.foldlM]
structure Rel (N:Nat) (c:List qb) (ss:List StateT):Prop where
 len:ss.length=c.length
 at_: ∀(j:Nat) (s:StateT) (e:qb),ss[j]? =some s→c[j]? =some e→s.number=e.Number∧qip N (c.take (j+1))=some ⟨s.register.Day,s.register.Slings⟩∧Asc s.register.Slings∧s.register.Slings.length≤j+1∧qe0 s.register.Slings
theorem Rel.nil (N:Nat):Rel N [] []:=⟨rfl,by simp⟩
theorem Rel.last {N:Nat} {c:List qb} {ss:List StateT} (h:Rel N c ss):(ss=[]∧c=[])∨ ∃s,ss[ss.length-1]? =some s∧0<ss.length∧qip N c=some ⟨s.register.Day,s.register.Slings⟩∧Asc s.register.Slings∧s.register.Slings.length≤c.length∧qe0 s.register.Slings:=by
 rcases Nat.eq_zero_or_pos ss.length with h0|h0
 ·have h1:=h.len
  exact .inl ⟨List.length_eq_zero_iff.1 h0,List.length_eq_zero_iff.1 (by omega)⟩
 ·have hlt:ss.length-1<ss.length:=by omega
  have hlc:ss.length-1<c.length:=by have:=h.len;omega
  obtain⟨_,h2,h3,h4,h5⟩:=h.at_ _ _ _ (List.getElem?_eq_getElem hlt) (List.getElem?_eq_getElem hlc)
  rw[show ss.length-1+1=c.length by have:=h.len;omega,List.take_length]at h2
  exact .inr ⟨_,List.getElem?_eq_getElem hlt,h0,h2,h3,by omega,h5⟩
theorem Rel.pop {N:Nat} {c:List qb} {ss:List StateT} (h:Rel N c ss):Rel N c.dropLast (ss.take (ss.length-1)):=by
 refine⟨by rw[List.length_take,List.length_dropLast,h.len];omega,fun j s e hs he=>?_⟩
 rw[List.getElem?_take]at hs
 rw[List.getElem?_dropLast]at he
 split at hs
 ·rename_i hj
  split at he
  ·rename_i hj2
   obtain⟨h1,h2,h3,h4⟩:=h.at_ j s e hs he
   refine⟨h1,?_,h3,h4⟩
   rw[List.dropLast_eq_take,List.take_take,Nat.min_eq_left (by omega)]
   exact h2
  ·cases he
 ·cases hs
theorem Rel.push {N:Nat} {c:List qb} {ss:List StateT} (h:Rel N c ss) {e:qb} {d:Int} {l:List qc} (hr:qip N (c++[e])=some ⟨d,l⟩) (ha:Asc l) (hl:l.length≤c.length+1) (hok:qe0 l):Rel N (c++[e]) (ss++[⟨e.Number,⟨d,l⟩⟩]):=by
 have hlen:=h.len
 refine⟨by simp[hlen],fun j s e' hs he=>?_⟩
 rcases Nat.lt_or_ge j ss.length with hj|hj
 ·rw[List.getElem?_append_left hj]at hs
  rw[List.getElem?_append_left (by omega)]at he
  obtain⟨h1,h2,h3,h4⟩:=h.at_ j s e' hs he
  refine⟨h1,?_,h3,h4⟩
  rw[List.take_append_of_le_length (by omega)]
  exact h2
 ·rw[List.getElem?_append_right hj]at hs
  rw[List.getElem?_append_right (by omega)]at he
  have hj0:j-ss.length=0:=by
   have:=(List.getElem?_eq_some_iff.1 hs).1
   simp at this
   omega
  rw[hj0]at hs
  rw[show j-c.length=0 by omega]at he
  simp only[List.getElem?_cons_zero,Option.some.injEq]at hs he
  subst hs he
  refine⟨rfl,?_,ha,by simp only;omega,hok⟩
  rw[List.take_of_length_le (by simp;omega)]
  exact hr
def xw (N:Nat) (c:List qb) (k:Nat) (e:qb):Int:=
 if qG e≠0 then qG e else if e.Number≠((k+1:Nat):Int)then 11 else if(e.Kind==xx)=true then(if c=[]then 12 else 0)else((za N c).bind fun r=>zf N r e).getD 0
def qb6 (c:List qb) (e:qb):List qb:=if(e.Kind==xx)=true then c.dropLast else c++[e]
structure Pre (N:Nat) (c:List qb) (ss:List StateT) (k:Nat) (e:qb):Prop where
 rel:Rel N c ss
 ck:c.length≤k
 k1:k<1000
 big:6000<N
 max:N<4611686018427387904
 short:qaI N e
theorem xh {evs:List qb} {o:Option (List StateT)} {N:Nat} {c:List qb} (h:Rel N c (hof o)) (hc:c.length≤1000) (hN:6000<N): ∃o' d l,qF evs o=some (o',d,l)∧hof o'=hof o∧za N c=some ⟨d,l⟩∧Asc l∧l.length≤c.length∧qe0 l:=by
 rw[qbP hc hN]
 rcases h.last with⟨h1,rfl⟩|⟨s,h1,h2,h3,h4,h5,h6⟩
 ·cases o with
  |none=>exact⟨none,0,[],by simp[qF],rfl,rfl,List.Pairwise.nil,by simp,fun x hx=>by cases hx⟩
  |some l=>
   have:l=[]:=h1
   subst this
   exact⟨some [],0,[],by simp[qF],rfl,rfl,List.Pairwise.nil,by simp,fun x hx=>by cases hx⟩
 ·cases o with
  |none=>simp[hof]at h2
  |some l=>
   have h1:l[l.length-1]? =some s:=h1
   have h2:0<l.length:=h2
   have hlen:l.length=c.length:=h.len
   refine⟨some l,s.register.Day,s.register.Slings,?_,rfl,h3,h4,h5,h6⟩
   have: ¬((l.length:Int)=0):=by omega
   simp only[qF,this,decide_false,Option.bind_some,Bool.false_eq_true,if_false]
   rw[qcF (by omega) h2,qA,h1]
   rfl
theorem qgU {e:qb} (hn:e.Names.length≤1000) (hv:e.Values.length≤1000):je e=some e:=by
 have e1:slices_Clone_string e.Names=some e.Names:=by
  cases hq:e.Names with
  |nil=>
   simp only[slices_Clone_string,jH,qgI]
   rw[vv (by simp) (by simp)]
   simp
  |cons x xs=>
   rw[hq]at hn
   simp only[slices_Clone_string,z8]
   rw[vv (by simp only[List.length_nil];omega) (by simp only[List.length_nil];omega)]
   rfl
 have e2:slices_Clone_int e.Values=some e.Values:=by
  cases hq:e.Values with
  |nil=>
   simp only[slices_Clone_int,yL,qgI]
   rw[vv (by simp) (by simp)]
   simp
  |cons x xs=>
   rw[hq]at hv
   simp only[slices_Clone_int,yE]
   rw[vv (by simp only[List.length_nil];omega) (by simp only[List.length_nil];omega)]
   rfl
 unfold je
 rw[e1,e2]
 rfl
theorem qlV {N:Nat} {c:List qb} {k:Nat} {e:qb} {evs:List qb} {o:Option (List StateT)} (h:Pre N c (hof o) k e) (hk:evs.length=k) (hc:qG e=0):
 ∃evs' o',jB N evs o e.Number e.Kind e.Names e.Values e.Text=some (evs',o',xw N c k e)∧(xw N c k e=0→evs'=evs++[e]∧Rel N (qb6 c e) (hof o')∧(qb6 c e).length≤k+1)∧(xw N c k e≠0→evs'=evs∧hof o'=hof o):=by
 obtain⟨hrel,hck,hk1,hN,hM,hs⟩:=h
 have hv:=jY hc
 have hlen:(e.Names.length≤3)∧(e.Values.length≤3):=by
  have h1:=hv.names
  have h2:=hv.values
  have h3:(zx e.Kind).1≤2∧(zx e.Kind).2.1≤3:=by
   unfold zx
   repeat' split
   all_goals decide
  omega
 have hcopy:je (⟨e.Number,e.Kind,e.Names,e.Values,e.Text⟩:qb)=some e:=qgU (e:=e) (by omega) (by omega)
 have happ:app 88 evs [e]=some (evs++[e]):=vv (by simp;omega) (by simp;omega)
 unfold jB
 have hw:w64 ((evs.length:Int)+1)=((k+1:Nat):Int):=by rw[qK (by omega),hk]
 rw[hw]
 rw[show([117,110,100,111]:Str)=xx from rfl]
 have c0:(qG e≠0)=False:=by simp[hc]
 unfold xw
 simp only[c0,if_false]
 by_cases h1:e.Number=((k+1:Nat):Int)
 ·have c1:((!decide (e.Number=((k+1:Nat):Int)))=true)=False:=by simp[h1]
  have c2:(e.Number≠((k+1:Nat):Int))=False:=by simp[h1]
  simp only[c1,c2,if_false]
  by_cases hu:(e.Kind==xx)=true
  ·simp only[hu,if_true]
   cases o with
   |none=>
    have hc0:c=[]:=by have:=hrel.len;simp[hof]at this;exact List.length_eq_zero_iff.1 this.symm
    rw[if_pos hc0]
    exact⟨evs,none,by simp,fun h=>(by cases h),fun _=>⟨rfl,rfl⟩⟩
   |some l=>
    have hl:l.length=c.length:=hrel.len
    by_cases hl0:l.length=0
    ·have hc0:c=[]:=List.length_eq_zero_iff.1 (by omega)
     rw[if_pos hc0]
     exact⟨evs,some l,by simp[hl0],fun h=>(by cases h),fun _=>⟨rfl,rfl⟩⟩
    ·have hc0: ¬c=[]:=fun e=>hl0 (by rw[hl,e];rfl)
     rw[if_neg hc0]
     have: ¬((l.length:Int)=0):=by omega
     refine⟨evs++[e],some (l.take (l.length-1)),?_,fun _=>⟨rfl,?_,?_⟩,fun h=>absurd rfl h⟩
     ·simp only[this,decide_false,Option.bind_some,Bool.false_eq_true,if_false]
      rw[qcF (by omega) (by omega),yN (by omega)]
      simp only[Option.bind_some]
      rw[hcopy,Option.bind_some,happ]
      rfl
     ·unfold qb6
      rw[if_pos hu]
      exact hrel.pop
     ·unfold qb6
      rw[if_pos hu,List.length_dropLast]
      omega
  ·simp only[hu,if_false,Bool.false_eq_true]
   obtain⟨o',d,l,e1,e2,e3,e4,e5,e6⟩:=xh (evs:=evs) hrel (by omega) hN
   obtain⟨err,day,new,hP,hR,hA⟩:=qle (d:=d) (⟨e4,by omega,hN,hM⟩:qa9 N l) hv (by simpa using hu)
   obtain⟨x,l',hP1,hP2⟩:=hP
   rw[e1,Option.bind_some]
   simp only
   rw[hP1,Option.bind_some,e3,Option.bind_some,hR.ref,Option.getD_some]
   simp only
   by_cases h0:err=0
   ·obtain⟨rfl,rfl⟩:=hP2 h0
    rw[if_neg (by simp[h0])]
    obtain⟨hA1,hA2,hA3⟩:=hA h0
    have hreg:qip N (c++[e])=some ⟨x,l'⟩:=by
     rw[qlW,←qbP (by omega) hN,e3,Option.bind_some]
     exact hR.aft h0
    have hrel':Rel N (c++[e]) (hof o'++[⟨e.Number,⟨x,l'⟩⟩]):=by
     rw[e2]
     exact hrel.push hreg hA1 (by omega) (hA3 (qbb hc) e6)
    have hlo:(hof o').length≤1000:=by rw[e2,hrel.len];omega
    have fin: ∀o2:Option (List StateT),hof o2=hof o'++[⟨e.Number,⟨x,l'⟩⟩]→err=0→(evs++[e]=evs++[e]∧Rel N (qb6 c e) (hof o2)∧(qb6 c e).length≤k+1):=by
     intro o2 ho2 _
     unfold qb6
     rw[if_neg hu,ho2]
     exact⟨rfl,hrel',by simp;omega⟩
    cases o' with
    |none=>
     simp only[Option.bind_some]
     rw[hcopy,Option.bind_some,happ,Option.bind_some]
     exact⟨_,_,by rw[h0],fin (some [⟨e.Number,⟨x,l'⟩⟩]) rfl,fun h=>absurd h0 h⟩
    |some l2=>
     have hlo:l2.length≤1000:=hlo
     simp only
     rw[vv (by simp;omega) (by simp;omega)]
     simp only[Option.bind_some]
     rw[hcopy,Option.bind_some,happ,Option.bind_some]
     exact⟨_,_,by rw[h0],fin (some (l2++[⟨e.Number,⟨x,l'⟩⟩])) rfl,fun h=>absurd h0 h⟩
   ·rw[if_pos (by simp[h0])]
    exact⟨evs,o',rfl,fun h=>absurd h h0,fun _=>⟨rfl,e2⟩⟩
 ·have c1:((!decide (e.Number=((k+1:Nat):Int)))=true)=True:=by simp only[h1,decide_false,Bool.not_false]
  have c2:(e.Number≠((k+1:Nat):Int))=True:=eq_true h1
  simp only[c1,c2,if_true]
  exact⟨evs,o,rfl,fun h=>(by cases h),fun _=>⟨rfl,rfl⟩⟩
theorem qme {N:Nat} {c:List qb} {k:Nat} {e:qb} {evs:List qb} {o:Option (List StateT)} (h:Pre N c (hof o) k e) (hk:evs.length=k):
 ∃evs' o',vD N evs o e.Number e.Kind e.Names e.Values e.Text=some (evs',o',xw N c k e)∧(xw N c k e=0→evs'=evs++[e]∧Rel N (qb6 c e) (hof o')∧(qb6 c e).length≤k+1)∧(xw N c k e≠0→evs'=evs∧hof o'=hof o):=by
 unfold vD
 have hN:=h.big
 rw[show(⟨e.Number,e.Kind,e.Names,e.Values,e.Text⟩:qb)=e from rfl,qb0 h.max (by omega) h.short,Option.bind_some]
 by_cases hc:qG e=0
 ·rw[if_neg (by simp[hc])]
  obtain⟨evs',o',h1,h2⟩:=qlV h hk hc
  rw[h1]
  exact⟨evs',o',rfl,h2⟩
 ·rw[if_pos (by simp[hc])]
  have:xw N c k e=qG e:=by unfold xw;rw[if_pos hc]
  rw[this]
  exact⟨evs,o,rfl,fun h=>absurd h hc,fun _=>⟨rfl,rfl⟩⟩
def jl (N:Nat):List qb→Nat→List qb→Int×Int×List qb
 |[],_,c=>(0,0,c)
 |e::es,k,c=>if xw N c k e=0 then jl N es (k+1) (qb6 c e)else(((k+1:Nat):Int),xw N c k e,[])
theorem qhy {N:Nat} (hN:6000<N) (hM:N<4611686018427387904) {l:List qb} (hl:l.length≤1000) (hs: ∀e∈l,qaI N e): ∀(K k:Nat) (c:List qb) (o:Option (List StateT)),k≤l.length→l.length<K+k→Rel N c (hof o)→c.length≤k→
 (((jl N (l.drop k) k c).2.1≠0∧qY N l K (l.take k) o (k:Int)=some (.inr ([],none,false,(jl N (l.drop k) k c).1,(jl N (l.drop k) k c).2.1)))∨
 ((jl N (l.drop k) k c).2.1=0∧ ∃o',qY N l K (l.take k) o (k:Int)=some (.inl (l,o'))∧Rel N (jl N (l.drop k) k c).2.2 (hof o')∧(jl N (l.drop k) k c).2.2.length≤l.length))
 |0,k,c,o,h,hK,_,_=>by omega
 |K+1,k,c,o,h,hK,hr,hc=>by
  unfold qY
  by_cases hk:k<l.length
  ·rw[if_pos (by omega),qA,List.getElem?_eq_getElem hk,Option.bind_some,qK (by omega),List.drop_eq_getElem_cons hk]
   unfold jl
   have pre:Pre N c (hof o) k l[k]:=⟨hr,hc,by omega,hN,hM,hs _ (List.getElem_mem hk)⟩
   obtain⟨evs',o',h1,h2,_⟩:=qme (evs:=l.take k) pre (by rw[List.length_take];omega)
   rw[h1,Option.bind_some]
   simp only
   by_cases h0:xw N c k l[k]=0
   ·obtain⟨rfl,g2,g3⟩:=h2 h0
    rw[if_neg (show¬((!decide (xw N c k l[k]=0))=true)by simp[h0]),if_pos h0]
    have ht:l.take k++[l[k]]=l.take (k+1):=by
     rw[List.take_add_one,List.getElem?_eq_getElem hk];rfl
    rw[ht]
    exact qhy hN hM hl hs K (k+1) _ o' (by omega) (by omega) g2 g3
   ·rw[if_pos (show((!decide (xw N c k l[k]=0))=true)by simp[h0]),if_neg h0]
    exact .inl ⟨h0,rfl⟩
  ·rw[if_neg (by omega),List.drop_of_length_le (by omega),List.take_of_length_le (by omega)]
   unfold jl
   exact .inr ⟨rfl,o,rfl,hr,by simp only;omega⟩
theorem qgM {N:Nat} (hN:6000<N) (hM:N<4611686018427387904) {l:List qb} (hl:l.length≤1000) (hs: ∀e∈l,qaI N e): ∀(K k:Nat) (c:List qb) (ss:List StateT),k≤l.length→l.length<K+k→Rel N c ss→c.length≤k→
 zT N l K c (k:Int)=some (if(jl N (l.drop k) k c).2.1=0 then .inl (jl N (l.drop k) k c).2.2 else .inr ([],(jl N (l.drop k) k c).1,(jl N (l.drop k) k c).2.1))
 |0,k,c,ss,h,hK,_,_=>by omega
 |K+1,k,c,ss,h,hK,hr,hc=>by
  unfold zT
  by_cases hk:k<l.length
  ·have hsh:=hs _ (List.getElem_mem hk)
   rw[if_pos (by omega),qA,List.getElem?_eq_getElem hk,Option.bind_some,qg0 hM hsh,Option.bind_some,qK (by omega),List.drop_eq_getElem_cons hk]
   unfold jl
   generalize he:l[k]=e at*
   obtain⟨o,rfl⟩: ∃o:Option (List StateT),hof o=ss:=⟨some ss,rfl⟩
   have pre:Pre N c (hof o) k e:=⟨hr,hc,by omega,hN,hM,hsh⟩
   obtain⟨evs',o',_,h2,_⟩:=qme (evs:=l.take k) pre (by rw[List.length_take];omega)
   have key:((if qG e=0 then some (!decide (e.Number=((k+1:Nat):Int)))else some false:Option Bool).bind fun b13=>((if b13=true then some 11 else some (qG e):Option Int)).bind fun e_15=>
    (if e_15=0 then if(e.Kind==[117,110,100,111])=true then some (decide ((c.length:Int)=0))else some false else some false:Option Bool).bind fun b20=>((if b20=true then some 12 else some e_15:Option Int)).bind fun e_22=>
    (if e_22=0 then some (!(e.Kind==[117,110,100,111]))else some false:Option Bool).bind fun b26=>((if b26=true then(za N c).bind fun r31=>(zf N r31 e).bind fun r32=>some r32 else some e_22:Option Int)))=some (xw N c k e):=by
    unfold xw
    have hku:([117,110,100,111]:Str)=xx:=rfl
    rw[hku]
    by_cases a1:qG e=0
    ·by_cases a2:e.Number=((k+1:Nat):Int)
     ·by_cases a3:(e.Kind==xx)=true
      ·by_cases a4:c=[]
       ·simp[a1,a2,a3,a4]
       ·have: ¬c.length=0:=fun h=>a4 (List.length_eq_zero_iff.1 h)
        simp[a1,a2,a3,a4,this]
      ·obtain⟨_,d,l2,_,_,e3,e4,e5,_⟩:=xh (evs:=[]) hr (by omega) hN
       obtain⟨err,day,new,_,hR,_⟩:=qle (d:=d) (⟨e4,by omega,hN,hM⟩:qa9 N l2) (jY a1) (by simpa using a3)
       simp[a1,a2,a3,e3,hR.ref]
     ·have a2': ¬e.Number=(k:Int)+1:=by simpa using a2
      simp[a1,a2']
    ·simp[a1]
   have key2: ∀F:Int→Option (List qb⊕(List qb×Int×Int)),((if qG e=0 then some (!decide (e.Number=((k+1:Nat):Int)))else some false:Option Bool).bind fun b13=>((if b13=true then some 11 else some (qG e):Option Int)).bind fun e_15=>
    (if e_15=0 then if(e.Kind==[117,110,100,111])=true then some (decide ((c.length:Int)=0))else some false else some false:Option Bool).bind fun b20=>((if b20=true then some 12 else some e_15:Option Int)).bind fun e_22=>
    (if e_22=0 then some (!(e.Kind==[117,110,100,111]))else some false:Option Bool).bind fun b26=>((if b26=true then(za N c).bind fun r31=>(zf N r31 e).bind fun r32=>some r32 else some e_22:Option Int)).bind F)=F (xw N c k e):=by
    intro F
    have:=congrArg (fun x=>Option.bind x F) key
    simp only[Option.bind_some,Option.bind_assoc]at this
    exact this
   rw[key2]
   by_cases h0:xw N c k e=0
   ·obtain⟨_,g2,g3⟩:=h2 h0
    rw[if_neg (show¬((!decide (xw N c k e=0))=true)by simp[h0]),if_pos h0,←qgM hN hM hl hs K (k+1) _ (hof o') (by omega) (by omega) g2 g3]
    unfold qb6
    by_cases hu:(e.Kind==xx)=true
    ·have hu':(e.Kind==[117,110,100,111])=true:=hu
     rw[if_pos hu',if_pos hu]
     have hc0:c≠[]:=by
      intro hc0
      unfold xw at h0
      by_cases a1:qG e=0
      ·rw[if_neg (by simp[a1])]at h0
       by_cases a2:e.Number=((k+1:Nat):Int)
       ·rw[if_neg (by simp[a2]),if_pos hu,if_pos hc0]at h0;cases h0
       ·rw[if_pos a2]at h0;cases h0
      ·rw[if_pos a1]at h0;exact a1 h0
     have hcl:0<c.length:=List.length_pos_iff.2 hc0
     rw[qcF (by omega) hcl,yN (by omega),List.dropLast_eq_take]
     rfl
    ·have hu': ¬(e.Kind==[117,110,100,111])=true:=hu
     rw[if_neg hu',if_neg hu,vv (by simp;omega) (by simp;omega),Option.bind_some,vv (by simp;omega) (by simp;omega)]
     rfl
   ·rw[if_pos (show((!decide (xw N c k e=0))=true)by simp[h0]),if_neg h0]
    simp[h0]
  ·rw[if_neg (by omega),List.drop_of_length_le (by omega)]
   rfl
def qdr (e:qb):Bool:=decide (e.Kind.length≤60)&&(decide (e.Names.length≤5)&&(decide (e.Values.length≤5)&&(decide (e.Text.length≤60)&&e.Names.all fun s=>decide (s.length≤60))))
theorem qiG {l:List qb} {i:Nat} {e:qb} (he:l[i]? =some e) (hn:e.Names.length≤5): ∀(K k:Nat),k≤e.Names.length→e.Names.length<K+k→ky l (i:Int) K (k:Int)=some (if((e.Names.drop k).all fun s=>decide (s.length≤60))=true then .inl ()else .inr false)
 |0,k,h,hK=>by omega
 |K+1,k,h,hK=>by
  unfold ky
  rw[qA,he,Option.bind_some]
  by_cases hk:k<e.Names.length
  ·rw[if_pos (by omega),qA,List.getElem?_eq_getElem hk,Option.bind_some,qK (by omega),qiG he hn K (k+1) (by omega) (by omega),List.drop_eq_getElem_cons hk,List.all_cons]
   by_cases hq:(e.Names[k]).length>60
   ·have h1:((e.Names[k]).length:Int)>60:=by omega
    have h2: ¬(e.Names[k]).length≤60:=by omega
    simp[h1,h2]
   ·have h1: ¬((e.Names[k]).length:Int)>60:=by omega
    have h2:(e.Names[k]).length≤60:=by omega
    simp only[h1,h2,decide_true,Bool.true_and,if_false]
  ·rw[if_neg (by omega),List.drop_of_length_le (by omega)]
   rfl
theorem qiV {N:Nat} (hN:6000<N) {l:List qb} (hl:l.length≤1000): ∀(K k:Nat),k≤l.length→l.length<K+k→ze N l K (k:Int)=some (if(l.drop k).all qdr=true then .inl ()else .inr false)
 |0,k,h,hK=>by omega
 |K+1,k,h,hK=>by
  unfold ze
  by_cases hk:k<l.length
  ·have he:l[k]? =some l[k]:=List.getElem?_eq_getElem hk
   rw[if_pos (by omega),qA,he,Option.bind_some,qK (by omega),qiV hN hl K (k+1) (by omega) (by omega),List.drop_eq_getElem_cons hk,List.all_cons]
   generalize l[k]=e at he
   unfold qdr
   by_cases a1:e.Kind.length≤60
   ·have b1: ¬(e.Kind.length:Int)>60:=by omega
    by_cases a2:e.Names.length≤5
    ·have b2: ¬(e.Names.length:Int)>5:=by omega
     by_cases a3:e.Values.length≤5
     ·have b3: ¬(e.Values.length:Int)>5:=by omega
      by_cases a4:e.Text.length≤60
      ·have b4: ¬(e.Text.length:Int)>60:=by omega
       have:=qiG he a2 N 0 (by omega) (by omega)
       rw[List.drop_zero]at this
       simp only[a1,a2,a3,a4,b1,b2,b3,b4,decide_true,decide_false,Bool.true_and,if_false,Option.bind_some,Bool.false_eq_true]
       rw[show ky l (k:Int) N 0=ky l (k:Int) N ((0:Nat):Int)from rfl,this]
       by_cases a5:(e.Names.all fun s=>decide (s.length≤60))=true<;>simp[a5]
      ·have b4:(e.Text.length:Int)>60:=by omega
       simp[a1,a2,a3,a4,b1,b2,b3,b4]
     ·have b3:(e.Values.length:Int)>5:=by omega
      simp[a1,a2,a3,b1,b2,b3]
    ·have b2:(e.Names.length:Int)>5:=by omega
     simp[a1,a2,b1,b2]
   ·have b1:(e.Kind.length:Int)>60:=by omega
    simp[a1,b1]
  ·rw[if_neg (by omega),List.drop_of_length_le (by omega)]
   rfl
theorem qgx {N:Nat} (hN:6000<N) {l:List qb} {n:Nat} (hn:n≤1000):j6 N l (n:Int)=some (decide (l.length≤n)&&l.all qdr):=by
 unfold j6
 by_cases h:l.length≤n
 ·rw[if_neg (by omega),show ze N l N 0=ze N l N ((0:Nat):Int)from rfl,qiV hN (by omega) N 0 (by omega) (by omega),List.drop_zero]
  by_cases h2:l.all qdr=true<;>simp[h,h2]
 ·rw[if_pos (by omega)]
  simp[h]
theorem qmG {N:Nat} (hN:6000<N) {e:qb} (h:qdr e=true):qaI N e:=by
 unfold qdr at h
 simp only[Bool.and_eq_true,decide_eq_true_eq,List.all_eq_true]at h
 exact⟨by omega,by omega,fun s hs=>by have:=h.2.2.2.2 s hs;omega⟩
structure Evs (N:Nat) (l:List qb):Prop where
 len:l.length≤1000
 short: ∀e∈l,qaI N e
 big:6000<N
 max:N<4611686018427387904
theorem qbf {N:Nat} {l:List qb} (h:Evs N l):
 ((jl N l 0 []).2.1≠0∧jO N l=some ([],none,false,(jl N l 0 []).1,(jl N l 0 []).2.1)∧yg N l=some ([],(jl N l 0 []).1,(jl N l 0 []).2.1))∨
 ((jl N l 0 []).2.1=0∧ ∃o',jO N l=some (l,o',true,0,0)∧yg N l=some ((jl N l 0 []).2.2,0,0)∧Rel N (jl N l 0 []).2.2 (hof o')∧(jl N l 0 []).2.2.length≤l.length):=by
 obtain⟨hl,hs,hN,hM⟩:=h
 have hr0:Rel N [] (hof (none:Option (List StateT))):=Rel.nil N
 have h1:=qhy hN hM hl hs N 0 [] none (by omega) (by omega) hr0 (by simp)
 have h2:=qgM hN hM hl hs N 0 [] [] (by omega) (by omega) hr0 (by simp)
 rw[List.drop_zero]at h1 h2
 rw[List.take_zero]at h1
 have e1: ∀a b c,qY N l a b c 0=qY N l a b c ((0:Nat):Int):=fun _ _ _=>rfl
 have e2: ∀a b,zT N l a b 0=zT N l a b ((0:Nat):Int):=fun _ _=>rfl
 unfold jO yg
 rw[if_neg (by omega),e1,e2,h2]
 rcases h1 with⟨g1,g2⟩|⟨g1,o',g2,g3,g4⟩
 ·rw[g2]
  exact .inl ⟨g1,rfl,by simp[g1]⟩
 ·rw[g2]
  exact .inr ⟨g1,o',rfl,by simp[g1],g3,g4⟩
theorem qaM {N:Nat} {l:List qb} (h:Evs N l):(((jl N l 0 []).2.1≠0∧yF N l=some (⟨0,[]⟩,(jl N l 0 []).1,(jl N l 0 []).2.1))∨
 ((jl N l 0 []).2.1=0∧ ∃d s,za N (jl N l 0 []).2.2=some ⟨d,s⟩∧s.length≤1000∧yF N l=some (⟨d,s⟩,0,0))):=by
 have hl:=h.len
 have hN:=h.big
 unfold yF
 rw[if_neg (by omega)]
 rcases qbf h with⟨g1,g2,g3⟩|⟨g1,o',g2,g3,g4,g5⟩
 ·rw[g3,Option.bind_some]
  refine .inl ⟨g1,?_⟩
  simp only
  rw[if_pos (by simp[g1])]
 ·rw[g3,Option.bind_some]
  obtain⟨_,d,s,_,_,e3,_,e5,_⟩:=xh (evs:=[]) g4 (by omega) hN
  refine .inr ⟨g1,d,s,e3,by omega,?_⟩
  simp only
  rw[if_neg (by simp),e3]
  rfl
theorem qht {N:Nat} {l:List qb} (h:Evs N l): ∃d s at' err,yh N l=some (⟨d,s⟩,at',err)∧yF N l=some (⟨d,s⟩,at',err)∧s.length≤1000:=by
 have hl:=h.len
 have hN:=h.big
 rcases qbf h with⟨g1,g2,g3⟩|⟨g1,o',g2,g3,g4,g5⟩
 ·rcases qaM h with⟨_,e⟩|⟨e0,_⟩
  ·refine⟨_,_,_,_,?_,e,by simp⟩
   unfold yh
   rw[g2,Option.bind_some]
   simp only
   rw[if_pos (by simp[g1])]
  ·exact absurd e0 g1
 ·rcases qaM h with⟨e0,_⟩|⟨_,d,s,e1,e2,e3⟩
  ·exact absurd g1 e0
  ·refine⟨_,_,_,_,?_,e3,e2⟩
   obtain⟨o2,d',s',f1,_,f3,_,f5,_⟩:=xh (evs:=l) g4 (by omega) hN
   rw[e1]at f3
   injection f3 with f3
   injection f3 with fd fs
   subst fd fs
   unfold yh
   rw[g2,Option.bind_some]
   simp only
   rw[if_neg (by simp),f1,Option.bind_some]
   simp only
   rw[qbi e2]
   rfl
theorem qag (N:Nat) (e:qb) (es:List qb) (k:Nat) (c:List qb):jl N (e::es) k c=if xw N c k e=0 then jl N es (k+1) (qb6 c e)else(((k+1:Nat):Int),xw N c k e,[]):=rfl
theorem qft (N:Nat) (e:qb): ∀(l:List qb) (k:Nat) (c:List qb),jl N (l++[e]) k c=if(jl N l k c).2.1=0 then jl N [e] (k+l.length) (jl N l k c).2.2 else jl N l k c
 |[],k,c=>by
  show jl N [e] k c=if(0:Int)=0 then jl N [e] (k+0) c else _
  rw[if_pos rfl]
  rfl
 |x::l,k,c=>by
  rw[List.cons_append,qag N x (l++[e]),qag N x l]
  by_cases h:xw N c k x=0
  ·rw[if_pos h,if_pos h,qft N e l (k+1) (qb6 c x),List.length_cons,show k+1+l.length=k+(l.length+1)by omega]
  ·rw[if_neg h,if_neg h,if_neg h]
def spl:Str→Str→List Str
 |a,[]=>[a]
 |a,c::s=>if c=32 then a::spl [] s else spl (a++[c]) s
noncomputable def qai (s:Str):Nat:=qjo 32 s
theorem qcm (c:UInt8) (s:Str):qai (c::s)=if c=32 then qai s+1 else qai s:=by
 show zL (Nat.beq c.toNat 32) (Nat.succ (qai s)) (qai s)=_
 rw[qN]
 by_cases h:c=32
 ·subst h;rfl
 ·have h2:c.toNat≠32:=fun e=>h (UInt8.toNat_inj.1 (by rw[e];rfl))
  rw[if_neg (by rw[qas h2];simp),if_neg h]
theorem qfW: ∀s:Str,qai s≤s.length
 |[]=>Nat.le_refl _
 |c::s=>by
  have:=qfW s
  rw[qcm,List.length_cons]
  split<;>omega
def qcU:Str→Option Nat
 |[]=>none
 |c::s=>if c=32 then some 0 else(qcU s).map (· +1)
theorem qe2: ∀(s:Str) (j:Nat),qeH 32 s j=match qcU s with|some k=>((j+k:Nat):Int)|none=> -1
 |[],_=>rfl
 |c::s,j=>by
  show zL (Nat.beq c.toNat 32) (Int.ofNat j) (qeH 32 s (j+1))=_
  rw[qN,qe2 s (j+1),qcU]
  by_cases h:c=32
  ·subst h;rfl
  ·have h2:c.toNat≠32:=fun e=>h (UInt8.toNat_inj.1 (by rw[e];rfl))
   rw[if_neg (by rw[qas h2];simp),if_neg h]
   cases qcU s with
   |none=>rfl
   |some k=>
    simp only[Option.map_some]
    congr 1
    omega
theorem qfo: ∀{s:Str},qcU s=none→qai s=0∧ ∀a,spl a s=[a++s]
 |[],_=>⟨rfl,fun a=>by simp[spl]⟩
 |c::s,h=>by
  unfold qcU at h
  by_cases hc:c=32
  ·rw[if_pos hc]at h;cases h
  ·rw[if_neg hc]at h
   cases hp:qcU s with
   |some k=>rw[hp]at h;cases h
   |none=>
    obtain⟨h1,h2⟩:=qfo hp
    refine⟨by rw[qcm,if_neg hc,h1],fun a=>?_⟩
    rw[spl,if_neg hc,h2]
    simp
theorem qdJ: ∀{s:Str} {k:Nat},qcU s=some k→k<s.length∧qai s=qai (s.drop (k+1))+1∧ ∀a,spl a s=(a++s.take k)::spl [] (s.drop (k+1))
 |[],_,h=>by cases h
 |c::s,k,h=>by
  unfold qcU at h
  by_cases hc:c=32
  ·rw[if_pos hc]at h
   obtain rfl:=Option.some.inj h
   refine⟨by simp,?_,fun a=>?_⟩
   ·rw[qcm,if_pos hc];rfl
   ·rw[spl,if_pos hc];simp
  ·rw[if_neg hc]at h
   cases hp:qcU s with
   |none=>rw[hp]at h;cases h
   |some j=>
    rw[hp]at h
    obtain rfl:=Option.some.inj h
    obtain⟨h1,h2,h3⟩:=qdJ hp
    refine⟨by simp;omega,?_,fun a=>?_⟩
    ·rw[qcm,if_neg hc,h2,List.drop_succ_cons]
    ·rw[spl,if_neg hc,h3]
     simp
theorem qoC {s:Str} (h:qai s=0):qcU s=none:=by
 cases hp:qcU s with
 |none=>rfl
 |some k=>have:=(qdJ hp).2.1;omega
theorem qfY: ∀(a s:Str),(spl a s).length=qai s+1
 |a,[]=>rfl
 |a,c::s=>by
  rw[qcm,spl]
  by_cases hc:c=32
  ·rw[if_pos hc,if_pos hc,List.length_cons,qfY]
  ·rw[if_neg hc,if_neg hc,qfY]
theorem qi5 {s:Str}:strings_Index s [32]=some (qeH 32 s 0):=by
 unfold strings_Index stringslite_Index stringslite_IndexByte qgs
 have h0: ¬(([32]:Str).length:Int)=0:=by simp
 have h1:(([32]:Str).length:Int)=1:=by simp
 rw[if_neg h0]
 simp only[Option.bind_some]
 by_cases hs:(([32]:Str)==s)=true
 ·have:s=[32]:=(beq_iff_eq.1 hs).symm
  subst this
  rfl
 ·rw[if_neg hs,if_pos h1,xN,show([32]:Str)[0]? =some 32 from rfl,Option.bind_some,if_pos (by decide)]
  rfl
theorem qmS {N:Nat} {s:Str}:strings_Count N s [32]=some (qai s:Int):=by
 unfold strings_Count qh5
 have h0: ¬(([32]:Str).length:Int)=0:=by simp
 have h1:(([32]:Str).length:Int)=1:=by simp
 rw[if_neg h0,if_pos h1,xN,show([32]:Str)[0]? =some 32 from rfl,Option.bind_some,if_pos (by decide)]
 rfl
theorem qfB (s0:Str) (n:Int) (c:Nat) (hc:c<4611686018427387904) (hn:w64 ((if(w64 ((s0.length:Int)+1))<n then(w64 ((s0.length:Int)+1))else n)-1)=(c:Int)): ∀(K:Nat) (l:List Str) (s:Str) (i:Nat),i+qai s=c→l.length=c+1→c<K+i→s.length<4611686018427387904→
 ∃l' s',zC s0 [32] 0 n K l s (i:Int)=some (l',s',(c:Int))∧l'.length=c+1∧l'.take c++[s']=l.take i++spl [] s
 |0,l,s,i,h,hl,hK,hs=>by omega
 |K+1,l,s,i,h,hl,hK,hs=>by
  unfold zC
  rw[hn]
  by_cases hi:i<c
  ·rw[if_pos (by omega),qi5,qe2]
   cases hp:qcU s with
   |none=>have:=(qfo hp).1;omega
   |some k=>
    obtain⟨h1,h2,h3⟩:=qdJ hp
    simp only[Option.bind_some,Nat.zero_add]
    have w1:w64 ((k:Int)+0)=(k:Int):=by rw[Int.add_zero];exact jP (by omega) (by omega)
    have w2:w64 ((k:Int)+(([32]:Str).length:Int))=((k+1:Nat):Int):=qK (by omega)
    rw[if_neg (by omega),w1,w2,yN (by omega),Option.bind_some,qA,List.getElem?_eq_getElem (by omega),Option.bind_some,xU (by omega),Option.bind_some,xJ (by omega),Option.bind_some,qK (by omega)]
    obtain⟨l',s',g1,g2,g3⟩:=qfB s0 n c hc hn K (l.set i (s.take k)) (s.drop (k+1)) (i+1) (by omega) (by simpa using hl) (by omega) (by simp;omega)
    refine⟨l',s',g1,g2,?_⟩
    rw[g3,h3,List.nil_append,List.take_add_one,List.getElem?_set_self (by omega)]
    simp only[List.take_set,Option.toList_some,List.append_assoc,List.singleton_append]
    rw[List.set_eq_of_length_le (by rw[List.length_take];exact Nat.min_le_left _ _)]
  ·have hi:i=c:=by omega
   subst hi
   rw[if_neg (by omega)]
   refine⟨l,s,rfl,hl,?_⟩
   have:=(qfo (qoC (show qai s=0 by omega))).2 []
   rw[this,List.nil_append]
theorem qnh {N:Nat} {s:Str} (hs:s.length<100000) (hN:s.length<N):strings_Split N s [32]=some (spl [] s):=by
 unfold strings_Split strings_genSplit
 have hc:=qfW s
 have w1:w64 ((qai s:Int)+1)=((qai s+1:Nat):Int):=qK (by omega)
 have w2:w64 ((s.length:Int)+1)=((s.length+1:Nat):Int):=qK (by omega)
 have w3:(if((s.length+1:Nat):Int)<((qai s+1:Nat):Int)then((s.length+1:Nat):Int)else((qai s+1:Nat):Int))=((qai s+1:Nat):Int):=if_neg (by omega)
 have w4:w64 (((qai s+1:Nat):Int)-1)=(qai s:Int):=by rw[jP (by omega) (by omega)];omega
 rw[if_neg (by omega),if_neg (by decide),if_pos (by omega),qmS]
 simp only[Option.bind_some,w1,w2,w3]
 have e:mk 16 ((qai s+1:Nat):Int) ([]:Str)=some (List.replicate (qai s+1) []):=by
  unfold mk
  rw[if_pos ⟨by omega,by omega,by omega⟩,Int.toNat_natCast]
 rw[e,Option.bind_some]
 obtain⟨l',s',g1,g2,g3⟩:=qfB s ((qai s+1:Nat):Int) (qai s) (by omega) (by rw[w2,w3,w4]) N (List.replicate (qai s+1) []) s 0 (by omega) (by simp) (by omega) (by omega)
 rw[show zC s [32] 0 ((qai s+1:Nat):Int) N (List.replicate (qai s+1) []) s 0=_ from g1]
 have hx:l'[qai s]? =some l'[qai s]:=List.getElem?_eq_getElem (by omega)
 simp only[Option.bind_some]
 rw[qA,hx,Option.bind_some,xU (by omega),Option.bind_some,w1,yN (by simp;omega),Option.bind_some,Option.bind_some]
 rw[List.take_zero,List.nil_append]at g3
 rw[←g3,List.take_add_one,List.getElem?_set_self (by omega),List.take_set,List.set_eq_of_length_le (by simp;omega)]
 rfl
theorem qli {α:Type} {l:List α} {a b:Nat} (h1:a≤b) (h2:b≤l.length):cut l (a:Int) (b:Int)=some ((l.drop a).take (b-a)):=by
 unfold cut
 rw[if_pos ⟨by omega,by omega,by omega⟩]
 simp only[Int.toNat_natCast,Option.some.injEq]
def qaJ (c:UInt8):Bool:=decide (48≤c.toNat)&&decide (c.toNat≤57)
def qf8 (n:Nat) (s:List UInt8):Nat:=s.foldl (fun a c=>a*10+(c.toNat-48)) n
theorem qjq (n:Nat):qf8 n []=n:=List.foldl_nil
theorem qb7 (n:Nat) (c:UInt8) (s:List UInt8):qf8 n (c::s)=qf8 (n*10+(c.toNat-48)) s:=by
 unfold qf8
 rw[List.foldl_cons]
theorem ne48 {c:UInt8} (h: ¬c=48): ¬((c.toNat:Int)=48):=fun e=>h (UInt8.toNat_inj.1 (show c.toNat=48 from by omega))
def intB (s:Str):Bool:=decide (1≤s.length)&&(decide (s.length≤9)&&(s.all qaJ&&(decide (s.length=1)||!(s[0]? ==some 48))))
def qch (s:Str):Int×Bool:=if intB s=true then((qf8 0 s:Nat),true)else(0,false)
theorem qnr (c:UInt8):([48,49,50,51,52,53,54,55,56,57]:Str).contains c=qaJ c:=by
 rw[Bool.eq_iff_iff]
 simp only[List.contains_cons,List.contains_nil,Bool.or_eq_true,beq_iff_eq,qaJ,Bool.and_eq_true,decide_eq_true_eq,←UInt8.toNat_inj,Bool.or_false]
 simp only[show(48:UInt8).toNat=48 from rfl,show(49:UInt8).toNat=49 from rfl,show(50:UInt8).toNat=50 from rfl,show(51:UInt8).toNat=51 from rfl,show(52:UInt8).toNat=52 from rfl,show(53:UInt8).toNat=53 from rfl,show(54:UInt8).toNat=54 from rfl,show(55:UInt8).toNat=55 from rfl,show(56:UInt8).toNat=56 from rfl,show(57:UInt8).toNat=57 from rfl]
 omega
theorem qbU {α:Type} {p:α→Bool}: ∀{l:List α},l.dropWhile p=[]↔l.all p=true
 |[]=>by simp
 |x::l=>by
  rw[List.dropWhile_cons,List.all_cons]
  by_cases h:p x=true
  ·rw[if_pos h,h,Bool.true_and];exact qbU
  ·rw[if_neg h];simp[h]
theorem qlw {s:Str}:(Lib.trimS s [48,49,50,51,52,53,54,55,56,57]==[])=s.all qaJ:=by
 have e:(fun c=>([48,49,50,51,52,53,54,55,56,57]:Str).contains c)=qaJ:=funext qnr
 unfold Lib.trimS Lib.trimLeftS Lib.trimRightS
 rw[e]
 rw[Bool.eq_iff_iff,beq_iff_eq,qbU,List.all_reverse]
 constructor
 ·intro h
  have h2: ∀x∈s.reverse.takeWhile qaJ++s.reverse.dropWhile qaJ,qaJ x=true:=by
   intro x hx
   rcases List.mem_append.1 hx with hx|hx
   ·exact List.all_eq_true.1 List.all_takeWhile x hx
   ·exact List.all_eq_true.1 h x hx
  rw[List.takeWhile_append_dropWhile]at h2
  exact List.all_eq_true.2 fun x hx=>h2 x (by simpa using hx)
 ·intro h
  have:s.reverse.dropWhile qaJ=[]:=qbU.2 (by rw[List.all_reverse];exact h)
  rw[this]
  rfl
theorem qfp {s:Str} (hs:s.length≤1000000):vW s=some (decide (1≤s.length)&&s.all qaJ):=by
 have hT:qjv s [48,49,50,51,52,53,54,55,56,57]=some (Lib.trimS s [48,49,50,51,52,53,54,55,56,57]):=by
  unfold qjv
  rw[if_pos ⟨hs,by decide,by decide⟩]
 unfold vW
 simp only[hT,Option.bind_some,qlw]
 cases s with
 |nil=>rfl
 |cons x xs=>simp
theorem qgg: ∀(s:Str) (n:Nat),s.all qaJ=true→Lib.decFrom n s=some (qf8 n s)
 |[],n,_=>rfl
 |c::s,n,h=>by
  rw[List.all_cons,Bool.and_eq_true]at h
  unfold Lib.decFrom
  rw[qb7]
  have h1:48≤c.toNat∧c.toNat≤57:=by simpa[qaJ]using h.1
  have e:Lib.digitVal c=some (c.toNat-48):=by unfold Lib.digitVal;rw[if_pos h1]
  rw[e]
  exact qgg s _ h.2
theorem qjA {s:Str} (h0:1≤s.length) (h:s.all qaJ=true):Lib.atoi s=some ((qf8 0 s:Nat):Int):=by
 cases s with
 |nil=>simp at h0
 |cons c s=>
  have hc:qaJ c=true:=by rw[List.all_cons,Bool.and_eq_true]at h;exact h.1
  have h1:48≤c.toNat∧c.toNat≤57:=by simpa[qaJ]using hc
  unfold Lib.atoi Lib.decNat
  have n1: ¬(c==45)=true:=fun e=>by rw[beq_iff_eq.1 e]at h1;simp at h1
  have n2: ¬(c==43)=true:=fun e=>by rw[beq_iff_eq.1 e]at h1;simp at h1
  simp only
  rw[if_neg n1,if_neg n2,if_neg (by simp),qgg _ _ h]
  rfl
theorem qgv {s:Str} (hs:s.length≤1000000):yn s=some (qch s):=by
 unfold yn qch intB
 by_cases h9:s.length>9
 ·have: ¬s.length≤9:=by omega
  rw[if_pos (by omega)]
  simp[this]
 rw[if_neg (by omega),qfp hs]
 have a2:s.length≤9:=by omega
 simp only[Option.bind_some]
 by_cases h0:s.length=0
 ·have: ¬1≤s.length:=by omega
  simp[this]
 have a1:1≤s.length:=by omega
 by_cases hd:s.all qaJ=true
 ·have hx:s[0]? =some s[0]:=List.getElem?_eq_getElem (by omega)
  simp only[a1,a2,hd,decide_true,Bool.and_self,Bool.not_true,Bool.false_eq_true,if_false,Bool.true_and,xN]
  have hat:qjI s=some (((qf8 0 s:Nat):Int),()):=by
   unfold qjI
   rw[if_pos (by omega),qjA a1 hd]
   rfl
  rw[hx,Option.bind_some]
  by_cases hc:s[0]=48
  ·have hc1:((s[0].toNat:Int)=48):=by rw[hc];rfl
   rw[if_pos hc1]
   simp only[Option.bind_some]
   by_cases h1:s.length=1
   ·obtain⟨c,rfl⟩:=qg2 (show(s.length:Int)=1 by omega)
    have hc:c=48:=hc
    subst hc
    rw[hat]
    rfl
   ·have: ¬(s==[48])=true:=fun e=>h1 (by rw[beq_iff_eq.1 e];rfl)
    have h48:(some s[0]==some (48:UInt8))=true:=by simpa using hc
    simp[this,h1,h48]
  ·have hc1: ¬((s[0].toNat:Int)=48):=ne48 hc
   have h48:(some s[0]==some (48:UInt8))=false:=by simpa using hc
   rw[if_neg hc1]
   simp only[Option.bind_some,Bool.false_eq_true,if_false,hat,h48,Bool.not_false,Bool.or_true,if_true]
 ·have hd2:s.all qaJ=false:=by simpa using hd
  simp[a1,a2,hd2]
def ev0:qb:=⟨0,[],[],[],[]⟩
def qiL (ws:List Str):qb×Bool:=
 if((zx (ws.headD [])).2.2&&(decide ((ws.length:Int)=1+(zx (ws.headD [])).1+(zx (ws.headD [])).2.1)&&(!(ws.any fun w=>([]:Str)==w)&&(ws.drop (1+(zx (ws.headD [])).1.toNat)).all fun w=>(qch w).2)))=true then
  (⟨0,ws.headD [],(ws.drop 1).take (zx (ws.headD [])).1.toNat,(ws.drop (1+(zx (ws.headD [])).1.toNat)).map fun w=>(qch w).1,[]⟩,true)
 else(ev0,false)
def qd7 (s:Str):qb×Bool:=qiL (spl [] s)
theorem ql8 (k:Str): ∃a b:Nat,a≤2∧b≤3∧(zx k).1=(a:Int)∧(zx k).2.1=(b:Int)∧((zx k).2.2=true→k≠[]):=by
 unfold zx
 by_cases h1:(k==y8)=true
 ·simp only[h1,if_true];exact⟨2,3,by omega,by omega,rfl,rfl,fun _ e=>by rw[e]at h1;cases h1⟩
 by_cases h2:(k==xS)=true
 ·simp only[h1,h2,if_true,if_false];exact⟨1,2,by omega,by omega,rfl,rfl,fun _ e=>by rw[e]at h2;cases h2⟩
 by_cases h3:(k==qbB)=true
 ·simp only[h1,h2,h3,if_true,if_false];exact⟨1,2,by omega,by omega,rfl,rfl,fun _ e=>by rw[e]at h3;cases h3⟩
 by_cases h4:(k==xg)=true
 ·simp only[h1,h2,h3,h4,if_true,if_false];exact⟨1,1,by omega,by omega,rfl,rfl,fun _ e=>by rw[e]at h4;cases h4⟩
 by_cases h5:(k==zS)=true
 ·simp only[h1,h2,h3,h4,h5,if_true,if_false];exact⟨1,1,by omega,by omega,rfl,rfl,fun _ e=>by rw[e]at h5;cases h5⟩
 by_cases h6:(k==xx)=true
 ·simp only[h1,h2,h3,h4,h5,h6,if_true,if_false];exact⟨0,0,by omega,by omega,rfl,rfl,fun _ e=>by rw[e]at h6;cases h6⟩
 simp only[h1,h2,h3,h4,h5,h6,if_false]
 exact⟨0,0,by omega,by omega,rfl,rfl,fun h=>by simp at h⟩
theorem qiI (x:Str):(if(x==[109,97,107,101])=true then some (2,3,true)else if(x==[116,101,115,116])=true then some (1,2,true)else if(x==[117,115,101])=true then some (1,2,true)else
 if(x==[102,97,105,108])=true then some (1,1,true)else if(x==[114,101,99,97,108,108])=true then some (1,1,true)else if(x==[117,110,100,111])=true then some (0,0,true)else some (0,0,false):Option (Int×Int×Bool))=some (zx x):=by
 unfold zx y8 xS qbB xg zS xx
 repeat' split
 all_goals rfl
theorem qhx (l:List Str) (v:Str) (hl:l.length<4611686018427387904): ∀(K k:Nat),k≤l.length→l.length<K+k→ ∃r,zb l v K (k:Int)=some r∧(((l.drop k).any fun w=>v==w)=true∧(∃j:Nat,r= .inr (j:Int))∨((l.drop k).any fun w=>v==w)=false∧r= .inl ())
 |0,k,h,hK=>by omega
 |K+1,k,h,hK=>by
  unfold zb
  by_cases hk:k<l.length
  ·rw[if_pos (by omega),qA,List.getElem?_eq_getElem hk,Option.bind_some,qK (by omega),List.drop_eq_getElem_cons hk,List.any_cons]
   by_cases hc:(v==l[k])=true
   ·rw[if_pos hc,hc,Bool.true_or]
    exact⟨_,rfl,.inl ⟨rfl,k,rfl⟩⟩
   ·have hc2:(v==l[k])=false:=by simpa using hc
    rw[if_neg hc,hc2,Bool.false_or]
    exact qhx l v hl K (k+1) (by omega) (by omega)
  ·rw[if_neg (by omega),List.drop_of_length_le (by omega)]
   exact⟨_,rfl,.inr ⟨rfl,rfl⟩⟩
theorem qiD {N:Nat} {l:List Str} {v:Str} (hl:l.length<4611686018427387904) (hN:l.length<N):slices_Contains_string N l v=some (l.any fun w=>v==w):=by
 unfold slices_Contains_string slices_Index_string
 obtain⟨r,h1,h2⟩:=qhx l v hl N 0 (by omega) (by omega)
 rw[List.drop_zero]at h2
 rw[show zb l v N 0=_ from h1]
 rcases h2 with⟨h2,j,rfl⟩|⟨h2,rfl⟩
 ·rw[h2]
  simp
 ·rw[h2]
  simp
theorem qfq (l:List Str) (hl:l.length≤4700) (hs: ∀w∈l,w.length≤1000000): ∀(K k:Nat) (vs:List Int),k≤l.length→l.length<K+k→vs.length≤k→
 zO l K vs (k:Int)=some (if((l.drop k).all fun w=>(qch w).2)=true then .inl (vs++(l.drop k).map fun w=>(qch w).1)else .inr (ev0,false))
 |0,k,vs,h,hK,hv=>by omega
 |K+1,k,vs,h,hK,hv=>by
  unfold zO
  by_cases hk:k<l.length
  ·have hm:(l[k]).length≤1000000:=hs _ (List.getElem_mem hk)
   rw[if_pos (by omega),qA,List.getElem?_eq_getElem hk,Option.bind_some,qgv hm,Option.bind_some,List.drop_eq_getElem_cons hk,List.all_cons]
   by_cases hc:(qch l[k]).2=true
   ·rw[hc]
    simp only[Bool.not_true,Bool.false_eq_true,if_false,Bool.true_and]
    rw[vv (by simp;omega) (by simp;omega),Option.bind_some,qK (by omega),qfq l hl hs K (k+1) _ (by omega) (by omega) (by simp;omega)]
    simp only[List.append_assoc,List.singleton_append,List.map_cons]
   ·have hc2:(qch l[k]).2=false:=by simpa using hc
    rw[hc2]
    rfl
  ·rw[if_neg (by omega),List.drop_of_length_le (by omega)]
   simp
theorem qlL {l:List Str} (h:l.length≤4700):slices_Clone_string l=some l:=by
 cases l with
 |nil=>
  simp only[slices_Clone_string,jH,qgI]
  rw[vv (by simp) (by simp)]
  simp
 |cons x xs=>
  show z8 x xs=_
  unfold z8
  simp only[List.length_cons]at h
  rw[vv (by simp;omega) (by simp;omega)]
  rfl
theorem qdG: ∀(a s:Str),∀w∈spl a s,w.length≤a.length+s.length
 |a,[],w,h=>by simp[spl]at h;subst h;simp
 |a,c::s,w,h=>by
  rw[spl]at h
  split at h
  ·rcases List.mem_cons.1 h with rfl|h
   ·simp
   ·have:=qdG [] s w h
    simp at this⊢;omega
  ·have:=qdG (a++[c]) s w h
   simp at this⊢;omega
theorem qjd {N:Nat} {s:Str} (hs:s.length≤4600) (hN:6000<N):yQ N s=some (qd7 s):=by
 unfold yQ qd7
 rw[qnh (by omega) (by omega),Option.bind_some]
 have hlen:=qfY [] s
 have hc:=qfW s
 have hsh:=qdG [] s
 generalize spl [] s=ws at hlen hsh
 obtain⟨w0,tl,rfl⟩: ∃w0 tl,ws=w0::tl:=by
  cases ws with
  |nil=>simp at hlen
  |cons x xs=>exact⟨x,xs,rfl⟩
 unfold qiL
 have hh:(w0::tl).headD []=w0:=rfl
 rw[hh]
 obtain⟨a,b,ha,hb,e1,e2,e3⟩:=ql8 w0
 have hlen2:(w0::tl).length≤4601:=by omega
 have hlen3:=hlen2
 rw[List.length_cons]at hlen3
 simp only[zF,Option.bind_some,xN,List.getElem?_cons_zero,qiI]
 rw[show zx w0=((a:Int),(b:Int),(zx w0).2.2)from by rw[←e1,←e2]]
 simp only[Option.bind_some]
 cases hk:(zx w0).2.2 with
 |false=>simp[ev0]
 |true=>
  simp only[Bool.not_true,Bool.false_eq_true,if_false,Bool.true_and]
  have w1:w64 (1+(a:Int))=((1+a:Nat):Int):=by rw[jP (by omega) (by omega)];omega
  have w2:w64 (((1+a:Nat):Int)+(b:Int))=((1+a+b:Nat):Int):=by rw[jP (by omega) (by omega)];omega
  rw[w1,w2]
  by_cases hl:(w0::tl).length=1+a+b
  ·have d1:decide (((w0::tl).length:Int)=((1+a+b:Nat):Int))=true:=decide_eq_true (by omega)
   have d2:decide (((w0::tl).length:Int)=1+(a:Int)+(b:Int))=true:=decide_eq_true (by omega)
   rw[d1,d2]
   simp only[Bool.not_true,Bool.false_eq_true,if_false,Bool.true_and,qiD (N:=N) (l:=w0::tl) (v:=[]) (by omega) (by omega),Option.bind_some]
   cases hany:(w0::tl).any fun w=>([]:Str)==w with
   |true=>simp[ev0]
   |false=>
    simp only[Bool.false_eq_true,if_false,Bool.not_false,Bool.true_and]
    rw[show cut (w0::tl) 1 ((1+a:Nat):Int)=cut (w0::tl) ((1:Nat):Int) ((1+a:Nat):Int)from rfl,qli (by omega) (by omega),Option.bind_some,qlL (by simp;omega),Option.bind_some,xJ (by omega),Option.bind_some]
    have hL:=qfq ((w0::tl).drop (1+a)) (by simp;omega) (fun w hw=>by have:=hsh w (List.mem_of_mem_drop hw);simp at this;omega) N 0 [] (by omega) (by simp;omega) (by simp)
    rw[List.drop_zero,List.nil_append]at hL
    rw[show zO ((w0::tl).drop (1+a)) N [] 0=_ from hL,show 1+a-1=a by omega,Int.toNat_natCast]
    cases hall:((w0::tl).drop (1+a)).all fun w=>(qch w).2 with
    |true=>simp only[if_true,Option.bind_some]
    |false=>simp only[Bool.false_eq_true,if_false,Option.bind_some]
  ·have d1:decide (((w0::tl).length:Int)=((1+a+b:Nat):Int))=false:=decide_eq_false (by omega)
   have d2:decide (((w0::tl).length:Int)=1+(a:Int)+(b:Int))=false:=decide_eq_false (by omega)
   rw[d1,d2]
   simp[ev0]
def goP (a:Nat):List Str→Nat→List Str→List Int→Option (List Str×List Int)
 |[],_,l8,l9=>some (l8,l9)
 |w::ws,i,l8,l9=>if(w==[])=true then none else if i≤a then goP a ws (i+1) (l8++[w]) l9 else if(qch w).2=true then goP a ws (i+1) l8 (l9++[(qch w).1])else none
theorem qnW {d:Nat} (h:d<10):cut ([48,49,50,51,52,53,54,55,56,57]:Str) (d:Int) (w64 ((d:Int)+1))=some [UInt8.ofNat (48+d)]:=by
 rw[qK (by omega)]
 have: ∀k:Fin 10,cut ([48,49,50,51,52,53,54,55,56,57]:Str) ((k.1:Nat):Int) ((k.1+1:Nat):Int)=some [UInt8.ofNat (48+k.1)]:=by decide
 exact this ⟨d,h⟩
theorem qgE: ∀(K n:Nat) (s:Str),n<10^9→s.length+K≤100→(0<n∨1≤s.length)→n<10^K→zi 1 (K+1) (n:Int) s=some (if n=0 then s else Lib.decDigits n++s)
 |K,n,s,hn,hs,h0,hK=>by
  unfold zi
  by_cases hz:n=0
  ·subst hz
   have h1:1≤s.length:=by omega
   rw[if_neg (by omega),decide_eq_false (by omega),Option.bind_some,if_neg (by decide),if_pos rfl]
  ·have e1:((n:Int)).tmod 10=((n%10:Nat):Int):=by rw[Int.tmod_eq_emod_of_nonneg (by omega)];omega
   have e2:((n:Int)).tdiv 10=((n/10:Nat):Int):=by rw[Int.tdiv_eq_ediv_of_nonneg (by omega)];omega
   have e3:cat [UInt8.ofNat (48+n%10)] s=some ([UInt8.ofNat (48+n%10)]++s):=by
    unfold cat
    rw[if_pos (by simp only[List.length_cons,List.length_nil];omega)]
   rw[if_pos (by omega),Option.bind_some,if_pos rfl,e1,qnW (Nat.mod_lt _ (by decide)),Option.bind_some,e3,Option.bind_some,e2,jP (by omega) (by omega),if_neg hz]
   match K,hK with
   |0,hK=>simp at hK;omega
   |K+1,hK=>
    rw[qgE K (n/10) _ (by omega) (by simp only[List.length_append,List.length_cons,List.length_nil];omega) (.inr (by simp)) (by rw[Nat.pow_succ]at hK;omega)]
    by_cases hd:n<10
    ·rw[if_pos (by omega),Lib.decDigits,dif_pos hd,Nat.mod_eq_of_lt hd]
    ·rw[if_neg (by omega)]
     conv=>rhs;rw[Lib.decDigits,dif_neg hd]
     rw[List.append_assoc]
theorem qkn {N n:Nat} (hN:100<N) (h0:0<n) (hn:n<10^9):yT N (n:Int) 1=some (Lib.decDigits n):=by
 unfold yT
 obtain⟨K,rfl⟩: ∃K,N=K+1:=⟨N-1,by omega⟩
 have mono: ∀(K n:Nat) (s:Str) (r:Str),n<10^9→zi 1 K (n:Int) s=some r→ ∀j,zi 1 (K+j) (n:Int) s=some r:=by
  intro K
  induction K with
  |zero=>intro n s r _ h;simp[zi]at h
  |succ K ih=>
   intro n s r hn h j
   rw[show K+1+j=(K+j)+1 by omega]
   unfold zi at h⊢
   obtain⟨b,e,h⟩:=bnd h
   rw[e,Option.bind_some]
   by_cases hb:b=true
   ·rw[if_pos hb]at h⊢
    obtain⟨x,e1,h⟩:=bnd h
    obtain⟨y,e2,h⟩:=bnd h
    rw[e1,Option.bind_some,e2,Option.bind_some]
    have e4:((n:Int)).tdiv 10=((n/10:Nat):Int):=by rw[Int.tdiv_eq_ediv_of_nonneg (by omega)];omega
    rw[e4,jP (by omega) (by omega)]at h⊢
    exact ih _ _ _ (by omega) h j
   ·rw[if_neg hb]at h⊢
    exact h
 have h:=qgE 9 n [] hn (by simp) (.inl h0) hn
 have h2:=mono _ _ _ _ hn h (K-9)
 rw[show 9+1+(K-9)=K+1 by omega]at h2
 rw[h2,Option.bind_some,if_neg (by omega),List.append_nil]
theorem qk3 {N n:Nat} (hN:100<N) (hn:n<10^9):xu N (n:Int)=some (Lib.itoa (n:Int)):=by
 have ei:Lib.itoa (n:Int)=Lib.decDigits n:=by unfold Lib.itoa;rw[if_neg (by omega)];simp
 obtain⟨K,rfl⟩: ∃K,N=K+2:=⟨N-2,by omega⟩
 unfold xu qaP qbL
 by_cases h0:n=0
 ·subst h0
  have e1:zQ (K+2) [] ((0:Nat):Int)=some []:=by unfold zQ;rw[if_neg (by simp)]
  have e2:jX (K+2) []=some []:=by unfold jX;simp
  rw[e1,Option.bind_some]
  simp only[qaw,qbq,e2,Option.bind_some,show decide (((0:Nat):Int)<0)=false by decide,Bool.false_eq_true,if_false]
  simp only[qbo,List.length_nil,Option.bind_some]
  rw[if_pos (by simp),Option.bind_some,Option.bind_some,ei]
  rw[Lib.decDigits,dif_pos (by decide)]
  rfl
 ·have t1:((n:Int)).tmod 1000000000=(n:Int):=by rw[Int.tmod_eq_emod_of_nonneg (by omega)];omega
  have t2:((n:Int)).tdiv 1000000000=((0:Nat):Int):=by rw[Int.tdiv_eq_ediv_of_nonneg (by omega)];omega
  have e0:zQ (K+1) [(n:Int)] ((0:Nat):Int)=some [(n:Int)]:=by unfold zQ;rw[if_neg (by simp)]
  have e1:zQ (K+2) [] (n:Int)=some [(n:Int)]:=by
   unfold zQ
   rw[if_pos (by simp;omega),t1,if_neg (by omega),Option.bind_some,vv (by simp) (by simp),Option.bind_some,t2,jP (by omega) (by omega)]
   exact e0
  have e2:jX (K+2) [(n:Int)]=some [(n:Int)]:=by
   unfold jX
   have:w64 ((([(n:Int)].length:Nat):Int)-1)=((0:Nat):Int):=qcF (k:=1) (by omega) (by omega)
   rw[if_pos (by simp),this,qA]
   simp only[List.getElem?_cons_zero,Option.bind_some]
   rw[decide_eq_false (by omega),if_neg (by decide)]
  rw[e1,Option.bind_some]
  simp only[qaw,qbq,e2,Option.bind_some]
  rw[decide_eq_false (by omega),if_neg (by decide)]
  simp only[Option.bind_some,qbo]
  have l1:w64 ((([(n:Int)].length:Nat):Int)-1)=((0:Nat):Int):=qcF (k:=1) (by omega) (by omega)
  have l2:w64 ((([(n:Int)].length:Nat):Int)-2)= -1:=by
   rw[jP (by simp) (by simp)];simp
  rw[if_neg (by simp),l1,qA]
  simp only[List.getElem?_cons_zero,Option.bind_some]
  rw[qkn (by omega) (by omega) hn,Option.bind_some,l2]
  have e3:yj (K+2) ⟨false,[(n:Int)]⟩ (K+2) (Lib.decDigits n) (-1)=some (Lib.decDigits n):=by unfold yj;rw[if_neg (by omega)]
  rw[e3,Option.bind_some,if_neg (by decide),Option.bind_some,ei]
  rfl
def qfD (x:Nat) (s:Str):Nat:=s.foldl (fun x c=>(31*x+c.toNat)%9999991) x
theorem qe7 (x:Nat) (c:UInt8) (s:Str):qfD x (c::s)=qfD ((31*x+c.toNat)%9999991) s:=rfl
theorem qfV: ∀(s:Str) {x:Nat},x<9999991→qfD x s<9999991
 |[],x,h=>h
 |c::s,x,h=>by rw[qe7];exact qfV s (Nat.mod_lt _ (by decide))
theorem qiX {x:Nat} (hx:x<9999991) (c:UInt8):((w64 ((w64 (31*(x:Int)))+(w64 (c.toNat:Int)))).tmod 9999991)=(((31*x+c.toNat)%9999991:Nat):Int):=by
 have hc:c.toNat<256:=c.toNat_lt
 rw[jP (n:=31*(x:Int)) (by omega) (by omega),jP (n:=(c.toNat:Int)) (by omega) (by omega),jP (by omega) (by omega),Int.tmod_eq_emod_of_nonneg (by omega)]
 omega
theorem qnG (s:Str) (hs:s.length<100000): ∀(K i x:Nat),x<9999991→i≤s.length→s.length<K+i→vL s K (x:Int) (i:Int)=some ((qfD x (s.drop i):Nat):Int)
 |0,i,x,_,h1,h2=>by omega
 |K+1,i,x,hx,h1,h2=>by
  unfold vL
  by_cases hi:i<s.length
  ·rw[if_pos (by omega),qA,List.getElem?_eq_getElem hi,Option.bind_some,qiX hx,qK (by omega),qnG s hs K (i+1) _ (Nat.mod_lt _ (by decide)) (by omega) (by omega),List.drop_eq_getElem_cons hi,qe7]
  ·rw[if_neg (by omega),List.drop_eq_nil_of_le (by omega)]
   rfl
theorem qkO (s:Str) (hs:s.length<100000): ∀(K i x:Nat),x<9999991→i≤s.length→s.length<K+i→yc s K (x:Int) (i:Int)=some ((qfD x (s.drop i):Nat):Int)
 |0,i,x,_,h1,h2=>by omega
 |K+1,i,x,hx,h1,h2=>by
  unfold yc
  by_cases hi:i<s.length
  ·rw[if_pos (by omega),qA,List.getElem?_eq_getElem hi,Option.bind_some,qiX hx,qK (by omega),qkO s hs K (i+1) _ (Nat.mod_lt _ (by decide)) (by omega) (by omega),List.drop_eq_getElem_cons hi,qe7]
  ·rw[if_neg (by omega),List.drop_eq_nil_of_le (by omega)]
   rfl
theorem qdF: ∀(k n:Nat),n<10^(k+1)→(Lib.decDigits n).length≤k+1
 |0,n,h=>by rw[Lib.decDigits,dif_pos (by simpa using h)];simp
 |k+1,n,h=>by
  rw[Lib.decDigits]
  split
  ·simp
  ·have:=qdF k (n/10) (by rw[Nat.pow_succ]at h;omega)
   simp only[List.length_append,List.length_cons,List.length_nil]
   omega
theorem qeA (n:Nat):Lib.itoa (n:Int)=Lib.decDigits n:=by unfold Lib.itoa;rw[if_neg (by omega)];simp
def qex (s:Str):Str:=List.replicate (7-(Lib.decDigits (qfD 7 s)).length) 48++Lib.decDigits (qfD 7 s)
theorem qkD: ∀n:Nat,Lib.repeatL [(48:UInt8)] n=List.replicate n 48
 |0=>rfl
 |n+1=>by
  show 48::Lib.repeatL [48] n=_
  rw[qkD n];rfl
theorem qmD {N:Nat} {s:Str} (hs:s.length<100000) (hN:s.length<N):qaB N s=some (qex s):=by
 unfold qaB
 have h0:=qnG s hs N 0 7 (by decide) (by omega) (by omega)
 have hx:=qfV s (x:=7) (by decide)
 have hl:=qdF 6 (qfD 7 s) (by omega)
 rw[show vL s N 7 0=_ from h0,List.drop_zero,Option.bind_some]
 unfold qdW
 rw[if_pos (by omega),qeA,Option.bind_some]
 have e:w64 (7-((Lib.decDigits (qfD 7 s)).length:Int))=((7-(Lib.decDigits (qfD 7 s)).length:Nat):Int):=by rw[jP (by omega) (by omega)];omega
 rw[e]
 unfold qfN
 rw[if_pos (by simp;omega),Option.bind_some,Int.toNat_natCast,qkD]
 unfold cat qex
 rw[if_pos (by simp;omega)]
 rfl
theorem qkE: ∀(K:Nat) (t:Str),t.length≤7→7<K+t.length→yH K t=some (List.replicate (7-t.length) 48++t)
 |0,t,h1,h2=>by omega
 |K+1,t,h1,h2=>by
  unfold yH
  by_cases h:t.length<7
  ·rw[if_pos (by omega)]
   unfold cat
   rw[if_pos (by simp;omega),Option.bind_some,qkE K _ (by simp;omega) (by simp;omega)]
   have e:7-t.length=(7-([48]++t:Str).length)+1:=by simp;omega
   rw[e,List.replicate_succ',List.append_assoc]
  ·rw[if_neg (by omega),show 7-t.length=0 by omega]
   rfl
theorem qoi {N:Nat} {s:Str} (hs:s.length<100000) (hN:s.length<N) (h1:100<N):qcb N s=some (qex s):=by
 unfold qcb
 have h0:=qkO s hs N 0 7 (by decide) (by omega) (by omega)
 have hx:=qfV s (x:=7) (by decide)
 have hl:=qdF 6 (qfD 7 s) (by omega)
 rw[show yc s N 7 0=_ from h0,List.drop_zero,Option.bind_some,qk3 h1 (by omega),qeA,Option.bind_some,qkE N _ hl (by omega)]
 rfl
theorem qeS (s:Str):(qex s).length=7:=by
 have hx:=qfV s (x:=7) (by decide)
 have hl:=qdF 6 (qfD 7 s) (by omega)
 unfold qex
 simp;omega
def qcX (s:Str):Str×Str:=match qcU s with
 |some k=>(s.take k,s.drop (k+1))
 |none=>(s,[])
theorem qo5 {s:Str} (hs:s.length<100000): ∃b,strings_Cut s [32]=some ((qcX s).1,(qcX s).2,b):=by
 have hi:=qi5 (s:=s)
 unfold strings_Index at hi
 have hi2:stringslite_Index s [32]=some (qeH 32 s 0):=by
  cases h:stringslite_Index s [32]with
  |none=>rw[h]at hi;cases hi
  |some r=>rw[h]at hi;exact hi
 unfold strings_Cut stringslite_Cut qcX
 rw[hi2,Option.bind_some,qe2]
 cases hp:qcU s with
 |none=>exact⟨false,by simp⟩
 |some k=>
  have hk:=(qdJ hp).1
  simp only[Nat.zero_add]
  refine⟨true,?_⟩
  have e:w64 ((k:Int)+(([32]:Str).length:Int))=((k+1:Nat):Int):=qK (by omega)
  rw[if_pos (by omega),yN (by omega),Option.bind_some,e,xJ (by omega)]
  rfl
def qfH (n:Int) (e:qb):qb:=⟨n,e.Kind,e.Names,e.Values,e.Text⟩
theorem qmP (s:Str):(spl [] s).length≤s.length+1:=by rw[qfY];have:=qfW s;omega
theorem qjy {N:Nat} (hN:6000<N) {s:Str} (hs:s.length≤4600) (n:Int):qaI N (qfH n (qd7 s).1):=by
 have hl:=qmP s
 unfold qd7 qiL
 split
 ·refine⟨?_,?_,fun w hw=>?_⟩
  ·simp only[qfH,List.length_take,List.length_drop];omega
  ·simp only[qfH,List.length_map,List.length_drop];omega
  ·have:=qdG [] s w (List.mem_of_mem_drop (List.mem_of_mem_take hw))
   simp at this;omega
 ·refine⟨by simp[qfH,ev0];omega,by simp[qfH,ev0];omega,fun w hw=>by simp[qfH,ev0]at hw⟩
def qdo (b:Str):qb×Bool:=
 (qfH (qch (qcX b).1).1 (qd7 (qcX b).2).1,(qch (qcX b).1).2&&((qd7 (qcX b).2).2&&decide (qG (qfH (qch (qcX b).1).1 (qd7 (qcX b).2).1)=0)))
theorem qnY (s:Str):(qcX s).1.length≤s.length∧(qcX s).2.length≤s.length:=by
 unfold qcX
 split<;>simp<;>omega
theorem qjH {N:Nat} (hN:6000<N) (hM:N<4611686018427387904) {s:Str} (hs:s.length≤4600):yO N s=some (qdo s):=by
 obtain⟨b,hc⟩:=qo5 (s:=s) (by omega)
 have hl:=qnY s
 unfold yO qdo
 rw[hc,Option.bind_some]
 simp only
 rw[qgv (by omega),Option.bind_some,qjd (by omega) hN,Option.bind_some]
 by_cases h1:(qch (qcX s).1).2=true
 ·rw[if_pos h1,h1]
  by_cases h2:(qd7 (qcX s).2).2=true
  ·have:=qb0 hM (by omega) (qjy hN (s:=(qcX s).2) (by omega) (qch (qcX s).1).1)
   unfold qfH at this⊢
   rw[if_pos h2,this,h2]
   simp
  ·rw[if_neg h2,Bool.eq_false_iff.2 h2]
   simp[qfH]
 ·rw[if_neg h1,Bool.eq_false_iff.2 h1]
  simp[qfH]
def qac (s:Str):qb×Int:=
 if 8≤s.length∧s[s.length-8]? =some 59∧(s.drop (s.length-7)).all qaJ=true then
  if s.drop (s.length-7)=qex (s.take (s.length-8))then
   if(qdo (s.take (s.length-8))).2=true then((qdo (s.take (s.length-8))).1,0)else(ev0,25)
  else(ev0,27)
 else(ev0,25)
theorem qnd {c:UInt8}:((c.toNat:Int)=59)↔c=59:=⟨fun h=>UInt8.toNat_inj.1 (show c.toNat=59 by omega),fun h=>by subst h;rfl⟩
theorem qn2 {N:Nat} (hN:6000<N) (hM:N<4611686018427387904) {s:Str} (hs:s.length≤4600) (n:Int):
 ∃e b,zK N s n=some (e,b)∧((qac s).2≠0→b=(qac s).2)∧((qac s).2=0→e=(qac s).1∧b=if e.Number=n then 0 else 11):=by
 unfold zK
 have hno: ¬(8≤s.length∧s[s.length-8]? =some 59∧(s.drop (s.length-7)).all qaJ=true)→qac s=(ev0,25):=fun h=>by unfold qac;rw[if_neg h]
 by_cases h8:8≤s.length
 ·have e1:w64 ((s.length:Int)-7)=((s.length-7:Nat):Int):=by rw[jP (by omega) (by omega)];omega
  have e2:w64 (((s.length-7:Nat):Int)-1)=((s.length-8:Nat):Int):=by rw[qcF (by omega) (by omega)];congr 1
  have hi:s.length-8<s.length:=by omega
  simp only[e1,e2]
  rw[if_neg (by omega),qA,List.getElem?_eq_getElem hi,Option.bind_some]
  by_cases hc:s[s.length-8]=59
  ·rw[if_neg (by simp[qnd,hc]),xJ (by omega),Option.bind_some,qfp (by simp;omega),decide_eq_true (by simp;omega),Bool.true_and,Option.bind_some]
   simp only[Option.bind_some]
   by_cases hd:(s.drop (s.length-7)).all qaJ=true
   ·have hyes:qac s=if s.drop (s.length-7)=qex (s.take (s.length-8))then
     if(qdo (s.take (s.length-8))).2=true then((qdo (s.take (s.length-8))).1,0)else(ev0,25)
     else(ev0,27):=by
     unfold qac
     rw[if_pos ⟨h8,by rw[List.getElem?_eq_getElem hi,hc],hd⟩]
    rw[hd,if_neg (by decide),e2,yN (by omega),Option.bind_some,xJ (by omega),Option.bind_some,qmD (by simp;omega) (by simp;omega),Option.bind_some]
    by_cases ht:s.drop (s.length-7)=qex (s.take (s.length-8))
    ·rw[if_pos ht]at hyes
     rw[if_neg (by simp[ht]),qjH hN hM (by simp;omega),Option.bind_some,qaQ,Option.bind_some,qaQ,Option.bind_some,xR (by simp) (by simp;omega),Option.bind_some,hyes]
     refine⟨_,_,rfl,?_⟩
     by_cases hb:(qdo (s.take (s.length-8))).2=true
     ·rw[if_pos hb]
      refine⟨fun h=>absurd rfl h,fun _=>⟨rfl,?_⟩⟩
      by_cases hn:(qdo (s.take (s.length-8))).1.Number=n
      ·simp[zl,hb,hn]
      ·simp[zl,hb,hn]
     ·rw[if_neg hb]
      refine⟨fun _=>?_,fun h=>absurd h (by decide)⟩
      simp[zl,hb]
    ·rw[if_neg ht]at hyes
     rw[if_pos (by simp[ht]),hyes]
     exact⟨_,_,rfl,fun _=>rfl,fun h=>absurd h (by decide)⟩
   ·rw[Bool.eq_false_iff.2 hd,if_pos (by decide),hno (fun h=>hd h.2.2)]
    exact⟨_,_,rfl,fun _=>rfl,fun h=>absurd h (by decide)⟩
  ·rw[if_pos (by simp[qnd,hc])]
   simp only[Option.bind_some,if_true]
   rw[hno (fun h=>hc (by have:=h.2.1;rw[List.getElem?_eq_getElem hi]at this;exact Option.some.inj this))]
   exact⟨_,_,rfl,fun _=>rfl,fun h=>absurd h (by decide)⟩
 ·rw[hno (fun h=>h8 h.1)]
  have e1:w64 ((s.length:Int)-7)<1:=by rw[jP (by omega) (by omega)];omega
  rw[if_pos e1]
  simp only[Option.bind_some,if_true]
  exact⟨_,_,rfl,fun _=>rfl,fun h=>absurd h (by decide)⟩
theorem qj1 {s:Str} (hs:s.length<100000):strings_CutSuffix (s++[10]) [10]=some (s,true):=by
 have hl:(s++[10]:Str).length=s.length+1:=by simp
 have e1:w64 (((s++[10]:Str).length:Int)-(([10]:Str).length:Int))=(s.length:Int):=by
  rw[hl]
  exact qcF (k:=s.length+1) (by omega) (by omega)
 unfold strings_CutSuffix stringslite_CutSuffix stringslite_HasSuffix
 rw[if_pos (by simp;omega),e1,xJ (by simp),Option.bind_some,Option.bind_some,Option.bind_some]
 have e2:(s++[10]:Str).drop s.length=[10]:=by simp
 rw[e2,if_neg (by decide),yN (by simp)]
 simp
theorem ql6 {s:Str} (hs:s.length<100000) (h: ∀t,s≠t++[10]):strings_CutSuffix s [10]=some (s,false):=by
 unfold strings_CutSuffix stringslite_CutSuffix stringslite_HasSuffix
 by_cases h1:1≤s.length
 ·have e1:w64 ((s.length:Int)-(([10]:Str).length:Int))=((s.length-1:Nat):Int):=qcF (by omega) (by omega)
  have e2: ¬s.drop (s.length-1)=[10]:=fun e=>h (s.take (s.length-1)) (by rw[←e,List.take_append_drop])
  rw[if_pos (by simp;omega),e1,xJ (by omega),Option.bind_some,Option.bind_some,Option.bind_some,if_pos (by simp[e2])]
  rfl
 ·rw[if_neg (by simp;omega),Option.bind_some,Option.bind_some,if_pos (by decide)]
  rfl
def qdP (s:Str) (out:List qb):Int:=if(qac s).2=0 then(if(qac s).1.Number=((out.length+1:Nat):Int)then 0 else 11)else(qac s).2
def oL (out:List qb):Option (List qb):=if out=[]then none else some out
theorem qo0 (out:List qb):hof (oL out)=out:=by
 unfold oL
 split
 ·rename_i h;subst h;rfl
 ·rfl
theorem ql0 {N:Nat} (hN:6000<N) (hM:N<4611686018427387904) {s:Str} (hs:s.length≤4600) (a0 a1 n7 e:Int) (out:List qb) (ho:out.length≤6000):
 zJ N a0 a1 (oL out) n7 e (s++[10])=some (if qdP s out=0 then .inl (out++[(qac s).1])else .inr (qdP s out,oL out)):=by
 unfold zJ
 rw[qj1 (by omega),Option.bind_some,if_neg (by simp)]
 obtain⟨ev,b,h1,h2,h3⟩:=qn2 hN hM hs ((out.length+1:Nat):Int)
 have hb:b=qdP s out:=by
  unfold qdP
  by_cases h0:(qac s).2=0
  ·rw[if_pos h0];obtain⟨e1,e2⟩:=h3 h0;rw[e2,e1]
  ·rw[if_neg h0];exact h2 h0
 have hev:b=0→ev=(qac s).1:=fun h=>by
  by_cases h0:(qac s).2=0
  ·exact(h3 h0).1
  ·exact absurd ((h2 h0).symm.trans h) h0
 have e0:w64 ((0:Int)+1)=1:=by decide
 by_cases hz:out=[]
 ·subst hz
  have h1':zK N s (w64 (0+1))=some (ev,b):=by rw[e0];exact h1
  simp only[oL,if_true,h1',Option.bind_some]
  rw[←hb]
  by_cases h0:b=0
  ·rw[if_neg (by simp[h0]),if_pos h0,hev h0]
   rfl
  ·rw[if_pos (by simp[h0]),if_neg h0]
 ·have h1':zK N s (w64 ((out.length:Int)+1))=some (ev,b):=by rw[qK (by omega)];exact h1
  simp only[oL,if_neg hz,h1',Option.bind_some]
  rw[←hb]
  by_cases h0:b=0
  ·rw[if_neg (by simp[h0]),vv (by simp;omega) (by simp;omega),Option.bind_some,Option.bind_some,if_pos h0,hev h0]
  ·rw[if_pos (by simp[h0]),if_neg h0]
theorem qmX {N:Nat} {s:Str} (hs:s.length<100000) (h: ∀t,s≠t++[10]) (a0 a1 n7 e:Int) (out:List qb):zJ N a0 a1 (oL out) n7 e s=some (.inr (28,oL out)):=by
 unfold zJ
 rw[ql6 hs h,Option.bind_some,if_pos (by simp)]
 unfold oL
 by_cases hz:out=[]
 ·rw[if_pos hz];rfl
 ·rw[if_neg hz];rfl
def qcy:Str→Option Nat
 |[]=>none
 |c::s=>if c=10 then some 0 else(qcy s).map (· +1)
theorem qhR: ∀(s:Str) (j:Nat),qeH 10 s j=match qcy s with|some k=>((j+k:Nat):Int)|none=> -1
 |[],_=>rfl
 |c::s,j=>by
  show zL (Nat.beq c.toNat 10) (Int.ofNat j) (qeH 10 s (j+1))=_
  rw[qN,qhR s (j+1),qcy]
  by_cases h:c=10
  ·subst h;rfl
  ·have h2:c.toNat≠10:=fun e=>h (UInt8.toNat_inj.1 (by rw[e];rfl))
   rw[if_neg (by rw[qas h2];simp),if_neg h]
   cases qcy s with
   |none=>rfl
   |some k=>
    simp only[Option.map_some]
    congr 1
    omega
theorem qh0: ∀{s:Str} {k:Nat},qcy s=some k→k<s.length∧s.take (k+1)=s.take k++[10]
 |[],k,h=>by cases h
 |c::s,k,h=>by
  unfold qcy at h
  by_cases hc:c=10
  ·rw[if_pos hc]at h;injection h with h;subst h;subst hc;exact⟨by simp,rfl⟩
  ·rw[if_neg hc]at h
   cases hp:qcy s with
   |none=>rw[hp]at h;cases h
   |some j=>
    rw[hp]at h;injection h with h;subst h
    obtain⟨h1,h2⟩:=qh0 hp
    exact⟨by simp;omega,by rw[List.take_succ_cons,h2];rfl⟩
theorem qhE: ∀{s:Str},qcy s=none→ ∀t,s≠t++[10]
 |[],_,t=>by cases t<;>simp
 |c::s,h,t=>by
  unfold qcy at h
  by_cases hc:c=10
  ·rw[if_pos hc]at h;cases h
  ·rw[if_neg hc]at h
   have hn:qcy s=none:=by cases hp:qcy s with
    |none=>rfl
    |some j=>rw[hp]at h;cases h
   intro e
   cases t with
   |nil=>simp at e;exact hc e.1
   |cons d t=>simp at e;exact qhE hn t e.2
def scan:Str→Str→List qb→Nat→List qb×Nat×Int
 |[],cur,out,f=>(out,f,if cur=[]then 0 else 28)
 |c::s,cur,out,f=>if c=10 then(if qdP cur out=0 then scan s [] (out++[(qac cur).1]) (f+cur.length+1)else(out,f,qdP cur out))else scan s (cur++[c]) out f
theorem qhK: ∀{s:Str} (cur:Str) (out:List qb) (f:Nat),qcy s=none→scan s cur out f=(out,f,if cur++s=[]then 0 else 28)
 |[],cur,out,f,_=>by rw[List.append_nil];rfl
 |c::s,cur,out,f,h=>by
  unfold qcy at h
  by_cases hc:c=10
  ·rw[if_pos hc]at h;cases h
  ·rw[if_neg hc]at h
   have hn:qcy s=none:=by cases hp:qcy s with
    |none=>rfl
    |some j=>rw[hp]at h;cases h
   unfold scan
   rw[if_neg hc,qhK (cur++[c]) out f hn]
   simp
theorem qhk: ∀{s:Str} {k:Nat} (cur:Str) (out:List qb) (f:Nat),qcy s=some k→
 scan s cur out f=if qdP (cur++s.take k) out=0 then scan (s.drop (k+1)) [] (out++[(qac (cur++s.take k)).1]) (f+(cur++s.take k).length+1)else(out,f,qdP (cur++s.take k) out)
 |[],k,cur,out,f,h=>by cases h
 |c::s,k,cur,out,f,h=>by
  unfold qcy at h
  by_cases hc:c=10
  ·rw[if_pos hc]at h;injection h with h;subst h
   conv=>lhs;unfold scan
   rw[if_pos hc]
   simp
  ·rw[if_neg hc]at h
   cases hp:qcy s with
   |none=>rw[hp]at h;cases h
   |some j=>
    rw[hp]at h;injection h with h;subst h
    conv=>lhs;unfold scan
    rw[if_neg hc,qhk (cur++[c]) out f hp]
    simp
theorem qiK {N:Nat} (hN:6000<N) (hM:N<4611686018427387904) (a0 a1:Int) {s:Str} (hs:s.length≤4600): ∀(K f:Nat) (out:List qb),f≤s.length→s.length<K+f→out.length≤f→
 qC N a0 a1 s K (f:Int) (oL out) (f:Int)=some (if(scan (s.drop f) [] out f).2.2=0 then .inl (((scan (s.drop f) [] out f).2.1:Int),oL (scan (s.drop f) [] out f).1)
  else .inr (.inr (((scan (s.drop f) [] out f).2.1:Int),(scan (s.drop f) [] out f).2.2,((scan (s.drop f) [] out f).2.1:Int),oL (scan (s.drop f) [] out f).1)))
 |0,f,out,h1,h2,_=>by omega
 |K+1,f,out,h1,h2,h3=>by
  unfold qC
  by_cases hf:f<s.length
  ·have hi:strings_IndexByte (s.drop f) 10=some (qeH 10 (s.drop f) 0):=by
    unfold strings_IndexByte stringslite_IndexByte qgs
    rw[if_pos (by decide)];rfl
   rw[if_pos (by omega),xJ (by omega),Option.bind_some,hi,Option.bind_some,qhR]
   cases hp:qcy (s.drop f)with
   |none=>
    have hne:=qhE hp
    simp only
    rw[if_neg (by omega),Option.bind_some,xJ (by omega),Option.bind_some,qmX (by simp;omega) hne,Option.bind_some,qhK [] out f hp]
    have: ¬(([]:Str)++s.drop f=[]):=by simp;omega
    rw[if_neg this]
    rfl
   |some k=>
    obtain⟨g1,g2⟩:=qh0 hp
    have hk:k<s.length-f:=by simpa using g1
    simp only[Nat.zero_add]
    have e1:w64 (w64 ((f:Int)+(k:Int))+1)=((f+k+1:Nat):Int):=by rw[jP (n:=(f:Int)+k) (by omega) (by omega),jP (by omega) (by omega)];omega
    rw[if_pos (by omega),Option.bind_some,e1,qli (by omega) (by omega),Option.bind_some,show f+k+1-f=k+1 by omega,g2,ql0 hN hM (by simp;omega) _ _ _ _ _ (by omega),Option.bind_some,qhk [] out f hp]
    simp only[List.nil_append]
    by_cases hb:qdP ((s.drop f).take k) out=0
    ·have hl:((s.drop f).take k).length=k:=by simp;omega
     simp only[if_pos hb]
     rw[hl,List.drop_drop]
     have ih:=qiK hN hM a0 a1 hs K (f+k+1) (out++[(qac ((s.drop f).take k)).1]) (by omega) (by omega) (by simp;omega)
     have eo:oL (out++[(qac ((s.drop f).take k)).1])=some (out++[(qac ((s.drop f).take k)).1]):=by unfold oL;rw[if_neg (by simp)]
     rw[eo]at ih
     rw[show f+(k+1)=f+k+1 by omega]
     exact ih
    ·simp only[if_neg hb]
  ·rw[if_neg (by omega),List.drop_eq_nil_of_le (by omega)]
   rfl
def finR (n:Nat):((List qb×Int)⊕(List qb×Int×Int))→List qb×Int×Int
 | .inl (l,f)=>if f<(n:Int)then(l,f,28)else(l,f,0)
 | .inr q=>q
theorem qed {N:Nat} (hN:6000<N) (hM:N<4611686018427387904) {s:Str} (hs:s.length≤4600):vO N s=some ((scan s [] [] 0).1,((scan s [] [] 0).2.1:Int),(scan s [] [] 0).2.2):=by
 have h:=qiK hN hM 0 0 hs N 0 [] (by omega) (by omega) (by simp)
 rw[List.drop_zero]at h
 unfold vO xV jN
 rw[if_neg (by omega),Option.bind_some]
 rw[show qC N 0 0 s N 0 (none:Option (List qb)) 0=_ from h]
 by_cases hb:(scan s [] [] 0).2.2=0
 ·rw[if_pos hb]
  simp only[Option.bind_some]
  generalize scan s [] [] 0=r at hb⊢
  obtain⟨l,f,b⟩:=r
  simp only at hb⊢
  subst hb
  unfold oL
  by_cases hl:l=[]
  ·subst hl;rfl
  ·rw[if_neg hl];rfl
 ·rw[if_neg hb]
  simp only[Option.bind_some,qo0]
def qcR:List Str→Str
 |[]=>[]
 |[x]=>x
 |x::y::r=>x++32::qcR (y::r)
theorem qcO {x:Str} {l:List Str} (h:l≠[]):qcR (x::l)=x++32::qcR l:=by
 cases l with
 |nil=>exact absurd rfl h
 |cons y r=>rfl
theorem qiO: ∀(s:Str) (n:Nat) (c:UInt8),qf8 n (s++[c])=qf8 n s*10+(c.toNat-48)
 |[],n,c=>by simp[qb7,qjq]
 |d::s,n,c=>by rw[List.cons_append,qb7,qb7,qiO s]
def qcv (e:qb):List Str:=Lib.itoa e.Number::e.Kind::(e.Names++e.Values.map Lib.itoa)
def vQ (e:qb):Str:=qcR (qcv e)
def qek (e:qb):Str:=vQ e++[59]++qex (vQ e)++[10]
def zX (l:List qb):Str:=l.flatMap qek
def tailW (l:List Str):Str:=l.flatMap fun w=>32::w
theorem qei (x:Str) (l:List Str):tailW (x::l)=[32]++x++tailW l:=rfl
theorem qcC: ∀(x:Str) (l:List Str),qcR (x::l)=x++tailW l
 |x,[]=>by simp[qcR,tailW]
 |x,y::r=>by rw[qcO (by simp),qcC y r];simp[tailW]
structure qdB (e:qb):Prop where
 n:0≤e.Number∧e.Number<1000000000
 v: ∀x∈e.Values,0≤x∧x<1000000000
 names:e.Names.length≤100
 vals:e.Values.length≤100
 size:(vQ e).length≤1000000
theorem qal {a b:Str} (h:(a++b).length≤1000000000):cat a b=some (a++b):=by
 unfold cat
 rw[if_pos (by simp at h;omega)]
theorem qi7 {N:Nat} (hN:100<N) {x:Int} (h:0≤x∧x<1000000000):xu N x=some (Lib.itoa x):=by
 obtain⟨n,rfl⟩: ∃n:Nat,x=(n:Int):=⟨x.toNat,by omega⟩
 exact qk3 hN (by omega)
theorem qkH {e:qb} (hn:e.Names.length≤100): ∀(K i:Nat) (s:Str),i≤e.Names.length→e.Names.length<K+i→(s++tailW (e.Names.drop i)).length≤100000000→vK e K s (i:Int)=some (s++tailW (e.Names.drop i))
 |0,i,s,h1,h2,_=>by omega
 |K+1,i,s,h1,h2,h3=>by
  unfold vK
  by_cases hi:i<e.Names.length
  ·have ed:e.Names.drop i=e.Names[i]::e.Names.drop (i+1):=List.drop_eq_getElem_cons hi
   have et:s++tailW (e.Names.drop i)=(s++[32]++e.Names[i])++tailW (e.Names.drop (i+1)):=by rw[ed,qei,←List.append_assoc,←List.append_assoc]
   rw[et]at h3⊢
   have h4:=h3
   rw[List.length_append]at h4
   rw[if_pos (by omega),qal (by simp at h4⊢;omega),Option.bind_some,qA,List.getElem?_eq_getElem hi,Option.bind_some,qal (by omega),Option.bind_some,qK (by omega),qkH hn K (i+1) _ (by omega) (by omega) h3]
  ·rw[if_neg (by omega),List.drop_eq_nil_of_le (by omega)]
   simp[tailW]
theorem qkU {N:Nat} (hN:100<N) {e:qb} (hn:e.Values.length≤100) (hv: ∀x∈e.Values,0≤x∧x<1000000000): ∀(K i:Nat) (s:Str),i≤e.Values.length→e.Values.length<K+i→(s++tailW ((e.Values.drop i).map Lib.itoa)).length≤100000000→vJ N e K s (i:Int)=some (s++tailW ((e.Values.drop i).map Lib.itoa))
 |0,i,s,h1,h2,_=>by omega
 |K+1,i,s,h1,h2,h3=>by
  unfold vJ
  by_cases hi:i<e.Values.length
  ·have ed:e.Values.drop i=e.Values[i]::e.Values.drop (i+1):=List.drop_eq_getElem_cons hi
   have et:s++tailW ((e.Values.drop i).map Lib.itoa)=(s++[32]++Lib.itoa e.Values[i])++tailW ((e.Values.drop (i+1)).map Lib.itoa):=by rw[ed,List.map_cons,qei,←List.append_assoc,←List.append_assoc]
   rw[et]at h3⊢
   have h4:=h3
   rw[List.length_append]at h4
   rw[if_pos (by omega),qal (by simp at h4⊢;omega),Option.bind_some,qA,List.getElem?_eq_getElem hi,Option.bind_some,qi7 hN (hv _ (List.getElem_mem hi)),Option.bind_some,qal (by omega),Option.bind_some,qK (by omega),qkU hN hn hv K (i+1) _ (by omega) (by omega) h3]
  ·rw[if_neg (by omega),List.drop_eq_nil_of_le (by omega)]
   simp[tailW]
theorem qoj {N:Nat} (hN:6000<N) {e:qb} (h:qdB e):qaF N e=some (vQ e):=by
 have hsz:=h.size
 have eb:vQ e=((Lib.itoa e.Number++[32]++e.Kind)++tailW e.Names)++tailW (e.Values.map Lib.itoa):=by
  unfold vQ qcv
  rw[qcC]
  simp[tailW]
 rw[eb]at hsz⊢
 have h1:=hsz
 rw[List.length_append]at h1
 have h2:=h1
 rw[List.length_append]at h2
 have g0:=qkH h.names N 0 (Lib.itoa e.Number++[32]++e.Kind) (by omega) (by have:=h.names;omega) (by rw[List.drop_zero];omega)
 have g1:=qkU (show 100<N by omega) h.vals h.v N 0 ((Lib.itoa e.Number++[32]++e.Kind)++tailW e.Names) (by omega) (by have:=h.vals;omega) (by rw[List.drop_zero];omega)
 rw[List.drop_zero]at g0 g1
 unfold qaF
 rw[qi7 (by omega) h.n,Option.bind_some,qal (by simp at h2⊢;omega),Option.bind_some,qal (by omega),Option.bind_some,show vK e N _ 0=_ from g0,Option.bind_some,show vJ N e N _ 0=_ from g1]
 rfl
theorem qhw: ∀(r:List Str),Lib.joinTail [32] r=tailW r
 |[]=>rfl
 |x::r=>by
  have:=qhw r
  unfold Lib.joinTail at this⊢
  rw[List.map_cons,List.flatten_cons,this]
  rfl
theorem qoQ: ∀(l:List Str),Lib.join l [32]=qcR l
 |[]=>rfl
 |x::r=>by rw[Lib.join_cons,qcC,qhw]
theorem qhj {a:List Int} (hl:a.length≤100) (hv: ∀x∈a,0≤x∧x<1000000000): ∀(K k:Nat) (o:List Str),k≤a.length→a.length<K+k→o.length≤k→qI a K o (k:Int)=some (o++(a.drop k).map Lib.itoa)
 |0,k,o,h1,h2,_=>by omega
 |K+1,k,o,h1,h2,h3=>by
  unfold qI
  by_cases hk:k<a.length
  ·have hx:=hv _ (List.getElem_mem hk)
   have ht:qdW a[k]=some (Lib.itoa a[k]):=by unfold qdW;rw[if_pos (by omega)]
   rw[if_pos (by omega),qA,List.getElem?_eq_getElem hk,Option.bind_some,show qaO a[k]=some true from rfl,Option.bind_some,if_pos rfl,ht,Option.bind_some,vv (by simp;omega) (by simp;omega),Option.bind_some,Option.bind_some,qK (by omega),qhj hl hv K (k+1) _ (by omega) (by omega) (by simp;omega),List.drop_eq_getElem_cons hk,List.map_cons,List.append_assoc]
   rfl
  ·rw[if_neg (by omega),List.drop_eq_nil_of_le (by omega)]
   simp
theorem qlt {N:Nat} (hN:6000<N) {a:List Int} (hl:a.length≤100) (hv: ∀x∈a,0≤x∧x<1000000000):jf N a=some (a.map Lib.itoa):=by
 unfold jf
 have h:=qhj hl hv N 0 [] (by omega) (by omega) (by simp)
 rw[show qI a N [] 0=_ from h]
 simp
theorem qhH {sl:List (List Str)} (hs:sl.length≤100): ∀(K k n:Nat),k≤sl.length→sl.length<K+k→n+(sl.drop k).flatten.length≤100000→qW sl K (k:Int) (n:Int)=some ((n+(sl.drop k).flatten.length:Nat):Int)
 |0,k,n,h1,h2,_=>by omega
 |K+1,k,n,h1,h2,h3=>by
  unfold qW
  by_cases hk:k<sl.length
  ·have hd:sl.drop k=sl[k]::sl.drop (k+1):=List.drop_eq_getElem_cons hk
   rw[hd]at h3⊢
   rw[List.flatten_cons,List.length_append]at h3⊢
   have e1:w64 ((n:Int)+(sl[k].length:Int))=((n+sl[k].length:Nat):Int):=by rw[jP (by omega) (by omega)];omega
   rw[if_pos (by omega),qA,List.getElem?_eq_getElem hk,Option.bind_some,e1,if_neg (by omega),Option.bind_some,qK (by omega),qhH hs K (k+1) _ (by omega) (by omega) (by omega)]
   congr 2
   omega
  ·rw[if_neg (by omega),List.drop_eq_nil_of_le (by omega)]
   simp
theorem qhC {sl:List (List Str)} (hs:sl.length≤100): ∀(K k:Nat) (o:List Str),k≤sl.length→sl.length<K+k→o.length+(sl.drop k).flatten.length≤100000→qV sl K (some o) (k:Int)=some (some (o++(sl.drop k).flatten))
 |0,k,o,h1,h2,_=>by omega
 |K+1,k,o,h1,h2,h3=>by
  unfold qV
  by_cases hk:k<sl.length
  ·have hd:sl.drop k=sl[k]::sl.drop (k+1):=List.drop_eq_getElem_cons hk
   rw[hd]at h3⊢
   rw[List.flatten_cons,List.length_append]at h3
   rw[List.flatten_cons]
   rw[if_pos (by omega),qA,List.getElem?_eq_getElem hk,Option.bind_some]
   simp only
   rw[vv (by omega) (by omega),Option.bind_some,Option.bind_some,qK (by omega),qhC hs K (k+1) _ (by omega) (by omega) (by rw[List.length_append];omega),List.append_assoc]
  ·rw[if_neg (by omega),List.drop_eq_nil_of_le (by omega)]
   simp
theorem qn9 {n:Nat} (h0:0<n) (h1:n≤100000):jJ (n:Int)=some (some []):=by
 unfold jJ
 have e1:w64 ((n:Int)-(w64 (0-0)))=(n:Int):=by
  rw[show w64 (0-0)=0 by decide,jP (by omega) (by omega)]
  omega
 rw[e1,if_neg (by omega),Option.bind_some,if_pos (by omega)]
 have e2:qjw 16 (n:Int) ([]:Str)=some (List.replicate n []):=by
  unfold qjw
  rw[if_pos (by omega)]
  simp
 rw[e2]
 rfl
theorem qls {N:Nat} (hN:6000<N) {sl:List (List Str)} (hs:sl.length≤100) (h0:0<sl.flatten.length) (h1:sl.flatten.length≤100000):j3 N sl=some sl.flatten:=by
 have g0:=qhH hs N 0 0 (by omega) (by omega) (by rw[List.drop_zero];omega)
 have g1:=qhC hs N 0 [] (by omega) (by omega) (by rw[List.drop_zero];simp at h1⊢;omega)
 rw[List.drop_zero]at g0 g1
 unfold j3
 rw[show qW sl N 0 0=_ from g0,Option.bind_some,Nat.zero_add,qn9 h0 h1,Option.bind_some,show qV sl N (some []) 0=_ from g1]
 rfl
theorem qny {N:Nat} (hN:6000<N) {e:qb} (h:qdB e):qad N e=some (vQ e):=by
 unfold qad qbF
 have ht:qdW e.Number=some (Lib.itoa e.Number):=by unfold qdW;rw[if_pos (by have:=h.n;omega)]
 have hn:=h.names
 have hv:=h.vals
 have hsz:=h.size
 rw[ht,Option.bind_some,qlt hN h.vals h.v,Option.bind_some,qls hN (by simp) (by simp) (by simp;omega),Option.bind_some]
 have e1:([[Lib.itoa e.Number,e.Kind],e.Names,e.Values.map Lib.itoa]:List (List Str)).flatten=qcv e:=by simp[qcv]
 rw[e1]
 unfold qk9
 rw[qoQ,if_pos ⟨by simp[qcv];omega,by rw[show qcR (qcv e)=vQ e from rfl];omega⟩]
 rfl
theorem qn4 {N:Nat} (hN:6000<N) {e:qb} (h:qdB e) (hs:(vQ e).length<6000):xO N e=some (qek e):=by
 unfold xO
 have e1:=qeS (vQ e)
 rw[qny hN h,Option.bind_some,qal (by simp;omega),Option.bind_some,Option.bind_some,qmD (by omega) (by omega),Option.bind_some,qal (by simp;omega),Option.bind_some,qal (by simp;omega),Option.bind_some]
 rfl
theorem qla {N:Nat} (hN:6000<N) {l:List qb} (hl:l.length≤1000) (hw: ∀e∈l,qdB e∧(vQ e).length<6000): ∀(K k:Nat) (s:Str),k≤l.length→l.length<K+k→(s++zX (l.drop k)).length≤100000000→vZ N l K s (k:Int)=some (s++zX (l.drop k))
 |0,k,s,h1,h2,_=>by omega
 |K+1,k,s,h1,h2,h3=>by
  unfold vZ
  by_cases hk:k<l.length
  ·have hd:l.drop k=l[k]::l.drop (k+1):=List.drop_eq_getElem_cons hk
   obtain⟨w1,w2⟩:=hw _ (List.getElem_mem hk)
   have e1:=qeS (vQ l[k])
   have et:s++zX (l.drop k)=(s++vQ l[k]++[59]++qex (vQ l[k])++[10])++zX (l.drop (k+1)):=by
    rw[hd,zX,List.flatMap_cons,qek,zX]
    simp
   rw[et]at h3⊢
   have h4:=h3
   rw[List.length_append]at h4
   have h5:(s++vQ l[k]++[59]++qex (vQ l[k])++[10]).length≤100000000:=by omega
   rw[if_pos (by omega),qA,List.getElem?_eq_getElem hk,Option.bind_some,qoj hN w1,Option.bind_some,qal (by simp at h5⊢;omega),Option.bind_some,qal (by simp at h5⊢;omega),Option.bind_some,Option.bind_some,qoi (by omega) (by omega) (by omega),Option.bind_some,qal (by simp at h5⊢;omega),Option.bind_some,qal (by simp at h5⊢;omega),Option.bind_some,qK (by omega),qla hN hl hw K (k+1) _ (by omega) (by omega) h3]
  ·rw[if_neg (by omega),List.drop_eq_nil_of_le (by omega)]
   simp[zX]
theorem qoh {N:Nat} (hN:6000<N) {l:List qb} (hl:l.length≤1000) (hw: ∀e∈l,qdB e∧(vQ e).length<6000) (hs:(zX l).length≤1000000):qcj N l=some (zX l):=by
 unfold qcj
 have h:=qla hN hl hw N 0 [] (by omega) (by omega) (by rw[List.drop_zero];simp;omega)
 rw[List.drop_zero]at h
 rw[show vZ N l N [] 0=_ from h]
 rfl
theorem qeY {N:Nat} (l:List Str) (hl:l.length<4611686018427387904) (hN:l.length<N):vY N l l=some true:=by
 have key: ∀(K k:Nat),k≤l.length→l.length<K+k→zq l l K (k:Int)=some (.inl ()):=by
  intro K
  induction K with
  |zero=>intro k h hK;omega
  |succ K ih=>
   intro k h hK
   unfold zq
   by_cases hk:k<l.length
   ·rw[if_pos (by omega),qA,List.getElem?_eq_getElem hk,Option.bind_some,Option.bind_some,qK (by omega),if_neg (by simp)]
    exact ih (k+1) (by omega) (by omega)
   ·rw[if_neg (by omega)]
 unfold vY
 rw[if_neg (by simp),show zq l l N 0=zq l l N ((0:Nat):Int)from rfl,key N 0 (by omega) (by omega)]
 rfl
theorem qiE {N:Nat} (l:List Int) (hl:l.length<4611686018427387904) (hN:l.length<N):xk N l l=some true:=by
 have key: ∀(K k:Nat),k≤l.length→l.length<K+k→zD l l K (k:Int)=some (.inl ()):=by
  intro K
  induction K with
  |zero=>intro k h hK;omega
  |succ K ih=>
   intro k h hK
   unfold zD
   by_cases hk:k<l.length
   ·rw[if_pos (by omega),qA,List.getElem?_eq_getElem hk,Option.bind_some,Option.bind_some,qK (by omega),if_neg (by simp)]
    exact ih (k+1) (by omega) (by omega)
   ·rw[if_neg (by omega)]
 unfold xk
 rw[if_neg (by simp),show zD l l N 0=zD l l N ((0:Nat):Int)from rfl,key N 0 (by omega) (by omega)]
 rfl
theorem qhb {N:Nat} (l:List qb) (hl:l.length≤1003) (hN:6000<N) (hM:N<4611686018427387904) (hs: ∀e∈l,e.Names.length<N∧e.Values.length<N):vM N l l=some true:=by
 have key: ∀(K k:Nat),k≤l.length→l.length<K+k→zh N l l K (k:Int)=some (.inl ()):=by
  intro K
  induction K with
  |zero=>intro k h hK;omega
  |succ K ih=>
   intro k h hK
   unfold zh
   by_cases hk:k<l.length
   ·obtain⟨h1,h2⟩:=hs _ (List.getElem_mem hk)
    rw[if_pos (by omega),qA,List.getElem?_eq_getElem hk,Option.bind_some,Option.bind_some,if_neg (by simp),if_neg (by simp),qeY _ (by omega) h1,Option.bind_some,if_neg (by simp),qiE _ (by omega) h2,Option.bind_some,if_neg (by simp),Option.bind_some,qK (by omega),if_neg (by simp)]
    exact ih (k+1) (by omega) (by omega)
   ·rw[if_neg (by omega)]
 unfold vM
 rw[if_neg (by simp),show zh N l l N 0=zh N l l N ((0:Nat):Int)from rfl,key N 0 (by omega) (by omega)]
 rfl
theorem qhS {m:Nat}: ∀(l:List Str),(∀w∈l,w.length≤m)→(tailW l).length≤l.length*(m+1)
 |[],_=>by simp[tailW]
 |x::l,h=>by
  have h1:=qhS l fun w hw=>h w (List.mem_cons_of_mem _ hw)
  have h2:=h x (List.mem_cons_self ..)
  have h3:(l.length+1)*(m+1)=l.length*(m+1)+(m+1):=Nat.succ_mul ..
  rw[qei]
  simp only[List.length_append,List.length_cons,List.length_nil,h3]
  omega
theorem qiJ {x:Int} (h:0≤x∧x<1000000000):(Lib.itoa x).length≤9:=by
 obtain⟨n,rfl⟩: ∃n:Nat,x=(n:Int):=⟨x.toNat,by omega⟩
 rw[qeA]
 exact qdF 8 n (by omega)
theorem qaT {e:qb} (h:qG e=0):qdB e∧(vQ e).length≤200∧e.Names.length≤5∧e.Values.length≤5:=by
 have hv:=jY h
 have hn:=qbb h
 have hk:e.Names.length≤2∧e.Values.length≤3∧e.Kind.length≤6:=by
  have h1:=hv.names
  have h2:=hv.values
  rcases qge hv.form with h3|h3|h3|h3|h3|h3
  ·rw[h3,show zx y8=(2,3,true)by decide]at h1 h2;rw[h3];simp only at h1 h2;exact⟨by omega,by omega,by decide⟩
  ·rw[h3,show zx xS=(1,2,true)by decide]at h1 h2;rw[h3];simp only at h1 h2;exact⟨by omega,by omega,by decide⟩
  ·rw[h3,show zx qbB=(1,2,true)by decide]at h1 h2;rw[h3];simp only at h1 h2;exact⟨by omega,by omega,by decide⟩
  ·rw[h3,show zx xg=(1,1,true)by decide]at h1 h2;rw[h3];simp only at h1 h2;exact⟨by omega,by omega,by decide⟩
  ·rw[h3,show zx zS=(1,1,true)by decide]at h1 h2;rw[h3];simp only at h1 h2;exact⟨by omega,by omega,by decide⟩
  ·rw[h3,show zx xx=(0,0,true)by decide]at h1 h2;rw[h3];simp only at h1 h2;exact⟨by omega,by omega,by decide⟩
 have hnum:0≤e.Number∧e.Number<1000000000:=by have:=hv.num;omega
 have hval: ∀x∈e.Values,0≤x∧x<1000000000:=fun x hx=>by have:=hv.range x hx;omega
 have hb:(vQ e).length≤200:=by
  have h1:=qiJ hnum
  have h2:=qhS (m:=24) (e.Kind::(e.Names++e.Values.map Lib.itoa)) (fun w hw=>by
   simp only[List.mem_cons,List.mem_append,List.mem_map]at hw
   rcases hw with rfl|hw|⟨x,hx,rfl⟩
   ·omega
   ·exact qhX (List.all_eq_true.1 hn w hw)
   ·have:=qiJ (hval x hx);omega)
  unfold vQ qcv
  rw[qcC,List.length_append]
  simp only[List.length_cons,List.length_append,List.length_map]at h2
  omega
 exact⟨⟨hnum,hval,by omega,by omega,by omega⟩,hb,by omega,by omega⟩
theorem qnZ {s:Str} {out:List qb} (h:qdP s out=0):(qac s).2=0∧(qac s).1.Number=((out.length+1:Nat):Int):=by
 unfold qdP at h
 by_cases h0:(qac s).2=0
 ·rw[if_pos h0]at h
  by_cases h1:(qac s).1.Number=((out.length+1:Nat):Int)
  ·exact⟨h0,h1⟩
  ·rw[if_neg h1]at h;cases h
 ·rw[if_neg h0]at h;exact absurd h h0
theorem qnV {s:Str} (h:(qac s).2=0):8≤s.length∧qG (qac s).1=0:=by
 unfold qac at h⊢
 split at h
 ·rename_i h1
  rw[if_pos h1]
  split at h
  ·rename_i h2
   rw[if_pos h2]
   split at h
   ·rename_i h3
    rw[if_pos h3]
    refine⟨h1.1,?_⟩
    unfold qdo at h3⊢
    simp only[Bool.and_eq_true,decide_eq_true_eq]at h3
    exact h3.2.2
   ·cases h
  ·cases h
 ·cases h
theorem qh1: ∀(s cur:Str) (out:List qb) (f:Nat),(scan s cur out f).1.length*9≤out.length*9+cur.length+s.length∧((∀e∈out,qG e=0)→ ∀e∈(scan s cur out f).1,qG e=0)
 |[],cur,out,f=>by
  unfold scan
  exact⟨by simp only;omega,fun h=>h⟩
 |c::s,cur,out,f=>by
  unfold scan
  by_cases hc:c=10
  ·rw[if_pos hc]
   by_cases hb:qdP cur out=0
   ·rw[if_pos hb]
    obtain⟨h1,h2⟩:=qnV (qnZ hb).1
    obtain⟨g1,g2⟩:=qh1 s [] (out++[(qac cur).1]) (f+cur.length+1)
    refine⟨by simp only[List.length_append,List.length_cons,List.length_nil]at g1⊢;omega,fun h=>g2 fun e he=>?_⟩
    rw[List.mem_append,List.mem_singleton]at he
    rcases he with he|rfl
    ·exact h e he
    ·exact h2
   ·rw[if_neg hb]
    exact⟨by simp only[List.length_cons];omega,fun h=>h⟩
  ·rw[if_neg hc]
   obtain⟨g1,g2⟩:=qh1 s (cur++[c]) out f
   exact⟨by simp only[List.length_append,List.length_cons,List.length_nil]at g1⊢;omega,g2⟩
def cl (s:Str):Prop:= ∀c∈s,33≤c.toNat
theorem qiq {c:UInt8} {s:Str} (h:cl (c::s)):33≤c.toNat∧cl s:=⟨h c (List.mem_cons_self ..),fun d hd=>h d (List.mem_cons_of_mem _ hd)⟩
theorem ne32 {c:UInt8} (h:33≤c.toNat):c≠32:=fun e=>by subst e;revert h;decide
theorem ne10 {c:UInt8} (h:33≤c.toNat):c≠10:=fun e=>by subst e;revert h;decide
theorem qi8: ∀(x a s:Str),cl x→spl a (x++32::s)=(a++x)::spl [] s
 |[],a,s,_=>by simp[spl]
 |c::x,a,s,h=>by
  obtain⟨h1,h2⟩:=qiq h
  rw[List.cons_append,spl,if_neg (ne32 h1),qi8 x (a++[c]) s h2]
  simp
theorem qkS: ∀(x a:Str),cl x→spl a x=[a++x]
 |[],a,_=>by simp[spl]
 |c::x,a,h=>by
  obtain⟨h1,h2⟩:=qiq h
  rw[spl,if_neg (ne32 h1),qkS x (a++[c]) h2]
  simp
theorem qja: ∀(x:Str) (l:List Str),cl x→(∀w∈l,cl w)→spl [] (qcR (x::l))=x::l
 |x,[],h,_=>by rw[show qcR [x]=x from rfl,qkS x [] h];rfl
 |x,y::l,h,hl=>by
  rw[qcO (by simp),qi8 x [] _ h,qja y l (hl y (List.mem_cons_self ..)) fun w hw=>hl w (List.mem_cons_of_mem _ hw)]
  rfl
theorem qhm: ∀(x s:Str),cl x→qcU (x++32::s)=some x.length
 |[],s,_=>by simp[qcU]
 |c::x,s,h=>by
  obtain⟨h1,h2⟩:=qiq h
  rw[List.cons_append,qcU,if_neg (ne32 h1),qhm x s h2]
  rfl
theorem qly {x:Str} (s:Str) (h:cl x):qcX (x++32::s)=(x,s):=by
 unfold qcX
 rw[qhm x s h]
 simp
theorem qje {n:Nat} (h:n<10):(UInt8.ofNat (48+n)).toNat=48+n:=by
 rw[UInt8.toNat_ofNat']
 omega
theorem qkJ (n:Nat):(Lib.decDigits n).all qaJ=true∧qf8 0 (Lib.decDigits n)=n∧1≤(Lib.decDigits n).length∧(0<n→(Lib.decDigits n)[0]? ≠some 48):=by
 induction n using Nat.strongRecOn with
 |_ n ih=>
  rw[Lib.decDigits]
  by_cases h:n<10
  ·have hb:=qje h
   rw[dif_pos h]
   refine⟨?_,?_,by simp,fun h0 he=>?_⟩
   ·simp only[List.all_cons,List.all_nil,Bool.and_true,qaJ,hb]
    simp
    omega
   ·rw[qb7,qjq,hb]
    omega
   ·simp only[List.getElem?_cons_zero,Option.some.injEq]at he
    have:=congrArg UInt8.toNat he
    rw[hb]at this
    have h2:(48:UInt8).toNat=48:=rfl
    omega
  ·obtain⟨h1,h2,h3,h4⟩:=ih (n/10) (by omega)
   have hb:=qje (show n%10<10 by omega)
   rw[dif_neg h]
   refine⟨?_,?_,by simp,fun h0 he=>?_⟩
   ·rw[List.all_append,h1]
    simp only[List.all_cons,List.all_nil,Bool.and_true,Bool.true_and,qaJ,hb]
    simp
    omega
   ·rw[qiO,h2,hb]
    omega
   ·rw[List.getElem?_append_left (by omega)]at he
    exact h4 (by omega) he
theorem qmt {s:Str} (h:s.all qaJ=true):cl s:=by
 intro c hc
 have:=List.all_eq_true.1 h c hc
 unfold qaJ at this
 simp only[Bool.and_eq_true,decide_eq_true_eq]at this
 omega
theorem qf1 {x:Int} (h:0≤x∧x<1000000000):qch (Lib.itoa x)=(x,true)∧cl (Lib.itoa x)∧Lib.itoa x≠[]:=by
 obtain⟨n,rfl⟩: ∃n:Nat,x=(n:Int):=⟨x.toNat,by omega⟩
 obtain⟨h1,h2,h3,h4⟩:=qkJ n
 have hl:=qdF 8 n (by omega)
 rw[qeA]
 refine⟨?_,qmt h1,fun e=>by rw[e]at h3;simp at h3⟩
 have hb:intB (Lib.decDigits n)=true:=by
  unfold intB
  have h5:(decide ((Lib.decDigits n).length=1)||!((Lib.decDigits n)[0]? ==some 48))=true:=by
   rcases Nat.eq_zero_or_pos n with h0|h0
   ·subst h0
    rw[Lib.decDigits]
    simp
   ·have:=h4 h0
    simp[this]
  rw[h5,h1]
  simp
  omega
 unfold qch
 rw[if_pos hb,h2]
theorem qn5 {s:Str} (h:yZ s=true):cl s:=by
 intro c hc
 unfold yZ at h
 simp only[Bool.and_eq_true,Bool.not_eq_true',List.any_eq_false]at h
 obtain⟨k,hk,e⟩:=List.mem_iff_getElem.1 hc
 have h2:=h.2 k (List.mem_range.2 hk)
 rw[List.getD_eq_getElem?_getD,List.getElem?_eq_getElem hk,Option.getD_some,e]at h2
 unfold qjl qhe at h2
 simp at h2
 omega
theorem qh3 {k:Str} (h:(zx k).2.2=true):cl k∧k≠[]:=by
 rcases qge h with rfl|rfl|rfl|rfl|rfl|rfl<;>exact⟨by unfold cl;decide,by decide⟩
def qd9 (e:qb):List Str:=e.Names++e.Values.map Lib.itoa
theorem qio {e:qb} (h:qG e=0): ∀w∈qd9 e,cl w∧w≠[]:=by
 intro w hw
 have hv:=jY h
 unfold qd9 at hw
 rw[List.mem_append,List.mem_map]at hw
 rcases hw with hw|⟨x,hx,rfl⟩
 ·have:=List.all_eq_true.1 (qbb h) w hw
  refine⟨qn5 this,fun e=>?_⟩
  subst e
  revert this
  decide
 ·have:=hv.range x hx
  exact(qf1 (by omega)).2
theorem qlX {e:qb} (h:qG e=0):qiL (e.Kind::qd9 e)=(⟨0,e.Kind,e.Names,e.Values,[]⟩,true):=by
 have hv:=jY h
 have hr:=qio h
 obtain⟨_,hk⟩:=qh3 hv.form
 have hn:=hv.names
 have hs:=hv.values
 unfold qiL
 rw[List.headD_cons]
 have hnat:(zx e.Kind).1.toNat=e.Names.length:=by omega
 have hvals: ∀l:List Int,(∀v∈l,0≤v∧v≤999999999)→((l.map Lib.itoa).all fun w=>(qch w).2)=true∧(l.map Lib.itoa).map (fun w=>(qch w).1)=l:=by
  intro l
  induction l with
  |nil=>intro _;exact⟨rfl,rfl⟩
  |cons x l ih=>
   intro hl
   obtain⟨a1,a2⟩:=ih fun v hv=>hl v (List.mem_cons_of_mem _ hv)
   have hx:=(qf1 (x:=x) (by have:=hl x (List.mem_cons_self ..);omega)).1
   refine⟨?_,?_⟩
   ·rw[List.map_cons,List.all_cons,hx,a1];rfl
   ·rw[List.map_cons,List.map_cons,hx,a2]
 obtain⟨v1,v2⟩:=hvals e.Values hv.range
 have e1:(e.Kind::qd9 e).drop (1+e.Names.length)=e.Values.map Lib.itoa:=by
  rw[Nat.add_comm,List.drop_succ_cons]
  exact List.drop_left
 have e2:((e.Kind::qd9 e).drop 1).take e.Names.length=e.Names:=by
  rw[List.drop_succ_cons,List.drop_zero]
  exact List.take_left
 have e3:((e.Kind::qd9 e).any fun w=>([]:Str)==w)=false:=by
  rw[List.any_eq_false]
  intro w hw
  have:w≠[]:=by
   rcases List.mem_cons.1 hw with rfl|hw
   ·exact hk
   ·exact(hr w hw).2
  cases w with
  |nil=>exact absurd rfl this
  |cons=>simp
 have e4:((e.Kind::qd9 e).length:Int)=1+(zx e.Kind).1+(zx e.Kind).2.1:=by
  unfold qd9
  simp only[List.length_cons,List.length_append,List.length_map]
  omega
 rw[hnat,e1,e2,e3,v1,v2,if_pos (by rw[hv.form,e4];simp)]
def qlc (e:qb):Str:=qcR (e.Kind::qd9 e)
theorem qln (e:qb):vQ e=Lib.itoa e.Number++32::qlc e:=by
 unfold vQ qcv qlc qd9
 rw[qcO (by simp)]
theorem qjP {e:qb} (h:qG e=0):qd7 (qlc e)=(⟨0,e.Kind,e.Names,e.Values,[]⟩,true):=by
 unfold qd7 qlc
 rw[qja _ _ (qh3 (jY h).form).1 fun w hw=>(qio h w hw).1]
 exact qlX h
theorem qlR {e:qb} (h:qG e=0):qfH e.Number ⟨0,e.Kind,e.Names,e.Values,[]⟩=e:=by
 have:=(jY h).text
 obtain⟨a,b,c,d,t⟩:=e
 simp only at this
 subst this
 rfl
theorem qlA {e:qb} (h:qG e=0):qdo (vQ e)=(e,true):=by
 have hn:=(jY h).num
 obtain⟨i1,i2,_⟩:=qf1 (x:=e.Number) (by omega)
 unfold qdo
 rw[qln,qly _ i2]
 simp only[i1,qjP h,qlR h,h]
 rfl
theorem qd2: ∀n:Nat,(List.replicate n (48:UInt8)).all qaJ=true
 |0=>rfl
 |n+1=>by
  rw[List.replicate_succ,List.all_cons,qd2 n]
  decide
theorem qlf (s:Str):(qex s).all qaJ=true:=by
 unfold qex
 rw[List.all_append,(qkJ _).1,qd2]
 rfl
def qib (e:qb):Str:=vQ e++[59]++qex (vQ e)
theorem qkB (e:qb):qek e=qib e++[10]:=by simp[qek,qib]
theorem qko (b t:Str) (c:UInt8) (ht:t.length=7):8≤(b++[c]++t).length∧(b++[c]++t)[(b++[c]++t).length-8]? =some c∧(b++[c]++t).drop ((b++[c]++t).length-7)=t∧(b++[c]++t).take ((b++[c]++t).length-8)=b:=by
 have hl:(b++[c]++t).length=b.length+8:=by simp;omega
 rw[hl]
 refine⟨by omega,?_,?_,?_⟩
 ·rw[show b.length+8-8=b.length by omega,List.append_assoc,List.getElem?_append_right (Nat.le_refl _)]
  simp
 ·rw[show b.length+8-7=(b++[c]).length by simp]
  exact List.drop_left
 ·rw[show b.length+8-8=b.length by omega,List.append_assoc]
  exact List.take_left
theorem qiy {e:qb} (h:qG e=0):qac (qib e)=(e,0):=by
 obtain⟨h1,h2,h3,h4⟩:=qko (vQ e) (qex (vQ e)) 59 (qeS _)
 unfold qac qib
 rw[h3,h4,if_pos ⟨h1,h2,qlf _⟩,if_pos rfl,qlA h,if_pos rfl]
def qg8 (s:Str):Prop:= ∀c∈s,c≠10
theorem qmx {s:Str} (h:cl s):qg8 s:=fun c hc=>ne10 (h c hc)
theorem qj2 {a b:Str} (ha:qg8 a) (hb:qg8 b):qg8 (a++b):=fun c hc=>by
 rcases List.mem_append.1 hc with h|h
 ·exact ha c h
 ·exact hb c h
theorem qkW: ∀(l:List Str),(∀w∈l,cl w)→qg8 (qcR l)
 |[],_=>fun c hc=>by cases hc
 |[x],h=>qmx (h x (List.mem_cons_self ..))
 |x::y::l,h=>by
  rw[qcO (by simp)]
  refine qj2 (qmx (h x (List.mem_cons_self ..))) fun c hc=>?_
  rcases List.mem_cons.1 hc with rfl|hc
  ·decide
  ·exact qkW (y::l) (fun w hw=>h w (List.mem_cons_of_mem _ hw)) c hc
theorem qon {e:qb} (h:qG e=0):qg8 (vQ e):=by
 have hn:=(jY h).num
 unfold vQ qcv
 refine qkW _ fun w hw=>?_
 rcases List.mem_cons.1 hw with rfl|hw
 ·exact(qf1 (x:=e.Number) (by omega)).2.1
 ·rcases List.mem_cons.1 hw with rfl|hw
  ·exact(qh3 (jY h).form).1
  ·exact(qio h w hw).1
theorem qk4 {e:qb} (h:qG e=0):qg8 (qib e):=by
 unfold qib
 refine qj2 (qj2 (qon h) ?_) (qmx (qmt (qlf _)))
 intro c hc
 rw[List.mem_singleton]at hc
 subst hc
 decide
theorem qhM: ∀(x cur s:Str) (out:List qb) (f:Nat),qg8 x→scan (x++10::s) cur out f=if qdP (cur++x) out=0 then scan s [] (out++[(qac (cur++x)).1]) (f+(cur++x).length+1)else(out,f,qdP (cur++x) out)
 |[],cur,s,out,f,_=>by
  rw[List.nil_append,scan,if_pos rfl,List.append_nil]
 |c::x,cur,s,out,f,h=>by
  have h1:=h c (List.mem_cons_self ..)
  rw[List.cons_append,scan,if_neg h1,qhM x (cur++[c]) s out f fun d hd=>h d (List.mem_cons_of_mem _ hd),List.append_assoc]
  rfl
theorem qfk: ∀(x cur:Str) (out:List qb) (f:Nat),qg8 x→scan x cur out f=(out,f,if cur++x=[]then 0 else 28)
 |[],cur,out,f,_=>by rw[scan,List.append_nil]
 |c::x,cur,out,f,h=>by
  have h1:=h c (List.mem_cons_self ..)
  rw[scan,if_neg h1,qfk x (cur++[c]) out f fun d hd=>h d (List.mem_cons_of_mem _ hd),List.append_assoc]
  rfl
theorem qbl (e:qb) (l:List qb):zX (e::l)=qek e++zX l:=by simp[zX]
theorem qmE (a b:List qb):zX (a++b)=zX a++zX b:=by simp[zX]
def qdO (n:Nat) (l:List qb):Prop:= ∀(i:Nat) (e:qb),l[i]? =some e→e.Number=((n+i+1:Nat):Int)∧qG e=0
theorem qdO.tail {n:Nat} {e:qb} {l:List qb} (h:qdO n (e::l)):(e.Number=((n+1:Nat):Int)∧qG e=0)∧qdO (n+1) l:=by
 refine⟨h 0 e rfl,fun i x hx=>?_⟩
 obtain⟨h1,h2⟩:=h (i+1) x (by simpa using hx)
 exact⟨by rw[h1];congr 1;omega,h2⟩
theorem qdO.take {n:Nat} {l:List qb} (h:qdO n l) (m:Nat):qdO n (l.take m):=fun i e he=>by
 rw[List.getElem?_take]at he
 split at he
 ·exact h i e he
 ·cases he
theorem qdO.drop {n:Nat} {l:List qb} (h:qdO n l) (m:Nat):qdO (n+m) (l.drop m):=fun i e he=>by
 rw[List.getElem?_drop]at he
 obtain⟨h1,h2⟩:=h (m+i) e he
 exact⟨by rw[h1];congr 1;omega,h2⟩
theorem qdO.chk {n:Nat} {l:List qb} (h:qdO n l): ∀e∈l,qG e=0:=fun e he=>by
 obtain⟨i,hi⟩:=List.getElem?_of_mem he
 exact(h i e hi).2
theorem qnw {e:qb} {out:List qb} (h:qG e=0):qdP (qib e) out=if e.Number=((out.length+1:Nat):Int)then 0 else 11:=by
 unfold qdP
 rw[qiy h,if_pos rfl]
theorem qgj: ∀(l out:List qb) (f:Nat) (s:Str),qdO out.length l→scan (zX l++s) [] out f=scan s [] (out++l) (f+(zX l).length)
 |[],out,f,s,_=>by simp[zX]
 |e::l,out,f,s,h=>by
  obtain⟨⟨h1,h2⟩,h3⟩:=h.tail
  have hb:=qnw (out:=out) h2
  rw[if_pos h1]at hb
  rw[qbl,qkB,List.append_assoc,List.append_assoc,show[10]++(zX l++s)=10::(zX l++s)from rfl,qhM _ _ _ _ _ (qk4 h2),List.nil_append,if_pos hb,qiy h2,qgj l (out++[e]) _ s (by simpa using h3)]
  congr 1
  ·simp
  ·simp;omega
theorem qdc {N:Nat} (hN:6000<N) {e:qb} (h:qG e=0):qaI N e:=by
 obtain⟨_,_,h1,h2⟩:=qaT h
 have hn:=qbb h
 exact⟨by omega,by omega,fun s hs=>by have:=qhX (List.all_eq_true.1 hn s hs);omega⟩
theorem qjB (e:qb):(qek e).length=(vQ e).length+9:=by
 have:=qeS (vQ e)
 unfold qek
 simp;omega
def apE (out:List qb) (no:Int) (e:qb):Int:=zl [no,qG e,if e.Number=((out.length+1:Nat):Int)then 0 else 11]
theorem qnN {out:List qb} {no:Int} {e:qb} (h:apE out no e=0):no=0∧qG e=0∧e.Number=((out.length+1:Nat):Int):=by
 unfold apE at h
 by_cases h1:no=0
 ·by_cases h2:qG e=0
  ·by_cases h3:e.Number=((out.length+1:Nat):Int)
   ·exact⟨h1,h2,h3⟩
   ·rw[if_neg h3]at h
    simp[zl,h1,h2]at h
  ·simp[zl,h1,h2]at h
 ·simp[zl,h1]at h
theorem ql9 {N:Nat} (hN:6000<N) (hM:N<4611686018427387904) {log:Str} (hl:log.length≤4600) {e:qb} (he:qaI N e):
 xQ N log e=some (if apE (scan log [] [] 0).1 (scan log [] [] 0).2.2 e=0 then(log++qek e,0)else([],apE (scan log [] [] 0).1 (scan log [] [] 0).2.2 e)):=by
 obtain⟨g1,g2⟩:=qh1 log [] [] 0
 unfold xQ
 rw[qed hN hM hl,Option.bind_some,qb0 hM (by omega) he,Option.bind_some,qaQ,Option.bind_some,xR (by simp) (by simp;omega),Option.bind_some]
 generalize scan log [] [] 0=r at g1 g2⊢
 obtain⟨out,f,no⟩:=r
 simp only[List.length_nil]at g1 g2⊢
 have e1:(if(!decide (e.Number=(w64 ((out.length:Int)+1))))=true then(11:Int)else 0)=if e.Number=((out.length+1:Nat):Int)then 0 else 11:=by
  rw[qK (by omega)]
  by_cases h:e.Number=((out.length+1:Nat):Int)<;>simp[h]
 rw[e1,show zl [no,qG e,if e.Number=((out.length+1:Nat):Int)then 0 else 11]=apE out no e from rfl]
 by_cases hz:apE out no e=0
 ·obtain⟨_,h2,_⟩:=qnN hz
  obtain⟨w1,w2,_⟩:=qaT h2
  have:=qjB e
  rw[if_neg (by simp[hz]),if_pos hz,qn4 hN w1 (by omega),Option.bind_some,qal (by simp;omega),Option.bind_some,if_neg (by simp;omega)]
 ·rw[if_pos (by simp[hz]),if_neg hz]
theorem qgG: ∀{l:List qb},(∀e∈l,qG e=0)→(zX l).length≤l.length*209
 |[],_=>by simp[zX]
 |e::l,h=>by
  have h1:=qgG fun x hx=>h x (List.mem_cons_of_mem _ hx)
  have h2:=(qaT (h e (List.mem_cons_self ..))).2.1
  have h3:=qjB e
  rw[qbl,List.length_append,List.length_cons]
  omega
theorem qhL (N:Nat) (b:List qb): ∀(a:List qb) (k:Nat) (c:List qb),jl N (a++b) k c=if(jl N a k c).2.1=0 then jl N b (k+a.length) (jl N a k c).2.2 else jl N a k c
 |[],k,c=>by
  show jl N b k c=if(0:Int)=0 then jl N b (k+0) c else _
  rw[if_pos rfl]
  rfl
 |x::a,k,c=>by
  rw[List.cons_append,qag N x (a++b),qag N x a]
  by_cases h:xw N c k x=0
  ·rw[if_pos h,if_pos h,qhL N b a (k+1) (qb6 c x),List.length_cons,show k+1+a.length=k+(a.length+1)by omega]
  ·rw[if_neg h,if_neg h,if_neg h]
theorem qlI {N:Nat} {l:List qb} (h:(jl N l 0 []).2.1=0) (m:Nat):(jl N (l.take m) 0 []).2.1=0:=by
 have e:=qhL N (l.drop m) (l.take m) 0 []
 rw[List.take_append_drop]at e
 by_cases hz:(jl N (l.take m) 0 []).2.1=0
 ·exact hz
 ·rw[if_neg hz]at e
  rw[e]at h
  exact h
theorem qiT {N:Nat} {c:List qb} {k:Nat} {e:qb} (h:xw N c k e=0):e.Number=((k+1:Nat):Int)∧qG e=0:=by
 unfold xw at h
 by_cases a1:qG e=0
 ·rw[if_neg (by simp[a1])]at h
  by_cases a2:e.Number=((k+1:Nat):Int)
  ·exact⟨a2,a1⟩
  ·rw[if_pos a2]at h;cases h
 ·rw[if_pos a1]at h;exact absurd h a1
theorem qe5 {N:Nat}: ∀(es:List qb) (k:Nat) (c:List qb),(jl N es k c).2.1=0→qdO k es
 |[],k,c,_=>fun i e he=>by simp at he
 |e::es,k,c,h=>by
  rw[qag]at h
  by_cases hz:xw N c k e=0
  ·rw[if_pos hz]at h
   have ih:=qe5 es (k+1) _ h
   intro i x hx
   cases i with
   |zero=>
    simp at hx
    subst hx
    exact qiT hz
   |succ i=>
    obtain⟨g1,g2⟩:=ih i x (by simpa using hx)
    exact⟨by rw[g1];congr 1;omega,g2⟩
  ·rw[if_neg hz]at h
   exact absurd h hz
theorem qhl {l:List qb} {i:Nat} (h:i<l.length):l.take (i+1)=l.take i++[l[i]]:=by rw[List.take_add_one,List.getElem?_eq_getElem h];rfl
structure Whole (l:List qb) (p m:Nat):Prop where
 le:m≤l.length
 here:(zX (l.take m)).length≤p
 next:m<l.length→p<(zX (l.take (m+1))).length
theorem qkF: ∀(l:List qb) (p:Nat),(∀e∈l,qG e=0)→p≤(zX l).length→ ∃m x,Whole l p m∧(zX l).take p=zX (l.take m)++x∧qg8 x
 |[],p,_,hp=>⟨0,[],⟨by simp,by simp[zX],by simp⟩,by simp[zX],fun c hc=>by cases hc⟩
 |e::l,p,hc,hp=>by
  have eL:zX (e::l)=qek e++zX l:=qbl e l
  have h2:=hc e (List.mem_cons_self ..)
  by_cases hlt:p<(qek e).length
  ·refine⟨0,(qib e).take p,⟨by simp,by simp[zX],fun _=>?_⟩,?_,fun c hx=>qk4 h2 c (List.mem_of_mem_take hx)⟩
   ·rw[List.take_succ_cons,List.take_zero,show zX [e]=qek e by simp[zX]]
    exact hlt
   ·have hle:p≤(qib e).length:=by rw[qkB]at hlt;simp at hlt;omega
    rw[eL,qkB,List.append_assoc,List.take_append_of_le_length hle]
    simp[zX]
  ·rw[eL,List.length_append]at hp
   obtain⟨m,x,hw,g1,g2⟩:=qkF l (p-(qek e).length) (fun y hy=>hc y (List.mem_cons_of_mem _ hy)) (by omega)
   have w1:=hw.le
   have w2:=hw.here
   refine⟨m+1,x,⟨by simp;omega,?_,fun h=>?_⟩,?_,g2⟩
   ·rw[List.take_succ_cons,qbl,List.length_append]
    omega
   ·have w3:=hw.next (by simpa using h)
    rw[List.take_succ_cons,qbl,List.length_append]
    omega
   ·rw[eL,List.take_append,List.take_of_length_le (by omega),g1,List.take_succ_cons,qbl,List.append_assoc]
theorem qpc {a b:Nat} (h:0<b):qmc .i64 (a:Int) (b:Int)=some ((a%b:Nat):Int):=by
 unfold qmc
 rw[if_neg (by omega),Int.tmod_eq_emod_of_nonneg (by omega)]
 rfl
theorem qgy {l:List qb} (h:qdO 0 l):scan (zX l) [] [] 0=(l,(zX l).length,0):=by
 have:=qgj l [] 0 [] (by simpa using h)
 rw[List.append_nil,List.nil_append,qfk [] [] _ _ (fun c hc=>by cases hc),Nat.zero_add]at this
 exact this
def qbR (p:qc→Bool) (s:List qc):List Str:=(s.filter p).map (·.Name)
theorem qlO (p:qc→Bool) (s:List qc):(qbR p s).length≤s.length:=by
 unfold qbR;rw[List.length_map];exact List.length_filter_le _ _
theorem qiZ (p:qc→Bool) (x:qc) (s:List qc):qbR p (x::s)=if p x=true then x.Name::qbR p s else qbR p s:=by
 unfold qbR;rw[List.filter_cons];split<;>simp
def qjS (d:Int) (s:qc):Bool:=!qaD s d&&!qeJ s d
theorem qes (s:List qc) (hs:s.length≤1000) (d:Int): ∀(K k:Nat) (acc:List Str),k≤s.length→s.length<K+k→acc.length≤k→qB s d K acc (k:Int)=some (acc++qbR (qjS d) (s.drop k))
 |0,k,_,h,hK,_=>by omega
 |K+1,k,acc,h,hK,ha=>by
  unfold qB
  by_cases hk:k<s.length
  ·rw[if_pos (by omega),qA,List.getElem?_eq_getElem hk,Option.bind_some,qK (by omega),List.drop_eq_getElem_cons hk,qiZ]
   have e:(if(!qaD s[k] d)=true then some (!qeJ s[k] d)else some false:Option Bool)=some (qjS d s[k]):=by
    unfold qjS
    cases qaD s[k] d<;>rfl
   simp only[xD,xE,yY,qet,qjz,Option.bind_some,e]
   by_cases hp:qjS d s[k]=true
   ·rw[if_pos hp,if_pos hp,vv (by simp;omega) (by simp;omega),Option.bind_some,Option.bind_some,qes s hs d K (k+1) _ (by omega) (by omega) (by simp;omega)]
    simp
   ·rw[if_neg hp,if_neg hp,Option.bind_some,qes s hs d K (k+1) _ (by omega) (by omega) (by omega)]
  ·rw[if_neg (by omega),List.drop_of_length_le (by omega)]
   simp[qbR]
theorem qkp {N:Nat} (hN:2000<N) {s:List qc} (hs:s.length≤1000) (d:Int):jh N s d=some (qbR (qjS d) s):=by
 unfold jh
 rw[show qB s d N [] 0=qB s d N [] ((0:Nat):Int)from rfl,qes s hs d N 0 [] (by omega) (by omega) (by simp),List.drop_zero]
 rfl
def qdV (n:Nat):qb:=⟨((n+1:Nat):Int),xx,[],[],[]⟩
theorem qmf {n:Nat} (h:n<1000):vI ((n+1:Nat):Int) 1 1000=false:=by
 unfold vI
 simp
 omega
theorem qiN {n:Nat} (h:n<1000):qG (qdV n)=0:=by
 unfold qG qdV
 rw[if_neg (by simp only[qmf h];simp)]
 simp[show zx xx=(0,0,true)by decide]
theorem qlB {N:Nat} {c:List qb} {n:Nat} (h:n<1000):xw N c n (qdV n)=if c=[]then 12 else 0:=by
 have hk:(qdV n).Kind=xx:=rfl
 unfold xw
 rw[if_neg (fun x=>x (qiN h)),if_neg (fun x=>x rfl),hk,if_pos (by decide)]
theorem ql3 {N:Nat} {l:List qb} (hr:(jl N l 0 []).2.1=0) (hl:l.length<1000):
 jl N (l++[qdV l.length]) 0 []=if(jl N l 0 []).2.2=[]then(((l.length+1:Nat):Int),12,[])else(0,0,(jl N l 0 []).2.2.dropLast):=by
 have hk:(qdV l.length).Kind=xx:=rfl
 have hc:qb6 (jl N l 0 []).2.2 (qdV l.length)=(jl N l 0 []).2.2.dropLast:=by
  unfold qb6
  rw[hk,if_pos (by decide)]
 rw[qft,if_pos hr,Nat.zero_add,qag,qlB hl,hc]
 by_cases hc:(jl N l 0 []).2.2=[]
 ·simp only[if_pos hc]
  rw[if_neg (by decide)]
 ·simp only[if_neg hc]
  rfl
def Cok (N:Nat) (c:List qb):Prop:= ∀(j:Nat) (e:qb),c[j]? =some e→qG e=0∧ ¬(e.Kind==xx)=true∧((za N (c.take j)).bind fun r=>zf N r e).getD 0=0
theorem Cok.drop {N:Nat} {c:List qb} (h:Cok N c):Cok N c.dropLast:=by
 intro j x hx
 rw[List.getElem?_dropLast]at hx
 split at hx
 ·rename_i hj
  obtain⟨a,b,d⟩:=h j x hx
  refine⟨a,b,?_⟩
  rw[List.dropLast_eq_take,List.take_take,Nat.min_eq_left (by omega)]
  exact d
 ·cases hx
theorem Cok.new {N:Nat} {c:List qb} {k:Nat} {e:qb} (h:Cok N c) (he:xw N c k e=0):Cok N (qb6 c e):=by
 unfold qb6
 by_cases hu:(e.Kind==xx)=true
 ·rw[if_pos hu]
  exact h.drop
 ·rw[if_neg hu]
  intro j x hx
  by_cases hj:j<c.length
  ·rw[List.getElem?_append_left hj]at hx
   obtain⟨a,b,d⟩:=h j x hx
   refine⟨a,b,?_⟩
   rw[List.take_append_of_le_length (by omega)]
   exact d
  ·rw[List.getElem?_append_right (by omega)]at hx
   have hj0:j-c.length=0:=by
    have:=(List.getElem?_eq_some_iff.1 hx).1
    simp at this
    omega
   rw[hj0,List.getElem?_cons_zero,Option.some.injEq]at hx
   subst hx
   have hjl:j=c.length:=by omega
   obtain⟨n1,n2⟩:=qiT he
   unfold xw at he
   rw[if_neg (fun y=>y n2),if_neg (fun y=>y n1),if_neg hu]at he
   refine⟨n2,hu,?_⟩
   rw[hjl,List.take_left]
   exact he
theorem qiA {N:Nat}: ∀(es:List qb) (k:Nat) (c:List qb),Cok N c→(jl N es k c).2.1=0→Cok N (jl N es k c).2.2
 |[],_,c,h,_=>h
 |e::es,k,c,h,hz=>by
  rw[qag]at hz⊢
  by_cases h0:xw N c k e=0
  ·rw[if_pos h0]at hz⊢
   exact qiA es (k+1) _ (h.new h0) hz
  ·rw[if_neg h0]at hz
   exact absurd hz h0
def reE (n:Nat) (e:qb):qb:=⟨((n+1:Nat):Int),e.Kind,e.Names,e.Values,e.Text⟩
def y9:Nat→List qb→List qb
 |_,[]=>[]
 |n,e::l=>reE n e::y9 (n+1) l
theorem qfh: ∀(n:Nat) (l:List qb),(y9 n l).length=l.length
 |_,[]=>rfl
 |n,e::l=>by rw[y9,List.length_cons,qfh (n+1) l,List.length_cons]
theorem qhn (e:qb): ∀(n:Nat) (a:List qb),y9 n (a++[e])=y9 n a++[reE (n+a.length) e]
 |_,[]=>rfl
 |n,x::a=>by
  rw[List.cons_append,y9,y9,qhn e (n+1) a,List.cons_append,List.length_cons,show n+1+a.length=n+(a.length+1)by omega]
theorem qhv: ∀(n:Nat) (l:List qb) (x:qb),x∈y9 n l→ ∃e∈l,∃m,m<n+l.length∧x=reE m e
 |_,[],x,h=>by cases h
 |n,e::l,x,h=>by
  rw[y9]at h
  rcases List.mem_cons.1 h with rfl|h
  ·exact⟨e,List.mem_cons_self ..,n,by simp,rfl⟩
  ·obtain⟨y,h1,m,h2,h3⟩:=qhv (n+1) l x h
   exact⟨y,List.mem_cons_of_mem _ h1,m,by rw[List.length_cons];omega,h3⟩
theorem qjM (r:qp) (n:Nat) (e:qb) (x:Int): ∀(K:Nat) (a b:Bool) (i:Int),kw r (reE n e) x K a b i=kw r e x K a b i
 |0,_,_,_=>rfl
 |K+1,a,b,i=>by
  unfold kw
  simp only[qjM r n e x K,show(reE n e).Names=e.Names from rfl]
theorem qkm (N:Nat) (r:qp) (n:Nat) (e:qb):zf N r (reE n e)=zf N r e:=by
 unfold zf
 simp only[qjM,show(reE n e).Names=e.Names from rfl,show(reE n e).Values=e.Values from rfl,show(reE n e).Kind=e.Kind from rfl]
theorem qjs (n:Nat) (e:qb) (x:Int): ∀(K:Nat) (a:List qc) (i:Int),zm (reE n e) x K a i=zm e x K a i
 |0,_,_=>rfl
 |K+1,a,i=>by
  unfold zm
  simp only[qjs n e x K,show(reE n e).Names=e.Names from rfl,show(reE n e).Values=e.Values from rfl,show(reE n e).Kind=e.Kind from rfl]
theorem qmZ (N:Nat) (r:qp) (n:Nat) (e:qb):zg N r (reE n e)=zg N r e:=by
 unfold zg
 simp only[qjs,show(reE n e).Names=e.Names from rfl,show(reE n e).Values=e.Values from rfl,show(reE n e).Kind=e.Kind from rfl]
theorem qlb (N:Nat): ∀(c:List qb) (n:Nat) (r:qp),(y9 n c).foldlM (fun r e=>zg N r e) r=c.foldlM (fun r e=>zg N r e) r
 |[],_,_=>rfl
 |e::c,n,r=>by
  rw[y9,List.foldlM_cons,List.foldlM_cons,qmZ]
  congr 1
  funext s
  exact qlb N c (n+1) s
theorem qmr {N:Nat} (hN:6000<N) {c:List qb} (hc:c.length≤1000):za N (y9 0 c)=za N c:=by
 rw[qbP (by rw[qfh];exact hc) hN,qbP hc hN]
 exact qlb N c 0 _
theorem qjr {n:Nat} (h:n<1000) {e:qb} (he:qG e=0):qG (reE n e)=0:=by
 have h2: ¬vI e.Number 1 1000=true:=fun h2=>by
  unfold qG at he
  rw[if_pos h2]at he
  cases he
 have h1: ¬vI (reE n e).Number 1 1000=true:=by
  rw[show(reE n e).Number=((n+1:Nat):Int)from rfl,qmf h]
  decide
 unfold qG at he⊢
 rw[if_neg h2]at he
 rw[if_neg h1]
 exact he
theorem qlh {N:Nat} (hN:6000<N) {c:List qb} (hc:c.length≤900) (h:Cok N c): ∀(m k:Nat),k+m=c.length→jl N (y9 k (c.drop k)) k (y9 0 (c.take k))=(0,0,y9 0 c)
 |0,k,hk=>by
  rw[List.drop_of_length_le (by omega),List.take_of_length_le (by omega)]
  rfl
 |m+1,k,hk=>by
  have hlt:k<c.length:=by omega
  obtain⟨a,b,d⟩:=h k _ (List.getElem?_eq_getElem hlt)
  have b': ¬((reE k c[k]).Kind==xx)=true:=b
  have htl:(c.take k).length=k:=by rw[List.length_take];omega
  have h0:xw N (y9 0 (c.take k)) k (reE k c[k])=0:=by
   unfold xw
   rw[if_neg (fun x=>x (qjr (by omega) a)),if_neg (fun x=>x rfl),if_neg b',qmr hN (by omega)]
   simp only[qkm]
   exact d
  have hn:qb6 (y9 0 (c.take k)) (reE k c[k])=y9 0 (c.take (k+1)):=by
   unfold qb6
   rw[if_neg b',qhl hlt,qhn,htl,Nat.zero_add]
  rw[List.drop_eq_getElem_cons hlt,y9,qag,if_pos h0,hn]
  exact qlh hN hc h m (k+1) (by omega)
theorem qkN {s:List qb} (hs:s.length≤1000): ∀(K i:Nat) (acc:List qb),i≤s.length→s.length<K+i→acc.length≤i→qD s K acc (i:Int)=some (acc++y9 i (s.drop i))
 |0,i,acc,h1,h2,_=>by omega
 |K+1,i,acc,h1,h2,h3=>by
  unfold qD
  by_cases hi:i<s.length
  ·rw[if_pos (by omega),qA,List.getElem?_eq_getElem hi,Option.bind_some,qK (by omega),vv (by simp;omega) (by simp;omega),Option.bind_some,qkN hs K (i+1) _ (by omega) (by omega) (by simp;omega),List.drop_eq_getElem_cons hi,y9,List.append_assoc]
   rfl
  ·rw[if_neg (by omega),List.drop_of_length_le (by omega)]
   simp[y9]
theorem qjh {r:qJ} (hl:r.Slings.length≤1000): ∀(K i:Nat),i≤r.Slings.length→r.Slings.length<K+i→qM r r K (i:Int)=some (.inl ())
 |0,i,h1,h2=>by omega
 |K+1,i,h1,h2=>by
  unfold qM
  by_cases hi:i<r.Slings.length
  ·rw[if_pos (by omega),qA,List.getElem?_eq_getElem hi,Option.bind_some,Option.bind_some,if_neg (by simp),qK (by omega)]
   exact qjh hl K (i+1) (by omega) (by omega)
  ·rw[if_neg (by omega)]
theorem qnH {N:Nat} (hN:6000<N) {r:qJ} (hl:r.Slings.length≤1000):jw N r r=some true:=by
 unfold jw
 rw[show qM r r N 0=_ from qjh hl N 0 (by omega) (by omega)]
 rfl
theorem qoI {N:Nat} {l:List qb} (h:Evs N l) (hr:(jl N l 0 []).2.1=0) {day:Int} (h0:0≤day) (h1:day≤99999): ∃ws,qaE N l day=some (ws,0)∧ws.length≤1000:=by
 have hl:=h.len
 have hN:=h.big
 rcases qbf h with⟨z,_,_⟩|⟨_,o',z2,_,z4,z5⟩
 ·exact absurd hr z
 ·obtain⟨o2,d,s,f1,_,_,_,f5,_⟩:=xh (evs:=l) z4 (by omega) hN
  have hd:vI day 0 99999=false:=by
   unfold vI
   simp
   omega
  have hf:zl [(0:Int),if false=true then 3 else 0]=0:=by simp[zl]
  refine⟨qbR (qjS day) s,?_,by have:=qlO (qjS day) s;omega⟩
  unfold qaE
  rw[z2,Option.bind_some]
  simp only
  rw[qdu,hd,Option.bind_some,xR (by simp) (by simp;omega),Option.bind_some,hf,if_neg (by simp),f1,Option.bind_some]
  simp only
  rw[qkp (by omega) (by omega),Option.bind_some,Option.bind_some]
theorem qk6 {N:Nat} (hN:6000<N) (hM:N<4611686018427387904) {l:List qb} (hl:l.length≤14) (hE: ∀e∈l,qaI N e) (hrun:(jl N l 0 []).2.1=0) {day:Int} (d0:0≤day) (d1:day≤99999): ∀(K i:Nat),i≤l.length→l.length<K+i→
 qO N l day K (zX (l.take i)) (i:Int)=some (.inl (zX l))
 |0,i,h1,h2=>by omega
 |K+1,i,h1,h2=>by
  have hn:qdO 0 l:=qe5 l 0 [] hrun
  unfold qO
  by_cases hi:i<l.length
  ·obtain⟨n1,n2⟩:=hn i _ (List.getElem?_eq_getElem hi)
   have hlen: ∀j,(zX (l.take j)).length≤4180:=fun j=>by
    have:=qgG (l:=l.take j) (hn.take j).chk
    rw[List.length_take]at this
    omega
   have l1:=hlen i
   have l2:=hlen (i+1)
   have htake:(l.take i).length=i:=by rw[List.length_take];omega
   have htake2:(l.take (i+1)).length=i+1:=by rw[List.length_take];omega
   have hap:=ql9 hN hM (log:=zX (l.take i)) (by omega) (qdc hN n2)
   have hz:apE (l.take i) 0 l[i]=0:=by
    unfold apE
    rw[htake,if_pos (by rw[n1];congr 1;omega),n2]
    rfl
   rw[qgy (hn.take i)]at hap
   simp only at hap
   rw[if_pos hz]at hap
   have e1:zX (l.take i)++qek l[i]=zX (l.take (i+1)):=by rw[qhl hi,qmE,show zX [l[i]]=qek l[i]by simp[zX]]
   rw[e1]at hap
   have hE2:Evs N (l.take (i+1)):=⟨by omega,fun e he=>hE e (List.mem_of_mem_take he),hN,hM⟩
   obtain⟨ws,g1,g2⟩:=qoI hE2 (qlI hrun (i+1)) d0 d1
   have hsame:vM N (l.take (i+1)) (l.take (i+1))=some true:=qhb _ (by omega) hN hM (fun y hy=>by have:=qaT ((hn.take (i+1)).chk y hy);omega)
   rw[if_pos (by omega),qA,List.getElem?_eq_getElem hi,Option.bind_some,hap,Option.bind_some]
   simp only
   rw[if_neg (by simp),qed hN hM (by omega),Option.bind_some,qgy (hn.take (i+1))]
   simp only
   rw[qK (by omega),g1,Option.bind_some,yN (by omega),Option.bind_some,g1,Option.bind_some]
   simp only
   rw[if_neg (by simp),if_neg (by simp),if_neg (by simp),Option.bind_some,hsame,Option.bind_some,if_neg (by simp),qeY ws (by omega) (by omega),Option.bind_some,Option.bind_some,if_neg (by simp)]
   exact qk6 hN hM hl hE hrun d0 d1 K (i+1) (by omega) (by omega)
  ·rw[if_neg (by omega),show i=l.length by omega,List.take_length]
theorem qkx {N n:Nat} (hN:6000<N) (h:n<1000):qaI N (qdV n):=qdc hN (qiN h)
theorem qc8 (l:List qb) (at_ day:Int) (b0:0≤at_∧at_≤65535):jV 10000 l at_ day=some true:=by
 have hN:6000<10000:=by decide
 have hM:10000<4611686018427387904:=by decide
 obtain⟨a0,rfl⟩: ∃n:Nat,at_=(n:Int):=⟨at_.toNat,by omega⟩
 unfold jV
 have eS:j6 10000 l 14=some (decide (l.length≤14)&&l.all qdr):=qgx (n:=14) hN (by omega)
 rw[eS,Option.bind_some]
 by_cases a3:(decide (l.length≤14)&&l.all qdr)=true
 ·rw[if_neg (by simp[a3])]
  simp only[Bool.and_eq_true,decide_eq_true_eq]at a3
  have hl:=a3.1
  have hS: ∀e∈l,qaI 10000 e:=fun e he=>qmG hN (List.all_eq_true.1 a3.2 e he)
  have hE:Evs 10000 l:=⟨by omega,hS,hN,hM⟩
  rcases qaM hE with⟨y1,y2⟩|⟨hrun,d,s,_,_,y2⟩
  ·rw[y2,Option.bind_some,if_pos (by simp[y1]),Option.bind_some]
   simp[awk]
  ·rw[y2,Option.bind_some,if_neg (by simp)]
   by_cases d0:day<0
   ·rw[if_pos d0,Option.bind_some]
    simp[awk]
   ·rw[if_neg d0,Option.bind_some]
    simp only
    by_cases d1:day>99999
    ·rw[if_pos (by simpa using d1)]
     rfl
    ·rw[if_neg (by simpa using d1)]
     have hn:qdO 0 l:=qe5 l 0 [] hrun
     have hlog:=qgG hn.chk
     rw[qoh hN (by omega) (fun e he=>by obtain⟨w1,w2,_⟩:=qaT (hn.chk e he);exact⟨w1,by omega⟩) (by omega),Option.bind_some]
     have hw0:w64 (a0:Int)=(a0:Int):=jP (by omega) (by omega)
     rw[hw0,qK (by omega),qpc (by omega),Option.bind_some]
     have hp:a0%((zX l).length+1)≤(zX l).length:=by have:=Nat.mod_lt a0 (show 0<(zX l).length+1 by omega);omega
     revert hp
     generalize a0%((zX l).length+1)=p
     intro hp
     obtain⟨m,x,hw,g1,g2⟩:=qkF l p hn.chk hp
     have hm:=hw.le
     rw[yN hp,Option.bind_some]
     have hpl:((zX l).take p).length≤4600:=by rw[List.length_take];omega
     have hsc:scan ((zX l).take p) [] [] 0=(l.take m,(zX (l.take m)).length,if x=[]then 0 else 28):=by
      have h1:=qgj (l.take m) [] 0 x (by simpa using hn.take m)
      rw[List.nil_append,Nat.zero_add]at h1
      rw[g1,h1,qfk x [] _ _ g2]
      rfl
     rw[qed hN hM hpl,Option.bind_some,hsc]
     simp only
     have hlm:(zX (l.take m)).length≤((zX l).take p).length:=by rw[g1,List.length_append];omega
     have htm:(l.take m).length=m:=by rw[List.length_take];omega
     have ht:((zX l).take p).take (zX (l.take m)).length=zX (l.take m):=by rw[g1,List.take_left]
     have n1: ¬(((zX (l.take m)).length:Int)<0):=by omega
     have n2: ¬(((zX (l.take m)).length:Int)>(((zX l).take p).length:Int)):=by omega
     have n3: ¬(((l.take m).length:Int)>(l.length:Int)):=by omega
     have hgrp: ∀(no:Int),no=0∨no=28→((if(!decide (no=0))=true then
      if(!decide (no=28))=true then some true else
      if((zX (l.take m)).length:Int)<0 then some true else
      if((zX (l.take m)).length:Int)>(((zX l).take p).length:Int)then some true else
      some (decide (((l.take m).length:Int)>(l.length:Int)))
      else
      if((zX (l.take m)).length:Int)<0 then some true else
      if((zX (l.take m)).length:Int)>(((zX l).take p).length:Int)then some true else
      some (decide (((l.take m).length:Int)>(l.length:Int))):Option Bool))=some false:=by
      intro no hno
      rw[if_neg n1,if_neg n2,decide_eq_false n3]
      rcases hno with rfl|rfl<;>simp
     rw[show _=_ from hgrp (if x=[]then 0 else 28) (by by_cases hx:x=[]<;>simp[hx]),Option.bind_some,if_neg (by simp),yN hlm,Option.bind_some,ht,htm,qk6 hN hM hl hS hrun (by omega) (by omega) 10000 m hm (by omega),Option.bind_some]
     simp only
     have hu:(⟨w64 ((l.length:Int)+1),[117,110,100,111],[],[],[]⟩:qb)=qdV l.length:=by rw[qK (by omega)];rfl
     rw[if_neg (by simp),hu,vv (by simp;omega) (by simp;omega),Option.bind_some,List.nil_append,vv (by simp;omega) (by simp;omega),Option.bind_some]
     have hE':Evs 10000 (l++[qdV l.length]):=⟨by simp;omega,fun e he=>by
      rcases List.mem_append.1 he with he|he
      ·exact hS e he
      ·rw[List.mem_singleton]at he
       subst he
       exact qkx hN (by omega),hN,hM⟩
     obtain⟨d6,s6,t6,e6,v1,v2,v3⟩:=qht hE'
     have hcr:=ql3 hrun (show l.length<1000 by omega)
     have hcok:Cok 10000 (jl 10000 l 0 []).2.2:=qiA l 0 [] (fun j e h=>by simp at h) hrun
     rcases qbf hE with⟨z1,_,_⟩|⟨_,o',_,z3,_,z5⟩
     ·exact absurd hrun z1
     ·rw[v1,Option.bind_some,z3,Option.bind_some]
      simp only
      revert hcr hcok z5
      generalize (jl 10000 l 0 []).2.2=c
      intro hcr hcok z5
      by_cases hc:c=[]
      ·subst hc
       rw[if_pos rfl]at hcr
       rcases qaM hE' with⟨_,w3⟩|⟨w1,_⟩
       ·rw[hcr,v2]at w3
        simp only[Option.some.injEq,Prod.mk.injEq]at w3
        obtain⟨_,_,rfl⟩:=w3
        simp[awk]
       ·rw[hcr]at w1
        exact absurd (show(12:Int)=0 from w1) (by decide)
      ·rw[if_neg hc]at hcr
       have hpos:0<c.length:=List.length_pos_iff.2 hc
       rcases qaM hE' with⟨w1,_⟩|⟨_,d7,s7,w2,w4,w3⟩
       ·rw[hcr]at w1
        exact absurd rfl w1
       ·rw[v2]at w3
        simp only[Option.some.injEq,Prod.mk.injEq,qp.mk.injEq]at w3
        obtain⟨⟨rfl,rfl⟩,rfl,rfl⟩:=w3
        rw[hcr]at w2
        simp only at w2
        have hdl:c.dropLast.length=c.length-1:=List.length_dropLast ..
        have hcut:cut c 0 (w64 ((c.length:Int)-1))=some c.dropLast:=by
         rw[qcF (by omega) hpos,yN (by omega),List.dropLast_eq_take]
        have hL1:=qkN (s:=c.dropLast) (by omega) 10000 0 [] (by omega) (by omega) (by simp)
        rw[List.drop_zero,List.nil_append]at hL1
        have hE2:Evs 10000 (y9 0 c.dropLast):=⟨by rw[qfh];omega,fun e he=>by
         obtain⟨y,h1,k,h2,rfl⟩:=qhv 0 _ e he
         obtain⟨j,hj⟩:=List.getElem?_of_mem h1
         exact qdc hN (qjr (by omega) (hcok.drop j y hj).1),hN,hM⟩
        have hcr2:=qlh hN (by omega) hcok.drop c.dropLast.length 0 (by omega)
        rw[List.drop_zero,List.take_zero,show y9 0 []=[]from rfl]at hcr2
        obtain⟨d8,s8,t8,e8,u1,u2,u3⟩:=qht hE2
        rcases qaM hE2 with⟨x1,_⟩|⟨_,d9,s9,x2,_,x3⟩
        ·rw[hcr2]at x1
         exact absurd rfl x1
        ·rw[u2]at x3
         simp only[Option.some.injEq,Prod.mk.injEq,qp.mk.injEq]at x3
         obtain⟨⟨rfl,rfl⟩,rfl,rfl⟩:=x3
         rw[hcr2]at x2
         simp only at x2
         rw[qmr hN (by omega),w2]at x2
         simp only[Option.some.injEq,qp.mk.injEq]at x2
         obtain⟨rfl,rfl⟩:=x2
         rw[if_neg (by omega),hcut,Option.bind_some,show qD c.dropLast 10000 [] 0=_ from hL1,Option.bind_some,u1,Option.bind_some]
         simp only
         rw[if_pos trivial,if_pos trivial,if_pos trivial,if_pos trivial,qnH hN v3,Option.bind_some,if_pos rfl]
         rfl
 ·rw[Bool.not_eq_true]at a3
  rw[a3,if_pos (by simp)]
  rfl
end Go.Av
