/-
  Chapter 10: names and events.
-/
import Derived.Test.YtjflombnfhlkaaaGreatDoorAvPl
import Derived.Test.YtjflombnfhlkaaaGreatDoorQGenT
noncomputable section
namespace Go.Av
set_option linter.unusedSimpArgs false
set_option linter.unusedVariables false
theorem qjw {s:Str} {k:Nat} {c:UInt8} (h:s[k]? =some c):((⟨s.toArray⟩:ByteArray).get! k)=c:=by
 have hk:=(List.getElem?_eq_some_iff.1 h).1
 show s.toArray[k]! =c
 rw[getElem!_def]
 simp[h]
theorem qkQ {s:Str} {k:Nat} {c:UInt8} (h:s[k]? =some c) (hc:c.toNat<128):yx s k=c.toNat∧runeLen s k=1:=by
 have e:=qjw h
 unfold yx runeLen Utf8.decode
 simp only[Nat.add_zero,e,if_pos hc,and_self]
theorem qmr {s:Str} {k:Nat} {c:UInt8} (h:s[k]? =some c) (hc:128≤c.toNat):128≤yx s k:=by
 have e:=qjw h
 unfold yx Utf8.decode
 simp only[Nat.add_zero,e,if_neg (Nat.not_lt.2 hc)]
 have hr:(128:Nat)≤Utf8.runeError:=by decide
 repeat' split
 all_goals first|(simp only[Bool.and_eq_true,decide_eq_true_eq]at*;omega)|(simp;omega)|omega
def qh5 (c:Int):Bool:=(decide (97≤c)&&decide (c≤122))||(decide (65≤c)&&decide (c≤90))
theorem qge (c:Int):yG c=some (qh5 c):=by
 unfold yG qh5
 by_cases h1:c≥97<;>by_cases h2:c≤122<;>by_cases h3:c≥65<;>by_cases h4:c≤90<;>simp[h1,h2,h3,h4]<;>omega
def qjs (k:Nat) (c:Int):Bool:=!qh5 c&&(decide (k=0)||(!decide (c=95)&&(decide (c<48)||decide (c>57))))
def xG (s:Str):Bool:=decide (1≤s.length)&&decide (s.length≤24)&&!((List.range s.length).any fun k=>qjs k (s.getD k 0).toNat)
theorem qnt {k:Nat} {c:Int} (h:128≤c):qjs k c=true:=by
 unfold qjs qh5
 simp
 omega
def qa5 (s:Str) (k:Nat):Bool:=(List.range (s.length-k)).any fun j=>qjs (k+j) (s.getD (k+j) 0).toNat
theorem qfu {s:Str} {k:Nat} {c:UInt8} (h:s[k]? =some c):qa5 s k=(qjs k c.toNat||qa5 s (k+1)):=by
 have hk:=(List.getElem?_eq_some_iff.1 h).1
 unfold qa5
 rw[show s.length-k=(s.length-(k+1))+1 by omega,List.range_succ_eq_map,List.any_cons,List.any_map]
 congr 1
 ·simp[List.getD,h]
 ·congr 1
  funext j
  simp only[Function.comp,Nat.succ_eq_add_one]
  rw[show k+(j+1)=k+1+j by omega]
theorem qf7 {s:Str} {k:Nat} (h:s.length≤k):qa5 s k=false:=by
 unfold qa5
 rw[show s.length-k=0 by omega]
 rfl
theorem qiK (s:Str): ∀(K k:Nat),k≤s.length→s.length<K+k→vz s K k=some (if qa5 s k then .inr false else .inl ())
 |0,k,h,hK=>by omega
 |K+1,k,h,hK=>by
  unfold vz
  by_cases hk:k<s.length
  ·have hc:s[k]? =some s[k]:=List.getElem?_eq_getElem hk
   rw[if_pos hk,qge,qfu hc]
   by_cases ha:(s[k]).toNat<128
   ·obtain⟨e1,e2⟩:=qkQ hc ha
    rw[e1,e2,qiK s K (k+1) (by omega) (by omega)]
    have ek:((k:Int)=0)↔k=0:=by omega
    unfold qjs
    generalize ((s[k]).toNat:Int)=c
    cases hl:qh5 c<;>by_cases h0:k=0<;>by_cases h1:c=95<;>by_cases h2:c<48<;>by_cases h3:57<c<;>
     simp[hl,h0,h1,h2,h3]
   ·have hw:=qmr hc (by omega)
    rw[qnt (show(128:Int)≤((s[k]).toNat:Int)by omega)]
    have hl:qh5 (yx s k)=false:=by unfold qh5;simp;omega
    have h1: ¬yx s k=95:=by omega
    have h2: ¬yx s k<48:=by omega
    have h3:yx s k>57:=by omega
    have ek:((k:Int)=0)↔k=0:=by omega
    simp only[hl,Option.bind_some,Bool.not_false,if_true,h1,h2,h3,decide_true,decide_false,if_false,Bool.true_or,ek]
    by_cases h0:k=0
    ·simp only[h0,if_true,Option.bind_some]
    ·simp only[h0,if_false,Option.bind_some,if_true]
  ·rw[if_neg hk,qf7 (by omega)]
   rfl
theorem qfh (s:Str):xG s=(decide (1≤s.length)&&decide (s.length≤24)&&!qa5 s 0):=by
 unfold xG qa5
 simp
theorem ql2 {N:Nat} {s:Str} (h:s.length<N):qaz N s=some (xG s):=by
 unfold qaz
 rw[qiK s N 0 (Nat.zero_le _) (by omega),qfh]
 cases hb:qa5 s 0
 ·cases s with
  |nil=>simp
  |cons x xs=>
   have e:((x::xs)==([]:Str))=false:=rfl
   simp only[Option.bind_some,Bool.false_eq_true,if_false,e,Bool.not_false,if_true,Bool.and_true,Option.some.injEq]
   have:(1≤(x::xs).length):=by simp
   rw[Bool.eq_iff_iff]
   simp only[decide_eq_true_eq,Bool.and_eq_true,this,true_and]
   omega
 ·simp
theorem qhz (s:Str) (hs:s.length<4611686018427387904): ∀(K k:Nat),k≤s.length→s.length<K+k→vZ s K (k:Int)=some (if qa5 s k then .inr false else .inl ())
 |0,k,h,hK=>by omega
 |K+1,k,h,hK=>by
  unfold vZ
  by_cases hk:k<s.length
  ·have hc:s[k]? =some s[k]:=List.getElem?_eq_getElem hk
   rw[if_pos (by omega),qE,hc,qfu hc,qL (by omega),qhz s hs K (k+1) (by omega) (by omega)]
   simp only[Option.bind_some]
   have ek:((k:Int)=0)↔k=0:=by omega
   unfold qjs
   generalize ((s[k]).toNat:Int)=c
   rw[show(if c≥97 then if c≤122 then some true else if c≥65 then some (decide (c≤90))else some false else if c≥65 then some (decide (c≤90))else some false:Option Bool)=some (qh5 c)from by
    have:=qge c
    unfold yG at this
    rw[←this]
    cases(if c≥97 then if c≤122 then some true else if c≥65 then some (decide (c≤90))else some false else if c≥65 then some (decide (c≤90))else some false:Option Bool)<;>rfl]
   simp only[Option.bind_some,ek]
   cases qh5 c
   ·by_cases h5:k=0
    ·simp[h5]
    ·by_cases h6:c≥48
     ·by_cases h7:c≤57
      ·have a1: ¬c<48:=by omega
       have a2: ¬c>57:=by omega
       simp[h5,h6,h7,a1,a2]
      ·have a1: ¬c<48:=by omega
       have a2:c>57:=by omega
       by_cases h8:c=95<;>simp[h5,h6,h7,h8,a1,a2]
     ·have a1:c<48:=by omega
      by_cases h8:c=95<;>simp[h5,h6,h8,a1]
   ·simp
  ·rw[if_neg (by omega),qf7 (by omega)]
   rfl
theorem qk1 {N:Nat} {s:Str} (h:s.length<N) (hs:s.length<4611686018427387904):qa1 N s=some (xG s):=by
 unfold qa1
 rw[show(0:Int)=((0:Nat):Int)from rfl,qhz s hs N 0 (Nat.zero_le _) (by omega),qfh]
 by_cases h1:s.length<1
 ·rw[if_pos (by omega)]
  simp[show¬1≤s.length by omega]
 ·by_cases h2:s.length>24
  ·rw[if_neg (by omega)]
   simp only[Option.bind_some,show((s.length:Int)>24)by omega,decide_true,if_true,show¬s.length≤24 by omega,decide_false,Bool.and_false,Bool.false_and]
  ·rw[if_neg (by omega)]
   simp only[Option.bind_some,show¬((s.length:Int)>24)by omega,decide_false,Bool.false_eq_true,if_false,show 1≤s.length by omega,show s.length≤24 by omega,decide_true,Bool.true_and]
   cases hb:qa5 s 0<;>rfl
def zk:List Int→Int
 |[]=>0
 |x::xs=>if x=0 then zk xs else x
theorem qjJ (l:List Int) (hl:l.length<4611686018427387904): ∀(K k:Nat),k≤l.length→l.length<K+k→vY l K (k:Int)=some (if zk (l.drop k)=0 then .inl ()else .inr (zk (l.drop k)))
 |0,k,h,hK=>by omega
 |K+1,k,h,hK=>by
  unfold vY
  by_cases hk:k<l.length
  ·rw[if_pos (by omega),qE,List.getElem?_eq_getElem hk,List.drop_eq_getElem_cons hk,qL (by omega),qjJ l hl K (k+1) (by omega) (by omega)]
   simp only[Option.bind_some,zk]
   by_cases h0:l[k]=0
   ·simp[h0]
   ·simp[h0]
  ·rw[if_neg (by omega),List.drop_of_length_le (by omega)]
   rfl
theorem qap {N:Nat} {l:List Int} (hl:l.length<4611686018427387904) (h:l.length<N):zo N l=some (zk l):=by
 unfold zo
 rw[show(0:Int)=((0:Nat):Int)from rfl,qjJ l hl N 0 (Nat.zero_le _) (by omega),List.drop_zero]
 by_cases h0:zk l=0
 ·simp[h0]
 ·simp[h0]
theorem xX (b:Bool) (e:Int):qI b e=some (if b=true then e else 0):=by
 unfold qI;split<;>rfl
def yF (n lo hi:Int):Bool:=decide (n<lo)||decide (n>hi)
theorem qcR (n lo hi:Int):jQ n lo hi=some (if yF n lo hi=true then 3 else 0):=by
 unfold jQ yF
 simp only[xX]
 by_cases h:n<lo<;>simp[h]
theorem qdp (n lo hi:Int):jP n lo hi=some (yF n lo hi):=by
 unfold jP yF
 by_cases h:n<lo<;>simp[h]
theorem qm9 {N:Nat} {s:Str} (h:s.length<N):qaY N s=some (if xG s=true then 0 else 8):=by
 unfold qaY
 simp only[ql2 h,xX,Option.bind_some]
 cases xG s<;>rfl
def xJ:Str:=[109,97,107,101]
def qaw:Str:=[116,101,115,116]
def qbX:Str:=[117,115,101]
def xW:Str:=[102,97,105,108]
def zZ:Str:=[114,101,99,97,108,108]
def vO:Str:=[117,110,100,111]
def zm (k:Str):Int×Int×Bool:=
 if(k==xJ)=true then(2,3,true)else if(k==qaw)=true then(1,2,true)else if(k==qbX)=true then(1,2,true)else if(k==xW)=true then(1,1,true)
 else if(k==zZ)=true then(1,1,true)else if(k==vO)=true then(0,0,true)else(0,0,false)
theorem qpa (k:Str):qb8 k=some (zm k):=by
 unfold qb8 zm xJ qaw qbX xW zZ vO
 by_cases h1:(k==[109,97,107,101])=true
 ·simp only[h1,if_true]
 ·by_cases h2:(k==[116,101,115,116])=true
  ·simp only[h1,h2,if_false,if_true,Option.bind_some];rfl
  ·by_cases h3:(k==[117,115,101])=true
   ·simp only[h1,h2,h3,if_false,if_true,Option.bind_some];rfl
   ·by_cases h4:(k==[102,97,105,108])=true
    ·simp only[h1,h2,h3,h4,if_false,if_true,Option.bind_some];rfl
    ·by_cases h5:(k==[114,101,99,97,108,108])=true
     ·simp only[h1,h2,h3,h4,h5,if_false,if_true,Option.bind_some];rfl
     ·simp only[h1,h2,h3,h4,h5,if_false,Option.bind_some,Bool.false_eq_true]
      split<;>rfl
def qJ (e:qb):Int:=
 if yF e.Number 1 1000=true then 3
 else if(zm e.Kind).2.2=false then 13
 else if¬((e.Names.length:Int)=(zm e.Kind).1∧(e.Values.length:Int)=(zm e.Kind).2.1)then 2
 else if e.Names.all xG=false then 8
 else if e.Values.all (fun v=>!yF v 0 999999999)=false then 3
 else if e.Text=[]then 0 else 1
theorem qpc {N:Nat} (e:qb) (hl:e.Names.length<4611686018427387904) (hs: ∀s∈e.Names,s.length<N): ∀(K k:Nat),k≤e.Names.length→e.Names.length<K+k→jb N e K (k:Int)=some (if(e.Names.drop k).all xG=true then .inl ()else .inr 8)
 |0,k,h,hK=>by omega
 |K+1,k,h,hK=>by
  unfold jb
  by_cases hk:k<e.Names.length
  ·rw[if_pos (by omega),qE,List.getElem?_eq_getElem hk,List.drop_eq_getElem_cons hk,qL (by omega),qpc e hl hs K (k+1) (by omega) (by omega)]
   simp only[Option.bind_some,qm9 (hs _ (List.getElem_mem hk)),List.all_cons]
   by_cases hq:xG e.Names[k]=true<;>simp[hq]
  ·rw[if_neg (by omega),List.drop_of_length_le (by omega)]
   rfl
theorem qpj (e:qb) (hl:e.Values.length<4611686018427387904): ∀(K k:Nat),k≤e.Values.length→e.Values.length<K+k→jc e K (k:Int)=some (if(e.Values.drop k).all (fun v=>!yF v 0 999999999)=true then .inl ()else .inr 3)
 |0,k,h,hK=>by omega
 |K+1,k,h,hK=>by
  unfold jc
  by_cases hk:k<e.Values.length
  ·rw[if_pos (by omega),qE,List.getElem?_eq_getElem hk,List.drop_eq_getElem_cons hk,qL (by omega),qpj e hl K (k+1) (by omega) (by omega)]
   simp only[Option.bind_some,qcR,List.all_cons]
   by_cases hq:yF e.Values[k] 0 999999999=true<;>simp[hq]
  ·rw[if_neg (by omega),List.drop_of_length_le (by omega)]
   rfl
structure qcD (N:Nat) (e:qb):Prop where
 n:e.Names.length<N
 v:e.Values.length<N
 s: ∀s∈e.Names,s.length<N
theorem qcB {N:Nat} (hN:N<4611686018427387904) (h3:3<N) {e:qb} (h:qcD N e):jS N e=some (qJ e):=by
 obtain⟨hn,hv,hs⟩:=h
 unfold jS
 have hf:((zq).bind fun r1=>
  if(e.Kind==[109,97,107,101])=true then some (2,3,true)else if(e.Kind==[116,101,115,116])=true then some (1,2,true)else if(e.Kind==[117,115,101])=true then some (1,2,true)
  else if(e.Kind==[102,97,105,108])=true then some (1,1,true)else if(e.Kind==[114,101,99,97,108,108])=true then some (1,1,true)else if(e.Kind==[117,110,100,111])=true then some (0,0,true)
  else some (0,0,false):Option (Int×Int×Bool))=some (zm e.Kind):=by
  simp only[zq,Option.bind_some,zm,xJ,qaw,qbX,xW,zZ,vO]
  by_cases h1:(e.Kind==[109,97,107,101])=true
  ·simp only[h1,if_true]
  by_cases h2:(e.Kind==[116,101,115,116])=true
  ·simp only[h1,h2,if_true,if_false,Bool.false_eq_true]
  by_cases h3:(e.Kind==[117,115,101])=true
  ·simp only[h1,h2,h3,if_true,if_false,Bool.false_eq_true]
  by_cases h4:(e.Kind==[102,97,105,108])=true
  ·simp only[h1,h2,h3,h4,if_true,if_false,Bool.false_eq_true]
  by_cases h5:(e.Kind==[114,101,99,97,108,108])=true
  ·simp only[h1,h2,h3,h4,h5,if_true,if_false,Bool.false_eq_true]
  by_cases h6:(e.Kind==[117,110,100,111])=true
  ·simp only[h1,h2,h3,h4,h5,h6,if_true,if_false,Bool.false_eq_true]
  simp only[h1,h2,h3,h4,h5,h6,if_true,if_false,Bool.false_eq_true]
 rw[hf]
 have e0:(0:Int)=((0:Nat):Int):=rfl
 simp only[Option.bind_some,qcR,xX,qap (N:=N) (l:=[_,_,_]) (by simp) (by simpa using h3)]
 rw[e0,qpc e (by omega) hs N 0 (by omega) (by omega),qpj e (by omega) N 0 (by omega) (by omega),List.drop_zero,List.drop_zero]
 unfold qJ
 generalize zm e.Kind=f
 obtain⟨a,b,c⟩:=f
 by_cases h1:yF e.Number 1 1000=true
 ·by_cases hx:(e.Names.length:Int)=a<;>simp[h1,zk,hx]
 ·cases c
  ·by_cases hx:(e.Names.length:Int)=a<;>simp[h1,zk,hx]
  ·by_cases hx:(e.Names.length:Int)=a
   ·by_cases hy:(e.Values.length:Int)=b
    ·cases hA:e.Names.all xG
     ·simp[h1,zk,hx,hy,hA]
     ·cases hB:e.Values.all (fun v=>!yF v 0 999999999)
      ·simp[h1,zk,hx,hy,hA,hB]
      ·by_cases ht:e.Text=[]
       ·simp[h1,zk,hx,hy,hA,hB,ht]
       ·have:(e.Text==[])=false:=by cases hq:e.Text with|nil=>exact absurd hq ht|cons=>rfl
        simp[h1,zk,hx,hy,hA,hB,ht,this]
    ·simp[h1,zk,hx,hy]
   ·simp[h1,zk,hx]
theorem qnZ {N:Nat} (hN:N<4611686018427387904) (e:qb) {r:Int×Int×Bool} (hr:(e.Names.length:Int)=r.1) (hl:e.Names.length<4611686018427387904) (hs: ∀s∈e.Names,s.length<N): ∀(K k:Nat),k≤e.Names.length→e.Names.length<K+k→jy N e r K (k:Int)=some (if(e.Names.drop k).all xG=true then .inl ()else .inr 8)
 |0,k,h,hK=>by omega
 |K+1,k,h,hK=>by
  unfold jy
  by_cases hk:k<e.Names.length
  ·have:=hs _ (List.getElem_mem hk)
   rw[if_pos (by omega),qE,List.getElem?_eq_getElem hk,List.drop_eq_getElem_cons hk,qL (by omega),qnZ hN e hr hl hs K (k+1) (by omega) (by omega)]
   simp only[Option.bind_some,qk1 this (by omega),List.all_cons]
   by_cases hq:xG e.Names[k]=true<;>simp[hq]
  ·rw[if_neg (by omega),List.drop_of_length_le (by omega)]
   rfl
theorem qnA (e:qb) {r:Int×Int×Bool} (hr:(e.Values.length:Int)=r.2.1) (hl:e.Values.length<4611686018427387904): ∀(K k:Nat),k≤e.Values.length→e.Values.length<K+k→jw e r K (k:Int)=some (if(e.Values.drop k).all (fun v=>!yF v 0 999999999)=true then .inl ()else .inr 3)
 |0,k,h,hK=>by omega
 |K+1,k,h,hK=>by
  unfold jw
  by_cases hk:k<e.Values.length
  ·rw[if_pos (by omega),qE,List.getElem?_eq_getElem hk,List.drop_eq_getElem_cons hk,qL (by omega),qnA e hr hl K (k+1) (by omega) (by omega)]
   simp only[Option.bind_some,qdp,List.all_cons]
   by_cases hq:yF e.Values[k] 0 999999999=true<;>simp[hq]
  ·rw[if_neg (by omega),List.drop_of_length_le (by omega)]
   rfl
theorem qhk {N:Nat} (hN:N<4611686018427387904) {e:qb} (h:qcD N e):y8 N e=some (qJ e):=by
 obtain⟨hn,hv,hs⟩:=h
 unfold y8 qJ
 rw[qdp,qpa]
 simp only[Option.bind_some]
 by_cases h1:yF e.Number 1 1000=true
 ·simp[h1]
 ·rw[if_neg h1,if_neg h1]
  cases hc:(zm e.Kind).2.2
  ·simp
  ·by_cases hx:(e.Names.length:Int)=(zm e.Kind).1
   ·by_cases hy:(e.Values.length:Int)=(zm e.Kind).2.1
    ·have e0:(0:Int)=((0:Nat):Int):=rfl
     rw[e0,qnZ hN e hx (by omega) hs N 0 (by omega) (by omega),qnA e hy (by omega) N 0 (by omega) (by omega),List.drop_zero,List.drop_zero]
     cases hA:e.Names.all xG
     ·simp[hx,hy]
     ·cases hB:e.Values.all (fun v=>!yF v 0 999999999)
      ·simp[hx,hy]
      ·by_cases ht:e.Text=[]
       ·simp[hx,hy,ht]
       ·have:(e.Text==[])=false:=by cases hq:e.Text with|nil=>exact absurd hq ht|cons=>rfl
        simp[hx,hy,ht,this]
    ·simp[hx,hy]
   ·simp[hx]
def qbN (s:qc) (d:Int):Bool:=s.Gone||(decide (d>s.Last)||decide (s.Used=s.Uses))
def qgZ (s:qc) (d:Int):Bool:=decide (s.Limit>0)&&decide (d≤s.Until)
theorem qhT (s:qc) (d:Int):jd s d=some (qbN s d):=by
 unfold jd qbN
 by_cases h:s.Gone=true
 ·simp[h]
 ·by_cases h2:d>s.Last<;>simp[h,h2]
theorem qgg (s:qc) (d:Int):xP s d=some (qbN s d):=by
 unfold xP qbN
 by_cases h:s.Gone=true
 ·simp[h]
 ·by_cases h2:d>s.Last<;>simp[h,h2]
theorem qnn (s:qc) (d:Int):vw s d=some (qgZ s d):=by
 unfold vw qgZ
 by_cases h:s.Limit>0<;>simp[h]
theorem qmv (s:qc) (d:Int):qaN s d=some (qgZ s d):=by
 unfold qaN qgZ
 by_cases h:s.Limit>0<;>simp[h]
def yf:List qc→Str→Nat
 |[],_=>0
 |s::l,n=>if ltL s.Name n=true then yf l n+1 else 0
def xS:List qc→Str→Bool
 |[],_=>false
 |s::l,n=>if ltL s.Name n=true then xS l n else s.Name==n
theorem qfs: ∀(l:List qc) (n:Str),yf l n≤l.length
 |[],_=>Nat.le_refl _
 |s::l,n=>by
  unfold yf
  split
  ·have:=qfs l n;simp only[List.length_cons];omega
  ·simp
theorem qes: ∀{l:List qc} {n:Str},xS l n=true→yf l n<l.length
 |[],_,h=>by simp[xS]at h
 |s::l,n,h=>by
  unfold xS at h
  unfold yf
  by_cases hc:ltL s.Name n=true
  ·rw[if_pos hc]at h⊢
   have:=qes h
   simp only[List.length_cons];omega
  ·rw[if_neg hc];simp
theorem qfz: ∀{l:List qc} {n:Str} {s:qc},l[yf l n]? =some s→xS l n=(s.Name==n)
 |[],_,_,h=>by simp at h
 |t::l,n,s,h=>by
  unfold yf at h
  unfold xS
  by_cases hc:ltL t.Name n=true
  ·rw[if_pos hc]at h⊢
   exact qfz (by simpa using h)
  ·rw[if_neg hc]at h⊢
   simp only[List.getElem?_cons_zero,Option.some.injEq]at h
   rw[h]
theorem qfg (l:List qc) (hl:l.length<4611686018427387904) (n:Str): ∀(K k:Nat),k≤l.length→l.length<K+k→qQ l n K (k:Int)=some (if yf (l.drop k) n<(l.drop k).length then .inr ((k+yf (l.drop k) n:Nat):Int)else .inl ())
 |0,k,h,hK=>by omega
 |K+1,k,h,hK=>by
  unfold qQ
  by_cases hk:k<l.length
  ·rw[if_pos (by omega),qE,List.getElem?_eq_getElem hk,List.drop_eq_getElem_cons hk,qL (by omega),qfg l hl n K (k+1) (by omega) (by omega)]
   simp only[Option.bind_some,jT,yf,List.length_cons]
   by_cases hc:ltL (l[k]).Name n=true
   ·simp only[hc,Bool.not_true,Bool.false_eq_true,if_false,if_true,Nat.add_lt_add_iff_right]
    split
    ·rw[show k+1+yf (List.drop (k+1) l) n=k+(yf (List.drop (k+1) l) n+1)by omega]
    ·rfl
   ·simp[hc]
  ·rw[if_neg (by omega),List.drop_of_length_le (by omega)]
   rfl
theorem qlC {N:Nat} {l:List qc} (hl:l.length<4611686018427387904) (hN:l.length<N) (d:Int) (n:Str):jh N ⟨d,l⟩ n=some ((yf l n:Int),xS l n):=by
 unfold jh j4
 rw[show(0:Int)=((0:Nat):Int)from rfl,qfg l hl n N 0 (by omega) (by omega),List.drop_zero]
 by_cases h:yf l n<l.length
 ·have hg:l[yf l n]? =some (l[yf l n]):=List.getElem?_eq_getElem h
  have h2: ¬((yf l n:Nat):Int)<0:=by omega
  simp only[h,if_true,Nat.zero_add,Option.bind_some]
  rw[if_neg (by omega),qE,hg,Option.bind_some,qfz hg]
 ·have h0:xS l n=false:=by
   cases hq:xS l n with
   |false=>rfl
   |true=>exact absurd (qes hq) h
  have h1:yf l n=l.length:=by have:=qfs l n;omega
  simp[h,h0,h1]
def Asc (l:List qc):Prop:=l.Pairwise fun a b=>ltL a.Name b.Name=true
theorem Asc.find: ∀{l:List qc},Asc l→ ∀n:Str,l.findIdx? (fun s=>s.Name==n)=if xS l n=true then some (yf l n)else none
 |[],_,n=>by simp[xS]
 |s::l,h,n=>by
  have h1:=(List.pairwise_cons.1 h).1
  have h2:=Asc.find (List.pairwise_cons.1 h).2 n
  rw[List.findIdx?_cons]
  unfold xS yf
  by_cases hc:ltL s.Name n=true
  ·have:(s.Name==n)=false:=beq_eq_false_iff_ne.2 (qiT hc)
   rw[if_pos hc,if_pos hc,this,h2]
   simp only[Bool.false_eq_true,if_false]
   split<;>rfl
  ·rw[if_neg hc,if_neg hc]
   by_cases he:(s.Name==n)=true
   ·simp[he]
   ·simp only[he,if_false,Bool.false_eq_true]
    have hgt:ltL n s.Name=true:=by
     cases hq:ltL n s.Name with
     |true=>rfl
     |false=>exact absurd (beq_iff_eq.2 (qi5 _ _ (by simpa using hc) hq)) he
    have:l.findIdx? (fun s=>s.Name==n)=none:=by
     rw[List.findIdx?_eq_none_iff]
     intro x hx
     exact beq_eq_false_iff_ne.2 fun e=>qiT (qfW hgt (h1 x hx)) e.symm
    rw[this];rfl
theorem qpb (r:qD) (hl:r.Slings.length<4611686018427387904) (n:Str): ∀(K k:Nat),k≤r.Slings.length→r.Slings.length<K+k→qab r n K (k:Int)=some (match(r.Slings.drop k).findIdx? (fun s=>s.Name==n)with|some j=> .inr ((k+j:Nat):Int)|none=> .inl ())
 |0,k,h,hK=>by omega
 |K+1,k,h,hK=>by
  unfold qab
  by_cases hk:k<r.Slings.length
  ·rw[if_pos (by omega),qE,List.getElem?_eq_getElem hk,List.drop_eq_getElem_cons hk,qL (by omega),qpb r hl n K (k+1) (by omega) (by omega),List.findIdx?_cons]
   simp only[Option.bind_some]
   by_cases he:((r.Slings[k]).Name==n)=true
   ·simp[he]
   ·simp only[he,if_false,Bool.false_eq_true]
    cases(r.Slings.drop (k+1)).findIdx? (fun s=>s.Name==n)with
    |none=>rfl
    |some j=>simp only[Option.map_some];rw[show k+1+j=k+(j+1)by omega]
  ·rw[if_neg (by omega),List.drop_of_length_le (by omega)]
   rfl
theorem qnI {N:Nat} {r:qD} (hl:r.Slings.length<4611686018427387904) (hN:r.Slings.length<N) (ha:Asc r.Slings) (n:Str):qeg N r n=some (if xS r.Slings n=true then(yf r.Slings n:Int)else-1):=by
 unfold qeg
 rw[show(0:Int)=((0:Nat):Int)from rfl,qpb r hl n N 0 (by omega) (by omega),List.drop_zero,ha.find n]
 by_cases h:xS r.Slings n=true<;>simp[h]
theorem Asc.uniq {l:List qc} (h:Asc l) {i:Nat} {s:qc} {n:Str} (hi:l[i]? =some s) (hs:s.Name=n):xS l n=true∧yf l n=i:=by
 have hf:=h.find n
 have hlt:=(List.getElem?_eq_some_iff.1 hi).1
 cases hq:xS l n with
 |false=>
  rw[hq,if_neg (by simp),List.findIdx?_eq_none_iff]at hf
  have:=hf s (List.mem_of_getElem? hi)
  simp[hs]at this
 |true=>
  refine⟨rfl,?_⟩
  have hp:=qes hq
  have hg:l[yf l n]? =some (l[yf l n]):=List.getElem?_eq_getElem hp
  have hn:=qfz hg
  rw[hq]at hn
  have hn:(l[yf l n]).Name=n:=(beq_iff_eq.1 hn.symm)
  have he:l[i]=s:=by
   rw[List.getElem?_eq_getElem hlt]at hi
   injection hi
  rcases Nat.lt_trichotomy (yf l n) i with hlt2|e|hgt
  ·have:=List.pairwise_iff_getElem.1 h _ _ hp hlt hlt2
   rw[he,hn,hs]at this
   exact absurd rfl (qiT this)
  ·exact e
  ·have:=List.pairwise_iff_getElem.1 h _ _ hlt hp hgt
   rw[he,hn,hs]at this
   exact absurd rfl (qiT this)
def qhP (l:List qc) (s:qc):List qc:=l.take (yf l s.Name)++s::l.drop (yf l s.Name)
theorem qbV {d:Int} {l:List qc} (h:l.length≤1000):qp d l=some l:=by
 unfold qp
 have e:mk 88 (l.length:Int) (⟨[],[],0,0,0,0,0,0,false⟩:qc)=some (List.replicate l.length ⟨[],[],0,0,0,0,0,0,false⟩):=by
  unfold mk
  rw[if_pos ⟨by omega,by omega,by omega⟩,Int.toNat_natCast]
 rw[e,Option.bind_some,qjR (by simp)]
 rfl
theorem qmq {l:List qc} (h:l.length≤1000) {p:Nat} (hp:p≤l.length) (a b:Str) (c d e f g i:Int) (j:Bool):jU l (p:Int) a b c d e f g i j=some (l.take p++⟨a,b,c,d,e,f,g,i,j⟩::l.drop p):=by
 unfold jU
 generalize hs:(⟨a,b,c,d,e,f,g,i,j⟩:qc)=s
 rw[qk0 hp,Option.bind_some,if_neg (by decide)]
 by_cases he:p=l.length
 ·rw[if_pos (by omega),he,List.take_length,List.drop_length]
  cases l with
  |nil=>rfl
  |cons x xs=>
   simp only[List.length_cons]at h
   simp only[vX (b:=88) (l:=x::xs) (xs:=[s]) (by simp;omega) (by simp;omega),Option.bind_some]
 ·rw[if_neg (by omega)]
  have w1:w64 ((l.length:Int)+1)=((l.length+1:Nat):Int):=qL (by omega)
  have w2:w64 (((l.length+1:Nat):Int)-(p:Int))=((l.length+1-p:Nat):Int):=by rw[jY (by omega) (by omega)];omega
  have w3:w64 ((p:Int)+1)=((p+1:Nat):Int):=qL (by omega)
  rw[w1,if_pos (by omega),w2,w3]
  have e1:qmL 88 l p ((l.length+1-p:Nat):Int) (⟨[],[],0,0,0,0,0,0,false⟩:qc)=some (l.take p++List.replicate (l.length+1-p) ⟨[],[],0,0,0,0,0,0,false⟩):=by
   unfold qmL
   rw[if_pos ⟨by omega,by omega,by omega,by omega,hp,by simp only[Int.toNat_natCast];omega,by simp only[Int.toNat_natCast];omega,by simp only[Int.toNat_natCast];omega⟩,Int.toNat_natCast]
  rw[e1,Option.bind_some]
  obtain⟨z,hz⟩: ∃z:qc,z=⟨[],[],0,0,0,0,0,0,false⟩:=⟨_,rfl⟩
  rw[←hz]
  have e2:List.replicate (l.length+1-p) z=z::List.replicate (l.length-p) z:=by
   rw[show l.length+1-p=(l.length-p)+1 by omega];rfl
  have lt:(l.take p).length=p:=by rw[List.length_take];omega
  have e3:(if(p:Int)=0 then(some (cpy (l.take p++List.replicate (l.length+1-p) z) [s])).bind fun l13=>some l13
   else(at' (l.take p++List.replicate (l.length+1-p) z) (p:Int)).bind fun j14=>((if j14<(l.take p++List.replicate (l.length+1-p) z).length then some ()else none:Option Unit)).bind fun u15=>
    (some (qfd (l.take p++List.replicate (l.length+1-p) z) j14 [s])).bind fun l16=>some l16:Option (List qc))=some (l.take p++s::List.replicate (l.length-p) z):=by
   by_cases h0:p=0
   ·subst h0
    rw[if_pos (by rfl)]
    simp only[Option.bind_some,List.take_zero,List.nil_append,e2]
    simp[cpy]
   ·rw[if_neg (by omega),qk0 (by simp;omega),Option.bind_some,if_pos (by simp;omega),Option.bind_some,Option.bind_some]
    simp only[qfd,List.take_append,List.drop_append,lt,Nat.sub_self,List.take_zero,List.append_nil,List.drop_zero]
    rw[List.take_of_length_le (by omega),List.drop_of_length_le (by omega),List.nil_append,e2]
    simp[cpy]
  rw[e3,Option.bind_some,if_neg (by omega),qk0 (by simp;omega),Option.bind_some,if_pos (by simp;omega),Option.bind_some,Option.bind_some]
  have e4:(l.take p++s::List.replicate (l.length-p) z).take (p+1)=l.take p++[s]:=by
   rw[List.take_append,lt,List.take_of_length_le (by omega),show p+1-p=1 by omega];rfl
  have e5:(l.take p++s::List.replicate (l.length-p) z).drop (p+1)=List.replicate (l.length-p) z:=by
   rw[List.drop_append,lt,List.drop_of_length_le (by omega),show p+1-p=1 by omega];rfl
  simp only[qfd,e4,e5]
  rw[qjR (by simp),List.append_assoc]
  rfl
def qag (d day:Int):Int:=if day>99999 then 3 else if day<d then 19 else 0
theorem qml {N:Nat} (hN:2<N) {d day:Int} (h:0≤day):zo N [if yF day 0 99999=true then 3 else 0,if decide (day<d)=true then 19 else 0]=some (qag d day):=by
 rw[qap (by simp) (by simpa using hN)]
 unfold yF qag
 by_cases h1:day>99999
 ·simp[h1,zk]
 ·have: ¬day<0:=by omega
  by_cases h2:day<d<;>simp[h1,h2,this,zk]
theorem qgn (n:Int):yc n=some (if yF n 0 99999=true then 3 else 0):=by
 unfold yc;rw[qcR];rfl
structure qbF (N:Nat) (l:List qc):Prop where
 asc:Asc l
 len:l.length≤1000
 big:6000<N
 max:N<4611686018427387904
def qfq (r:Option (Int×List qc×Int)) (err day:Int) (new:List qc):Prop:= ∃x l',r=some (x,l',err)∧(err=0→x=day∧l'=new)
structure qmh (N:Nat) (d:Int) (l:List qc) (e:qb) (err day:Int) (new:List qc):Prop where
 ref:jG N ⟨d,l⟩ e=some err
 aft:err=0→jN N ⟨d,l⟩ e=some ⟨day,new⟩
theorem qfq.day {N:Nat} (hN:6000<N) {d:Int} {l new:List qc} {num:Int} {k:Str} {ns:List Str} {vs:List Int} {t:Str} {day err err2:Int} (hv:vs[0]? =some day) (h0:0≤day) (he:err=if qag d day=0 then err2 else qag d day)
 (hk:qag d day=0→ ∃l',(((zq).bind fun r9=>
    if(k==[109,97,107,101])=true then(qp d l).bind fun l12=>(qal N d l12 num k ns vs t).bind fun(l14,e_15)=>some (l14,e_15)
    else if(k==[116,101,115,116])=true then(qp d l).bind fun l18=>(xg N d l18 num k ns vs t).bind fun(l20,e_21)=>some (l20,e_21)
    else if(k==[117,115,101])=true then(qp d l).bind fun l24=>(qaj N d l24 num k ns vs t).bind fun(l26,e_27)=>some (l26,e_27)
    else if(k==[102,97,105,108])=true then(qp d l).bind fun l30=>(yV N d l30 num k ns vs t).bind fun(l32,e_33)=>some (l32,e_33)
    else if(k==[114,101,99,97,108,108])=true then(qp d l).bind fun l36=>(yz N d l36 num k ns vs t).bind fun(l38,e_39)=>some (l38,e_39)
    else if(k==[117,110,100,111])=true then none else none:Option (List qc×Int))=some (l',err2))∧(err2=0→l'=new)):
 qfq (qC N d l num k ns vs t) err day new:=by
 unfold qfq qC
 rw[qav,hv,Option.bind_some,qgn,Option.bind_some,xX,Option.bind_some,qml (by omega) h0,Option.bind_some]
 by_cases hd:qag d day=0
 ·obtain⟨l',h1,h2⟩:=hk hd
  rw[if_pos hd]at he
  subst he
  rw[if_neg (by simp[hd]),h1,Option.bind_some]
  exact⟨day,l',rfl,fun h=>⟨rfl,h2 h⟩⟩
 ·rw[if_neg hd]at he
  subst he
  rw[if_pos (by simp[hd])]
  exact⟨0,[],rfl,fun h=>absurd h hd⟩
def qfC (l:List qc) (n:Str) (day life uses:Int):Int:=
 if xS l n=true then 9 else if yF life 1 9999=true then 3 else if yF uses 1 9999=true then 3 else if w64 (day+life)>99999 then 3 else if l.length≥256 then 5 else 0
theorem qpI {N:Nat} {d:Int} {l:List qc} (h:qbF N l) {num day life uses:Int} {n b t:Str} (h0:0≤day∧day≤999999999) (h1:0≤life∧life≤999999999):
 qfq (qC N d l num xJ [n,b] [day,life,uses] t) (if qag d day=0 then qfC l n day life uses else qag d day) day (qhP l ⟨n,b,day,w64 (day+life),uses,0,0,0,false⟩):=by
 obtain⟨ha,hl,hN,hM⟩:=h
 refine qfq.day hN rfl h0.1 rfl fun hd=>?_
 simp only[zq,Option.bind_some,show(xJ==[109,97,107,101])=true by decide,if_true,qbV hl,qal,qav,qfl,qok,List.getElem?_cons_zero,List.getElem?_cons_succ,qlC (N:=N) (l:=l) (by omega) (by omega),xX,qcR,qgn]
 rw[qap (by simp) (by simp;omega),Option.bind_some]
 have e:zk [if xS l n=true then 9 else 0,if yF life 1 9999=true then 3 else 0,if yF uses 1 9999=true then 3 else 0,if yF (w64 (day+life)) 0 99999=true then 3 else 0,if decide ((l.length:Int)≥256)=true then 5 else 0]=qfC l n day life uses:=by
  have hw:w64 (day+life)=day+life:=jY (by omega) (by omega)
  rw[hw]
  unfold qfC
  rw[hw]
  by_cases a1:xS l n=true
  ·simp[a1,zk]
  ·by_cases a2:yF life 1 9999=true
   ·simp[a1,a2,zk]
   ·by_cases a3:yF uses 1 9999=true
    ·simp[a1,a2,a3,zk]
    ·by_cases a4:day+life>99999
     ·have:yF (day+life) 0 99999=true:=by simp[yF];omega
      simp[a1,a2,a3,a4,this,zk]
     ·have:yF (day+life) 0 99999=false:=by simp[yF];omega
      by_cases a5:l.length≥256
      ·have:(l.length:Int)≥256:=by omega
       simp[a1,a2,a3,a4,a5,this,zk, *]
      ·have: ¬(l.length:Int)≥256:=by omega
       simp[a1,a2,a3,a4,a5,this,zk, *]
 rw[e]
 by_cases hz:qfC l n day life uses=0
 ·rw[if_neg (by simp[hz])]
  simp only[qmq hl (qfs l n),Option.bind_some]
  exact⟨_,by rw[hz];rfl,fun _=>rfl⟩
 ·rw[if_pos (by simp[hz])]
  exact⟨_,rfl,fun h=>absurd h hz⟩
theorem qjk (l:List qc) (hl:l.length≤1000) (n:Str) (x:Int): ∀(K k:Nat),k≤l.length→l.length<K+k→jX l n K x (k:Int)=some (x,((k+yf (l.drop k) n:Nat):Int))
 |0,k,h,hK=>by omega
 |K+1,k,h,hK=>by
  unfold jX
  by_cases hk:k<l.length
  ·rw[if_pos (by omega),qE,List.getElem?_eq_getElem hk,List.drop_eq_getElem_cons hk,qL (by omega),qjk l hl n x K (k+1) (by omega) (by omega)]
   simp only[Option.bind_some,yf]
   by_cases hc:ltL (l[k]).Name n=true
   ·simp only[hc,if_true,Option.some.injEq,Prod.mk.injEq,true_and]
    omega
   ·simp[hc]
  ·rw[if_neg (by omega),List.drop_of_length_le (by omega)]
   simp[yf]
theorem qpt {N:Nat} {d:Int} {l:List qc} (h:qbF N l) {num day life uses:Int} {n b t:Str}:
 qmh N d l ⟨num,xJ,[n,b],[day,life,uses],t⟩ (if qag d day=0 then qfC l n day life uses else qag d day) day (qhP l ⟨n,b,day,w64 (day+life),uses,0,0,0,false⟩):=by
 obtain⟨ha,hl,hN,hM⟩:=h
 constructor
 ·unfold jG
  simp only[qav,qfl,qok,List.getElem?_cons_zero,List.getElem?_cons_succ,Option.bind_some,qnI (N:=N) (r:=⟨d,l⟩) (show l.length<_ by omega) (show l.length<N by omega) ha,qdp,show(xJ==[109,97,107,101])=true by decide,if_true]
  unfold qag qfC
  by_cases a1:day>99999
  ·simp[a1]
  by_cases a2:day<d
  ·simp[a1,a2]
  simp only[a1,a2,if_false,if_true]
  by_cases a3:xS l n=true
  ·simp[a3]
  ·have: ¬((-1:Int)≥0):=by omega
   simp only[a3,this,if_false,Bool.false_eq_true]
   by_cases a4:yF life 1 9999=true
   ·simp[a4]
   ·by_cases a5:yF uses 1 9999=true
    ·simp[a4,a5]
    ·by_cases a6:w64 (day+life)>99999
     ·simp[a4,a5,a6]
     ·by_cases a7:l.length≥256
      ·have:(l.length:Int)≥256:=by omega
       simp[a4,a5,a6,a7,this]
      ·have: ¬(l.length:Int)≥256:=by omega
       simp[a4,a5,a6,a7,this]
 ·intro hz
  unfold jN
  have e0:(0:Int)=((0:Nat):Int):=rfl
  simp only[qav,qfl,qok,List.getElem?_cons_zero,List.getElem?_cons_succ,Option.bind_some,show(xJ==[109,97,107,101])=true by decide,if_true]
  rw[vX (by simp;omega) (by simp;omega),Option.bind_some,List.nil_append]
  rw[show(jX l n N (w64 (day+life)) 0)=jX l n N (w64 (day+life)) ((0:Nat):Int)from rfl,qjk l hl n _ N 0 (by omega) (by omega),List.drop_zero,Option.bind_some]
  have hp:=qfs l n
  simp only[Nat.zero_add]
  rw[xH hp,Option.bind_some,vX (by simp;omega) (by simp;omega),Option.bind_some,List.nil_append,vX (by simp;omega) (by simp;omega),Option.bind_some,yA hp,Option.bind_some,vX (by simp;omega) (by simp;omega),Option.bind_some]
  simp[qhP]
def qfY (l:List qc) (n:Str) (f:qc→qc):List qc:=l.map fun s=>if(s.Name==n)=true then f s else s
theorem Asc.set {l:List qc} (h:Asc l) {i:Nat} {s:qc} {n:Str} (hi:l[i]? =some s) (hs:s.Name=n) (f:qc→qc):qfY l n f=l.set i (f s):=by
 refine List.ext_getElem? fun j=>?_
 have hlt:=(List.getElem?_eq_some_iff.1 hi).1
 unfold qfY
 rw[List.getElem?_map,List.getElem?_set]
 by_cases hj:i=j
 ·subst hj
  rw[if_pos rfl,hi]
  simp[hs,hlt]
 ·rw[if_neg hj]
  cases hq:l[j]? with
  |none=>rfl
  |some t=>
   have: ¬(t.Name==n)=true:=fun e=>hj ((h.uniq hi hs).2.symm.trans (h.uniq hq (beq_iff_eq.1 e)).2)
   simp only[Option.map_some,this,if_false,Bool.false_eq_true]
def qcb (l:List qc) (n:Str) (day:Int) (more:qc→Int):Int:=match l[yf l n]? with
 |some s=>if xS l n=true then if qbN s day=true then 20 else more s else 10
 |none=>10
theorem qiU {N:Nat} {d:Int} {l:List qc} (h:qbF N l) (n:Str) (day:Int):zx N d l n day=match l[yf l n]? with
 |some s=>if xS l n=true then some ((yf l n:Int),true,if qbN s day=true then 20 else 0)else some (0,false,10)
 |none=>some (0,false,10):=by
 obtain⟨ha,hl,hN,hM⟩:=h
 unfold zx
 rw[qlC (by omega) (by omega),Option.bind_some]
 cases hq:l[yf l n]? with
 |none=>
  have:xS l n=false:=by
   cases hh:xS l n with
   |false=>rfl
   |true=>have:=qes hh;rw[List.getElem?_eq_getElem this]at hq;cases hq
  simp[this]
 |some s=>
  by_cases hh:xS l n=true
  ·simp only[hh,Bool.not_true,Bool.false_eq_true,if_false,if_true,qE,hq,Option.bind_some,qhT,xX]
  ·simp[hh]
theorem qi7 {l:List qc} {n:Str} {s:qc} (hq:l[yf l n]? =some s) (hh:xS l n=true):s.Name=n:=by
 have:=qfz hq
 rw[hh]at this
 exact beq_iff_eq.1 this.symm
theorem qaL {l:List qc} {n:Str} {day:Int} {m:qc→Int} (h:xS l n=false):qcb l n day m=10:=by
 unfold qcb
 cases l[yf l n]? with
 |none=>rfl
 |some s=>simp[h]
theorem qgz {l:List qc} {n:Str} (h:xS l n=true): ∃s,l[yf l n]? =some s∧yf l n<l.length:=⟨_,List.getElem?_eq_getElem (qes h),qes h⟩
theorem qeT {N:Nat} {d:Int} {l:List qc} (h:qbF N l) {e:qb} {n:Str} {day:Int} (hn:e.Names[0]? =some n) (hv:e.Values[0]? =some day) (h1:(e.Kind==xJ)=false) (h5:(e.Kind==zZ)=false) {m:qc→Int}
 (hm: ∀s:qc,(((if(e.Kind==[116,101,115,116])=true then(idx e.Values 1).bind fun x43=>(jP x43 2 999999999).bind fun r44=>some r44 else some false:Option Bool).bind fun b45=>
    if b45=true then some 3 else((if(e.Kind==[117,115,101])=true then(qaN s day).bind fun r51=>if(!r51)=true then some (.inr 24)else(idx e.Values 1).bind fun x53=>if x53>s.Limit then some (.inr 31)else some (.inl ())else some (.inl ()):Option (Unit⊕Int))).bind (fun
     |(.inl ())=>some 0
     |(.inr q55)=>some q55)):Option Int)=some (m s)):
 jG N ⟨d,l⟩ e=some (if qag d day=0 then qcb l n day m else qag d day):=by
 obtain⟨ha,hl,hN,hM⟩:=h
 unfold jG
 simp only[qav,hv,hn,Option.bind_some,qnI (N:=N) (r:=⟨d,l⟩) (show l.length<_ by omega) (show l.length<N by omega) ha]
 have h1': ¬(e.Kind==[109,97,107,101])=true:=by rw[show([109,97,107,101]:Str)=xJ from rfl,h1];simp
 have h5': ¬(e.Kind==[114,101,99,97,108,108])=true:=by rw[show([114,101,99,97,108,108]:Str)=zZ from rfl,h5];simp
 rw[if_neg h1',if_neg h5']
 unfold qag
 by_cases a1:day>99999
 ·simp[a1]
 by_cases a2:day<d
 ·simp[a1,a2]
 simp only[a1,a2,if_false,if_true]
 cases hh:xS l n with
 |false=>rw[qaL hh];rfl
 |true=>
  obtain⟨s,hs,hlt⟩:=qgz hh
  rw[if_pos rfl,if_neg (by omega),qE,hs,Option.bind_some,qgg,Option.bind_some]
  unfold qcb
  rw[hs]
  simp only[hh,if_true]
  by_cases hr:qbN s day=true
  ·simp[hr]
  ·rw[if_neg hr,if_neg hr]
   exact hm s
theorem qei {e:qb} {day:Int} {n:Str} (hn:e.Names[0]? =some n) (f:qc→qc) (hf: ∀(s:qc) (l:List qc) (k:Nat),l[k]? =some s→(((if(e.Kind==[116,101,115,116])=true then some (s.Name==n)else some false:Option Bool).bind fun b33=>
 if b33=true then(idx e.Values 1).bind fun x36=>(put l k (⟨s.Name,s.Batch,s.Born,s.Last,s.Uses,s.Used,w64 (x36.tdiv 2),s.Until,s.Gone⟩:qc)).bind fun l37=>(idx l37 k).bind fun x38=>
  (put l37 k (⟨x38.Name,x38.Batch,x38.Born,x38.Last,x38.Uses,x38.Used,x38.Limit,(if x38.Last<(w64 (day+365))then x38.Last else(w64 (day+365))),x38.Gone⟩:qc)).bind fun l39=>some l39
 else(if(e.Kind==[117,115,101])=true then some (s.Name==n)else some false:Option Bool).bind fun b41=>
 if b41=true then(put l k (⟨s.Name,s.Batch,s.Born,s.Last,s.Uses,w64 (s.Used+1),s.Limit,s.Until,s.Gone⟩:qc)).bind fun l44=>some l44
 else(if(e.Kind==[102,97,105,108])=true then some (s.Name==n)else some false:Option Bool).bind fun b46=>
 ((if b46=true then some b46 else(if(e.Kind==[114,101,99,97,108,108])=true then some (s.Batch==n)else some false:Option Bool).bind fun b52=>some b52:Option Bool)).bind fun b48=>
 if b48=true then(put l k (⟨s.Name,s.Batch,s.Born,s.Last,s.Uses,s.Used,s.Limit,s.Until,true⟩:qc)).bind fun l55=>some l55 else some l):Option (List qc))=some (l.set k (f s))):
 ∀(K:Nat) (l:List qc) (k:Nat),l.length≤1000→k≤l.length→l.length<K+k→jD e day K l (k:Int)=some (l.take k++(l.drop k).map f)
 |0,l,k,hl,h,hK=>by omega
 |K+1,l,k,hl,h,hK=>by
  unfold jD
  by_cases hk:k<l.length
  ·have hg:l[k]? =some l[k]:=List.getElem?_eq_getElem hk
   rw[if_pos (by omega),qE,hg,Option.bind_some,qav,hn,Option.bind_some]
   have:=hf l[k] l k hg
   rw[this,Option.bind_some,qL (by omega),qei hn f hf K (l.set k (f l[k])) (k+1) (by simp;omega) (by simp;omega) (by simp;omega)]
   congr 1
   rw[List.drop_eq_getElem_cons hk,List.drop_set,if_pos (by omega),List.map_cons,List.take_add_one,List.getElem?_set_self hk,List.take_set,List.set_eq_of_length_le (by simp;exact Nat.min_le_left _ _)]
   simp
  ·rw[if_neg (by omega),List.take_of_length_le (by omega),List.drop_of_length_le (by omega)]
   simp
theorem qev {N:Nat} {d:Int} {l:List qc} (h:qbF N l) {e:qb} {day:Int} {n:Str} (hn:e.Names[0]? =some n) (hv:e.Values[0]? =some day) (h1:(e.Kind==xJ)=false) (f:qc→qc)
 (hK: ∀(K:Nat) (l:List qc) (k:Nat),l.length≤1000→k≤l.length→l.length<K+k→jD e day K l (k:Int)=some (l.take k++(l.drop k).map f)):jN N ⟨d,l⟩ e=some ⟨day,l.map f⟩:=by
 obtain⟨ha,hl,hN,hM⟩:=h
 unfold jN
 rw[qav,hv,Option.bind_some]
 have h1': ¬(e.Kind==[109,97,107,101])=true:=by rw[show([109,97,107,101]:Str)=xJ from rfl,h1];simp
 simp only
 rw[vX (by simp;omega) (by simp;omega),Option.bind_some,List.nil_append,if_neg h1']
 rw[show jD e day N l 0=jD e day N l ((0:Nat):Int)from rfl,hK N l 0 hl (by omega) (by omega)]
 simp
def qko (load:Int) (_:qc):Int:=if yF load 2 999999999=true then 3 else 0
def qiA (day load:Int) (s:qc):qc:=⟨s.Name,s.Batch,s.Born,s.Last,s.Uses,s.Used,w64 (load.tdiv 2),(if s.Last<w64 (day+365)then s.Last else w64 (day+365)),s.Gone⟩
theorem qnx {N:Nat} {d:Int} {l:List qc} (h:qbF N l) {num day load:Int} {n t:Str} (h0:0≤day):
 qfq (qC N d l num qaw [n] [day,load] t) (if qag d day=0 then qcb l n day (qko load)else qag d day) day (qfY l n (qiA day load)):=by
 have h':=h
 obtain⟨ha,hl,hN,hM⟩:=h
 refine qfq.day hN rfl h0 rfl fun hd=>?_
 simp only[zq,Option.bind_some,show(qaw==[109,97,107,101])=false by decide,show(qaw==[116,101,115,116])=true by decide,Bool.false_eq_true,if_false,if_true,qbV hl,xg,qav,qfl,List.getElem?_cons_zero,List.getElem?_cons_succ,qcR]
 rw[qiU h']
 cases hh:xS l n with
 |false=>
  refine⟨l,?_,fun h=>?_⟩
  ·rw[qaL hh]
   cases hq:l[yf l n]? with
   |none=>
    simp only[Option.bind_some]
    rw[qap (by simp) (by simp;omega)]
    simp[zk]
   |some s=>
    simp only[hh,Bool.false_eq_true,if_false,Option.bind_some]
    rw[qap (by simp) (by simp;omega)]
    simp[zk]
  ·rw[qaL hh]at h;cases h
 |true=>
  obtain⟨s,hs,hlt⟩:=qgz hh
  have hname:=qi7 hs hh
  unfold qcb
  rw[hs]
  simp only[hh,if_true,Option.bind_some]
  rw[qap (by simp) (by simp;omega)]
  unfold qko
  by_cases hr:qbN s day=true
  ·exact⟨l,by simp[hr,zk],fun h=>by rw[if_pos hr]at h;cases h⟩
  ·by_cases ho:yF load 2 999999999=true
   ·exact⟨l,by simp[hr,ho,zk],fun h=>by rw[if_neg hr,if_pos ho]at h;cases h⟩
   ·refine⟨l.set (yf l n) (qiA day load s),?_,fun _=>(ha.set hs hname _).symm⟩
    have hlen:yf l n<(l.set (yf l n) (⟨s.Name,s.Batch,s.Born,s.Last,s.Uses,s.Used,w64 (load.tdiv 2),s.Until,s.Gone⟩:qc)).length:=by simpa using hlt
    simp only[hr,ho,if_false,zk,if_true,Bool.false_eq_true,Option.bind_some,decide_true,Bool.not_true,qE,hs,qaE hlt,List.getElem?_set_self hlt,qaE hlen,List.set_set]
    rfl
theorem qni {N:Nat} {d:Int} {l:List qc} (h:qbF N l) {num day load:Int} {n t:Str}:
 qmh N d l ⟨num,qaw,[n],[day,load],t⟩ (if qag d day=0 then qcb l n day (qko load)else qag d day) day (qfY l n (qiA day load)):=by
 constructor
 ·refine qeT h rfl rfl (by show(qaw==xJ)=false;decide) (by show(qaw==zZ)=false;decide) fun s=>?_
  simp only[show(qaw==[116,101,115,116])=true by decide,show(qaw==[117,115,101])=false by decide,if_true,if_false,Bool.false_eq_true,qfl,List.getElem?_cons_succ,List.getElem?_cons_zero,Option.bind_some,qdp,qko]
  by_cases ho:yF load 2 999999999=true<;>simp[ho]
 ·intro _
  refine qev h rfl rfl (by show(qaw==xJ)=false;decide) _ (qei (n:=n) rfl _ fun s l k hk=>?_)
  have hlt:=(List.getElem?_eq_some_iff.1 hk).1
  simp only[show(qaw==[116,101,115,116])=true by decide,show(qaw==[117,115,101])=false by decide,show(qaw==[102,97,105,108])=false by decide,show(qaw==[114,101,99,97,108,108])=false by decide,if_true,if_false,Bool.false_eq_true,qfl,List.getElem?_cons_succ,List.getElem?_cons_zero,Option.bind_some]
  by_cases hb:(s.Name==n)=true
  ·simp only[hb,if_true,qaE hlt,Option.bind_some,qE,List.getElem?_set_self hlt]
   rw[qaE (by simpa using hlt),List.set_set]
   rfl
  ·simp only[hb,if_false,Bool.false_eq_true]
   rw[show l.set k s=l from by
    have e:l[k]=s:=by rw[List.getElem?_eq_getElem hlt]at hk;injection hk
    rw[←e,List.set_getElem_self]]
def useM (day load:Int) (s:qc):Int:=if qgZ s day=false then 24 else if load>s.Limit then 31 else 0
def qmR (s:qc):qc:=⟨s.Name,s.Batch,s.Born,s.Last,s.Uses,w64 (s.Used+1),s.Limit,s.Until,s.Gone⟩
theorem qpM {N:Nat} {d:Int} {l:List qc} (h:qbF N l) {num day load:Int} {n t:Str} (h0:0≤day):
 qfq (qC N d l num qbX [n] [day,load] t) (if qag d day=0 then qcb l n day (useM day load)else qag d day) day (qfY l n qmR):=by
 have h':=h
 obtain⟨ha,hl,hN,hM⟩:=h
 refine qfq.day hN rfl h0 rfl fun hd=>?_
 simp only[zq,Option.bind_some,show(qbX==[109,97,107,101])=false by decide,show(qbX==[116,101,115,116])=false by decide,show(qbX==[117,115,101])=true by decide,Bool.false_eq_true,if_false,if_true,qbV hl,qaj,qav,qfl,List.getElem?_cons_zero,List.getElem?_cons_succ]
 rw[qiU h']
 cases hh:xS l n with
 |false=>
  refine⟨l,?_,fun h=>by rw[qaL hh]at h;cases h⟩
  rw[qaL hh]
  cases hq:l[yf l n]? with
  |none=>simp
  |some s=>simp[hh]
 |true=>
  obtain⟨s,hs,hlt⟩:=qgz hh
  have hname:=qi7 hs hh
  unfold qcb
  rw[hs]
  simp only[hh,if_true,Option.bind_some]
  by_cases hr:qbN s day=true
  ·exact⟨l,by simp[hr],fun h=>by rw[if_pos hr]at h;cases h⟩
  ·simp only[hr,if_false,Bool.false_eq_true,decide_true,Bool.not_true,qE,hs,Option.bind_some,qnn,xX]
   rw[qap (by simp) (by simp;omega)]
   unfold useM
   simp only[Option.bind_some]
   by_cases hH:qgZ s day=true
   ·by_cases hL:load>s.Limit
    ·exact⟨l,by simp[hH,hL,zk],fun h=>by simp[hH,hL]at h⟩
    ·refine⟨l.set (yf l n) (qmR s),?_,fun _=>(ha.set hs hname _).symm⟩
     simp only[hH,hL,zk,Bool.not_true,Bool.false_eq_true,if_false,if_true,decide_false,decide_true,qaE hlt,Option.bind_some]
     rfl
   ·exact⟨l,by simp[hH,zk],fun h=>by simp[hH]at h⟩
theorem qpN {N:Nat} {d:Int} {l:List qc} (h:qbF N l) {num day load:Int} {n t:Str}:
 qmh N d l ⟨num,qbX,[n],[day,load],t⟩ (if qag d day=0 then qcb l n day (useM day load)else qag d day) day (qfY l n qmR):=by
 constructor
 ·refine qeT h rfl rfl (by show(qbX==xJ)=false;decide) (by show(qbX==zZ)=false;decide) fun s=>?_
  simp only[show(qbX==[116,101,115,116])=false by decide,show(qbX==[117,115,101])=true by decide,if_true,if_false,Bool.false_eq_true,qfl,List.getElem?_cons_succ,List.getElem?_cons_zero,Option.bind_some,qmv,useM]
  by_cases hH:qgZ s day=true
  ·by_cases hL:load>s.Limit<;>simp[hH,hL]
  ·simp[hH]
 ·intro _
  refine qev h rfl rfl (by show(qbX==xJ)=false;decide) _ (qei (n:=n) rfl _ fun s l k hk=>?_)
  have hlt:=(List.getElem?_eq_some_iff.1 hk).1
  simp only[show(qbX==[116,101,115,116])=false by decide,show(qbX==[117,115,101])=true by decide,show(qbX==[102,97,105,108])=false by decide,show(qbX==[114,101,99,97,108,108])=false by decide,if_true,if_false,Bool.false_eq_true,Option.bind_some]
  by_cases hb:(s.Name==n)=true
  ·simp only[hb,if_true,qaE hlt,Option.bind_some]
   rfl
  ·simp only[hb,if_false,Bool.false_eq_true]
   rw[show l.set k s=l from by
    have e:l[k]=s:=by rw[List.getElem?_eq_getElem hlt]at hk;injection hk
    rw[←e,List.set_getElem_self]]
def qkf (s:qc):qc:=⟨s.Name,s.Batch,s.Born,s.Last,s.Uses,s.Used,s.Limit,s.Until,true⟩
theorem qnC {N:Nat} {d:Int} {l:List qc} (h:qbF N l) {num day:Int} {n t:Str} (h0:0≤day):
 qfq (qC N d l num xW [n] [day] t) (if qag d day=0 then qcb l n day (fun _=>0)else qag d day) day (qfY l n qkf):=by
 have h':=h
 obtain⟨ha,hl,hN,hM⟩:=h
 refine qfq.day hN rfl h0 rfl fun hd=>?_
 simp only[zq,Option.bind_some,show(xW==[109,97,107,101])=false by decide,show(xW==[116,101,115,116])=false by decide,show(xW==[117,115,101])=false by decide,show(xW==[102,97,105,108])=true by decide,Bool.false_eq_true,if_false,if_true,qbV hl,yV,qav,qfl,List.getElem?_cons_zero,List.getElem?_cons_succ]
 rw[qiU h']
 cases hh:xS l n with
 |false=>
  refine⟨l,?_,fun h=>by rw[qaL hh]at h;cases h⟩
  rw[qaL hh]
  cases hq:l[yf l n]? with
  |none=>simp
  |some s=>simp[hh]
 |true=>
  obtain⟨s,hs,hlt⟩:=qgz hh
  have hname:=qi7 hs hh
  unfold qcb
  rw[hs]
  simp only[hh,if_true,Option.bind_some]
  by_cases hr:qbN s day=true
  ·exact⟨l,by simp[hr],fun h=>by rw[if_pos hr]at h;cases h⟩
  ·refine⟨l.set (yf l n) (qkf s),?_,fun _=>(ha.set hs hname _).symm⟩
   simp only[hr,if_false,Bool.false_eq_true,decide_true,Bool.not_true,qE,hs,Option.bind_some,qaE hlt]
   rfl
theorem qmY {N:Nat} {d:Int} {l:List qc} (h:qbF N l) {num day:Int} {n t:Str}:
 qmh N d l ⟨num,xW,[n],[day],t⟩ (if qag d day=0 then qcb l n day (fun _=>0)else qag d day) day (qfY l n qkf):=by
 constructor
 ·refine qeT h rfl rfl (by show(xW==xJ)=false;decide) (by show(xW==zZ)=false;decide) fun s=>?_
  simp only[show(xW==[116,101,115,116])=false by decide,show(xW==[117,115,101])=false by decide,if_true,if_false,Bool.false_eq_true,Option.bind_some]
 ·intro _
  refine qev h rfl rfl (by show(xW==xJ)=false;decide) _ (qei (n:=n) rfl _ fun s l k hk=>?_)
  have hlt:=(List.getElem?_eq_some_iff.1 hk).1
  simp only[show(xW==[116,101,115,116])=false by decide,show(xW==[117,115,101])=false by decide,show(xW==[102,97,105,108])=true by decide,show(xW==[114,101,99,97,108,108])=false by decide,if_true,if_false,Bool.false_eq_true,Option.bind_some]
  by_cases hb:(s.Name==n)=true
  ·simp only[hb,if_true,qaE hlt,Option.bind_some]
   rfl
  ·simp only[hb,if_false,Bool.false_eq_true,Option.bind_some]
   rw[show l.set k s=l from by
    have e:l[k]=s:=by rw[List.getElem?_eq_getElem hlt]at hk;injection hk
    rw[←e,List.set_getElem_self]]
def qcX (n:Str) (s:qc):qc:=if(s.Batch==n)=true then qkf s else s
def qhb (n:Str) (day:Int):Int→List qc→Int
 |b,[]=>b
 |b,s::l=>qhb n day (if(s.Batch==n)=true then if qbN s day=true then if b=10 then 20 else b else 0 else b) l
def qfX (l:List qc) (n:Str) (day:Int):Int:=if(l.any fun s=>s.Batch==n)=false then 10 else if(l.any fun s=>s.Batch==n&&!qbN s day)=false then 20 else 0
theorem qhE (n:Str) (day:Int): ∀l,qhb n day 0 l=0
 |[]=>rfl
 |s::l=>by
  unfold qhb
  by_cases h:(s.Batch==n)=true
  ·by_cases h2:qbN s day=true
   ·simp only[h,h2,if_true];rw[if_neg (by decide)];exact qhE n day l
   ·simp only[h,h2,if_true,if_false,Bool.false_eq_true];exact qhE n day l
  ·simp only[h,if_false,Bool.false_eq_true];exact qhE n day l
theorem qja (n:Str) (day:Int): ∀l:List qc,qhb n day 20 l=if(l.any fun s=>s.Batch==n&&!qbN s day)=false then 20 else 0
 |[]=>rfl
 |s::l=>by
  unfold qhb
  rw[List.any_cons]
  by_cases h:(s.Batch==n)=true
  ·by_cases h2:qbN s day=true
   ·simp only[h,h2,if_true];rw[if_neg (by decide),qja n day l];simp
   ·simp only[h,h2,if_true,if_false,Bool.false_eq_true];rw[qhE];simp
  ·simp only[h,if_false,Bool.false_eq_true];rw[qja n day l];simp
theorem qll (n:Str) (day:Int): ∀l:List qc,qhb n day 10 l=qfX l n day
 |[]=>rfl
 |s::l=>by
  unfold qhb qfX
  rw[List.any_cons,List.any_cons]
  by_cases h:(s.Batch==n)=true
  ·by_cases h2:qbN s day=true
   ·simp only[h,h2,if_true];rw[qja n day l];simp
   ·simp only[h,h2,if_true,if_false,Bool.false_eq_true];rw[qhE];simp
  ·simp only[h,if_false,Bool.false_eq_true];rw[qll n day l];simp[qfX]
theorem qaP {l:List qc} (hl:l.length≤1000) {n:Str} {day:Int}: ∀(K k:Nat) (b:Int),k≤l.length→l.length<K+k→
 kr l [n] [day] K ((l.take k).map (qcX n)++l.drop k) (k:Int) b=some (l.map (qcX n),qhb n day b (l.drop k))
 |0,k,b,h,hK=>by omega
 |K+1,k,b,h,hK=>by
  unfold kr
  by_cases hk:k<l.length
  ·have hlen:((l.take k).map (qcX n)).length=k:=by simp;omega
   have hg:((l.take k).map (qcX n)++l.drop k)[k]? =some l[k]:=by
    rw[List.getElem?_append_right (by omega),hlen,Nat.sub_self,List.drop_eq_getElem_cons hk];rfl
   have hlt:k<((l.take k).map (qcX n)++l.drop k).length:=by rw[List.length_append,hlen,List.length_drop];omega
   rw[if_pos (by omega),qE,hg,Option.bind_some,qav]
   simp only[List.getElem?_cons_zero,Option.bind_some]
   have hset: ∀x:qc,((l.take k).map (qcX n)++l.drop k).set k x=(l.take k).map (qcX n)++x::l.drop (k+1):=by
    intro x
    rw[List.set_append_right _ _ (by omega),hlen,Nat.sub_self,List.drop_eq_getElem_cons hk,List.set_cons_zero]
   have hnext: ∀x:qc,x=qcX n l[k]→(l.take k).map (qcX n)++x::l.drop (k+1)=(l.take (k+1)).map (qcX n)++l.drop (k+1):=by
    rintro x rfl
    rw[List.take_add_one,List.getElem?_eq_getElem hk,List.map_append,List.append_assoc]
    rfl
   have hsame:(l.take k).map (qcX n)++l.drop k=(l.take k).map (qcX n)++l[k]::l.drop (k+1):=by rw[List.drop_eq_getElem_cons hk]
   have e1:qhb n day b (l.drop k)=qhb n day (if((l[k]).Batch==n)=true then if qbN l[k] day=true then if b=10 then 20 else b else 0 else b) (l.drop (k+1)):=by
    rw[List.drop_eq_getElem_cons hk];rfl
   rw[e1]
   by_cases hb:((l[k]).Batch==n)=true
   ·simp only[hb,Bool.not_true,Bool.false_eq_true,if_false,if_true,qhT,Option.bind_some,qaE hlt,hset]
    have hF:(⟨(l[k]).Name,(l[k]).Batch,(l[k]).Born,(l[k]).Last,(l[k]).Uses,(l[k]).Used,(l[k]).Limit,(l[k]).Until,true⟩:qc)=qcX n l[k]:=by unfold qcX;rw[if_pos hb];rfl
    rw[hnext _ hF]
    by_cases hr:qbN l[k] day=true
    ·by_cases hb10:b=10
     ·simp only[hr,hb10,if_true,qav,List.getElem?_cons_zero,Bool.not_true,Bool.false_eq_true,if_false,Option.bind_some]
      rw[qL (by omega),qaP hl K (k+1) _ (by omega) (by omega)]
     ·simp only[hr,hb10,if_true,qav,List.getElem?_cons_zero,Bool.not_true,Bool.false_eq_true,if_false,Option.bind_some]
      rw[qL (by omega),qaP hl K (k+1) _ (by omega) (by omega)]
    ·by_cases hb10:b=10
     ·simp only[hr,hb10,if_true,qav,List.getElem?_cons_zero,Bool.not_false,Bool.false_eq_true,if_false,Option.bind_some]
      rw[qL (by omega),qaP hl K (k+1) _ (by omega) (by omega)]
     ·simp only[hr,hb10,if_true,qav,List.getElem?_cons_zero,Bool.not_false,Bool.false_eq_true,if_false,Option.bind_some]
      rw[qL (by omega),qaP hl K (k+1) _ (by omega) (by omega)]
   ·simp only[hb,Bool.not_false,Bool.false_eq_true,if_false,if_true,Option.bind_some]
    rw[hsame,hnext _ (by unfold qcX;rw[if_neg hb]),qL (by omega),qaP hl K (k+1) _ (by omega) (by omega)]
  ·have:l.take k=l:=List.take_of_length_le (by omega)
   rw[if_neg (by omega),List.drop_of_length_le (by omega),this]
   simp[qhb]
theorem qlc {N:Nat} {d:Int} {l:List qc} (h:qbF N l) {num day:Int} {n t:Str} (h0:0≤day):
 qfq (qC N d l num zZ [n] [day] t) (if qag d day=0 then qfX l n day else qag d day) day (l.map (qcX n)):=by
 obtain⟨ha,hl,hN,hM⟩:=h
 refine qfq.day hN rfl h0 rfl fun hd=>?_
 simp only[zq,Option.bind_some,show(zZ==[109,97,107,101])=false by decide,show(zZ==[116,101,115,116])=false by decide,show(zZ==[117,115,101])=false by decide,show(zZ==[102,97,105,108])=false by decide,show(zZ==[114,101,99,97,108,108])=true by decide,Bool.false_eq_true,if_false,if_true,qbV hl,yz]
 have:=qaP hl (n:=n) (day:=day) N 0 10 (by omega) (by omega)
 rw[List.take_zero,List.map_nil,List.nil_append,List.drop_zero]at this
 rw[show kr l [n] [day] N l 0 10=kr l [n] [day] N l ((0:Nat):Int) 10 from rfl,this,qll]
 exact⟨_,rfl,fun _=>rfl⟩
theorem qdA {N:Nat} {r:qD} (hl:r.Slings.length≤1000) {e:qb} {n:Str} (hn:e.Names[0]? =some n) (day:Int): ∀(K k:Nat) (a b:Bool),k≤r.Slings.length→r.Slings.length<K+k→
 jl r e day K a b (k:Int)=some (a||(r.Slings.drop k).any (fun s=>s.Batch==n),b||(r.Slings.drop k).any (fun s=>s.Batch==n&&!qbN s day))
 |0,k,a,b,h,hK=>by omega
 |K+1,k,a,b,h,hK=>by
  unfold jl
  by_cases hk:k<r.Slings.length
  ·rw[if_pos (by omega),qE,List.getElem?_eq_getElem hk,Option.bind_some,qav,hn,Option.bind_some,qL (by omega),List.drop_eq_getElem_cons hk,List.any_cons,List.any_cons]
   by_cases hb:((r.Slings[k]).Batch==n)=true
   ·by_cases hq:b=true
    ·simp only[hb,hq,if_true,Option.bind_some]
     rw[qdA (N:=N) hl hn day K (k+1) _ _ (by omega) (by omega)]
     simp
    ·simp only[hb,hq,if_true,if_false,Option.bind_some,qgg,Bool.false_eq_true]
     rw[qdA (N:=N) hl hn day K (k+1) _ _ (by omega) (by omega)]
     simp
   ·simp only[hb,if_false,Option.bind_some,Bool.false_eq_true]
    rw[qdA (N:=N) hl hn day K (k+1) _ _ (by omega) (by omega)]
    simp
  ·rw[if_neg (by omega),List.drop_of_length_le (by omega)]
   simp
theorem qkE {N:Nat} {d:Int} {l:List qc} (h:qbF N l) {num day:Int} {n t:Str}:
 qmh N d l ⟨num,zZ,[n],[day],t⟩ (if qag d day=0 then qfX l n day else qag d day) day (l.map (qcX n)):=by
 constructor
 ·obtain⟨ha,hl,hN,hM⟩:=h
  unfold jG
  simp only[qav,List.getElem?_cons_zero,Option.bind_some,qnI (N:=N) (r:=⟨d,l⟩) (show l.length<_ by omega) (show l.length<N by omega) ha,show(zZ==[109,97,107,101])=false by decide,show(zZ==[114,101,99,97,108,108])=true by decide,if_true,if_false,Bool.false_eq_true]
  unfold qag
  by_cases a1:day>99999
  ·simp[a1]
  by_cases a2:day<d
  ·simp[a1,a2]
  simp only[a1,a2,if_false,if_true]
  rw[show∀e,jl ⟨d,l⟩ e day N false false 0=jl ⟨d,l⟩ e day N false false ((0:Nat):Int)from fun _=>rfl,qdA (N:=N) (r:=⟨d,l⟩) hl (n:=n) rfl day N 0 false false (Nat.zero_le _) (show l.length<N+0 by omega),List.drop_zero,Option.bind_some]
  unfold qfX
  simp only[Bool.false_or]
  by_cases b1:(l.any fun s=>s.Batch==n)=true
  ·by_cases b2:(l.any fun s=>s.Batch==n&&!qbN s day)=true<;>simp[b1,b2]
  ·simp[b1]
 ·intro _
  refine qev h rfl rfl (by show(zZ==xJ)=false;decide) _ (qei (n:=n) rfl _ fun s l k hk=>?_)
  have hlt:=(List.getElem?_eq_some_iff.1 hk).1
  simp only[show(zZ==[116,101,115,116])=false by decide,show(zZ==[117,115,101])=false by decide,show(zZ==[102,97,105,108])=false by decide,show(zZ==[114,101,99,97,108,108])=true by decide,if_true,if_false,Bool.false_eq_true,Option.bind_some]
  unfold qcX
  by_cases hb:(s.Batch==n)=true
  ·simp only[hb,if_true,qaE hlt,Option.bind_some]
   rfl
  ·simp only[hb,if_false,Bool.false_eq_true,Option.bind_some]
   rw[show l.set k s=l from by
    have e:l[k]=s:=by rw[List.getElem?_eq_getElem hlt]at hk;injection hk
    rw[←e,List.set_getElem_self]]
theorem Asc.map {l:List qc} (h:Asc l) {f:qc→qc} (hf: ∀s,(f s).Name=s.Name):Asc (l.map f):=by
 unfold Asc
 rw[List.pairwise_map]
 exact h.imp fun {a b} hab=>by rw[hf,hf];exact hab
theorem qiw (t:qc) (l:List qc) (s:qc):qhP (t::l) s=if ltL t.Name s.Name=true then t::qhP l s else s::t::l:=by
 unfold qhP
 rw[yf]
 split<;>simp
theorem qhU {x s:qc}: ∀{l:List qc},x∈qhP l s→x=s∨x∈l
 |[],h=>by simp[qhP,yf]at h;exact .inl h
 |t::l,h=>by
  rw[qiw]at h
  split at h
  ·rcases List.mem_cons.1 h with rfl|h
   ·exact .inr (by simp)
   ·rcases qhU h with h|h
    ·exact .inl h
    ·exact .inr (by simp[h])
  ·rcases List.mem_cons.1 h with rfl|h
   ·exact .inl rfl
   ·exact .inr h
theorem Asc.ins {s:qc}: ∀{l:List qc},Asc l→xS l s.Name=false→Asc (qhP l s)
 |[],_,_=>by simp[qhP,yf,Asc]
 |t::l,h,hn=>by
  obtain⟨h1,h2⟩:=List.pairwise_cons.1 h
  rw[qiw]
  unfold xS at hn
  split
  ·rename_i hc
   rw[if_pos hc]at hn
   refine List.pairwise_cons.2 ⟨fun x hx=>?_,Asc.ins h2 hn⟩
   rcases qhU hx with rfl|hx
   ·exact hc
   ·exact h1 x hx
  ·rename_i hc
   rw[if_neg hc]at hn
   have hlt:ltL s.Name t.Name=true:=by
    cases hq:ltL s.Name t.Name with
    |true=>rfl
    |false=>exact absurd (qi5 _ _ (by simpa using hc) hq) (beq_eq_false_iff_ne.1 hn)
   refine List.pairwise_cons.2 ⟨fun x hx=>?_,h⟩
   rcases List.mem_cons.1 hx with rfl|hx
   ·exact hlt
   ·exact qfW hlt (h1 x hx)
theorem qgQ (l:List qc) (n:Str) (f:qc→qc):qfY l n f=l.map fun s=>if(s.Name==n)=true then f s else s:=rfl
theorem qnH {α:Type} {l:List α} (h:(l.length:Int)=2): ∃a b,l=[a,b]:=by
 match l,h with
 |[a,b],_=>exact⟨a,b,rfl⟩
 |[],h=>simp at h
 |[_],h=>simp at h
 |_::_::_::_,h=>simp at h;omega
theorem qhj {α:Type} {l:List α} (h:(l.length:Int)=1): ∃a,l=[a]:=by
 match l,h with
 |[a],_=>exact⟨a,rfl⟩
 |[],h=>simp at h
 |_::_::_,h=>simp at h;omega
theorem list3 {α:Type} {l:List α} (h:(l.length:Int)=3): ∃a b c,l=[a,b,c]:=by
 match l,h with
 |[a,b,c],_=>exact⟨a,b,c,rfl⟩
 |[],h=>simp at h
 |[_],h=>simp at h
 |[_,_],h=>simp at h
 |_::_::_::_::_,h=>simp at h;omega
structure qpd (e:qb):Prop where
 num:1≤e.Number∧e.Number≤1000
 form:(zm e.Kind).2.2=true
 names:(e.Names.length:Int)=(zm e.Kind).1
 values:(e.Values.length:Int)=(zm e.Kind).2.1
 range: ∀v∈e.Values,0≤v∧v≤999999999
 text:e.Text=[]
theorem jo {e:qb} (h:qJ e=0):qpd e:=by
 unfold qJ at h
 by_cases h1:yF e.Number 1 1000=true
 ·rw[if_pos h1]at h;cases h
 rw[if_neg h1]at h
 by_cases h2:(zm e.Kind).2.2=false
 ·rw[if_pos h2]at h;cases h
 rw[if_neg h2]at h
 by_cases h3:((e.Names.length:Int)=(zm e.Kind).1∧(e.Values.length:Int)=(zm e.Kind).2.1)
 ·rw[if_neg (by simpa using h3)]at h
  by_cases h4:e.Names.all xG=false
  ·rw[if_pos h4]at h;cases h
  rw[if_neg h4]at h
  by_cases h5:e.Values.all (fun v=>!yF v 0 999999999)=false
  ·rw[if_pos h5]at h;cases h
  rw[if_neg h5]at h
  by_cases h6:e.Text=[]
  ·refine⟨?_,by simpa using h2,h3.1,h3.2,fun v hv=>?_,h6⟩
   ·simp[yF]at h1;omega
   ·have h5:e.Values.all (fun v=>!yF v 0 999999999)=true:=by simpa using h5
    have:=List.all_eq_true.1 h5 v hv
    simp[yF]at this
    exact this
  ·rw[if_neg h6]at h;cases h
 ·rw[if_pos h3]at h;cases h
theorem qhI {k:Str} (h:(zm k).2.2=true):k=xJ∨k=qaw∨k=qbX∨k=xW∨k=zZ∨k=vO:=by
 unfold zm at h
 by_cases h1:(k==xJ)=true
 ·exact .inl (beq_iff_eq.1 h1)
 by_cases h2:(k==qaw)=true
 ·exact .inr (.inl (beq_iff_eq.1 h2))
 by_cases h3:(k==qbX)=true
 ·exact .inr (.inr (.inl (beq_iff_eq.1 h3)))
 by_cases h4:(k==xW)=true
 ·exact .inr (.inr (.inr (.inl (beq_iff_eq.1 h4))))
 by_cases h5:(k==zZ)=true
 ·exact .inr (.inr (.inr (.inr (.inl (beq_iff_eq.1 h5)))))
 by_cases h6:(k==vO)=true
 ·exact .inr (.inr (.inr (.inr (.inr (beq_iff_eq.1 h6)))))
 simp[h1,h2,h3,h4,h5,h6]at h
theorem qbM {e:qb} (h:qJ e=0):e.Names.all xG=true:=by
 unfold qJ at h
 by_cases h1:yF e.Number 1 1000=true
 ·rw[if_pos h1]at h;cases h
 rw[if_neg h1]at h
 by_cases h2:(zm e.Kind).2.2=false
 ·rw[if_pos h2]at h;cases h
 rw[if_neg h2]at h
 by_cases h3:((e.Names.length:Int)=(zm e.Kind).1∧(e.Values.length:Int)=(zm e.Kind).2.1)
 ·rw[if_neg (by simpa using h3)]at h
  by_cases h4:e.Names.all xG=false
  ·rw[if_pos h4]at h;cases h
  ·simpa using h4
 ·rw[if_pos h3]at h;cases h
theorem qfR {s:Str} (h:xG s=true):s.length≤24:=by
 rw[qfh]at h
 simp only[Bool.and_eq_true,decide_eq_true_eq]at h
 exact h.1.2
structure qhW (s:qc):Prop where
 name:xG s.Name=true
 batch:xG s.Batch=true
 born:0≤s.Born∧s.Born≤99999
 last:0≤s.Last∧s.Last≤99999
 uses:0≤s.Uses∧s.Uses≤9999
 used:0≤s.Used∧s.Used≤s.Uses
 limit:0≤s.Limit∧s.Limit≤999999999
 till:0≤s.Until∧s.Until≤99999
def qdU (l:List qc):Prop:= ∀s∈l,qhW s
theorem qdU.set {l:List qc} (h:qdU l) {n:Str} {f:qc→qc} (hf: ∀s∈l,s.Name=n→qhW s→qhW (f s)):qdU (qfY l n f):=by
 intro x hx
 rw[qgQ,List.mem_map]at hx
 obtain⟨s,hs,rfl⟩:=hx
 split
 ·rename_i hn;exact hf s hs (beq_iff_eq.1 hn) (h s hs)
 ·exact h s hs
theorem qg0 {l:List qc} {n:Str} {day:Int} {m:qc→Int} (ha:Asc l) (h:qcb l n day m=0) {s:qc} (hs:s∈l) (hn:s.Name=n):qbN s day=false∧m s=0:=by
 obtain⟨i,hi⟩:=List.getElem?_of_mem hs
 obtain⟨h1,h2⟩:=ha.uniq hi hn
 unfold qcb at h
 rw[h2,hi]at h
 simp only[h1,if_true]at h
 cases hr:qbN s day with
 |true=>rw[hr]at h;simp at h
 |false=>rw[hr]at h;exact⟨rfl,by simpa using h⟩
theorem qfm {d day err:Int} (h:(if qag d day=0 then err else qag d day)=0):day≤99999∧err=0:=by
 by_cases hd:qag d day=0
 ·rw[if_pos hd]at h
  refine⟨?_,h⟩
  unfold qag at hd
  by_cases h1:day>99999
  ·rw[if_pos h1]at hd;cases hd
  ·omega
 ·rw[if_neg hd]at h;exact absurd h hd
theorem qjc {n a b:Int} (h: ¬yF n a b=true):a≤n∧n≤b:=by
 unfold yF at h
 simp at h
 omega
theorem mk_ok {l:List qc} {n b:Str} {day life uses:Int} (h:qfC l n day life uses=0) (h0:0≤day) (hd:day≤99999) (hn:xG n=true) (hb:xG b=true):qhW ⟨n,b,day,w64 (day+life),uses,0,0,0,false⟩:=by
 unfold qfC at h
 by_cases h1:xS l n=true
 ·rw[if_pos h1]at h;cases h
 rw[if_neg h1]at h
 by_cases h2:yF life 1 9999=true
 ·rw[if_pos h2]at h;cases h
 rw[if_neg h2]at h
 by_cases h3:yF uses 1 9999=true
 ·rw[if_pos h3]at h;cases h
 rw[if_neg h3]at h
 by_cases h4:w64 (day+life)>99999
 ·rw[if_pos h4]at h;cases h
 have h2:=qjc h2
 have h3:=qjc h3
 have e:w64 (day+life)=day+life:=jY (by omega) (by omega)
 rw[e]at h4⊢
 exact⟨hn,hb,⟨h0,hd⟩,⟨by simp only;omega,by simp only;omega⟩,⟨by simp only;omega,by simp only;omega⟩,⟨by simp only;omega,by simp only;omega⟩,⟨by simp only;omega,by simp only;omega⟩,⟨by simp only;omega,by simp only;omega⟩⟩
theorem qoQ {day load:Int} {s:qc} (h:qhW s) (h0:0≤day) (hd:day≤99999) (hl:2≤load∧load≤999999999):qhW (qiA day load s):=by
 have e1:w64 (load.tdiv 2)=load/2:=by
  rw[Int.tdiv_eq_ediv_of_nonneg (by omega)]
  exact jY (by omega) (by omega)
 have e2:w64 (day+365)=day+365:=jY (by omega) (by omega)
 have hL:=h.last
 refine⟨h.name,h.batch,h.born,h.last,h.uses,h.used,?_,?_⟩
 ·unfold qiA
  simp only[e1]
  omega
 ·unfold qiA
  simp only[e2]
  split<;>omega
theorem qpE {s:qc} {day:Int} (h:qhW s) (hr:qbN s day=false):qhW (qmR s):=by
 have hu:=h.used
 have hv:=h.uses
 have hne:s.Used≠s.Uses:=by
  unfold qbN at hr
  simp at hr
  exact hr.2.2
 have e:w64 (s.Used+1)=s.Used+1:=jY (by omega) (by omega)
 refine⟨h.name,h.batch,h.born,h.last,h.uses,?_,h.limit,h.till⟩
 unfold qmR
 simp only[e]
 omega
theorem qlE {s:qc} (h:qhW s):qhW (qkf s):=⟨h.name,h.batch,h.born,h.last,h.uses,h.used,h.limit,h.till⟩
theorem qly {N:Nat} {d:Int} {l:List qc} (h:qbF N l) {e:qb} (hv:qpd e) (hu:(e.Kind==vO)=false):
 ∃err day new,qfq (qC N d l e.Number e.Kind e.Names e.Values e.Text) err day new∧qmh N d l e err day new∧(err=0→Asc new∧new.length≤l.length+1∧(e.Names.all xG=true→qdU l→qdU new)):=by
 obtain⟨num,k,ns,vs,t⟩:=e
 obtain⟨_,hf,hn,hs,hr,_⟩:=hv
 simp only at hf hn hs hr hu
 have ha:=h.asc
 rcases qhI hf with rfl|rfl|rfl|rfl|rfl|rfl
 ·obtain⟨n,b,rfl⟩:=qnH (show(ns.length:Int)=2 from hn)
  obtain⟨day,life,uses,rfl⟩:=list3 (show(vs.length:Int)=3 from hs)
  refine⟨_,_,_,qpI h (hr _ (by simp)) (hr _ (by simp)),qpt h,fun h0=>?_⟩
  have hh:xS l n=false:=by
   cases hq:xS l n with
   |false=>rfl
   |true=>
    split at h0
    ·simp[qfC,hq]at h0
    ·rename_i hd;exact absurd h0 hd
  refine⟨Asc.ins ha hh,?_,fun hnm hok x hx=>?_⟩
  ·have hp:=qfs l n
   simp[qhP]
   omega
  ·rcases qhU hx with rfl|hx
   ·obtain⟨hd,hm⟩:=qfm h0
    simp only[List.all_cons,List.all_nil,Bool.and_true,Bool.and_eq_true]at hnm
    exact mk_ok hm (hr _ (by simp)).1 hd hnm.1 hnm.2
   ·exact hok x hx
 ·obtain⟨n,rfl⟩:=qhj (show(ns.length:Int)=1 from hn)
  obtain⟨day,load,rfl⟩:=qnH (show(vs.length:Int)=2 from hs)
  refine⟨_,_,_,qnx h (hr _ (by simp)).1,qni h,fun h0=>⟨?_,by simp[qfY],fun _ hok=>hok.set (fun s hs hn h=>(fun q=>qoQ h (hr _ (by simp)).1 (qfm h0).1 (qjc (fun c=>by unfold qko at q;rw[if_pos c]at q;cases q))) (qg0 ha (qfm h0).2 hs hn).2)⟩⟩
  rw[qgQ]
  exact ha.map fun s=>by split<;>rfl
 ·obtain⟨n,rfl⟩:=qhj (show(ns.length:Int)=1 from hn)
  obtain⟨day,load,rfl⟩:=qnH (show(vs.length:Int)=2 from hs)
  refine⟨_,_,_,qpM h (hr _ (by simp)).1,qpN h,fun h0=>⟨?_,by simp[qfY],fun _ hok=>hok.set (fun s hs hn h=>qpE h (qg0 ha (qfm h0).2 hs hn).1)⟩⟩
  rw[qgQ]
  exact ha.map fun s=>by split<;>rfl
 ·obtain⟨n,rfl⟩:=qhj (show(ns.length:Int)=1 from hn)
  obtain⟨day,rfl⟩:=qhj (show(vs.length:Int)=1 from hs)
  refine⟨_,_,_,qnC h (hr _ (by simp)).1,qmY h,fun h0=>⟨?_,by simp[qfY],fun _ hok=>hok.set (fun s _ _ h=>qlE h)⟩⟩
  rw[qgQ]
  exact ha.map fun s=>by split<;>rfl
 ·obtain⟨n,rfl⟩:=qhj (show(ns.length:Int)=1 from hn)
  obtain⟨day,rfl⟩:=qhj (show(vs.length:Int)=1 from hs)
  refine⟨_,_,_,qlc h (hr _ (by simp)).1,qkE h,fun _=>⟨?_,by simp,fun _ hok x hx=>by
   obtain⟨s,hs,rfl⟩:=List.mem_map.1 hx
   unfold qcX
   split
   ·exact qlE (hok s hs)
   ·exact hok s hs⟩⟩
  exact ha.map fun s=>by unfold qcX;split<;>rfl
 ·simp at hu
def qi3 (N:Nat) (c:List qb):Option qD:=c.foldlM (fun r e=>jN N r e) ⟨0,[]⟩
theorem qgj {N:Nat} (c:List qb) (hc:c.length≤1000): ∀(K k:Nat) (d:Int) (l:List qc),k≤c.length→c.length<K+k→zQ N c K d l (k:Int)=((c.drop k).foldlM (fun r e=>jN N r e) (⟨d,l⟩:qD)).map fun r=>(r.Day,r.Slings)
 |0,k,d,l,h,hK=>by omega
 |K+1,k,d,l,h,hK=>by
  unfold zQ
  by_cases hk:k<c.length
  ·rw[if_pos (by omega),qE,List.getElem?_eq_getElem hk,Option.bind_some,List.drop_eq_getElem_cons hk,List.foldlM_cons,qL (by omega)]
   cases jN N ⟨d,l⟩ c[k]with
   |none=>rfl
   |some r=>
    simp only[Option.bind_some]
    rw[qgj c hc K (k+1) _ _ (by omega) (by omega)]
    rfl
  ·rw[if_neg (by omega),List.drop_of_length_le (by omega)]
   rfl
theorem qdR {N:Nat} {c:List qb} (hc:c.length≤1000) (hN:6000<N):ji N c=qi3 N c:=by
 unfold ji
 rw[show zQ N c N 0 [] 0=zQ N c N 0 [] ((0:Nat):Int)from rfl,qgj c hc N 0 0 [] (by omega) (by omega),List.drop_zero]
 unfold qi3
 cases c.foldlM (fun r e=>jN N r e) (⟨0,[]⟩:qD)<;>rfl
theorem qmx (N:Nat) (c:List qb) (e:qb):qi3 N (c++[e])=(qi3 N c).bind fun r=>jN N r e:=by
 unfold qi3
 rw[List.foldlM_append]
 cases c.foldlM (fun r e=>jN N r e) (⟨0,[]⟩:qD)with
 |none=>rfl
 |some r=>simp[List.foldlM]
structure Rel (N:Nat) (c:List qb) (ss:List StateT):Prop where
 len:ss.length=c.length
 at_: ∀(j:Nat) (s:StateT) (e:qb),ss[j]? =some s→c[j]? =some e→s.number=e.Number∧qi3 N (c.take (j+1))=some ⟨s.register.Day,s.register.Slings⟩∧Asc s.register.Slings∧s.register.Slings.length≤j+1∧qdU s.register.Slings
theorem Rel.nil (N:Nat):Rel N [] []:=⟨rfl,by simp⟩
theorem Rel.last {N:Nat} {c:List qb} {ss:List StateT} (h:Rel N c ss):(ss=[]∧c=[])∨ ∃s,ss[ss.length-1]? =some s∧0<ss.length∧qi3 N c=some ⟨s.register.Day,s.register.Slings⟩∧Asc s.register.Slings∧s.register.Slings.length≤c.length∧qdU s.register.Slings:=by
 rcases Nat.eq_zero_or_pos ss.length with h0|h0
 ·have h1:=h.len
  exact .inl ⟨List.length_eq_zero_iff.1 h0,List.length_eq_zero_iff.1 (by omega)⟩
 ·have hlt:ss.length-1<ss.length:=by omega
  have hlc:ss.length-1<c.length:=by have:=h.len;omega
  obtain⟨_,h2,h3,h4,h5⟩:=h.at_ _ _ _ (List.getElem?_eq_getElem hlt) (List.getElem?_eq_getElem hlc)
  rw[show ss.length-1+1=c.length by have:=h.len;omega,List.take_length]at h2
  exact .inr ⟨_,List.getElem?_eq_getElem hlt,h0,h2,h3,by omega,h5⟩
theorem Rel.pop {N:Nat} {c:List qb} {ss:List StateT} (h:Rel N c ss):Rel N c.dropLast (ss.take (ss.length-1)):=by
 refine⟨by rw[List.length_take,List.length_dropLast,h.len];omega,fun j s e hs he=>?_⟩
 rw[List.getElem?_take]at hs
 rw[List.getElem?_dropLast]at he
 split at hs
 ·rename_i hj
  split at he
  ·rename_i hj2
   obtain⟨h1,h2,h3,h4⟩:=h.at_ j s e hs he
   refine⟨h1,?_,h3,h4⟩
   rw[List.dropLast_eq_take,List.take_take,Nat.min_eq_left (by omega)]
   exact h2
  ·cases he
 ·cases hs
theorem Rel.push {N:Nat} {c:List qb} {ss:List StateT} (h:Rel N c ss) {e:qb} {d:Int} {l:List qc} (hr:qi3 N (c++[e])=some ⟨d,l⟩) (ha:Asc l) (hl:l.length≤c.length+1) (hok:qdU l):Rel N (c++[e]) (ss++[⟨e.Number,⟨d,l⟩⟩]):=by
 have hlen:=h.len
 refine⟨by simp[hlen],fun j s e' hs he=>?_⟩
 rcases Nat.lt_or_ge j ss.length with hj|hj
 ·rw[List.getElem?_append_left hj]at hs
  rw[List.getElem?_append_left (by omega)]at he
  obtain⟨h1,h2,h3,h4⟩:=h.at_ j s e' hs he
  refine⟨h1,?_,h3,h4⟩
  rw[List.take_append_of_le_length (by omega)]
  exact h2
 ·rw[List.getElem?_append_right hj]at hs
  rw[List.getElem?_append_right (by omega)]at he
  have hj0:j-ss.length=0:=by
   have:=(List.getElem?_eq_some_iff.1 hs).1
   simp at this
   omega
  rw[hj0]at hs
  rw[show j-c.length=0 by omega]at he
  simp only[List.getElem?_cons_zero,Option.some.injEq]at hs he
  subst hs he
  refine⟨rfl,?_,ha,by simp only;omega,hok⟩
  rw[List.take_of_length_le (by simp;omega)]
  exact hr
def xD (N:Nat) (c:List qb) (k:Nat) (e:qb):Int:=
 if qJ e≠0 then qJ e else if e.Number≠((k+1:Nat):Int)then 11 else if(e.Kind==vO)=true then(if c=[]then 12 else 0)else((ji N c).bind fun r=>jG N r e).getD 0
def qdX (c:List qb) (e:qb):List qb:=if(e.Kind==vO)=true then c.dropLast else c++[e]
structure Pre (N:Nat) (c:List qb) (ss:List StateT) (k:Nat) (e:qb):Prop where
 rel:Rel N c ss
 ck:c.length≤k
 k1:k<1000
 big:6000<N
 max:N<4611686018427387904
 short:qcD N e
theorem qad {evs:List qb} {o:Option (List StateT)} {N:Nat} {c:List qb} (h:Rel N c (hof o)) (hc:c.length≤1000) (hN:6000<N): ∃o' d l,qy evs o=some (o',d,l)∧hof o'=hof o∧ji N c=some ⟨d,l⟩∧Asc l∧l.length≤c.length∧qdU l:=by
 rw[qdR hc hN]
 rcases h.last with⟨h1,rfl⟩|⟨s,h1,h2,h3,h4,h5,h6⟩
 ·cases o with
  |none=>exact⟨none,0,[],by simp[qy],rfl,rfl,List.Pairwise.nil,by simp,fun x hx=>by cases hx⟩
  |some l=>
   have:l=[]:=h1
   subst this
   exact⟨some [],0,[],by simp[qy],rfl,rfl,List.Pairwise.nil,by simp,fun x hx=>by cases hx⟩
 ·cases o with
  |none=>simp[hof]at h2
  |some l=>
   have h1:l[l.length-1]? =some s:=h1
   have h2:0<l.length:=h2
   have hlen:l.length=c.length:=h.len
   refine⟨some l,s.register.Day,s.register.Slings,?_,rfl,h3,h4,h5,h6⟩
   have: ¬((l.length:Int)=0):=by omega
   simp only[qy,this,decide_false,Option.bind_some,Bool.false_eq_true,if_false]
   rw[qcG (by omega) h2,qE,h1]
   rfl
theorem qd0 {e:qb} (hn:e.Names.length≤1000) (hv:e.Values.length≤1000):ja e=some e:=by
 have e1:slices_Clone_string e.Names=some e.Names:=by
  cases hq:e.Names with
  |nil=>
   simp only[slices_Clone_string,ve,qhm]
   rw[vX (by simp) (by simp)]
   simp
  |cons x xs=>
   rw[hq]at hn
   simp only[slices_Clone_string,jB]
   rw[vX (by simp only[List.length_nil];omega) (by simp only[List.length_nil];omega)]
   rfl
 have e2:slices_Clone_int e.Values=some e.Values:=by
  cases hq:e.Values with
  |nil=>
   simp only[slices_Clone_int,xx,qhm]
   rw[vX (by simp) (by simp)]
   simp
  |cons x xs=>
   rw[hq]at hv
   simp only[slices_Clone_int,xC]
   rw[vX (by simp only[List.length_nil];omega) (by simp only[List.length_nil];omega)]
   rfl
 unfold ja
 rw[e1,e2]
 rfl
theorem ql8 {N:Nat} {c:List qb} {k:Nat} {e:qb} {evs:List qb} {o:Option (List StateT)} (h:Pre N c (hof o) k e) (hk:evs.length=k) (hc:qJ e=0):
 ∃evs' o',jW N evs o e.Number e.Kind e.Names e.Values e.Text=some (evs',o',xD N c k e)∧(xD N c k e=0→evs'=evs++[e]∧Rel N (qdX c e) (hof o')∧(qdX c e).length≤k+1)∧(xD N c k e≠0→evs'=evs∧hof o'=hof o):=by
 obtain⟨hrel,hck,hk1,hN,hM,hs⟩:=h
 have hv:=jo hc
 have hlen:(e.Names.length≤3)∧(e.Values.length≤3):=by
  have h1:=hv.names
  have h2:=hv.values
  have h3:(zm e.Kind).1≤2∧(zm e.Kind).2.1≤3:=by
   unfold zm
   repeat' split
   all_goals decide
  omega
 have hcopy:ja (⟨e.Number,e.Kind,e.Names,e.Values,e.Text⟩:qb)=some e:=qd0 (e:=e) (by omega) (by omega)
 have happ:app 88 evs [e]=some (evs++[e]):=vX (by simp;omega) (by simp;omega)
 unfold jW
 have hw:w64 ((evs.length:Int)+1)=((k+1:Nat):Int):=by rw[qL (by omega),hk]
 rw[hw]
 rw[show([117,110,100,111]:Str)=vO from rfl]
 have c0:(qJ e≠0)=False:=by simp[hc]
 unfold xD
 simp only[c0,if_false]
 by_cases h1:e.Number=((k+1:Nat):Int)
 ·have c1:((!decide (e.Number=((k+1:Nat):Int)))=true)=False:=by simp[h1]
  have c2:(e.Number≠((k+1:Nat):Int))=False:=by simp[h1]
  simp only[c1,c2,if_false]
  by_cases hu:(e.Kind==vO)=true
  ·simp only[hu,if_true]
   cases o with
   |none=>
    have hc0:c=[]:=by have:=hrel.len;simp[hof]at this;exact List.length_eq_zero_iff.1 this.symm
    rw[if_pos hc0]
    exact⟨evs,none,by simp,fun h=>(by cases h),fun _=>⟨rfl,rfl⟩⟩
   |some l=>
    have hl:l.length=c.length:=hrel.len
    by_cases hl0:l.length=0
    ·have hc0:c=[]:=List.length_eq_zero_iff.1 (by omega)
     rw[if_pos hc0]
     exact⟨evs,some l,by simp[hl0],fun h=>(by cases h),fun _=>⟨rfl,rfl⟩⟩
    ·have hc0: ¬c=[]:=fun e=>hl0 (by rw[hl,e];rfl)
     rw[if_neg hc0]
     have: ¬((l.length:Int)=0):=by omega
     refine⟨evs++[e],some (l.take (l.length-1)),?_,fun _=>⟨rfl,?_,?_⟩,fun h=>absurd rfl h⟩
     ·simp only[this,decide_false,Option.bind_some,Bool.false_eq_true,if_false]
      rw[qcG (by omega) (by omega),xH (by omega)]
      simp only[Option.bind_some]
      rw[hcopy,Option.bind_some,happ]
      rfl
     ·unfold qdX
      rw[if_pos hu]
      exact hrel.pop
     ·unfold qdX
      rw[if_pos hu,List.length_dropLast]
      omega
  ·simp only[hu,if_false,Bool.false_eq_true]
   obtain⟨o',d,l,e1,e2,e3,e4,e5,e6⟩:=qad (evs:=evs) hrel (by omega) hN
   obtain⟨err,day,new,hP,hR,hA⟩:=qly (d:=d) (⟨e4,by omega,hN,hM⟩:qbF N l) hv (by simpa using hu)
   obtain⟨x,l',hP1,hP2⟩:=hP
   rw[e1,Option.bind_some]
   simp only
   rw[hP1,Option.bind_some,e3,Option.bind_some,hR.ref,Option.getD_some]
   simp only
   by_cases h0:err=0
   ·obtain⟨rfl,rfl⟩:=hP2 h0
    rw[if_neg (by simp[h0])]
    obtain⟨hA1,hA2,hA3⟩:=hA h0
    have hreg:qi3 N (c++[e])=some ⟨x,l'⟩:=by
     rw[qmx,←qdR (by omega) hN,e3,Option.bind_some]
     exact hR.aft h0
    have hrel':Rel N (c++[e]) (hof o'++[⟨e.Number,⟨x,l'⟩⟩]):=by
     rw[e2]
     exact hrel.push hreg hA1 (by omega) (hA3 (qbM hc) e6)
    have hlo:(hof o').length≤1000:=by rw[e2,hrel.len];omega
    have fin: ∀o2:Option (List StateT),hof o2=hof o'++[⟨e.Number,⟨x,l'⟩⟩]→err=0→(evs++[e]=evs++[e]∧Rel N (qdX c e) (hof o2)∧(qdX c e).length≤k+1):=by
     intro o2 ho2 _
     unfold qdX
     rw[if_neg hu,ho2]
     exact⟨rfl,hrel',by simp;omega⟩
    cases o' with
    |none=>
     simp only[Option.bind_some]
     rw[hcopy,Option.bind_some,happ,Option.bind_some]
     exact⟨_,_,by rw[h0],fin (some [⟨e.Number,⟨x,l'⟩⟩]) rfl,fun h=>absurd h0 h⟩
    |some l2=>
     have hlo:l2.length≤1000:=hlo
     simp only
     rw[vX (by simp;omega) (by simp;omega)]
     simp only[Option.bind_some]
     rw[hcopy,Option.bind_some,happ,Option.bind_some]
     exact⟨_,_,by rw[h0],fin (some (l2++[⟨e.Number,⟨x,l'⟩⟩])) rfl,fun h=>absurd h0 h⟩
   ·rw[if_pos (by simp[h0])]
    exact⟨evs,o',rfl,fun h=>absurd h h0,fun _=>⟨rfl,e2⟩⟩
 ·have c1:((!decide (e.Number=((k+1:Nat):Int)))=true)=True:=by simp only[h1,decide_false,Bool.not_false]
  have c2:(e.Number≠((k+1:Nat):Int))=True:=eq_true h1
  simp only[c1,c2,if_true]
  exact⟨evs,o,rfl,fun h=>(by cases h),fun _=>⟨rfl,rfl⟩⟩
theorem qkR {N:Nat} {c:List qb} {k:Nat} {e:qb} {evs:List qb} {o:Option (List StateT)} (h:Pre N c (hof o) k e) (hk:evs.length=k):
 ∃evs' o',zn N evs o e.Number e.Kind e.Names e.Values e.Text=some (evs',o',xD N c k e)∧(xD N c k e=0→evs'=evs++[e]∧Rel N (qdX c e) (hof o')∧(qdX c e).length≤k+1)∧(xD N c k e≠0→evs'=evs∧hof o'=hof o):=by
 unfold zn
 have hN:=h.big
 rw[show(⟨e.Number,e.Kind,e.Names,e.Values,e.Text⟩:qb)=e from rfl,qcB h.max (by omega) h.short,Option.bind_some]
 by_cases hc:qJ e=0
 ·rw[if_neg (by simp[hc])]
  obtain⟨evs',o',h1,h2⟩:=ql8 h hk hc
  rw[h1]
  exact⟨evs',o',rfl,h2⟩
 ·rw[if_pos (by simp[hc])]
  have:xD N c k e=qJ e:=by unfold xD;rw[if_pos hc]
  rw[this]
  exact⟨evs,o,rfl,fun h=>absurd h hc,fun _=>⟨rfl,rfl⟩⟩
def zJ (N:Nat):List qb→Nat→List qb→Int×Int×List qb
 |[],_,c=>(0,0,c)
 |e::es,k,c=>if xD N c k e=0 then zJ N es (k+1) (qdX c e)else(((k+1:Nat):Int),xD N c k e,[])
theorem qip {N:Nat} (hN:6000<N) (hM:N<4611686018427387904) {l:List qb} (hl:l.length≤1000) (hs: ∀e∈l,qcD N e): ∀(K k:Nat) (c:List qb) (o:Option (List StateT)),k≤l.length→l.length<K+k→Rel N c (hof o)→c.length≤k→
 (((zJ N (l.drop k) k c).2.1≠0∧kz N l K (l.take k) o (k:Int)=some (.inr ([],none,false,(zJ N (l.drop k) k c).1,(zJ N (l.drop k) k c).2.1)))∨
 ((zJ N (l.drop k) k c).2.1=0∧ ∃o',kz N l K (l.take k) o (k:Int)=some (.inl (l,o'))∧Rel N (zJ N (l.drop k) k c).2.2 (hof o')∧(zJ N (l.drop k) k c).2.2.length≤l.length))
 |0,k,c,o,h,hK,_,_=>by omega
 |K+1,k,c,o,h,hK,hr,hc=>by
  unfold kz
  by_cases hk:k<l.length
  ·rw[if_pos (by omega),qE,List.getElem?_eq_getElem hk,Option.bind_some,qL (by omega),List.drop_eq_getElem_cons hk]
   unfold zJ
   have pre:Pre N c (hof o) k l[k]:=⟨hr,hc,by omega,hN,hM,hs _ (List.getElem_mem hk)⟩
   obtain⟨evs',o',h1,h2,_⟩:=qkR (evs:=l.take k) pre (by rw[List.length_take];omega)
   rw[h1,Option.bind_some]
   simp only
   by_cases h0:xD N c k l[k]=0
   ·obtain⟨rfl,g2,g3⟩:=h2 h0
    rw[if_neg (show¬((!decide (xD N c k l[k]=0))=true)by simp[h0]),if_pos h0]
    have ht:l.take k++[l[k]]=l.take (k+1):=by
     rw[List.take_add_one,List.getElem?_eq_getElem hk];rfl
    rw[ht]
    exact qip hN hM hl hs K (k+1) _ o' (by omega) (by omega) g2 g3
   ·rw[if_pos (show((!decide (xD N c k l[k]=0))=true)by simp[h0]),if_neg h0]
    exact .inl ⟨h0,rfl⟩
  ·rw[if_neg (by omega),List.drop_of_length_le (by omega),List.take_of_length_le (by omega)]
   unfold zJ
   exact .inr ⟨rfl,o,rfl,hr,by simp only;omega⟩
theorem qhx {N:Nat} (hN:6000<N) (hM:N<4611686018427387904) {l:List qb} (hl:l.length≤1000) (hs: ∀e∈l,qcD N e): ∀(K k:Nat) (c:List qb) (ss:List StateT),k≤l.length→l.length<K+k→Rel N c ss→c.length≤k→
 jr N l K c (k:Int)=some (if(zJ N (l.drop k) k c).2.1=0 then .inl (zJ N (l.drop k) k c).2.2 else .inr ([],(zJ N (l.drop k) k c).1,(zJ N (l.drop k) k c).2.1))
 |0,k,c,ss,h,hK,_,_=>by omega
 |K+1,k,c,ss,h,hK,hr,hc=>by
  unfold jr
  by_cases hk:k<l.length
  ·have hsh:=hs _ (List.getElem_mem hk)
   rw[if_pos (by omega),qE,List.getElem?_eq_getElem hk,Option.bind_some,qhk hM hsh,Option.bind_some,qL (by omega),List.drop_eq_getElem_cons hk]
   unfold zJ
   generalize he:l[k]=e at*
   obtain⟨o,rfl⟩: ∃o:Option (List StateT),hof o=ss:=⟨some ss,rfl⟩
   have pre:Pre N c (hof o) k e:=⟨hr,hc,by omega,hN,hM,hsh⟩
   obtain⟨evs',o',_,h2,_⟩:=qkR (evs:=l.take k) pre (by rw[List.length_take];omega)
   have key:((if qJ e=0 then some (!decide (e.Number=((k+1:Nat):Int)))else some false:Option Bool).bind fun b13=>((if b13=true then some 11 else some (qJ e):Option Int)).bind fun e_15=>
    (if e_15=0 then if(e.Kind==[117,110,100,111])=true then some (decide ((c.length:Int)=0))else some false else some false:Option Bool).bind fun b20=>((if b20=true then some 12 else some e_15:Option Int)).bind fun e_22=>
    (if e_22=0 then some (!(e.Kind==[117,110,100,111]))else some false:Option Bool).bind fun b26=>((if b26=true then(ji N c).bind fun r31=>(jG N r31 e).bind fun r32=>some r32 else some e_22:Option Int)))=some (xD N c k e):=by
    unfold xD
    have hku:([117,110,100,111]:Str)=vO:=rfl
    rw[hku]
    by_cases a1:qJ e=0
    ·by_cases a2:e.Number=((k+1:Nat):Int)
     ·by_cases a3:(e.Kind==vO)=true
      ·by_cases a4:c=[]
       ·simp[a1,a2,a3,a4]
       ·have: ¬c.length=0:=fun h=>a4 (List.length_eq_zero_iff.1 h)
        simp[a1,a2,a3,a4,this]
      ·obtain⟨_,d,l2,_,_,e3,e4,e5,_⟩:=qad (evs:=[]) hr (by omega) hN
       obtain⟨err,day,new,_,hR,_⟩:=qly (d:=d) (⟨e4,by omega,hN,hM⟩:qbF N l2) (jo a1) (by simpa using a3)
       simp[a1,a2,a3,e3,hR.ref]
     ·have a2': ¬e.Number=(k:Int)+1:=by simpa using a2
      simp[a1,a2']
    ·simp[a1]
   have key2: ∀F:Int→Option (List qb⊕(List qb×Int×Int)),((if qJ e=0 then some (!decide (e.Number=((k+1:Nat):Int)))else some false:Option Bool).bind fun b13=>((if b13=true then some 11 else some (qJ e):Option Int)).bind fun e_15=>
    (if e_15=0 then if(e.Kind==[117,110,100,111])=true then some (decide ((c.length:Int)=0))else some false else some false:Option Bool).bind fun b20=>((if b20=true then some 12 else some e_15:Option Int)).bind fun e_22=>
    (if e_22=0 then some (!(e.Kind==[117,110,100,111]))else some false:Option Bool).bind fun b26=>((if b26=true then(ji N c).bind fun r31=>(jG N r31 e).bind fun r32=>some r32 else some e_22:Option Int)).bind F)=F (xD N c k e):=by
    intro F
    have:=congrArg (fun x=>Option.bind x F) key
    simp only[Option.bind_some,Option.bind_assoc]at this
    exact this
   rw[key2]
   by_cases h0:xD N c k e=0
   ·obtain⟨_,g2,g3⟩:=h2 h0
    rw[if_neg (show¬((!decide (xD N c k e=0))=true)by simp[h0]),if_pos h0,←qhx hN hM hl hs K (k+1) _ (hof o') (by omega) (by omega) g2 g3]
    unfold qdX
    by_cases hu:(e.Kind==vO)=true
    ·have hu':(e.Kind==[117,110,100,111])=true:=hu
     rw[if_pos hu',if_pos hu]
     have hc0:c≠[]:=by
      intro hc0
      unfold xD at h0
      by_cases a1:qJ e=0
      ·rw[if_neg (by simp[a1])]at h0
       by_cases a2:e.Number=((k+1:Nat):Int)
       ·rw[if_neg (by simp[a2]),if_pos hu,if_pos hc0]at h0;cases h0
       ·rw[if_pos a2]at h0;cases h0
      ·rw[if_pos a1]at h0;exact a1 h0
     have hcl:0<c.length:=List.length_pos_iff.2 hc0
     rw[qcG (by omega) hcl,xH (by omega),List.dropLast_eq_take]
     rfl
    ·have hu': ¬(e.Kind==[117,110,100,111])=true:=hu
     rw[if_neg hu',if_neg hu,vX (by simp;omega) (by simp;omega),Option.bind_some,vX (by simp;omega) (by simp;omega)]
     rfl
   ·rw[if_pos (show((!decide (xD N c k e=0))=true)by simp[h0]),if_neg h0]
    simp[h0]
  ·rw[if_neg (by omega),List.drop_of_length_le (by omega)]
   rfl
def qdW (e:qb):Bool:=decide (e.Kind.length≤60)&&(decide (e.Names.length≤5)&&(decide (e.Values.length≤5)&&(decide (e.Text.length≤60)&&e.Names.all fun s=>decide (s.length≤60))))
theorem qjt {l:List qb} {i:Nat} {e:qb} (he:l[i]? =some e) (hn:e.Names.length≤5): ∀(K k:Nat),k≤e.Names.length→e.Names.length<K+k→zg l (i:Int) K (k:Int)=some (if((e.Names.drop k).all fun s=>decide (s.length≤60))=true then .inl ()else .inr false)
 |0,k,h,hK=>by omega
 |K+1,k,h,hK=>by
  unfold zg
  rw[qE,he,Option.bind_some]
  by_cases hk:k<e.Names.length
  ·rw[if_pos (by omega),qE,List.getElem?_eq_getElem hk,Option.bind_some,qL (by omega),qjt he hn K (k+1) (by omega) (by omega),List.drop_eq_getElem_cons hk,List.all_cons]
   by_cases hq:(e.Names[k]).length>60
   ·have h1:((e.Names[k]).length:Int)>60:=by omega
    have h2: ¬(e.Names[k]).length≤60:=by omega
    simp[h1,h2]
   ·have h1: ¬((e.Names[k]).length:Int)>60:=by omega
    have h2:(e.Names[k]).length≤60:=by omega
    simp only[h1,h2,decide_true,Bool.true_and,if_false]
  ·rw[if_neg (by omega),List.drop_of_length_le (by omega)]
   rfl
theorem qkg {N:Nat} (hN:6000<N) {l:List qb} (hl:l.length≤1000): ∀(K k:Nat),k≤l.length→l.length<K+k→zh N l K (k:Int)=some (if(l.drop k).all qdW=true then .inl ()else .inr false)
 |0,k,h,hK=>by omega
 |K+1,k,h,hK=>by
  unfold zh
  by_cases hk:k<l.length
  ·have he:l[k]? =some l[k]:=List.getElem?_eq_getElem hk
   rw[if_pos (by omega),qE,he,Option.bind_some,qL (by omega),qkg hN hl K (k+1) (by omega) (by omega),List.drop_eq_getElem_cons hk,List.all_cons]
   generalize l[k]=e at he
   unfold qdW
   by_cases a1:e.Kind.length≤60
   ·have b1: ¬(e.Kind.length:Int)>60:=by omega
    by_cases a2:e.Names.length≤5
    ·have b2: ¬(e.Names.length:Int)>5:=by omega
     by_cases a3:e.Values.length≤5
     ·have b3: ¬(e.Values.length:Int)>5:=by omega
      by_cases a4:e.Text.length≤60
      ·have b4: ¬(e.Text.length:Int)>60:=by omega
       have:=qjt he a2 N 0 (by omega) (by omega)
       rw[List.drop_zero]at this
       simp only[a1,a2,a3,a4,b1,b2,b3,b4,decide_true,decide_false,Bool.true_and,if_false,Option.bind_some,Bool.false_eq_true]
       rw[show zg l (k:Int) N 0=zg l (k:Int) N ((0:Nat):Int)from rfl,this]
       by_cases a5:(e.Names.all fun s=>decide (s.length≤60))=true<;>simp[a5]
      ·have b4:(e.Text.length:Int)>60:=by omega
       simp[a1,a2,a3,a4,b1,b2,b3,b4]
     ·have b3:(e.Values.length:Int)>5:=by omega
      simp[a1,a2,a3,b1,b2,b3]
    ·have b2:(e.Names.length:Int)>5:=by omega
     simp[a1,a2,b1,b2]
   ·have b1:(e.Kind.length:Int)>60:=by omega
    simp[a1,b1]
  ·rw[if_neg (by omega),List.drop_of_length_le (by omega)]
   rfl
theorem qhn {N:Nat} (hN:6000<N) {l:List qb} {n:Nat} (hn:n≤1000):vT N l (n:Int)=some (decide (l.length≤n)&&l.all qdW):=by
 unfold vT
 by_cases h:l.length≤n
 ·rw[if_neg (by omega),show zh N l N 0=zh N l N ((0:Nat):Int)from rfl,qkg hN (by omega) N 0 (by omega) (by omega),List.drop_zero]
  by_cases h2:l.all qdW=true<;>simp[h,h2]
 ·rw[if_pos (by omega)]
  simp[h]
theorem qnw {N:Nat} (hN:6000<N) {e:qb} (h:qdW e=true):qcD N e:=by
 unfold qdW at h
 simp only[Bool.and_eq_true,decide_eq_true_eq,List.all_eq_true]at h
 exact⟨by omega,by omega,fun s hs=>by have:=h.2.2.2.2 s hs;omega⟩
structure Evs (N:Nat) (l:List qb):Prop where
 len:l.length≤1000
 short: ∀e∈l,qcD N e
 big:6000<N
 max:N<4611686018427387904
theorem qdB {N:Nat} {l:List qb} (h:Evs N l):
 ((zJ N l 0 []).2.1≠0∧vC N l=some ([],none,false,(zJ N l 0 []).1,(zJ N l 0 []).2.1)∧xN N l=some ([],(zJ N l 0 []).1,(zJ N l 0 []).2.1))∨
 ((zJ N l 0 []).2.1=0∧ ∃o',vC N l=some (l,o',true,0,0)∧xN N l=some ((zJ N l 0 []).2.2,0,0)∧Rel N (zJ N l 0 []).2.2 (hof o')∧(zJ N l 0 []).2.2.length≤l.length):=by
 obtain⟨hl,hs,hN,hM⟩:=h
 have hr0:Rel N [] (hof (none:Option (List StateT))):=Rel.nil N
 have h1:=qip hN hM hl hs N 0 [] none (by omega) (by omega) hr0 (by simp)
 have h2:=qhx hN hM hl hs N 0 [] [] (by omega) (by omega) hr0 (by simp)
 rw[List.drop_zero]at h1 h2
 rw[List.take_zero]at h1
 have e1: ∀a b c,kz N l a b c 0=kz N l a b c ((0:Nat):Int):=fun _ _ _=>rfl
 have e2: ∀a b,jr N l a b 0=jr N l a b ((0:Nat):Int):=fun _ _=>rfl
 unfold vC xN
 rw[if_neg (by omega),e1,e2,h2]
 rcases h1 with⟨g1,g2⟩|⟨g1,o',g2,g3,g4⟩
 ·rw[g2]
  exact .inl ⟨g1,rfl,by simp[g1]⟩
 ·rw[g2]
  exact .inr ⟨g1,o',rfl,by simp[g1],g3,g4⟩
theorem qb5 {N:Nat} {l:List qb} (h:Evs N l):(((zJ N l 0 []).2.1≠0∧yN N l=some (⟨0,[]⟩,(zJ N l 0 []).1,(zJ N l 0 []).2.1))∨
 ((zJ N l 0 []).2.1=0∧ ∃d s,ji N (zJ N l 0 []).2.2=some ⟨d,s⟩∧s.length≤1000∧yN N l=some (⟨d,s⟩,0,0))):=by
 have hl:=h.len
 have hN:=h.big
 unfold yN
 rw[if_neg (by omega)]
 rcases qdB h with⟨g1,g2,g3⟩|⟨g1,o',g2,g3,g4,g5⟩
 ·rw[g3,Option.bind_some]
  refine .inl ⟨g1,?_⟩
  simp only
  rw[if_pos (by simp[g1])]
 ·rw[g3,Option.bind_some]
  obtain⟨_,d,s,_,_,e3,_,e5,_⟩:=qad (evs:=[]) g4 (by omega) hN
  refine .inr ⟨g1,d,s,e3,by omega,?_⟩
  simp only
  rw[if_neg (by simp),e3]
  rfl
theorem qmJ {N:Nat} {l:List qb} (h:Evs N l): ∃d s at' err,xR N l=some (⟨d,s⟩,at',err)∧yN N l=some (⟨d,s⟩,at',err)∧s.length≤1000:=by
 have hl:=h.len
 have hN:=h.big
 rcases qdB h with⟨g1,g2,g3⟩|⟨g1,o',g2,g3,g4,g5⟩
 ·rcases qb5 h with⟨_,e⟩|⟨e0,_⟩
  ·refine⟨_,_,_,_,?_,e,by simp⟩
   unfold xR
   rw[g2,Option.bind_some]
   simp only
   rw[if_pos (by simp[g1])]
  ·exact absurd e0 g1
 ·rcases qb5 h with⟨e0,_⟩|⟨_,d,s,e1,e2,e3⟩
  ·exact absurd g1 e0
  ·refine⟨_,_,_,_,?_,e3,e2⟩
   obtain⟨o2,d',s',f1,_,f3,_,f5,_⟩:=qad (evs:=l) g4 (by omega) hN
   rw[e1]at f3
   injection f3 with f3
   injection f3 with fd fs
   subst fd fs
   unfold xR
   rw[g2,Option.bind_some]
   simp only
   rw[if_neg (by simp),f1,Option.bind_some]
   simp only
   rw[qbV e2]
   rfl
theorem qaQ (N:Nat) (e:qb) (es:List qb) (k:Nat) (c:List qb):zJ N (e::es) k c=if xD N c k e=0 then zJ N es (k+1) (qdX c e)else(((k+1:Nat):Int),xD N c k e,[]):=rfl
theorem qcw (N:Nat) (e:qb): ∀(l:List qb) (k:Nat) (c:List qb),zJ N (l++[e]) k c=if(zJ N l k c).2.1=0 then zJ N [e] (k+l.length) (zJ N l k c).2.2 else zJ N l k c
 |[],k,c=>by
  show zJ N [e] k c=if(0:Int)=0 then zJ N [e] (k+0) c else _
  rw[if_pos rfl]
  rfl
 |x::l,k,c=>by
  rw[List.cons_append,qaQ N x (l++[e]),qaQ N x l]
  by_cases h:xD N c k x=0
  ·rw[if_pos h,if_pos h,qcw N e l (k+1) (qdX c x),List.length_cons,show k+1+l.length=k+(l.length+1)by omega]
  ·rw[if_neg h,if_neg h,if_neg h]
end Go.Av
