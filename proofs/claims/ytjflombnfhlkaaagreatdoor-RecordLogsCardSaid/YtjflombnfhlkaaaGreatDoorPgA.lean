/-
  Chapter 10: names and events.
-/
import Derived.Test.YtjflombnfhlkaaaGreatDoorAvPl
import Derived.Test.YtjflombnfhlkaaaGreatDoorQGenG
noncomputable section
namespace Go.Av
set_option linter.unusedSimpArgs false
set_option linter.unusedVariables false
theorem qf2 {s:Str} {k:Nat} {c:UInt8} (h:s[k]? =some c):((⟨s.toArray⟩:ByteArray).get! k)=c:=by
 have hk:=(List.getElem?_eq_some_iff.1 h).1
 show s.toArray[k]! =c
 rw[getElem!_def]
 simp[h]
theorem qhg {s:Str} {k:Nat} {c:UInt8} (h:s[k]? =some c) (hc:c.toNat<128):jo s k=c.toNat∧runeLen s k=1:=by
 have e:=qf2 h
 unfold jo runeLen Utf8.decode
 simp only[Nat.add_zero,e,if_pos hc,and_self]
theorem qij {s:Str} {k:Nat} {c:UInt8} (h:s[k]? =some c) (hc:128≤c.toNat):128≤jo s k:=by
 have e:=qf2 h
 unfold jo Utf8.decode
 simp only[Nat.add_zero,e,if_neg (Nat.not_lt.2 hc)]
 have hr:(128:Nat)≤Utf8.runeError:=by decide
 repeat' split
 all_goals first|(simp only[Bool.and_eq_true,decide_eq_true_eq]at*;omega)|(simp;omega)|omega
def qfs (c:Int):Bool:=(decide (97≤c)&&decide (c≤122))||(decide (65≤c)&&decide (c≤90))
theorem qcY (c:Int):jD c=some (qfs c):=by
 unfold jD qfs
 by_cases h1:c≥97<;>by_cases h2:c≤122<;>by_cases h3:c≥65<;>by_cases h4:c≤90<;>simp[h1,h2,h3,h4]<;>omega
def qhm (k:Nat) (c:Int):Bool:=!qfs c&&(decide (k=0)||(!decide (c=95)&&(decide (c<48)||decide (c>57))))
def y9 (s:Str):Bool:=decide (1≤s.length)&&decide (s.length≤24)&&!((List.range s.length).any fun k=>qhm k (s.getD k 0).toNat)
theorem qiQ {k:Nat} {c:Int} (h:128≤c):qhm k c=true:=by
 unfold qhm qfs
 simp
 omega
def yI (s:Str) (k:Nat):Bool:=(List.range (s.length-k)).any fun j=>qhm (k+j) (s.getD (k+j) 0).toNat
theorem qcr {s:Str} {k:Nat} {c:UInt8} (h:s[k]? =some c):yI s k=(qhm k c.toNat||yI s (k+1)):=by
 have hk:=(List.getElem?_eq_some_iff.1 h).1
 unfold yI
 rw[show s.length-k=(s.length-(k+1))+1 by omega,List.range_succ_eq_map,List.any_cons,List.any_map]
 congr 1
 ·simp[List.getD,h]
 ·congr 1
  funext j
  simp only[Function.comp,Nat.succ_eq_add_one]
  rw[show k+(j+1)=k+1+j by omega]
theorem qdh {s:Str} {k:Nat} (h:s.length≤k):yI s k=false:=by
 unfold yI
 rw[show s.length-k=0 by omega]
 rfl
theorem qeO (s:Str): ∀(K k:Nat),k≤s.length→s.length<K+k→zI s K k=some (if yI s k then .inr false else .inl ())
 |0,k,h,hK=>by omega
 |K+1,k,h,hK=>by
  unfold zI
  by_cases hk:k<s.length
  ·have hc:s[k]? =some s[k]:=List.getElem?_eq_getElem hk
   rw[if_pos hk,qcY,qcr hc]
   by_cases ha:(s[k]).toNat<128
   ·obtain⟨e1,e2⟩:=qhg hc ha
    rw[e1,e2,qeO s K (k+1) (by omega) (by omega)]
    have ek:((k:Int)=0)↔k=0:=by omega
    unfold qhm
    generalize ((s[k]).toNat:Int)=c
    cases hl:qfs c<;>by_cases h0:k=0<;>by_cases h1:c=95<;>by_cases h2:c<48<;>by_cases h3:57<c<;>
     simp[hl,h0,h1,h2,h3]
   ·have hw:=qij hc (by omega)
    rw[qiQ (show(128:Int)≤((s[k]).toNat:Int)by omega)]
    have hl:qfs (jo s k)=false:=by unfold qfs;simp;omega
    have h1: ¬jo s k=95:=by omega
    have h2: ¬jo s k<48:=by omega
    have h3:jo s k>57:=by omega
    have ek:((k:Int)=0)↔k=0:=by omega
    simp only[hl,Option.bind_some,Bool.not_false,if_true,h1,h2,h3,decide_true,decide_false,if_false,Bool.true_or,ek]
    by_cases h0:k=0
    ·simp only[h0,if_true,Option.bind_some]
    ·simp only[h0,if_false,Option.bind_some,if_true]
  ·rw[if_neg hk,qdh (by omega)]
   rfl
theorem qdL (s:Str):y9 s=(decide (1≤s.length)&&decide (s.length≤24)&&!yI s 0):=by
 unfold y9 yI
 simp
theorem qh1 {N:Nat} {s:Str} (h:s.length<N):vU N s=some (y9 s):=by
 unfold vU
 rw[qeO s N 0 (Nat.zero_le _) (by omega),qdL]
 cases hb:yI s 0
 ·cases s with
  |nil=>simp
  |cons x xs=>
   have e:((x::xs)==([]:Str))=false:=rfl
   simp only[Option.bind_some,Bool.false_eq_true,if_false,e,Bool.not_false,if_true,Bool.and_true,Option.some.injEq]
   have:(1≤(x::xs).length):=by simp
   rw[Bool.eq_iff_iff]
   simp only[decide_eq_true_eq,Bool.and_eq_true,this,true_and]
   omega
 ·simp
theorem qdW (s:Str) (hs:s.length<4611686018427387904): ∀(K k:Nat),k≤s.length→s.length<K+k→ja s K (k:Int)=some (if yI s k then .inr false else .inl ())
 |0,k,h,hK=>by omega
 |K+1,k,h,hK=>by
  unfold ja
  by_cases hk:k<s.length
  ·have hc:s[k]? =some s[k]:=List.getElem?_eq_getElem hk
   rw[if_pos (by omega),qJ,hc,qcr hc,qI (by omega),qdW s hs K (k+1) (by omega) (by omega)]
   simp only[Option.bind_some]
   have ek:((k:Int)=0)↔k=0:=by omega
   unfold qhm
   generalize ((s[k]).toNat:Int)=c
   rw[show(if c≥97 then if c≤122 then some true else if c≥65 then some (decide (c≤90))else some false else if c≥65 then some (decide (c≤90))else some false:Option Bool)=some (qfs c)from by
    have:=qcY c
    unfold jD at this
    rw[←this]
    cases(if c≥97 then if c≤122 then some true else if c≥65 then some (decide (c≤90))else some false else if c≥65 then some (decide (c≤90))else some false:Option Bool)<;>rfl]
   simp only[Option.bind_some,ek]
   cases qfs c
   ·by_cases h5:k=0
    ·simp[h5]
    ·by_cases h6:c≥48
     ·by_cases h7:c≤57
      ·have a1: ¬c<48:=by omega
       have a2: ¬c>57:=by omega
       simp[h5,h6,h7,a1,a2]
      ·have a1: ¬c<48:=by omega
       have a2:c>57:=by omega
       by_cases h8:c=95<;>simp[h5,h6,h7,h8,a1,a2]
     ·have a1:c<48:=by omega
      by_cases h8:c=95<;>simp[h5,h6,h8,a1]
   ·simp
  ·rw[if_neg (by omega),qdh (by omega)]
   rfl
theorem qg0 {N:Nat} {s:Str} (h:s.length<N) (hs:s.length<4611686018427387904):yo N s=some (y9 s):=by
 unfold yo
 rw[show(0:Int)=((0:Nat):Int)from rfl,qdW s hs N 0 (Nat.zero_le _) (by omega),qdL]
 by_cases h1:s.length<1
 ·rw[if_pos (by omega)]
  simp[show¬1≤s.length by omega]
 ·by_cases h2:s.length>24
  ·rw[if_neg (by omega)]
   simp only[Option.bind_some,show((s.length:Int)>24)by omega,decide_true,if_true,show¬s.length≤24 by omega,decide_false,Bool.and_false,Bool.false_and]
  ·rw[if_neg (by omega)]
   simp only[Option.bind_some,show¬((s.length:Int)>24)by omega,decide_false,Bool.false_eq_true,if_false,show 1≤s.length by omega,show s.length≤24 by omega,decide_true,Bool.true_and]
   cases hb:yI s 0<;>rfl
def zD:List Int→Int
 |[]=>0
 |x::xs=>if x=0 then zD xs else x
theorem qfU (l:List Int) (hl:l.length<4611686018427387904): ∀(K k:Nat),k≤l.length→l.length<K+k→zZ l K (k:Int)=some (if zD (l.drop k)=0 then .inl ()else .inr (zD (l.drop k)))
 |0,k,h,hK=>by omega
 |K+1,k,h,hK=>by
  unfold zZ
  by_cases hk:k<l.length
  ·rw[if_pos (by omega),qJ,List.getElem?_eq_getElem hk,List.drop_eq_getElem_cons hk,qI (by omega),qfU l hl K (k+1) (by omega) (by omega)]
   simp only[Option.bind_some,zD]
   by_cases h0:l[k]=0
   ·simp[h0]
   ·simp[h0]
  ·rw[if_neg (by omega),List.drop_of_length_le (by omega)]
   rfl
theorem qel {N:Nat} {l:List Int} (hl:l.length<4611686018427387904) (h:l.length<N):jF N l=some (zD l):=by
 unfold jF
 rw[show(0:Int)=((0:Nat):Int)from rfl,qfU l hl N 0 (Nat.zero_le _) (by omega),List.drop_zero]
 by_cases h0:zD l=0
 ·simp[h0]
 ·simp[h0]
theorem qbG (b:Bool) (e:Int):zn b e=some (if b=true then e else 0):=by
 unfold zn;split<;>rfl
def qav (n lo hi:Int):Bool:=decide (n<lo)||decide (n>hi)
theorem qeS (n lo hi:Int):jI n lo hi=some (if qav n lo hi=true then 3 else 0):=by
 unfold jI qav
 simp only[qbG]
 by_cases h:n<lo<;>simp[h]
theorem qei (n lo hi:Int):vz n lo hi=some (qav n lo hi):=by
 unfold vz qav
 by_cases h:n<lo<;>simp[h]
theorem qjs {N:Nat} {s:Str} (h:s.length<N):yA N s=some (if y9 s=true then 0 else 8):=by
 unfold yA
 simp only[qh1 h,qbG,Option.bind_some]
 cases y9 s<;>rfl
def qdi:Str:=[109,97,107,101]
def qc8:Str:=[116,101,115,116]
def qf5:Str:=[117,115,101]
def qdd:Str:=[102,97,105,108]
def qai:Str:=[114,101,99,97,108,108]
def qde:Str:=[117,110,100,111]
def za (k:Str):Int×Int×Bool:=
 if(k==qdi)=true then(2,3,true)else if(k==qc8)=true then(1,2,true)else if(k==qf5)=true then(1,2,true)else if(k==qdd)=true then(1,1,true)
 else if(k==qai)=true then(1,1,true)else if(k==qde)=true then(0,0,true)else(0,0,false)
theorem qhQ (k:Str):yR k=some (za k):=by
 unfold yR za qdi qc8 qf5 qdd qai qde
 by_cases h1:(k==[109,97,107,101])=true
 ·simp only[h1,if_true]
 ·by_cases h2:(k==[116,101,115,116])=true
  ·simp only[h1,h2,if_false,if_true,Option.bind_some];rfl
  ·by_cases h3:(k==[117,115,101])=true
   ·simp only[h1,h2,h3,if_false,if_true,Option.bind_some];rfl
   ·by_cases h4:(k==[102,97,105,108])=true
    ·simp only[h1,h2,h3,h4,if_false,if_true,Option.bind_some];rfl
    ·by_cases h5:(k==[114,101,99,97,108,108])=true
     ·simp only[h1,h2,h3,h4,h5,if_false,if_true,Option.bind_some];rfl
     ·simp only[h1,h2,h3,h4,h5,if_false,Option.bind_some,Bool.false_eq_true]
      split<;>rfl
def jZ (e:qb):Int:=
 if qav e.Number 1 1000=true then 3
 else if(za e.Kind).2.2=false then 13
 else if¬((e.Names.length:Int)=(za e.Kind).1∧(e.Values.length:Int)=(za e.Kind).2.1)then 2
 else if e.Names.all y9=false then 8
 else if e.Values.all (fun v=>!qav v 0 999999999)=false then 3
 else if e.Text=[]then 0 else 1
theorem qkG {N:Nat} (e:qb) (hl:e.Names.length<4611686018427387904) (hs: ∀s∈e.Names,s.length<N): ∀(K k:Nat),k≤e.Names.length→e.Names.length<K+k→zf N e K (k:Int)=some (if(e.Names.drop k).all y9=true then .inl ()else .inr 8)
 |0,k,h,hK=>by omega
 |K+1,k,h,hK=>by
  unfold zf
  by_cases hk:k<e.Names.length
  ·rw[if_pos (by omega),qJ,List.getElem?_eq_getElem hk,List.drop_eq_getElem_cons hk,qI (by omega),qkG e hl hs K (k+1) (by omega) (by omega)]
   simp only[Option.bind_some,qjs (hs _ (List.getElem_mem hk)),List.all_cons]
   by_cases hq:y9 e.Names[k]=true<;>simp[hq]
  ·rw[if_neg (by omega),List.drop_of_length_le (by omega)]
   rfl
theorem qkF (e:qb) (hl:e.Values.length<4611686018427387904): ∀(K k:Nat),k≤e.Values.length→e.Values.length<K+k→zb e K (k:Int)=some (if(e.Values.drop k).all (fun v=>!qav v 0 999999999)=true then .inl ()else .inr 3)
 |0,k,h,hK=>by omega
 |K+1,k,h,hK=>by
  unfold zb
  by_cases hk:k<e.Values.length
  ·rw[if_pos (by omega),qJ,List.getElem?_eq_getElem hk,List.drop_eq_getElem_cons hk,qI (by omega),qkF e hl K (k+1) (by omega) (by omega)]
   simp only[Option.bind_some,qeS,List.all_cons]
   by_cases hq:qav e.Values[k] 0 999999999=true<;>simp[hq]
  ·rw[if_neg (by omega),List.drop_of_length_le (by omega)]
   rfl
structure qdX (N:Nat) (e:qb):Prop where
 n:e.Names.length<N
 v:e.Values.length<N
 s: ∀s∈e.Names,s.length<N
theorem qbR {N:Nat} (hN:N<4611686018427387904) (h3:3<N) {e:qb} (h:qdX N e):zX N e=some (jZ e):=by
 obtain⟨hn,hv,hs⟩:=h
 unfold zX
 have hf:((jU).bind fun r1=>
  if(e.Kind==[109,97,107,101])=true then some (2,3,true)else if(e.Kind==[116,101,115,116])=true then some (1,2,true)else if(e.Kind==[117,115,101])=true then some (1,2,true)
  else if(e.Kind==[102,97,105,108])=true then some (1,1,true)else if(e.Kind==[114,101,99,97,108,108])=true then some (1,1,true)else if(e.Kind==[117,110,100,111])=true then some (0,0,true)
  else some (0,0,false):Option (Int×Int×Bool))=some (za e.Kind):=by
  simp only[jU,Option.bind_some,za,qdi,qc8,qf5,qdd,qai,qde]
  by_cases h1:(e.Kind==[109,97,107,101])=true
  ·simp only[h1,if_true]
  by_cases h2:(e.Kind==[116,101,115,116])=true
  ·simp only[h1,h2,if_true,if_false,Bool.false_eq_true]
  by_cases h3:(e.Kind==[117,115,101])=true
  ·simp only[h1,h2,h3,if_true,if_false,Bool.false_eq_true]
  by_cases h4:(e.Kind==[102,97,105,108])=true
  ·simp only[h1,h2,h3,h4,if_true,if_false,Bool.false_eq_true]
  by_cases h5:(e.Kind==[114,101,99,97,108,108])=true
  ·simp only[h1,h2,h3,h4,h5,if_true,if_false,Bool.false_eq_true]
  by_cases h6:(e.Kind==[117,110,100,111])=true
  ·simp only[h1,h2,h3,h4,h5,h6,if_true,if_false,Bool.false_eq_true]
  simp only[h1,h2,h3,h4,h5,h6,if_true,if_false,Bool.false_eq_true]
 rw[hf]
 have e0:(0:Int)=((0:Nat):Int):=rfl
 simp only[Option.bind_some,qeS,qbG,qel (N:=N) (l:=[_,_,_]) (by simp) (by simpa using h3)]
 rw[e0,qkG e (by omega) hs N 0 (by omega) (by omega),qkF e (by omega) N 0 (by omega) (by omega),List.drop_zero,List.drop_zero]
 unfold jZ
 generalize za e.Kind=f
 obtain⟨a,b,c⟩:=f
 by_cases h1:qav e.Number 1 1000=true
 ·by_cases hx:(e.Names.length:Int)=a<;>simp[h1,zD,hx]
 ·cases c
  ·by_cases hx:(e.Names.length:Int)=a<;>simp[h1,zD,hx]
  ·by_cases hx:(e.Names.length:Int)=a
   ·by_cases hy:(e.Values.length:Int)=b
    ·cases hA:e.Names.all y9
     ·simp[h1,zD,hx,hy,hA]
     ·cases hB:e.Values.all (fun v=>!qav v 0 999999999)
      ·simp[h1,zD,hx,hy,hA,hB]
      ·by_cases ht:e.Text=[]
       ·simp[h1,zD,hx,hy,hA,hB,ht]
       ·have:(e.Text==[])=false:=by cases hq:e.Text with|nil=>exact absurd hq ht|cons=>rfl
        simp[h1,zD,hx,hy,hA,hB,ht,this]
    ·simp[h1,zD,hx,hy]
   ·simp[h1,zD,hx]
theorem qjq {N:Nat} (hN:N<4611686018427387904) (e:qb) {r:Int×Int×Bool} (hr:(e.Names.length:Int)=r.1) (hl:e.Names.length<4611686018427387904) (hs: ∀s∈e.Names,s.length<N): ∀(K k:Nat),k≤e.Names.length→e.Names.length<K+k→zl N e r K (k:Int)=some (if(e.Names.drop k).all y9=true then .inl ()else .inr 8)
 |0,k,h,hK=>by omega
 |K+1,k,h,hK=>by
  unfold zl
  by_cases hk:k<e.Names.length
  ·have:=hs _ (List.getElem_mem hk)
   rw[if_pos (by omega),qJ,List.getElem?_eq_getElem hk,List.drop_eq_getElem_cons hk,qI (by omega),qjq hN e hr hl hs K (k+1) (by omega) (by omega)]
   simp only[Option.bind_some,qg0 this (by omega),List.all_cons]
   by_cases hq:y9 e.Names[k]=true<;>simp[hq]
  ·rw[if_neg (by omega),List.drop_of_length_le (by omega)]
   rfl
theorem qjQ (e:qb) {r:Int×Int×Bool} (hr:(e.Values.length:Int)=r.2.1) (hl:e.Values.length<4611686018427387904): ∀(K k:Nat),k≤e.Values.length→e.Values.length<K+k→zm e r K (k:Int)=some (if(e.Values.drop k).all (fun v=>!qav v 0 999999999)=true then .inl ()else .inr 3)
 |0,k,h,hK=>by omega
 |K+1,k,h,hK=>by
  unfold zm
  by_cases hk:k<e.Values.length
  ·rw[if_pos (by omega),qJ,List.getElem?_eq_getElem hk,List.drop_eq_getElem_cons hk,qI (by omega),qjQ e hr hl K (k+1) (by omega) (by omega)]
   simp only[Option.bind_some,qei,List.all_cons]
   by_cases hq:qav e.Values[k] 0 999999999=true<;>simp[hq]
  ·rw[if_neg (by omega),List.drop_of_length_le (by omega)]
   rfl
theorem qbn {N:Nat} (hN:N<4611686018427387904) {e:qb} (h:qdX N e):jk N e=some (jZ e):=by
 obtain⟨hn,hv,hs⟩:=h
 unfold jk jZ
 rw[qei,qhQ]
 simp only[Option.bind_some]
 by_cases h1:qav e.Number 1 1000=true
 ·simp[h1]
 ·rw[if_neg h1,if_neg h1]
  cases hc:(za e.Kind).2.2
  ·simp
  ·by_cases hx:(e.Names.length:Int)=(za e.Kind).1
   ·by_cases hy:(e.Values.length:Int)=(za e.Kind).2.1
    ·have e0:(0:Int)=((0:Nat):Int):=rfl
     rw[e0,qjq hN e hx (by omega) hs N 0 (by omega) (by omega),qjQ e hy (by omega) N 0 (by omega) (by omega),List.drop_zero,List.drop_zero]
     cases hA:e.Names.all y9
     ·simp[hx,hy]
     ·cases hB:e.Values.all (fun v=>!qav v 0 999999999)
      ·simp[hx,hy]
      ·by_cases ht:e.Text=[]
       ·simp[hx,hy,ht]
       ·have:(e.Text==[])=false:=by cases hq:e.Text with|nil=>exact absurd hq ht|cons=>rfl
        simp[hx,hy,ht,this]
    ·simp[hx,hy]
   ·simp[hx]
def spl:Str→Str→List Str
 |a,[]=>[a]
 |a,c::s=>if c=32 then a::spl [] s else spl (a++[c]) s
noncomputable def yg (s:Str):Nat:=qgD 32 s
theorem qax (c:UInt8) (s:Str):yg (c::s)=if c=32 then yg s+1 else yg s:=by
 show kw (Nat.beq c.toNat 32) (Nat.succ (yg s)) (yg s)=_
 rw[qx]
 by_cases h:c=32
 ·subst h;rfl
 ·have h2:c.toNat≠32:=fun e=>h (UInt8.toNat_inj.1 (by rw[e];rfl))
  rw[if_neg (by rw[yw h2];simp),if_neg h]
theorem qch: ∀s:Str,yg s≤s.length
 |[]=>Nat.le_refl _
 |c::s=>by
  have:=qch s
  rw[qax,List.length_cons]
  split<;>omega
def qaM:Str→Option Nat
 |[]=>none
 |c::s=>if c=32 then some 0 else(qaM s).map (· +1)
theorem qcW: ∀(s:Str) (j:Nat),qck 32 s j=match qaM s with|some k=>((j+k:Nat):Int)|none=> -1
 |[],_=>rfl
 |c::s,j=>by
  show kw (Nat.beq c.toNat 32) (Int.ofNat j) (qck 32 s (j+1))=_
  rw[qx,qcW s (j+1),qaM]
  by_cases h:c=32
  ·subst h;rfl
  ·have h2:c.toNat≠32:=fun e=>h (UInt8.toNat_inj.1 (by rw[e];rfl))
   rw[if_neg (by rw[yw h2];simp),if_neg h]
   cases qaM s with
   |none=>rfl
   |some k=>
    simp only[Option.map_some]
    congr 1
    omega
theorem qbD: ∀{s:Str},qaM s=none→yg s=0∧ ∀a,spl a s=[a++s]
 |[],_=>⟨rfl,fun a=>by simp[spl]⟩
 |c::s,h=>by
  unfold qaM at h
  by_cases hc:c=32
  ·rw[if_pos hc]at h;cases h
  ·rw[if_neg hc]at h
   cases hp:qaM s with
   |some k=>rw[hp]at h;cases h
   |none=>
    obtain⟨h1,h2⟩:=qbD hp
    refine⟨by rw[qax,if_neg hc,h1],fun a=>?_⟩
    rw[spl,if_neg hc,h2]
    simp
theorem qaA: ∀{s:Str} {k:Nat},qaM s=some k→k<s.length∧yg s=yg (s.drop (k+1))+1∧ ∀a,spl a s=(a++s.take k)::spl [] (s.drop (k+1))
 |[],_,h=>by cases h
 |c::s,k,h=>by
  unfold qaM at h
  by_cases hc:c=32
  ·rw[if_pos hc]at h
   obtain rfl:=Option.some.inj h
   refine⟨by simp,?_,fun a=>?_⟩
   ·rw[qax,if_pos hc];rfl
   ·rw[spl,if_pos hc];simp
  ·rw[if_neg hc]at h
   cases hp:qaM s with
   |none=>rw[hp]at h;cases h
   |some j=>
    rw[hp]at h
    obtain rfl:=Option.some.inj h
    obtain⟨h1,h2,h3⟩:=qaA hp
    refine⟨by simp;omega,?_,fun a=>?_⟩
    ·rw[qax,if_neg hc,h2,List.drop_succ_cons]
    ·rw[spl,if_neg hc,h3]
     simp
theorem qkM {s:Str} (h:yg s=0):qaM s=none:=by
 cases hp:qaM s with
 |none=>rfl
 |some k=>have:=(qaA hp).2.1;omega
theorem qa3: ∀(a s:Str),(spl a s).length=yg s+1
 |a,[]=>rfl
 |a,c::s=>by
  rw[qax,spl]
  by_cases hc:c=32
  ·rw[if_pos hc,if_pos hc,List.length_cons,qa3]
  ·rw[if_neg hc,if_neg hc,qa3]
theorem qgs {s:Str}:strings_Index s [32]=some (qck 32 s 0):=by
 unfold strings_Index stringslite_Index stringslite_IndexByte qd1
 have h0: ¬(([32]:Str).length:Int)=0:=by simp
 have h1:(([32]:Str).length:Int)=1:=by simp
 rw[if_neg h0]
 simp only[Option.bind_some]
 by_cases hs:(([32]:Str)==s)=true
 ·have:s=[32]:=(beq_iff_eq.1 hs).symm
  subst this
  rfl
 ·rw[if_neg hs,if_pos h1,qea,show([32]:Str)[0]? =some 32 from rfl,Option.bind_some,if_pos (by decide)]
  rfl
theorem qjJ {N:Nat} {s:Str}:strings_Count N s [32]=some (yg s:Int):=by
 unfold strings_Count qfA
 have h0: ¬(([32]:Str).length:Int)=0:=by simp
 have h1:(([32]:Str).length:Int)=1:=by simp
 rw[if_neg h0,if_pos h1,qea,show([32]:Str)[0]? =some 32 from rfl,Option.bind_some,if_pos (by decide)]
 rfl
theorem qc7 (s0:Str) (n:Int) (c:Nat) (hc:c<4611686018427387904) (hn:w64 ((if(w64 ((s0.length:Int)+1))<n then(w64 ((s0.length:Int)+1))else n)-1)=(c:Int)): ∀(K:Nat) (l:List Str) (s:Str) (i:Nat),i+yg s=c→l.length=c+1→c<K+i→s.length<4611686018427387904→
 ∃l' s',qZ s0 [32] 0 n K l s (i:Int)=some (l',s',(c:Int))∧l'.length=c+1∧l'.take c++[s']=l.take i++spl [] s
 |0,l,s,i,h,hl,hK,hs=>by omega
 |K+1,l,s,i,h,hl,hK,hs=>by
  unfold qZ
  rw[hn]
  by_cases hi:i<c
  ·rw[if_pos (by omega),qgs,qcW]
   cases hp:qaM s with
   |none=>have:=(qbD hp).1;omega
   |some k=>
    obtain⟨h1,h2,h3⟩:=qaA hp
    simp only[Option.bind_some,Nat.zero_add]
    have w1:w64 ((k:Int)+0)=(k:Int):=by rw[Int.add_zero];exact zJ (by omega) (by omega)
    have w2:w64 ((k:Int)+(([32]:Str).length:Int))=((k+1:Nat):Int):=qI (by omega)
    rw[if_neg (by omega),w1,w2,qaD (by omega),Option.bind_some,qJ,List.getElem?_eq_getElem (by omega),Option.bind_some,qhv (by omega),Option.bind_some,vM (by omega),Option.bind_some,qI (by omega)]
    obtain⟨l',s',g1,g2,g3⟩:=qc7 s0 n c hc hn K (l.set i (s.take k)) (s.drop (k+1)) (i+1) (by omega) (by simpa using hl) (by omega) (by simp;omega)
    refine⟨l',s',g1,g2,?_⟩
    rw[g3,h3,List.nil_append,List.take_add_one,List.getElem?_set_self (by omega)]
    simp only[List.take_set,Option.toList_some,List.append_assoc,List.singleton_append]
    rw[List.set_eq_of_length_le (by rw[List.length_take];exact Nat.min_le_left _ _)]
  ·have hi:i=c:=by omega
   subst hi
   rw[if_neg (by omega)]
   refine⟨l,s,rfl,hl,?_⟩
   have:=(qbD (qkM (show yg s=0 by omega))).2 []
   rw[this,List.nil_append]
theorem qjv {N:Nat} {s:Str} (hs:s.length<100000) (hN:s.length<N):strings_Split N s [32]=some (spl [] s):=by
 unfold strings_Split strings_genSplit
 have hc:=qch s
 have w1:w64 ((yg s:Int)+1)=((yg s+1:Nat):Int):=qI (by omega)
 have w2:w64 ((s.length:Int)+1)=((s.length+1:Nat):Int):=qI (by omega)
 have w3:(if((s.length+1:Nat):Int)<((yg s+1:Nat):Int)then((s.length+1:Nat):Int)else((yg s+1:Nat):Int))=((yg s+1:Nat):Int):=if_neg (by omega)
 have w4:w64 (((yg s+1:Nat):Int)-1)=(yg s:Int):=by rw[zJ (by omega) (by omega)];omega
 rw[if_neg (by omega),if_neg (by decide),if_pos (by omega),qjJ]
 simp only[Option.bind_some,w1,w2,w3]
 have e:mk 16 ((yg s+1:Nat):Int) ([]:Str)=some (List.replicate (yg s+1) []):=by
  unfold mk
  rw[if_pos ⟨by omega,by omega,by omega⟩,Int.toNat_natCast]
 rw[e,Option.bind_some]
 obtain⟨l',s',g1,g2,g3⟩:=qc7 s ((yg s+1:Nat):Int) (yg s) (by omega) (by rw[w2,w3,w4]) N (List.replicate (yg s+1) []) s 0 (by omega) (by simp) (by omega) (by omega)
 rw[show qZ s [32] 0 ((yg s+1:Nat):Int) N (List.replicate (yg s+1) []) s 0=_ from g1]
 have hx:l'[yg s]? =some l'[yg s]:=List.getElem?_eq_getElem (by omega)
 simp only[Option.bind_some]
 rw[qJ,hx,Option.bind_some,qhv (by omega),Option.bind_some,w1,qaD (by simp;omega),Option.bind_some,Option.bind_some]
 rw[List.take_zero,List.nil_append]at g3
 rw[←g3,List.take_add_one,List.getElem?_set_self (by omega),List.take_set,List.set_eq_of_length_le (by simp;omega)]
 rfl
theorem qcp {α:Type} {l:List α} {a b:Nat} (h1:a≤b) (h2:b≤l.length):cut l (a:Int) (b:Int)=some ((l.drop a).take (b-a)):=by
 unfold cut
 rw[if_pos ⟨by omega,by omega,by omega⟩]
 simp only[Int.toNat_natCast,Option.some.injEq]
theorem qcJ (s:Str) (hs:s.length<100000): ∀(K:Nat) (l:List Str) (f i:Nat),f≤i→i≤s.length→s.length<K+i→l.length≤i→
 zq s (K+1) l (f:Int) (i:Int)=some (l++spl ((s.drop f).take (i-f)) (s.drop i))
 |K,l,f,i,h1,h2,hK,hl=>by
  unfold zq
  rw[if_pos (by omega)]
  by_cases hi:i=s.length
  ·subst hi
   rw[if_pos rfl]
   simp only[Option.bind_some,if_true]
   rw[qcp h1 (Nat.le_refl _),Option.bind_some,yB (by simp;omega) (by simp;omega),Option.bind_some,Option.bind_some,qI (by omega)]
   have hd:s.drop s.length=[]:=List.drop_length
   rw[hd,spl]
   cases K with
   |zero=>omega
   |succ K=>
    simp only
    unfold zq
    rw[if_neg (by omega)]
  ·have hx:s[i]? =some s[i]:=List.getElem?_eq_getElem (by omega)
   have hd:s.drop i=s[i]::s.drop (i+1):=List.drop_eq_getElem_cons (by omega)
   rw[if_neg (by omega),qJ,hx,Option.bind_some,hd,spl]
   generalize s[i]=c at hx
   cases K with
   |zero=>omega
   |succ K=>
   by_cases hc:c=32
   ·subst hc
    simp only[Option.bind_some,show decide ((((32:UInt8).toNat:Nat):Int)=32)=true by decide,if_true]
    rw[qcp h1 h2,Option.bind_some,yB (by simp;omega) (by simp;omega),Option.bind_some,Option.bind_some,qI (by omega)]
    simp only
    rw[qcJ s hs K _ (i+1) (i+1) (Nat.le_refl _) (by omega) (by omega) (by simp;omega),Nat.sub_self,List.take_zero,List.append_assoc]
    rfl
   ·have hc2: ¬((c.toNat:Int)=32):=fun e=>hc (UInt8.toNat_inj.1 (by have:c.toNat=32:=by omega
                                                                    rw[this];rfl))
    simp only[Option.bind_some,decide_eq_false hc2,Bool.false_eq_true,if_false,if_neg hc]
    rw[qI (by omega),qcJ s hs K l f (i+1) (by omega) (by omega) (by omega) (by omega)]
    congr 3
    rw[show i+1-f=(i-f)+1 by omega,List.take_add_one,List.getElem?_drop,show f+(i-f)=i by omega,hx]
    rfl
theorem qe6 {N:Nat} {s:Str} (hs:s.length<100000) (hN:s.length+1<N):ym N s=some (spl [] s):=by
 unfold ym
 obtain⟨K,rfl⟩: ∃K,N=K+1:=⟨N-1,by omega⟩
 rw[show zq s (K+1) [] 0 0=zq s (K+1) [] ((0:Nat):Int) ((0:Nat):Int)from rfl,qcJ s hs K [] 0 0 (Nat.le_refl _) (Nat.zero_le _) (by omega) (by simp)]
 simp
theorem list1 {α:Type} {l:List α} (h:(l.length:Int)=1): ∃a,l=[a]:=by
 match l,h with
 |[a],_=>exact⟨a,rfl⟩
 |[],h=>simp at h
 |_::_::_,h=>simp at h;omega
def ji (c:UInt8):Bool:=decide (48≤c.toNat)&&decide (c.toNat≤57)
def xW (n:Nat) (s:List UInt8):Nat:=s.foldl (fun a c=>a*10+(c.toNat-48)) n
theorem qcl (n:Nat):xW n []=n:=List.foldl_nil
theorem vF (n:Nat) (c:UInt8) (s:List UInt8):xW n (c::s)=xW (n*10+(c.toNat-48)) s:=by
 unfold xW
 rw[List.foldl_cons]
theorem qhz (s:List UInt8): ∀n:Nat,s.all ji=true→xW n s<(n+1)*10^s.length:=by
 induction s with
 |nil=>
  intro n _
  rw[List.length_nil,Nat.pow_zero,Nat.mul_one,qcl]
  exact Nat.lt_succ_self n
 |cons c s ih=>
  intro n h
  rw[List.all_cons,Bool.and_eq_true]at h
  have h1:=ih (n*10+(c.toNat-48)) h.2
  have hd:c.toNat-48≤9:=by
   have:=h.1
   simp[ji]at this
   omega
  have h2:n*10+(c.toNat-48)+1≤(n+1)*10:=by omega
  rw[vF,List.length_cons,Nat.pow_succ,Nat.mul_comm (10^s.length) 10,←Nat.mul_assoc]
  exact Nat.lt_of_lt_of_le h1 (Nat.mul_le_mul_right _ h2)
theorem ne48 {c:UInt8} (h: ¬c=48): ¬((c.toNat:Int)=48):=fun e=>h (UInt8.toNat_inj.1 (show c.toNat=48 from by omega))
def qju (s:Str):Bool:=decide (1≤s.length)&&(decide (s.length≤9)&&(s.all ji&&(decide (s.length=1)||!(s[0]? ==some 48))))
def vR (s:Str):Int×Bool:=if qju s=true then((xW 0 s:Nat),true)else(0,false)
theorem qcZ (s:Str) (hs:s.length≤9): ∀(K i n:Nat),i≤s.length→s.length<K+i→(∀j≤s.length,i≤j→xW n ((s.drop i).take (j-i))<10^9∨((s.drop i).take (j-i)).all ji=false)→
 zu s K (n:Int) (i:Int)=some (if(s.drop i).all ji=true then .inl ((xW n (s.drop i):Nat):Int)else .inr (0,false))
 |0,i,n,h,hK,_=>by omega
 |K+1,i,n,h,hK,hb=>by
  unfold zu
  by_cases hi:i<s.length
  ·have hx:s[i]? =some s[i]:=List.getElem?_eq_getElem hi
   have hd:s.drop i=s[i]::s.drop (i+1):=List.drop_eq_getElem_cons hi
   rw[if_pos (by omega),qJ,hx,Option.bind_some,hd,List.all_cons]
   rw[hd]at hb
   generalize s[i]=c at hx hb
   by_cases hc:ji c=true
   ·have h1:48≤c.toNat∧c.toNat≤57:=by simpa[ji]using hc
    have n1: ¬(c.toNat:Int)<48:=by omega
    have n2: ¬(c.toNat:Int)>57:=by omega
    rw[if_neg n1]
    simp only[Option.bind_some,decide_eq_false n2,Bool.false_eq_true,if_false,hc,Bool.true_and]
    have hn:xW n [c]<10^9:=by
     rcases hb (i+1) (by omega) (by omega)with h|h
     ·rw[show i+1-i=1 by omega]at h;simpa using h
     ·rw[show i+1-i=1 by omega]at h;simp[hc]at h
    have hn:n*10+(c.toNat-48)<1000000000:=hn
    have w0:IntKind.wrap .u8 ((c.toNat:Int)-48)=((c.toNat-48:Nat):Int):=by
     unfold IntKind.wrap
     have e:(2:Int)^IntKind.u8.bits=256:=by decide
     have e3:IntKind.u8.signed=false:=by decide
     simp only[e,e3,Bool.false_and,if_false,Bool.false_eq_true]
     omega
    have w1:w64 ((c.toNat-48:Nat):Int)=((c.toNat-48:Nat):Int):=zJ (by omega) (by omega)
    have w2:w64 (10*(n:Int))=((10*n:Nat):Int):=by rw[zJ (by omega) (by omega)];omega
    have w3:w64 (((10*n:Nat):Int)+((c.toNat-48:Nat):Int))=((n*10+(c.toNat-48):Nat):Int):=by rw[zJ (by omega) (by omega)];omega
    rw[w0,w1,w2,w3,qI (by omega),qcZ s hs K (i+1) (n*10+(c.toNat-48)) (by omega) (by omega) (fun j hj hij=>?_)]
    ·rw[vF]
    ·have:=hb j hj (by omega)
     rw[show j-i=(j-(i+1))+1 by omega,List.take_succ_cons,vF,List.all_cons,hc,Bool.true_and]at this
     exact this
   ·have hc2:ji c=false:=by simpa using hc
    rw[hc2,Bool.false_and]
    by_cases n1:(c.toNat:Int)<48
    ·rw[if_pos n1];rfl
    ·rw[if_neg n1]
     have n2:(c.toNat:Int)>57:=by
      simp[ji]at hc2
      omega
     simp only[Option.bind_some,decide_eq_true n2,if_true,Bool.false_eq_true,if_false]
  ·rw[if_neg (by omega),List.drop_of_length_le (by omega)]
   rfl
theorem qdk {N:Nat} {s:Str} (hN:2000<N):vD N s=some (vR s):=by
 unfold vD vR qju
 by_cases h0:s.length=0
 ·have: ¬1≤s.length:=by omega
  rw[if_pos (by omega)]
  simp[this]
 by_cases h9:s.length>9
 ·have: ¬s.length≤9:=by omega
  rw[if_neg (by omega),if_pos (by omega)]
  simp[this]
 rw[if_neg (by omega),if_neg (by omega)]
 have a1:1≤s.length:=by omega
 have a2:s.length≤9:=by omega
 have key:zu s N 0 0=some (if s.all ji=true then .inl ((xW 0 s:Nat):Int)else .inr (0,false)):=by
  have:=qcZ s a2 N 0 0 (Nat.zero_le _) (by omega) (fun j hj _=>by
   by_cases hq:((s.drop 0).take (j-0)).all ji=true
   ·left
    have h1:=qhz _ 0 hq
    have h2:((s.drop 0).take (j-0)).length≤9:=by simp;omega
    have h3:(10:Nat)^((s.drop 0).take (j-0)).length≤10^9:=Nat.pow_le_pow_right (by omega) h2
    omega
   ·right;simpa using hq)
  rw[List.drop_zero]at this
  exact this
 rw[key]
 by_cases h1:s.length>1
 ·have hne: ¬s.length=1:=by omega
  have hx:s[0]? =some s[0]:=List.getElem?_eq_getElem (by omega)
  rw[if_pos (by omega),qea,hx]
  generalize s[0]=c
  by_cases hc:c=48
  ·subst hc
   simp[hne]
  ·have hc2: ¬((c.toNat:Int)=48):=ne48 hc
   have hc3:(some c==some (48:UInt8))=false:=by simpa using hc
   simp only[Option.bind_some,decide_eq_false hc2,Bool.false_eq_true,if_false,a1,a2,hne,hc3,decide_true,decide_false,Bool.true_and,Bool.not_false,Bool.or_true,Bool.and_true]
   by_cases hd:s.all ji=true<;>simp[hd]
 ·have h1':s.length=1:=by omega
  rw[if_neg (by omega)]
  simp only[Option.bind_some,Bool.false_eq_true,if_false,a1,a2,h1',decide_true,Bool.true_and,Bool.true_or,Bool.and_true,Nat.le_refl]
  by_cases hd:s.all ji=true<;>simp[hd]
theorem qiZ (c:UInt8):([48,49,50,51,52,53,54,55,56,57]:Str).contains c=ji c:=by
 rw[Bool.eq_iff_iff]
 simp only[List.contains_cons,List.contains_nil,Bool.or_eq_true,beq_iff_eq,ji,Bool.and_eq_true,decide_eq_true_eq,←UInt8.toNat_inj,Bool.or_false]
 simp only[show(48:UInt8).toNat=48 from rfl,show(49:UInt8).toNat=49 from rfl,show(50:UInt8).toNat=50 from rfl,show(51:UInt8).toNat=51 from rfl,show(52:UInt8).toNat=52 from rfl,show(53:UInt8).toNat=53 from rfl,show(54:UInt8).toNat=54 from rfl,show(55:UInt8).toNat=55 from rfl,show(56:UInt8).toNat=56 from rfl,show(57:UInt8).toNat=57 from rfl]
 omega
theorem qak {α:Type} {p:α→Bool}: ∀{l:List α},l.dropWhile p=[]↔l.all p=true
 |[]=>by simp
 |x::l=>by
  rw[List.dropWhile_cons,List.all_cons]
  by_cases h:p x=true
  ·rw[if_pos h,h,Bool.true_and];exact qak
  ·rw[if_neg h];simp[h]
theorem qh5 {s:Str}:(Lib.trimS s [48,49,50,51,52,53,54,55,56,57]==[])=s.all ji:=by
 have e:(fun c=>([48,49,50,51,52,53,54,55,56,57]:Str).contains c)=ji:=funext qiZ
 unfold Lib.trimS Lib.trimLeftS Lib.trimRightS
 rw[e]
 rw[Bool.eq_iff_iff,beq_iff_eq,qak,List.all_reverse]
 constructor
 ·intro h
  have h2: ∀x∈s.reverse.takeWhile ji++s.reverse.dropWhile ji,ji x=true:=by
   intro x hx
   rcases List.mem_append.1 hx with hx|hx
   ·exact List.all_eq_true.1 List.all_takeWhile x hx
   ·exact List.all_eq_true.1 h x hx
  rw[List.takeWhile_append_dropWhile]at h2
  exact List.all_eq_true.2 fun x hx=>h2 x (by simpa using hx)
 ·intro h
  have:s.reverse.dropWhile ji=[]:=qak.2 (by rw[List.all_reverse];exact h)
  rw[this]
  rfl
theorem qda {s:Str} (hs:s.length≤1000000):jC s=some (decide (1≤s.length)&&s.all ji):=by
 have hT:qgc s [48,49,50,51,52,53,54,55,56,57]=some (Lib.trimS s [48,49,50,51,52,53,54,55,56,57]):=by
  unfold qgc
  rw[if_pos ⟨hs,by decide,by decide⟩]
 unfold jC
 simp only[hT,Option.bind_some,qh5]
 cases s with
 |nil=>rfl
 |cons x xs=>simp
theorem qew: ∀(s:Str) (n:Nat),s.all ji=true→Lib.decFrom n s=some (xW n s)
 |[],n,_=>rfl
 |c::s,n,h=>by
  rw[List.all_cons,Bool.and_eq_true]at h
  unfold Lib.decFrom
  rw[vF]
  have h1:48≤c.toNat∧c.toNat≤57:=by simpa[ji]using h.1
  have e:Lib.digitVal c=some (c.toNat-48):=by unfold Lib.digitVal;rw[if_pos h1]
  rw[e]
  exact qew s _ h.2
theorem qgk {s:Str} (h0:1≤s.length) (h:s.all ji=true):Lib.atoi s=some ((xW 0 s:Nat):Int):=by
 cases s with
 |nil=>simp at h0
 |cons c s=>
  have hc:ji c=true:=by rw[List.all_cons,Bool.and_eq_true]at h;exact h.1
  have h1:48≤c.toNat∧c.toNat≤57:=by simpa[ji]using hc
  unfold Lib.atoi Lib.decNat
  have n1: ¬(c==45)=true:=fun e=>by rw[beq_iff_eq.1 e]at h1;simp at h1
  have n2: ¬(c==43)=true:=fun e=>by rw[beq_iff_eq.1 e]at h1;simp at h1
  simp only
  rw[if_neg n1,if_neg n2,if_neg (by simp),qew _ _ h]
  rfl
theorem qeq {s:Str} (hs:s.length≤1000000):jO s=some (vR s):=by
 unfold jO vR qju
 by_cases h9:s.length>9
 ·have: ¬s.length≤9:=by omega
  rw[if_pos (by omega)]
  simp[this]
 rw[if_neg (by omega),qda hs]
 have a2:s.length≤9:=by omega
 simp only[Option.bind_some]
 by_cases h0:s.length=0
 ·have: ¬1≤s.length:=by omega
  simp[this]
 have a1:1≤s.length:=by omega
 by_cases hd:s.all ji=true
 ·have hx:s[0]? =some s[0]:=List.getElem?_eq_getElem (by omega)
  simp only[a1,a2,hd,decide_true,Bool.and_self,Bool.not_true,Bool.false_eq_true,if_false,Bool.true_and,qea]
  have hat:qgn s=some (((xW 0 s:Nat):Int),()):=by
   unfold qgn
   rw[if_pos (by omega),qgk a1 hd]
   rfl
  rw[hx,Option.bind_some]
  by_cases hc:s[0]=48
  ·have hc1:((s[0].toNat:Int)=48):=by rw[hc];rfl
   rw[if_pos hc1]
   simp only[Option.bind_some]
   by_cases h1:s.length=1
   ·obtain⟨c,rfl⟩:=list1 (show(s.length:Int)=1 by omega)
    have hc:c=48:=hc
    subst hc
    rw[hat]
    rfl
   ·have: ¬(s==[48])=true:=fun e=>h1 (by rw[beq_iff_eq.1 e];rfl)
    have h48:(some s[0]==some (48:UInt8))=true:=by simpa using hc
    simp[this,h1,h48]
  ·have hc1: ¬((s[0].toNat:Int)=48):=ne48 hc
   have h48:(some s[0]==some (48:UInt8))=false:=by simpa using hc
   rw[if_neg hc1]
   simp only[Option.bind_some,Bool.false_eq_true,if_false,hat,h48,Bool.not_false,Bool.or_true,if_true]
 ·have hd2:s.all ji=false:=by simpa using hd
  simp[a1,a2,hd2]
def ev0:qb:=⟨0,[],[],[],[]⟩
def qaG (ws:List Str):qb×Bool:=
 if((za (ws.headD [])).2.2&&(decide ((ws.length:Int)=1+(za (ws.headD [])).1+(za (ws.headD [])).2.1)&&(!(ws.any fun w=>([]:Str)==w)&&(ws.drop (1+(za (ws.headD [])).1.toNat)).all fun w=>(vR w).2)))=true then
  (⟨0,ws.headD [],(ws.drop 1).take (za (ws.headD [])).1.toNat,(ws.drop (1+(za (ws.headD [])).1.toNat)).map fun w=>(vR w).1,[]⟩,true)
 else(ev0,false)
def xz (s:Str):qb×Bool:=qaG (spl [] s)
theorem qfd (k:Str): ∃a b:Nat,a≤2∧b≤3∧(za k).1=(a:Int)∧(za k).2.1=(b:Int)∧((za k).2.2=true→k≠[]):=by
 unfold za
 by_cases h1:(k==qdi)=true
 ·simp only[h1,if_true];exact⟨2,3,by omega,by omega,rfl,rfl,fun _ e=>by rw[e]at h1;cases h1⟩
 by_cases h2:(k==qc8)=true
 ·simp only[h1,h2,if_true,if_false];exact⟨1,2,by omega,by omega,rfl,rfl,fun _ e=>by rw[e]at h2;cases h2⟩
 by_cases h3:(k==qf5)=true
 ·simp only[h1,h2,h3,if_true,if_false];exact⟨1,2,by omega,by omega,rfl,rfl,fun _ e=>by rw[e]at h3;cases h3⟩
 by_cases h4:(k==qdd)=true
 ·simp only[h1,h2,h3,h4,if_true,if_false];exact⟨1,1,by omega,by omega,rfl,rfl,fun _ e=>by rw[e]at h4;cases h4⟩
 by_cases h5:(k==qai)=true
 ·simp only[h1,h2,h3,h4,h5,if_true,if_false];exact⟨1,1,by omega,by omega,rfl,rfl,fun _ e=>by rw[e]at h5;cases h5⟩
 by_cases h6:(k==qde)=true
 ·simp only[h1,h2,h3,h4,h5,h6,if_true,if_false];exact⟨0,0,by omega,by omega,rfl,rfl,fun _ e=>by rw[e]at h6;cases h6⟩
 simp only[h1,h2,h3,h4,h5,h6,if_false]
 exact⟨0,0,by omega,by omega,rfl,rfl,fun h=>by simp at h⟩
theorem qfQ (x:Str):(if(x==[109,97,107,101])=true then some (2,3,true)else if(x==[116,101,115,116])=true then some (1,2,true)else if(x==[117,115,101])=true then some (1,2,true)else
 if(x==[102,97,105,108])=true then some (1,1,true)else if(x==[114,101,99,97,108,108])=true then some (1,1,true)else if(x==[117,110,100,111])=true then some (0,0,true)else some (0,0,false):Option (Int×Int×Bool))=some (za x):=by
 unfold za qdi qc8 qf5 qdd qai qde
 repeat' split
 all_goals rfl
theorem qfg (l:List Str) (v:Str) (hl:l.length<4611686018427387904): ∀(K k:Nat),k≤l.length→l.length<K+k→ ∃r,qF l v K (k:Int)=some r∧(((l.drop k).any fun w=>v==w)=true∧(∃j:Nat,r= .inr (j:Int))∨((l.drop k).any fun w=>v==w)=false∧r= .inl ())
 |0,k,h,hK=>by omega
 |K+1,k,h,hK=>by
  unfold qF
  by_cases hk:k<l.length
  ·rw[if_pos (by omega),qJ,List.getElem?_eq_getElem hk,Option.bind_some,qI (by omega),List.drop_eq_getElem_cons hk,List.any_cons]
   by_cases hc:(v==l[k])=true
   ·rw[if_pos hc,hc,Bool.true_or]
    exact⟨_,rfl,.inl ⟨rfl,k,rfl⟩⟩
   ·have hc2:(v==l[k])=false:=by simpa using hc
    rw[if_neg hc,hc2,Bool.false_or]
    exact qfg l v hl K (k+1) (by omega) (by omega)
  ·rw[if_neg (by omega),List.drop_of_length_le (by omega)]
   exact⟨_,rfl,.inr ⟨rfl,rfl⟩⟩
theorem qgF {N:Nat} {l:List Str} {v:Str} (hl:l.length<4611686018427387904) (hN:l.length<N):slices_Contains_string N l v=some (l.any fun w=>v==w):=by
 unfold slices_Contains_string slices_Index_string
 obtain⟨r,h1,h2⟩:=qfg l v hl N 0 (by omega) (by omega)
 rw[List.drop_zero]at h2
 rw[show qF l v N 0=_ from h1]
 rcases h2 with⟨h2,j,rfl⟩|⟨h2,rfl⟩
 ·rw[h2]
  simp
 ·rw[h2]
  simp
theorem qc0 (l:List Str) (hl:l.length≤1700) (hs: ∀w∈l,w.length≤1000000): ∀(K k:Nat) (vs:List Int),k≤l.length→l.length<K+k→vs.length≤k→
 ze l K vs (k:Int)=some (if((l.drop k).all fun w=>(vR w).2)=true then .inl (vs++(l.drop k).map fun w=>(vR w).1)else .inr (ev0,false))
 |0,k,vs,h,hK,hv=>by omega
 |K+1,k,vs,h,hK,hv=>by
  unfold ze
  by_cases hk:k<l.length
  ·have hm:(l[k]).length≤1000000:=hs _ (List.getElem_mem hk)
   rw[if_pos (by omega),qJ,List.getElem?_eq_getElem hk,Option.bind_some,qeq hm,Option.bind_some,List.drop_eq_getElem_cons hk,List.all_cons]
   by_cases hc:(vR l[k]).2=true
   ·rw[hc]
    simp only[Bool.not_true,Bool.false_eq_true,if_false,Bool.true_and]
    rw[yB (by simp;omega) (by simp;omega),Option.bind_some,qI (by omega),qc0 l hl hs K (k+1) _ (by omega) (by omega) (by simp;omega)]
    simp only[List.append_assoc,List.singleton_append,List.map_cons]
   ·have hc2:(vR l[k]).2=false:=by simpa using hc
    rw[hc2]
    rfl
  ·rw[if_neg (by omega),List.drop_of_length_le (by omega)]
   simp
theorem qh4 {l:List Str} (h:l.length≤1700):slices_Clone_string l=some l:=by
 cases l with
 |nil=>
  simp only[slices_Clone_string,jw,qhY]
  rw[yB (by simp) (by simp)]
  simp
 |cons x xs=>
  show zH x xs=_
  unfold zH
  simp only[List.length_cons]at h
  rw[yB (by simp;omega) (by simp;omega)]
  rfl
theorem qbz: ∀(a s:Str),∀w∈spl a s,w.length≤a.length+s.length
 |a,[],w,h=>by simp[spl]at h;subst h;simp
 |a,c::s,w,h=>by
  rw[spl]at h
  split at h
  ·rcases List.mem_cons.1 h with rfl|h
   ·simp
   ·have:=qbz [] s w h
    simp at this⊢;omega
  ·have:=qbz (a++[c]) s w h
   simp at this⊢;omega
theorem qgz {N:Nat} {s:Str} (hs:s.length≤1600) (hN:2000<N):vv N s=some (xz s):=by
 unfold vv xz
 rw[qjv (by omega) (by omega),Option.bind_some]
 have hlen:=qa3 [] s
 have hc:=qch s
 have hsh:=qbz [] s
 generalize spl [] s=ws at hlen hsh
 obtain⟨w0,tl,rfl⟩: ∃w0 tl,ws=w0::tl:=by
  cases ws with
  |nil=>simp at hlen
  |cons x xs=>exact⟨x,xs,rfl⟩
 unfold qaG
 have hh:(w0::tl).headD []=w0:=rfl
 rw[hh]
 obtain⟨a,b,ha,hb,e1,e2,e3⟩:=qfd w0
 have hlen2:(w0::tl).length≤1601:=by omega
 have hlen3:=hlen2
 rw[List.length_cons]at hlen3
 simp only[jU,Option.bind_some,qea,List.getElem?_cons_zero,qfQ]
 rw[show za w0=((a:Int),(b:Int),(za w0).2.2)from by rw[←e1,←e2]]
 simp only[Option.bind_some]
 cases hk:(za w0).2.2 with
 |false=>simp[ev0]
 |true=>
  simp only[Bool.not_true,Bool.false_eq_true,if_false,Bool.true_and]
  have w1:w64 (1+(a:Int))=((1+a:Nat):Int):=by rw[zJ (by omega) (by omega)];omega
  have w2:w64 (((1+a:Nat):Int)+(b:Int))=((1+a+b:Nat):Int):=by rw[zJ (by omega) (by omega)];omega
  rw[w1,w2]
  by_cases hl:(w0::tl).length=1+a+b
  ·have d1:decide (((w0::tl).length:Int)=((1+a+b:Nat):Int))=true:=decide_eq_true (by omega)
   have d2:decide (((w0::tl).length:Int)=1+(a:Int)+(b:Int))=true:=decide_eq_true (by omega)
   rw[d1,d2]
   simp only[Bool.not_true,Bool.false_eq_true,if_false,Bool.true_and,qgF (N:=N) (l:=w0::tl) (v:=[]) (by omega) (by omega),Option.bind_some]
   cases hany:(w0::tl).any fun w=>([]:Str)==w with
   |true=>simp[ev0]
   |false=>
    simp only[Bool.false_eq_true,if_false,Bool.not_false,Bool.true_and]
    rw[show cut (w0::tl) 1 ((1+a:Nat):Int)=cut (w0::tl) ((1:Nat):Int) ((1+a:Nat):Int)from rfl,qcp (by omega) (by omega),Option.bind_some,qh4 (by simp;omega),Option.bind_some,vM (by omega),Option.bind_some]
    have hL:=qc0 ((w0::tl).drop (1+a)) (by simp;omega) (fun w hw=>by have:=hsh w (List.mem_of_mem_drop hw);simp at this;omega) N 0 [] (by omega) (by simp;omega) (by simp)
    rw[List.drop_zero,List.nil_append]at hL
    rw[show ze ((w0::tl).drop (1+a)) N [] 0=_ from hL,show 1+a-1=a by omega,Int.toNat_natCast]
    cases hall:((w0::tl).drop (1+a)).all fun w=>(vR w).2 with
    |true=>simp only[if_true,Option.bind_some]
    |false=>simp only[Bool.false_eq_true,if_false,Option.bind_some]
  ·have d1:decide (((w0::tl).length:Int)=((1+a+b:Nat):Int))=false:=decide_eq_false (by omega)
   have d2:decide (((w0::tl).length:Int)=1+(a:Int)+(b:Int))=false:=decide_eq_false (by omega)
   rw[d1,d2]
   simp[ev0]
def goP (a:Nat):List Str→Nat→List Str→List Int→Option (List Str×List Int)
 |[],_,l8,l9=>some (l8,l9)
 |w::ws,i,l8,l9=>if(w==[])=true then none else if i≤a then goP a ws (i+1) (l8++[w]) l9 else if(vR w).2=true then goP a ws (i+1) l8 (l9++[(vR w).1])else none
theorem qcS {N:Nat} (hN:2000<N) (ws:List Str) (hl:ws.length≤1700) (a:Nat) (F:Int×Int×Bool) (hF:F.1=(a:Int)): ∀(K i:Nat) (l8:List Str) (l9:List Int),i≤ws.length→ws.length<K+i→l8.length≤i→l9.length≤i→
 zB N ws F K l8 l9 (i:Int)=some (match goP a (ws.drop i) i l8 l9 with|some r=> .inl r|none=> .inr (ev0,false))
 |0,i,l8,l9,h,hK,_,_=>by omega
 |K+1,i,l8,l9,h,hK,h8,h9=>by
  unfold zB
  by_cases hi:i<ws.length
  ·rw[if_pos (by omega),qJ,List.getElem?_eq_getElem hi,Option.bind_some,List.drop_eq_getElem_cons hi,goP]
   generalize ws[i]=w
   by_cases hw:(w==[])=true
   ·rw[if_pos hw,if_pos hw]
    rfl
   ·rw[if_neg hw,if_neg hw]
    by_cases hia:i≤a
    ·rw[if_pos (show(i:Int)≤F.1 by omega),if_pos hia,yB (by simp;omega) (by simp;omega),Option.bind_some,Option.bind_some]
     simp only
     rw[qI (by omega),qcS hN ws hl a F hF K (i+1) _ _ (by omega) (by omega) (by simp;omega) (by omega)]
    ·rw[if_neg (show¬(i:Int)≤F.1 by omega),if_neg hia,qdk hN,Option.bind_some]
     cases hc:(vR w).2 with
     |false=>rfl
     |true=>
      simp only[Bool.not_true,Bool.false_eq_true,if_false,if_true]
      rw[yB (by simp;omega) (by simp;omega),Option.bind_some,Option.bind_some]
      simp only
      rw[qI (by omega),qcS hN ws hl a F hF K (i+1) _ _ (by omega) (by omega) (by omega) (by simp;omega)]
  ·rw[if_neg (by omega),List.drop_of_length_le (by omega)]
   rfl
theorem qha (a:Nat): ∀(ws:List Str) (i:Nat) (l8:List Str) (l9:List Int),goP a ws i l8 l9=if(!(ws.any fun w=>([]:Str)==w)&&(ws.drop (a+1-i)).all fun w=>(vR w).2)=true then some (l8++ws.take (a+1-i),l9++(ws.drop (a+1-i)).map fun w=>(vR w).1)else none
 |[],i,l8,l9=>by simp[goP]
 |w::ws,i,l8,l9=>by
  rw[goP]
  have hcomm:(([]:Str)==w)=(w==[]):=by
   cases w<;>rfl
  by_cases hw:(w==[])=true
  ·rw[if_pos hw,List.any_cons,hcomm,hw]
   simp
  ·have hw2:(w==[])=false:=by simpa using hw
   rw[if_neg hw,List.any_cons,hcomm,hw2,Bool.false_or]
   by_cases hia:i≤a
   ·rw[if_pos hia,qha a ws (i+1),show a+1-i=(a+1-(i+1))+1 by omega]
    simp only[List.drop_succ_cons,List.take_succ_cons,List.append_assoc,List.singleton_append]
   ·rw[if_neg hia,show a+1-i=0 by omega]
    simp only[List.drop_zero,List.take_zero,List.append_nil,List.all_cons,List.map_cons]
    cases hc:(vR w).2 with
    |false=>simp
    |true=>
     rw[if_pos rfl,qha a ws (i+1),show a+1-(i+1)=0 by omega]
     simp
theorem qis {N:Nat} {s:Str} (hs:s.length≤1600) (hN:2000<N):yz N s=some (xz s):=by
 unfold yz xz
 rw[qe6 (by omega) (by omega),Option.bind_some]
 have hlen:=qa3 [] s
 have hc:=qch s
 generalize spl [] s=ws at hlen
 obtain⟨w0,tl,rfl⟩: ∃w0 tl,ws=w0::tl:=by
  cases ws with
  |nil=>simp at hlen
  |cons x xs=>exact⟨x,xs,rfl⟩
 unfold qaG
 have hh:(w0::tl).headD []=w0:=rfl
 rw[hh]
 obtain⟨a,b,ha,hb,e1,e2,e3⟩:=qfd w0
 have hlen2:(w0::tl).length≤1601:=by omega
 have hlen3:=hlen2
 rw[List.length_cons]at hlen3
 simp only[Option.bind_some,qea,List.getElem?_cons_zero,qhQ]
 cases hk:(za w0).2.2 with
 |false=>simp[ev0]
 |true=>
  simp only[Bool.not_true,Bool.false_eq_true,if_false,Bool.true_and,e1,e2]
  have w1:w64 (1+(a:Int))=((1+a:Nat):Int):=by rw[zJ (by omega) (by omega)];omega
  have w2:w64 (((1+a:Nat):Int)+(b:Int))=((1+a+b:Nat):Int):=by rw[zJ (by omega) (by omega)];omega
  rw[w1,w2]
  by_cases hl:(w0::tl).length=1+a+b
  ·have d1:decide (((w0::tl).length:Int)=((1+a+b:Nat):Int))=true:=decide_eq_true (by omega)
   have d2:decide (((w0::tl).length:Int)=1+(a:Int)+(b:Int))=true:=decide_eq_true (by omega)
   rw[d1,d2]
   simp only[Bool.not_true,Bool.false_eq_true,if_false,Bool.true_and,Option.bind_some]
   have hL:=qcS hN (w0::tl) (by omega) a (za w0) e1 N 1 [] [] (by simp) (by omega) (by simp) (by simp)
   rw[show zB N (w0::tl) (za w0) N [] [] 1=_ from hL,List.drop_succ_cons,List.drop_zero,qha,show a+1-1=a by omega,Int.toNat_natCast]
   have hne:(([]:Str)==w0)=false:=by
    have:=e3 hk
    cases w0 with
    |nil=>exact absurd rfl this
    |cons x xs=>rfl
   rw[List.any_cons,hne,Bool.false_or,show 1+a=a+1 by omega,List.drop_succ_cons]
   simp only[List.nil_append]
   cases(!(tl.any fun w=>([]:Str)==w)&&(tl.drop a).all fun w=>(vR w).2)with
   |true=>simp only[if_true,Option.bind_some]
   |false=>simp only[Bool.false_eq_true,if_false,Option.bind_some]
  ·have d1:decide (((w0::tl).length:Int)=((1+a+b:Nat):Int))=false:=decide_eq_false (by omega)
   have d2:decide (((w0::tl).length:Int)=1+(a:Int)+(b:Int))=false:=decide_eq_false (by omega)
   rw[d1,d2]
   simp[ev0]
theorem qj9 {d:Nat} (h:d<10):cut ([48,49,50,51,52,53,54,55,56,57]:Str) (d:Int) (w64 ((d:Int)+1))=some [UInt8.ofNat (48+d)]:=by
 rw[qI (by omega)]
 have: ∀k:Fin 10,cut ([48,49,50,51,52,53,54,55,56,57]:Str) ((k.1:Nat):Int) ((k.1+1:Nat):Int)=some [UInt8.ofNat (48+k.1)]:=by decide
 exact this ⟨d,h⟩
theorem qen: ∀(K n:Nat) (s:Str),n<10^9→s.length+K≤100→(0<n∨1≤s.length)→n<10^K→qL 1 (K+1) (n:Int) s=some (if n=0 then s else Lib.decDigits n++s)
 |K,n,s,hn,hs,h0,hK=>by
  unfold qL
  by_cases hz:n=0
  ·subst hz
   have h1:1≤s.length:=by omega
   rw[if_neg (by omega),decide_eq_false (by omega),Option.bind_some,if_neg (by decide),if_pos rfl]
  ·have e1:((n:Int)).tmod 10=((n%10:Nat):Int):=by rw[Int.tmod_eq_emod_of_nonneg (by omega)];omega
   have e2:((n:Int)).tdiv 10=((n/10:Nat):Int):=by rw[Int.tdiv_eq_ediv_of_nonneg (by omega)];omega
   have e3:cat [UInt8.ofNat (48+n%10)] s=some ([UInt8.ofNat (48+n%10)]++s):=by
    unfold cat
    rw[if_pos (by simp only[List.length_cons,List.length_nil];omega)]
   rw[if_pos (by omega),Option.bind_some,if_pos rfl,e1,qj9 (Nat.mod_lt _ (by decide)),Option.bind_some,e3,Option.bind_some,e2,zJ (by omega) (by omega),if_neg hz]
   match K,hK with
   |0,hK=>simp at hK;omega
   |K+1,hK=>
    rw[qen K (n/10) _ (by omega) (by simp only[List.length_append,List.length_cons,List.length_nil];omega) (.inr (by simp)) (by rw[Nat.pow_succ]at hK;omega)]
    by_cases hd:n<10
    ·rw[if_pos (by omega),Lib.decDigits,dif_pos hd,Nat.mod_eq_of_lt hd]
    ·rw[if_neg (by omega)]
     conv=>rhs;rw[Lib.decDigits,dif_neg hd]
     rw[List.append_assoc]
theorem qhh {N n:Nat} (hN:100<N) (h0:0<n) (hn:n<10^9):vE N (n:Int) 1=some (Lib.decDigits n):=by
 unfold vE
 obtain⟨K,rfl⟩: ∃K,N=K+1:=⟨N-1,by omega⟩
 have mono: ∀(K n:Nat) (s:Str) (r:Str),n<10^9→qL 1 K (n:Int) s=some r→ ∀j,qL 1 (K+j) (n:Int) s=some r:=by
  intro K
  induction K with
  |zero=>intro n s r _ h;simp[qL]at h
  |succ K ih=>
   intro n s r hn h j
   rw[show K+1+j=(K+j)+1 by omega]
   unfold qL at h⊢
   obtain⟨b,e,h⟩:=bnd h
   rw[e,Option.bind_some]
   by_cases hb:b=true
   ·rw[if_pos hb]at h⊢
    obtain⟨x,e1,h⟩:=bnd h
    obtain⟨y,e2,h⟩:=bnd h
    rw[e1,Option.bind_some,e2,Option.bind_some]
    have e4:((n:Int)).tdiv 10=((n/10:Nat):Int):=by rw[Int.tdiv_eq_ediv_of_nonneg (by omega)];omega
    rw[e4,zJ (by omega) (by omega)]at h⊢
    exact ih _ _ _ (by omega) h j
   ·rw[if_neg hb]at h⊢
    exact h
 have h:=qen 9 n [] hn (by simp) (.inl h0) hn
 have h2:=mono _ _ _ _ hn h (K-9)
 rw[show 9+1+(K-9)=K+1 by omega]at h2
 rw[h2,Option.bind_some,if_neg (by omega),List.append_nil]
theorem qhU {N n:Nat} (hN:100<N) (hn:n<10^9):vI N (n:Int)=some (Lib.itoa (n:Int)):=by
 have ei:Lib.itoa (n:Int)=Lib.decDigits n:=by unfold Lib.itoa;rw[if_neg (by omega)];simp
 obtain⟨K,rfl⟩: ∃K,N=K+2:=⟨N-2,by omega⟩
 unfold vI yU qag
 by_cases h0:n=0
 ·subst h0
  have e1:zh (K+2) [] ((0:Nat):Int)=some []:=by unfold zh;rw[if_neg (by simp)]
  have e2:zO (K+2) []=some []:=by unfold zO;simp
  rw[e1,Option.bind_some]
  simp only[yu,xR,e2,Option.bind_some,show decide (((0:Nat):Int)<0)=false by decide,Bool.false_eq_true,if_false]
  simp only[xK,List.length_nil,Option.bind_some]
  rw[if_pos (by simp),Option.bind_some,Option.bind_some,ei]
  rw[Lib.decDigits,dif_pos (by decide)]
  rfl
 ·have t1:((n:Int)).tmod 1000000000=(n:Int):=by rw[Int.tmod_eq_emod_of_nonneg (by omega)];omega
  have t2:((n:Int)).tdiv 1000000000=((0:Nat):Int):=by rw[Int.tdiv_eq_ediv_of_nonneg (by omega)];omega
  have e0:zh (K+1) [(n:Int)] ((0:Nat):Int)=some [(n:Int)]:=by unfold zh;rw[if_neg (by simp)]
  have e1:zh (K+2) [] (n:Int)=some [(n:Int)]:=by
   unfold zh
   rw[if_pos (by simp;omega),t1,if_neg (by omega),Option.bind_some,yB (by simp) (by simp),Option.bind_some,t2,zJ (by omega) (by omega)]
   exact e0
  have e2:zO (K+2) [(n:Int)]=some [(n:Int)]:=by
   unfold zO
   have:w64 ((([(n:Int)].length:Nat):Int)-1)=((0:Nat):Int):=qdR (k:=1) (by omega) (by omega)
   rw[if_pos (by simp),this,qJ]
   simp only[List.getElem?_cons_zero,Option.bind_some]
   rw[decide_eq_false (by omega),if_neg (by decide)]
  rw[e1,Option.bind_some]
  simp only[yu,xR,e2,Option.bind_some]
  rw[decide_eq_false (by omega),if_neg (by decide)]
  simp only[Option.bind_some,xK]
  have l1:w64 ((([(n:Int)].length:Nat):Int)-1)=((0:Nat):Int):=qdR (k:=1) (by omega) (by omega)
  have l2:w64 ((([(n:Int)].length:Nat):Int)-2)= -1:=by
   rw[zJ (by simp) (by simp)];simp
  rw[if_neg (by simp),l1,qJ]
  simp only[List.getElem?_cons_zero,Option.bind_some]
  rw[qhh (by omega) (by omega) hn,Option.bind_some,l2]
  have e3:jJ (K+2) ⟨false,[(n:Int)]⟩ (K+2) (Lib.decDigits n) (-1)=some (Lib.decDigits n):=by unfold jJ;rw[if_neg (by omega)]
  rw[e3,Option.bind_some,if_neg (by decide),Option.bind_some,ei]
  rfl
def qdo (x:Nat) (s:Str):Nat:=s.foldl (fun x c=>(31*x+c.toNat)%9999991) x
theorem qcQ (x:Nat) (c:UInt8) (s:Str):qdo x (c::s)=qdo ((31*x+c.toNat)%9999991) s:=rfl
theorem qdt: ∀(s:Str) {x:Nat},x<9999991→qdo x s<9999991
 |[],x,h=>h
 |c::s,x,h=>by rw[qcQ];exact qdt s (Nat.mod_lt _ (by decide))
theorem qf1 {x:Nat} (hx:x<9999991) (c:UInt8):((w64 ((w64 (31*(x:Int)))+(w64 (c.toNat:Int)))).tmod 9999991)=(((31*x+c.toNat)%9999991:Nat):Int):=by
 have hc:c.toNat<256:=c.toNat_lt
 rw[zJ (n:=31*(x:Int)) (by omega) (by omega),zJ (n:=(c.toNat:Int)) (by omega) (by omega),zJ (by omega) (by omega),Int.tmod_eq_emod_of_nonneg (by omega)]
 omega
theorem qiI (s:Str) (hs:s.length<100000): ∀(K i x:Nat),x<9999991→i≤s.length→s.length<K+i→je s K (x:Int) (i:Int)=some ((qdo x (s.drop i):Nat):Int)
 |0,i,x,_,h1,h2=>by omega
 |K+1,i,x,hx,h1,h2=>by
  unfold je
  by_cases hi:i<s.length
  ·rw[if_pos (by omega),qJ,List.getElem?_eq_getElem hi,Option.bind_some,qf1 hx,qI (by omega),qiI s hs K (i+1) _ (Nat.mod_lt _ (by decide)) (by omega) (by omega),List.drop_eq_getElem_cons hi,qcQ]
  ·rw[if_neg (by omega),List.drop_eq_nil_of_le (by omega)]
   rfl
theorem qht (s:Str) (hs:s.length<100000): ∀(K i x:Nat),x<9999991→i≤s.length→s.length<K+i→jG s K (x:Int) (i:Int)=some ((qdo x (s.drop i):Nat):Int)
 |0,i,x,_,h1,h2=>by omega
 |K+1,i,x,hx,h1,h2=>by
  unfold jG
  by_cases hi:i<s.length
  ·rw[if_pos (by omega),qJ,List.getElem?_eq_getElem hi,Option.bind_some,qf1 hx,qI (by omega),qht s hs K (i+1) _ (Nat.mod_lt _ (by decide)) (by omega) (by omega),List.drop_eq_getElem_cons hi,qcQ]
  ·rw[if_neg (by omega),List.drop_eq_nil_of_le (by omega)]
   rfl
theorem qci: ∀(k n:Nat),n<10^(k+1)→(Lib.decDigits n).length≤k+1
 |0,n,h=>by rw[Lib.decDigits,dif_pos (by simpa using h)];simp
 |k+1,n,h=>by
  rw[Lib.decDigits]
  split
  ·simp
  ·have:=qci k (n/10) (by rw[Nat.pow_succ]at h;omega)
   simp only[List.length_append,List.length_cons,List.length_nil]
   omega
theorem qcg (n:Nat):Lib.itoa (n:Int)=Lib.decDigits n:=by unfold Lib.itoa;rw[if_neg (by omega)];simp
def qcI (s:Str):Str:=List.replicate (7-(Lib.decDigits (qdo 7 s)).length) 48++Lib.decDigits (qdo 7 s)
theorem qhL: ∀n:Nat,Lib.repeatL [(48:UInt8)] n=List.replicate n 48
 |0=>rfl
 |n+1=>by
  show 48::Lib.repeatL [48] n=_
  rw[qhL n];rfl
theorem qi0 {N:Nat} {s:Str} (hs:s.length<100000) (hN:s.length<N):yO N s=some (qcI s):=by
 unfold yO
 have h0:=qiI s hs N 0 7 (by decide) (by omega) (by omega)
 have hx:=qdt s (x:=7) (by decide)
 have hl:=qci 6 (qdo 7 s) (by omega)
 rw[show je s N 7 0=_ from h0,List.drop_zero,Option.bind_some]
 unfold qbQ
 rw[if_pos (by omega),qcg,Option.bind_some]
 have e:w64 (7-((Lib.decDigits (qdo 7 s)).length:Int))=((7-(Lib.decDigits (qdo 7 s)).length:Nat):Int):=by rw[zJ (by omega) (by omega)];omega
 rw[e]
 unfold qdx
 rw[if_pos (by simp;omega),Option.bind_some,Int.toNat_natCast,qhL]
 unfold cat qcI
 rw[if_pos (by simp;omega)]
 rfl
theorem qhS: ∀(K:Nat) (t:Str),t.length≤7→7<K+t.length→jY K t=some (List.replicate (7-t.length) 48++t)
 |0,t,h1,h2=>by omega
 |K+1,t,h1,h2=>by
  unfold jY
  by_cases h:t.length<7
  ·rw[if_pos (by omega)]
   unfold cat
   rw[if_pos (by simp;omega),Option.bind_some,qhS K _ (by simp;omega) (by simp;omega)]
   have e:7-t.length=(7-([48]++t:Str).length)+1:=by simp;omega
   rw[e,List.replicate_succ',List.append_assoc]
  ·rw[if_neg (by omega),show 7-t.length=0 by omega]
   rfl
theorem qhZ {N:Nat} {s:Str} (hs:s.length<100000) (hN:s.length<N) (h1:100<N):xE N s=some (qcI s):=by
 unfold xE
 have h0:=qht s hs N 0 7 (by decide) (by omega) (by omega)
 have hx:=qdt s (x:=7) (by decide)
 have hl:=qci 6 (qdo 7 s) (by omega)
 rw[show jG s N 7 0=_ from h0,List.drop_zero,Option.bind_some,qhU h1 (by omega),qcg,Option.bind_some,qhS N _ hl (by omega)]
 rfl
theorem qd7 (s:Str):(qcI s).length=7:=by
 have hx:=qdt s (x:=7) (by decide)
 have hl:=qci 6 (qdo 7 s) (by omega)
 unfold qcI
 simp;omega
def jL (s:Str):Str×Str:=match qaM s with
 |some k=>(s.take k,s.drop (k+1))
 |none=>(s,[])
theorem qld {s:Str} (hs:s.length<100000): ∃b,strings_Cut s [32]=some ((jL s).1,(jL s).2,b):=by
 have hi:=qgs (s:=s)
 unfold strings_Index at hi
 have hi2:stringslite_Index s [32]=some (qck 32 s 0):=by
  cases h:stringslite_Index s [32]with
  |none=>rw[h]at hi;cases hi
  |some r=>rw[h]at hi;exact hi
 unfold strings_Cut stringslite_Cut jL
 rw[hi2,Option.bind_some,qcW]
 cases hp:qaM s with
 |none=>exact⟨false,by simp⟩
 |some k=>
  have hk:=(qaA hp).1
  simp only[Nat.zero_add]
  refine⟨true,?_⟩
  have e:w64 ((k:Int)+(([32]:Str).length:Int))=((k+1:Nat):Int):=qI (by omega)
  rw[if_pos (by omega),qaD (by omega),Option.bind_some,e,vM (by omega)]
  rfl
theorem qgM (s:Str): ∃tl,spl [] s=(jL s).1::tl∧(qaM s=none→tl=[]∧(jL s).2=[])∧(∀k,qaM s=some k→tl=spl [] (jL s).2∧(jL s).1.length=k∧k<s.length):=by
 unfold jL
 cases hp:qaM s with
 |none=>
  have h:=(qbD hp).2 []
  exact⟨[],by rw[h];rfl,fun _=>⟨rfl,rfl⟩,fun k h=>by cases h⟩
 |some k=>
  obtain⟨h1,_,h2⟩:=qaA hp
  refine⟨spl [] (s.drop (k+1)),by rw[h2 []];rfl,(fun h=>by cases h),(fun j h=>by
   injection h with h
   subst h
   exact⟨rfl,by simp;omega,h1⟩)⟩
theorem qi1 (s:Str) (hs:s.length<100000): ∀(K i:Nat),i≤s.length→s.length<K+i→z8 s K (i:Int)=some (if(s.drop i).all ji=true then .inl ()else .inr (ev0,25))
 |0,i,h1,h2=>by omega
 |K+1,i,h1,h2=>by
  unfold z8
  by_cases hi:i<s.length
  ·have ha:(s.drop i).all ji=(ji s[i]&&(s.drop (i+1)).all ji):=by rw[List.drop_eq_getElem_cons hi,List.all_cons]
   rw[if_pos (by omega),qJ,List.getElem?_eq_getElem hi]
   simp only[Option.bind_some]
   have hd:ji s[i]=(decide (48≤s[i].toNat)&&decide (s[i].toNat≤57)):=rfl
   by_cases h1:s[i].toNat<48
   ·have h0: ¬((s.drop i).all ji=true):=by rw[ha,hd,decide_eq_false (by omega)];simp
    rw[if_pos (by omega),Option.bind_some,if_pos rfl,if_neg h0]
    rfl
   ·rw[if_neg (by omega),Option.bind_some]
    by_cases h3:s[i].toNat≤57
    ·have h0:(s.drop i).all ji=(s.drop (i+1)).all ji:=by rw[ha,hd,decide_eq_true (by omega),decide_eq_true (by omega)];simp
     rw[decide_eq_false (by omega),if_neg (by decide),qI (by omega),qi1 s hs K (i+1) (by omega) (by omega)]
     simp only[h0]
    ·have h0: ¬((s.drop i).all ji=true):=by rw[ha,hd,decide_eq_false (p:=s[i].toNat≤57) (by omega)];simp
     rw[decide_eq_true (by omega),if_pos rfl,if_neg h0]
     rfl
  ·rw[if_neg (by omega),List.drop_eq_nil_of_le (by omega)]
   rfl
def qcP (n:Int) (e:qb):qb:=⟨n,e.Kind,e.Names,e.Values,e.Text⟩
theorem qjE (s:Str):(spl [] s).length≤s.length+1:=by rw[qa3];have:=qch s;omega
theorem qc9 {N:Nat} (hN:2000<N) {s:Str} (hs:s.length≤1600) (n:Int):qdX N (qcP n (xz s).1):=by
 have hl:=qjE s
 unfold xz qaG
 split
 ·refine⟨?_,?_,fun w hw=>?_⟩
  ·simp only[qcP,List.length_take,List.length_drop];omega
  ·simp only[qcP,List.length_map,List.length_drop];omega
  ·have:=qbz [] s w (List.mem_of_mem_drop (List.mem_of_mem_take hw))
   simp at this;omega
 ·refine⟨by simp[qcP,ev0];omega,by simp[qcP,ev0];omega,fun w hw=>by simp[qcP,ev0]at hw⟩
def xQ (b:Str):qb×Bool:=
 (qcP (vR (jL b).1).1 (xz (jL b).2).1,(vR (jL b).1).2&&((xz (jL b).2).2&&decide (jZ (qcP (vR (jL b).1).1 (xz (jL b).2).1)=0)))
theorem qe4:(xz []).2=false:=by decide
theorem qhF (s:Str):(jL s).1.length≤s.length∧(jL s).2.length≤s.length:=by
 unfold jL
 split<;>simp<;>omega
theorem qf3 {N:Nat} (hN:2000<N) (hM:N<4611686018427387904) {s:Str} (hs:s.length≤1600):vo N s=some (xQ s):=by
 obtain⟨b,hc⟩:=qld (s:=s) (by omega)
 have hl:=qhF s
 unfold vo xQ
 rw[hc,Option.bind_some]
 simp only
 rw[qeq (by omega),Option.bind_some,qgz (by omega) hN,Option.bind_some]
 by_cases h1:(vR (jL s).1).2=true
 ·rw[if_pos h1,h1]
  by_cases h2:(xz (jL s).2).2=true
  ·have:=qbR hM (by omega) (qc9 hN (s:=(jL s).2) (by omega) (vR (jL s).1).1)
   unfold qcP at this⊢
   rw[if_pos h2,this,h2]
   simp
  ·rw[if_neg h2,Bool.eq_false_iff.2 h2]
   simp[qcP]
 ·rw[if_neg h1,Bool.eq_false_iff.2 h1]
  simp[qcP]
def jy (s:Str):qb×Int:=
 if 8≤s.length∧s[s.length-8]? =some 59∧(s.drop (s.length-7)).all ji=true then
  if s.drop (s.length-7)=qcI (s.take (s.length-8))then
   if(xQ (s.take (s.length-8))).2=true then((xQ (s.take (s.length-8))).1,0)else(ev0,25)
  else(ev0,27)
 else(ev0,25)
theorem qfr {c:UInt8}:((c.toNat:Int)=59)↔c=59:=⟨fun h=>UInt8.toNat_inj.1 (show c.toNat=59 by omega),fun h=>by subst h;rfl⟩
theorem qkv {N:Nat} (hN:2000<N) (hM:N<4611686018427387904) {s:Str} (hs:s.length≤1600) (n:Int):
 ∃e b,ko N s n=some (e,b)∧((jy s).2≠0→b=(jy s).2)∧((jy s).2=0→e=(jy s).1∧b=if e.Number=n then 0 else 11):=by
 unfold ko
 have hno: ¬(8≤s.length∧s[s.length-8]? =some 59∧(s.drop (s.length-7)).all ji=true)→jy s=(ev0,25):=fun h=>by unfold jy;rw[if_neg h]
 by_cases h8:8≤s.length
 ·have e1:w64 ((s.length:Int)-7)=((s.length-7:Nat):Int):=by rw[zJ (by omega) (by omega)];omega
  have e2:w64 (((s.length-7:Nat):Int)-1)=((s.length-8:Nat):Int):=by rw[qdR (by omega) (by omega)];congr 1
  have hi:s.length-8<s.length:=by omega
  simp only[e1,e2]
  rw[if_neg (by omega),qJ,List.getElem?_eq_getElem hi,Option.bind_some]
  by_cases hc:s[s.length-8]=59
  ·rw[if_neg (by simp[qfr,hc]),vM (by omega),Option.bind_some,qda (by simp;omega),decide_eq_true (by simp;omega),Bool.true_and,Option.bind_some]
   simp only[Option.bind_some]
   by_cases hd:(s.drop (s.length-7)).all ji=true
   ·have hyes:jy s=if s.drop (s.length-7)=qcI (s.take (s.length-8))then
     if(xQ (s.take (s.length-8))).2=true then((xQ (s.take (s.length-8))).1,0)else(ev0,25)
     else(ev0,27):=by
     unfold jy
     rw[if_pos ⟨h8,by rw[List.getElem?_eq_getElem hi,hc],hd⟩]
    rw[hd,if_neg (by decide),e2,qaD (by omega),Option.bind_some,vM (by omega),Option.bind_some,qi0 (by simp;omega) (by simp;omega),Option.bind_some]
    by_cases ht:s.drop (s.length-7)=qcI (s.take (s.length-8))
    ·rw[if_pos ht]at hyes
     rw[if_neg (by simp[ht]),qf3 hN hM (by simp;omega),Option.bind_some,qbG,Option.bind_some,qbG,Option.bind_some,qel (by simp) (by simp;omega),Option.bind_some,hyes]
     refine⟨_,_,rfl,?_⟩
     by_cases hb:(xQ (s.take (s.length-8))).2=true
     ·rw[if_pos hb]
      refine⟨fun h=>absurd rfl h,fun _=>⟨rfl,?_⟩⟩
      by_cases hn:(xQ (s.take (s.length-8))).1.Number=n
      ·simp[zD,hb,hn]
      ·simp[zD,hb,hn]
     ·rw[if_neg hb]
      refine⟨fun _=>?_,fun h=>absurd h (by decide)⟩
      simp[zD,hb]
    ·rw[if_neg ht]at hyes
     rw[if_pos (by simp[ht]),hyes]
     exact⟨_,_,rfl,fun _=>rfl,fun h=>absurd h (by decide)⟩
   ·rw[Bool.eq_false_iff.2 hd,if_pos (by decide),hno (fun h=>hd h.2.2)]
    exact⟨_,_,rfl,fun _=>rfl,fun h=>absurd h (by decide)⟩
  ·rw[if_pos (by simp[qfr,hc])]
   simp only[Option.bind_some,if_true]
   rw[hno (fun h=>hc (by have:=h.2.1;rw[List.getElem?_eq_getElem hi]at this;exact Option.some.inj this))]
   exact⟨_,_,rfl,fun _=>rfl,fun h=>absurd h (by decide)⟩
 ·rw[hno (fun h=>h8 h.1)]
  have e1:w64 ((s.length:Int)-7)<1:=by rw[zJ (by omega) (by omega)];omega
  rw[if_pos e1]
  simp only[Option.bind_some,if_true]
  exact⟨_,_,rfl,fun _=>rfl,fun h=>absurd h (by decide)⟩
end Go.Av
