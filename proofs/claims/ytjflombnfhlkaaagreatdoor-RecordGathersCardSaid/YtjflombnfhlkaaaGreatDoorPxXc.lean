/-
  Chapter 10: names and events.
-/
import Derived.Test.YtjflombnfhlkaaaGreatDoorAvPl
import Derived.Test.YtjflombnfhlkaaaGreatDoorQGenXb
noncomputable section
namespace Go.Av
set_option linter.unusedSimpArgs false
set_option linter.unusedVariables false
theorem qiX {s:Str} {k:Nat} {c:UInt8} (h:s[k]? =some c):((⟨s.toArray⟩:ByteArray).get! k)=c:=by
 have hk:=(List.getElem?_eq_some_iff.1 h).1
 show s.toArray[k]! =c
 rw[getElem!_def]
 simp[h]
theorem qkB {s:Str} {k:Nat} {c:UInt8} (h:s[k]? =some c) (hc:c.toNat<128):yn s k=c.toNat∧runeLen s k=1:=by
 have e:=qiX h
 unfold yn runeLen Utf8.decode
 simp only[Nat.add_zero,e,if_pos hc,and_self]
theorem qlC {s:Str} {k:Nat} {c:UInt8} (h:s[k]? =some c) (hc:128≤c.toNat):128≤yn s k:=by
 have e:=qiX h
 unfold yn Utf8.decode
 simp only[Nat.add_zero,e,if_neg (Nat.not_lt.2 hc)]
 have hr:(128:Nat)≤Utf8.runeError:=by decide
 repeat' split
 all_goals first|(simp only[Bool.and_eq_true,decide_eq_true_eq]at*;omega)|(simp;omega)|omega
def qih (c:Int):Bool:=(decide (97≤c)&&decide (c≤122))||(decide (65≤c)&&decide (c≤90))
theorem qfR (c:Int):yB c=some (qih c):=by
 unfold yB qih
 by_cases h1:c≥97<;>by_cases h2:c≤122<;>by_cases h3:c≥65<;>by_cases h4:c≤90<;>simp[h1,h2,h3,h4]<;>omega
def qj7 (k:Nat) (c:Int):Bool:=!qih c&&(decide (k=0)||(!decide (c=95)&&(decide (c<48)||decide (c>57))))
def xI (s:Str):Bool:=decide (1≤s.length)&&decide (s.length≤24)&&!((List.range s.length).any fun k=>qj7 k (s.getD k 0).toNat)
theorem qnZ {k:Nat} {c:Int} (h:128≤c):qj7 k c=true:=by
 unfold qj7 qih
 simp
 omega
def qaN (s:Str) (k:Nat):Bool:=(List.range (s.length-k)).any fun j=>qj7 (k+j) (s.getD (k+j) 0).toNat
theorem qe0 {s:Str} {k:Nat} {c:UInt8} (h:s[k]? =some c):qaN s k=(qj7 k c.toNat||qaN s (k+1)):=by
 have hk:=(List.getElem?_eq_some_iff.1 h).1
 unfold qaN
 rw[show s.length-k=(s.length-(k+1))+1 by omega,List.range_succ_eq_map,List.any_cons,List.any_map]
 congr 1
 ·simp[List.getD,h]
 ·congr 1
  funext j
  simp only[Function.comp,Nat.succ_eq_add_one]
  rw[show k+(j+1)=k+1+j by omega]
theorem qfO {s:Str} {k:Nat} (h:s.length≤k):qaN s k=false:=by
 unfold qaN
 rw[show s.length-k=0 by omega]
 rfl
theorem qhB (s:Str): ∀(K k:Nat),k≤s.length→s.length<K+k→vv s K k=some (if qaN s k then .inr false else .inl ())
 |0,k,h,hK=>by omega
 |K+1,k,h,hK=>by
  unfold vv
  by_cases hk:k<s.length
  ·have hc:s[k]? =some s[k]:=List.getElem?_eq_getElem hk
   rw[if_pos hk,qfR,qe0 hc]
   by_cases ha:(s[k]).toNat<128
   ·obtain⟨e1,e2⟩:=qkB hc ha
    rw[e1,e2,qhB s K (k+1) (by omega) (by omega)]
    have ek:((k:Int)=0)↔k=0:=by omega
    unfold qj7
    generalize ((s[k]).toNat:Int)=c
    cases hl:qih c<;>by_cases h0:k=0<;>by_cases h1:c=95<;>by_cases h2:c<48<;>by_cases h3:57<c<;>
     simp[hl,h0,h1,h2,h3]
   ·have hw:=qlC hc (by omega)
    rw[qnZ (show(128:Int)≤((s[k]).toNat:Int)by omega)]
    have hl:qih (yn s k)=false:=by unfold qih;simp;omega
    have h1: ¬yn s k=95:=by omega
    have h2: ¬yn s k<48:=by omega
    have h3:yn s k>57:=by omega
    have ek:((k:Int)=0)↔k=0:=by omega
    simp only[hl,Option.bind_some,Bool.not_false,if_true,h1,h2,h3,decide_true,decide_false,if_false,Bool.true_or,ek]
    by_cases h0:k=0
    ·simp only[h0,if_true,Option.bind_some]
    ·simp only[h0,if_false,Option.bind_some,if_true]
  ·rw[if_neg hk,qfO (by omega)]
   rfl
theorem qjj (s:Str):xI s=(decide (1≤s.length)&&decide (s.length≤24)&&!qaN s 0):=by
 unfold xI qaN
 simp
theorem ql2 {N:Nat} {s:Str} (h:s.length<N):qag N s=some (xI s):=by
 unfold qag
 rw[qhB s N 0 (Nat.zero_le _) (by omega),qjj]
 cases hb:qaN s 0
 ·cases s with
  |nil=>simp
  |cons x xs=>
   have e:((x::xs)==([]:Str))=false:=rfl
   simp only[Option.bind_some,Bool.false_eq_true,if_false,e,Bool.not_false,if_true,Bool.and_true,Option.some.injEq]
   have:(1≤(x::xs).length):=by simp
   rw[Bool.eq_iff_iff]
   simp only[decide_eq_true_eq,Bool.and_eq_true,this,true_and]
   omega
 ·simp
theorem qgp (s:Str) (hs:s.length<4611686018427387904): ∀(K k:Nat),k≤s.length→s.length<K+k→vR s K (k:Int)=some (if qaN s k then .inr false else .inl ())
 |0,k,h,hK=>by omega
 |K+1,k,h,hK=>by
  unfold vR
  by_cases hk:k<s.length
  ·have hc:s[k]? =some s[k]:=List.getElem?_eq_getElem hk
   rw[if_pos (by omega),qJ,hc,qe0 hc,kg (by omega),qgp s hs K (k+1) (by omega) (by omega)]
   simp only[Option.bind_some]
   have ek:((k:Int)=0)↔k=0:=by omega
   unfold qj7
   generalize ((s[k]).toNat:Int)=c
   rw[show(if c≥97 then if c≤122 then some true else if c≥65 then some (decide (c≤90))else some false else if c≥65 then some (decide (c≤90))else some false:Option Bool)=some (qih c)from by
    have:=qfR c
    unfold yB at this
    rw[←this]
    cases(if c≥97 then if c≤122 then some true else if c≥65 then some (decide (c≤90))else some false else if c≥65 then some (decide (c≤90))else some false:Option Bool)<;>rfl]
   simp only[Option.bind_some,ek]
   cases qih c
   ·by_cases h5:k=0
    ·simp[h5]
    ·by_cases h6:c≥48
     ·by_cases h7:c≤57
      ·have a1: ¬c<48:=by omega
       have a2: ¬c>57:=by omega
       simp[h5,h6,h7,a1,a2]
      ·have a1: ¬c<48:=by omega
       have a2:c>57:=by omega
       by_cases h8:c=95<;>simp[h5,h6,h7,h8,a1,a2]
     ·have a1:c<48:=by omega
      by_cases h8:c=95<;>simp[h5,h6,h8,a1]
   ·simp
  ·rw[if_neg (by omega),qfO (by omega)]
   rfl
theorem qgQ {N:Nat} {s:Str} (h:s.length<N) (hs:s.length<4611686018427387904):yY N s=some (xI s):=by
 unfold yY
 rw[show(0:Int)=((0:Nat):Int)from rfl,qgp s hs N 0 (Nat.zero_le _) (by omega),qjj]
 by_cases h1:s.length<1
 ·rw[if_pos (by omega)]
  simp[show¬1≤s.length by omega]
 ·by_cases h2:s.length>24
  ·rw[if_neg (by omega)]
   simp only[Option.bind_some,show((s.length:Int)>24)by omega,decide_true,if_true,show¬s.length≤24 by omega,decide_false,Bool.and_false,Bool.false_and]
  ·rw[if_neg (by omega)]
   simp only[Option.bind_some,show¬((s.length:Int)>24)by omega,decide_false,Bool.false_eq_true,if_false,show 1≤s.length by omega,show s.length≤24 by omega,decide_true,Bool.true_and]
   cases hb:qaN s 0<;>rfl
def qV:List Int→Int
 |[]=>0
 |x::xs=>if x=0 then qV xs else x
theorem qiR (l:List Int) (hl:l.length<4611686018427387904): ∀(K k:Nat),k≤l.length→l.length<K+k→vN l K (k:Int)=some (if qV (l.drop k)=0 then .inl ()else .inr (qV (l.drop k)))
 |0,k,h,hK=>by omega
 |K+1,k,h,hK=>by
  unfold vN
  by_cases hk:k<l.length
  ·rw[if_pos (by omega),qJ,List.getElem?_eq_getElem hk,List.drop_eq_getElem_cons hk,kg (by omega),qiR l hl K (k+1) (by omega) (by omega)]
   simp only[Option.bind_some,qV]
   by_cases h0:l[k]=0
   ·simp[h0]
   ·simp[h0]
  ·rw[if_neg (by omega),List.drop_of_length_le (by omega)]
   rfl
theorem vY {N:Nat} {l:List Int} (hl:l.length<4611686018427387904) (h:l.length<N):qC N l=some (qV l):=by
 unfold qC
 rw[show(0:Int)=((0:Nat):Int)from rfl,qiR l hl N 0 (Nat.zero_le _) (by omega),List.drop_zero]
 by_cases h0:qV l=0
 ·simp[h0]
 ·simp[h0]
theorem xC (b:Bool) (e:Int):qE b e=some (if b=true then e else 0):=by
 unfold qE;split<;>rfl
def vQ (n lo hi:Int):Bool:=decide (n<lo)||decide (n>hi)
theorem qaX (n lo hi:Int):zF n lo hi=some (if vQ n lo hi=true then 3 else 0):=by
 unfold zF vQ
 simp only[xC]
 by_cases h:n<lo<;>simp[h]
theorem qcu (n lo hi:Int):zS n lo hi=some (vQ n lo hi):=by
 unfold zS vQ
 by_cases h:n<lo<;>simp[h]
theorem qg3 {N:Nat} {s:Str} (h:s.length<N):yE N s=some (if xI s=true then 0 else 8):=by
 unfold yE
 simp only[ql2 h,xC,Option.bind_some]
 cases xI s<;>rfl
def xR:Str:=[109,97,107,101]
def qaC:Str:=[116,101,115,116]
def qb9:Str:=[117,115,101]
def xZ:Str:=[102,97,105,108]
def jw:Str:=[114,101,99,97,108,108]
def qaj:Str:=[117,110,100,111]
def j6 (k:Str):Int×Int×Bool:=
 if(k==xR)=true then(2,3,true)else if(k==qaC)=true then(1,2,true)else if(k==qb9)=true then(1,2,true)else if(k==xZ)=true then(1,1,true)
 else if(k==jw)=true then(1,1,true)else if(k==qaj)=true then(0,0,true)else(0,0,false)
theorem qov (k:Str):qa1 k=some (j6 k):=by
 unfold qa1 j6 xR qaC qb9 xZ jw qaj
 by_cases h1:(k==[109,97,107,101])=true
 ·simp only[h1,if_true]
 ·by_cases h2:(k==[116,101,115,116])=true
  ·simp only[h1,h2,if_false,if_true,Option.bind_some];rfl
  ·by_cases h3:(k==[117,115,101])=true
   ·simp only[h1,h2,h3,if_false,if_true,Option.bind_some];rfl
   ·by_cases h4:(k==[102,97,105,108])=true
    ·simp only[h1,h2,h3,h4,if_false,if_true,Option.bind_some];rfl
    ·by_cases h5:(k==[114,101,99,97,108,108])=true
     ·simp only[h1,h2,h3,h4,h5,if_false,if_true,Option.bind_some];rfl
     ·simp only[h1,h2,h3,h4,h5,if_false,Option.bind_some,Bool.false_eq_true]
      split<;>rfl
def qb6 (e:qg):Int:=
 if vQ e.Number 1 1000=true then 3
 else if(j6 e.Kind).2.2=false then 13
 else if¬((e.Names.length:Int)=(j6 e.Kind).1∧(e.Values.length:Int)=(j6 e.Kind).2.1)then 2
 else if e.Names.all xI=false then 8
 else if e.Values.all (fun v=>!vQ v 0 999999999)=false then 3
 else if e.Text=[]then 0 else 1
theorem qoO {N:Nat} (e:qg) (hl:e.Names.length<4611686018427387904) (hs: ∀s∈e.Names,s.length<N): ∀(K k:Nat),k≤e.Names.length→e.Names.length<K+k→je N e K (k:Int)=some (if(e.Names.drop k).all xI=true then .inl ()else .inr 8)
 |0,k,h,hK=>by omega
 |K+1,k,h,hK=>by
  unfold je
  by_cases hk:k<e.Names.length
  ·rw[if_pos (by omega),qJ,List.getElem?_eq_getElem hk,List.drop_eq_getElem_cons hk,kg (by omega),qoO e hl hs K (k+1) (by omega) (by omega)]
   simp only[Option.bind_some,qg3 (hs _ (List.getElem_mem hk)),List.all_cons]
   by_cases hq:xI e.Names[k]=true<;>simp[hq]
  ·rw[if_neg (by omega),List.drop_of_length_le (by omega)]
   rfl
theorem qoM (e:qg) (hl:e.Values.length<4611686018427387904): ∀(K k:Nat),k≤e.Values.length→e.Values.length<K+k→ja e K (k:Int)=some (if(e.Values.drop k).all (fun v=>!vQ v 0 999999999)=true then .inl ()else .inr 3)
 |0,k,h,hK=>by omega
 |K+1,k,h,hK=>by
  unfold ja
  by_cases hk:k<e.Values.length
  ·rw[if_pos (by omega),qJ,List.getElem?_eq_getElem hk,List.drop_eq_getElem_cons hk,kg (by omega),qoM e hl K (k+1) (by omega) (by omega)]
   simp only[Option.bind_some,qaX,List.all_cons]
   by_cases hq:vQ e.Values[k] 0 999999999=true<;>simp[hq]
  ·rw[if_neg (by omega),List.drop_of_length_le (by omega)]
   rfl
structure qis (N:Nat) (e:qg):Prop where
 n:e.Names.length<N
 v:e.Values.length<N
 s: ∀s∈e.Names,s.length<N
theorem qhw {N:Nat} (hN:N<4611686018427387904) (h3:3<N) {e:qg} (h:qis N e):yF N e=some (qb6 e):=by
 obtain⟨hn,hv,hs⟩:=h
 unfold yF
 have hf:((zY).bind fun r1=>
  if(e.Kind==[109,97,107,101])=true then some (2,3,true)else if(e.Kind==[116,101,115,116])=true then some (1,2,true)else if(e.Kind==[117,115,101])=true then some (1,2,true)
  else if(e.Kind==[102,97,105,108])=true then some (1,1,true)else if(e.Kind==[114,101,99,97,108,108])=true then some (1,1,true)else if(e.Kind==[117,110,100,111])=true then some (0,0,true)
  else some (0,0,false):Option (Int×Int×Bool))=some (j6 e.Kind):=by
  simp only[zY,Option.bind_some,j6,xR,qaC,qb9,xZ,jw,qaj]
  by_cases h1:(e.Kind==[109,97,107,101])=true
  ·simp only[h1,if_true]
  by_cases h2:(e.Kind==[116,101,115,116])=true
  ·simp only[h1,h2,if_true,if_false,Bool.false_eq_true]
  by_cases h3:(e.Kind==[117,115,101])=true
  ·simp only[h1,h2,h3,if_true,if_false,Bool.false_eq_true]
  by_cases h4:(e.Kind==[102,97,105,108])=true
  ·simp only[h1,h2,h3,h4,if_true,if_false,Bool.false_eq_true]
  by_cases h5:(e.Kind==[114,101,99,97,108,108])=true
  ·simp only[h1,h2,h3,h4,h5,if_true,if_false,Bool.false_eq_true]
  by_cases h6:(e.Kind==[117,110,100,111])=true
  ·simp only[h1,h2,h3,h4,h5,h6,if_true,if_false,Bool.false_eq_true]
  simp only[h1,h2,h3,h4,h5,h6,if_true,if_false,Bool.false_eq_true]
 rw[hf]
 have e0:(0:Int)=((0:Nat):Int):=rfl
 simp only[Option.bind_some,qaX,xC,vY (N:=N) (l:=[_,_,_]) (by simp) (by simpa using h3)]
 rw[e0,qoO e (by omega) hs N 0 (by omega) (by omega),qoM e (by omega) N 0 (by omega) (by omega),List.drop_zero,List.drop_zero]
 unfold qb6
 generalize j6 e.Kind=f
 obtain⟨a,b,c⟩:=f
 by_cases h1:vQ e.Number 1 1000=true
 ·by_cases hx:(e.Names.length:Int)=a<;>simp[h1,qV,hx]
 ·cases c
  ·by_cases hx:(e.Names.length:Int)=a<;>simp[h1,qV,hx]
  ·by_cases hx:(e.Names.length:Int)=a
   ·by_cases hy:(e.Values.length:Int)=b
    ·cases hA:e.Names.all xI
     ·simp[h1,qV,hx,hy,hA]
     ·cases hB:e.Values.all (fun v=>!vQ v 0 999999999)
      ·simp[h1,qV,hx,hy,hA,hB]
      ·by_cases ht:e.Text=[]
       ·simp[h1,qV,hx,hy,hA,hB,ht]
       ·have:(e.Text==[])=false:=by cases hq:e.Text with|nil=>exact absurd hq ht|cons=>rfl
        simp[h1,qV,hx,hy,hA,hB,ht,this]
    ·simp[h1,qV,hx,hy]
   ·simp[h1,qV,hx]
def qco (s:qc) (d:Int):Bool:=s.Gone||(decide (d>s.Last)||decide (s.Used=s.Uses))
def qhe (s:qc) (d:Int):Bool:=decide (s.Limit>0)&&decide (d≤s.Until)
theorem qgt (s:qc) (d:Int):jL s d=some (qco s d):=by
 unfold jL qco
 by_cases h:s.Gone=true
 ·simp[h]
 ·by_cases h2:d>s.Last<;>simp[h,h2]
theorem qfH (s:qc) (d:Int):qa6 s d=some (qco s d):=by
 unfold qa6 qco
 by_cases h:s.Gone=true
 ·simp[h]
 ·by_cases h2:d>s.Last<;>simp[h,h2]
theorem qmA (s:qc) (d:Int):ym s d=some (qhe s d):=by
 unfold ym qhe
 by_cases h:s.Limit>0<;>simp[h]
theorem ql8 (s:qc) (d:Int):qbZ s d=some (qhe s d):=by
 unfold qbZ qhe
 by_cases h:s.Limit>0<;>simp[h]
def vS:List qc→Str→Nat
 |[],_=>0
 |s::l,n=>if ltL s.Name n=true then vS l n+1 else 0
def xG:List qc→Str→Bool
 |[],_=>false
 |s::l,n=>if ltL s.Name n=true then xG l n else s.Name==n
theorem qeS: ∀(l:List qc) (n:Str),vS l n≤l.length
 |[],_=>Nat.le_refl _
 |s::l,n=>by
  unfold vS
  split
  ·have:=qeS l n;simp only[List.length_cons];omega
  ·simp
theorem qdQ: ∀{l:List qc} {n:Str},xG l n=true→vS l n<l.length
 |[],_,h=>by simp[xG]at h
 |s::l,n,h=>by
  unfold xG at h
  unfold vS
  by_cases hc:ltL s.Name n=true
  ·rw[if_pos hc]at h⊢
   have:=qdQ h
   simp only[List.length_cons];omega
  ·rw[if_neg hc];simp
theorem qfc: ∀{l:List qc} {n:Str} {s:qc},l[vS l n]? =some s→xG l n=(s.Name==n)
 |[],_,_,h=>by simp at h
 |t::l,n,s,h=>by
  unfold vS at h
  unfold xG
  by_cases hc:ltL t.Name n=true
  ·rw[if_pos hc]at h⊢
   exact qfc (by simpa using h)
  ·rw[if_neg hc]at h⊢
   simp only[List.getElem?_cons_zero,Option.some.injEq]at h
   rw[h]
theorem qe9 (l:List qc) (hl:l.length<4611686018427387904) (n:Str): ∀(K k:Nat),k≤l.length→l.length<K+k→qX l n K (k:Int)=some (if vS (l.drop k) n<(l.drop k).length then .inr ((k+vS (l.drop k) n:Nat):Int)else .inl ())
 |0,k,h,hK=>by omega
 |K+1,k,h,hK=>by
  unfold qX
  by_cases hk:k<l.length
  ·rw[if_pos (by omega),qJ,List.getElem?_eq_getElem hk,List.drop_eq_getElem_cons hk,kg (by omega),qe9 l hl n K (k+1) (by omega) (by omega)]
   simp only[Option.bind_some,jS,vS,List.length_cons]
   by_cases hc:ltL (l[k]).Name n=true
   ·simp only[hc,Bool.not_true,Bool.false_eq_true,if_false,if_true,Nat.add_lt_add_iff_right]
    split
    ·rw[show k+1+vS (List.drop (k+1) l) n=k+(vS (List.drop (k+1) l) n+1)by omega]
    ·rfl
   ·simp[hc]
  ·rw[if_neg (by omega),List.drop_of_length_le (by omega)]
   rfl
theorem qkJ {N:Nat} {l:List qc} (hl:l.length<4611686018427387904) (hN:l.length<N) (d:Int) (n:Str):jN N ⟨d,l⟩ n=some ((vS l n:Int),xG l n):=by
 unfold jN jZ
 rw[show(0:Int)=((0:Nat):Int)from rfl,qe9 l hl n N 0 (by omega) (by omega),List.drop_zero]
 by_cases h:vS l n<l.length
 ·have hg:l[vS l n]? =some (l[vS l n]):=List.getElem?_eq_getElem h
  have h2: ¬((vS l n:Nat):Int)<0:=by omega
  simp only[h,if_true,Nat.zero_add,Option.bind_some]
  rw[if_neg (by omega),qJ,hg,Option.bind_some,qfc hg]
 ·have h0:xG l n=false:=by
   cases hq:xG l n with
   |false=>rfl
   |true=>exact absurd (qdQ hq) h
  have h1:vS l n=l.length:=by have:=qeS l n;omega
  simp[h,h0,h1]
def Asc (l:List qc):Prop:=l.Pairwise fun a b=>ltL a.Name b.Name=true
theorem Asc.find: ∀{l:List qc},Asc l→ ∀n:Str,l.findIdx? (fun s=>s.Name==n)=if xG l n=true then some (vS l n)else none
 |[],_,n=>by simp[xG]
 |s::l,h,n=>by
  have h1:=(List.pairwise_cons.1 h).1
  have h2:=Asc.find (List.pairwise_cons.1 h).2 n
  rw[List.findIdx?_cons]
  unfold xG vS
  by_cases hc:ltL s.Name n=true
  ·have:(s.Name==n)=false:=beq_eq_false_iff_ne.2 (qes hc)
   rw[if_pos hc,if_pos hc,this,h2]
   simp only[Bool.false_eq_true,if_false]
   split<;>rfl
  ·rw[if_neg hc,if_neg hc]
   by_cases he:(s.Name==n)=true
   ·simp[he]
   ·simp only[he,if_false,Bool.false_eq_true]
    have hgt:ltL n s.Name=true:=by
     cases hq:ltL n s.Name with
     |true=>rfl
     |false=>exact absurd (beq_iff_eq.2 (qbu _ _ (by simpa using hc) hq)) he
    have:l.findIdx? (fun s=>s.Name==n)=none:=by
     rw[List.findIdx?_eq_none_iff]
     intro x hx
     exact beq_eq_false_iff_ne.2 fun e=>qes (qa0 hgt (h1 x hx)) e.symm
    rw[this];rfl
theorem qoK (r:zw) (hl:r.Slings.length<4611686018427387904) (n:Str): ∀(K k:Nat),k≤r.Slings.length→r.Slings.length<K+k→qbW r n K (k:Int)=some (match(r.Slings.drop k).findIdx? (fun s=>s.Name==n)with|some j=> .inr ((k+j:Nat):Int)|none=> .inl ())
 |0,k,h,hK=>by omega
 |K+1,k,h,hK=>by
  unfold qbW
  by_cases hk:k<r.Slings.length
  ·rw[if_pos (by omega),qJ,List.getElem?_eq_getElem hk,List.drop_eq_getElem_cons hk,kg (by omega),qoK r hl n K (k+1) (by omega) (by omega),List.findIdx?_cons]
   simp only[Option.bind_some]
   by_cases he:((r.Slings[k]).Name==n)=true
   ·simp[he]
   ·simp only[he,if_false,Bool.false_eq_true]
    cases(r.Slings.drop (k+1)).findIdx? (fun s=>s.Name==n)with
    |none=>rfl
    |some j=>simp only[Option.map_some];rw[show k+1+j=k+(j+1)by omega]
  ·rw[if_neg (by omega),List.drop_of_length_le (by omega)]
   rfl
theorem qmK {N:Nat} {r:zw} (hl:r.Slings.length<4611686018427387904) (hN:r.Slings.length<N) (ha:Asc r.Slings) (n:Str):qg2 N r n=some (if xG r.Slings n=true then(vS r.Slings n:Int)else-1):=by
 unfold qg2
 rw[show(0:Int)=((0:Nat):Int)from rfl,qoK r hl n N 0 (by omega) (by omega),List.drop_zero,ha.find n]
 by_cases h:xG r.Slings n=true<;>simp[h]
theorem Asc.uniq {l:List qc} (h:Asc l) {i:Nat} {s:qc} {n:Str} (hi:l[i]? =some s) (hs:s.Name=n):xG l n=true∧vS l n=i:=by
 have hf:=h.find n
 have hlt:=(List.getElem?_eq_some_iff.1 hi).1
 cases hq:xG l n with
 |false=>
  rw[hq,if_neg (by simp),List.findIdx?_eq_none_iff]at hf
  have:=hf s (List.mem_of_getElem? hi)
  simp[hs]at this
 |true=>
  refine⟨rfl,?_⟩
  have hp:=qdQ hq
  have hg:l[vS l n]? =some (l[vS l n]):=List.getElem?_eq_getElem hp
  have hn:=qfc hg
  rw[hq]at hn
  have hn:(l[vS l n]).Name=n:=(beq_iff_eq.1 hn.symm)
  have he:l[i]=s:=by
   rw[List.getElem?_eq_getElem hlt]at hi
   injection hi
  rcases Nat.lt_trichotomy (vS l n) i with hlt2|e|hgt
  ·have:=List.pairwise_iff_getElem.1 h _ _ hp hlt hlt2
   rw[he,hn,hs]at this
   exact absurd rfl (qes this)
  ·exact e
  ·have:=List.pairwise_iff_getElem.1 h _ _ hlt hp hgt
   rw[he,hn,hs]at this
   exact absurd rfl (qes this)
def qhi (l:List qc) (s:qc):List qc:=l.take (vS l s.Name)++s::l.drop (vS l s.Name)
theorem qcl {d:Int} {l:List qc} (h:l.length≤1000):qy d l=some l:=by
 unfold qy
 have e:mk 88 (l.length:Int) (⟨[],[],0,0,0,0,0,0,false⟩:qc)=some (List.replicate l.length ⟨[],[],0,0,0,0,0,0,false⟩):=by
  unfold mk
  rw[if_pos ⟨by omega,by omega,by omega⟩,Int.toNat_natCast]
 rw[e,Option.bind_some,qju (by simp)]
 rfl
theorem qlG {l:List qc} (h:l.length≤1000) {p:Nat} (hp:p≤l.length) (a b:Str) (c d e f g i:Int) (j:Bool):jW l (p:Int) a b c d e f g i j=some (l.take p++⟨a,b,c,d,e,f,g,i,j⟩::l.drop p):=by
 unfold jW
 generalize hs:(⟨a,b,c,d,e,f,g,i,j⟩:qc)=s
 rw[qkA hp,Option.bind_some,if_neg (by decide)]
 by_cases he:p=l.length
 ·rw[if_pos (by omega),he,List.take_length,List.drop_length]
  cases l with
  |nil=>rfl
  |cons x xs=>
   simp only[List.length_cons]at h
   simp only[jQ (b:=88) (l:=x::xs) (xs:=[s]) (by simp;omega) (by simp;omega),Option.bind_some]
 ·rw[if_neg (by omega)]
  have w1:w64 ((l.length:Int)+1)=((l.length+1:Nat):Int):=kg (by omega)
  have w2:w64 (((l.length+1:Nat):Int)-(p:Int))=((l.length+1-p:Nat):Int):=by rw[qaq (by omega) (by omega)];omega
  have w3:w64 ((p:Int)+1)=((p+1:Nat):Int):=kg (by omega)
  rw[w1,if_pos (by omega),w2,w3]
  have e1:ql6 88 l p ((l.length+1-p:Nat):Int) (⟨[],[],0,0,0,0,0,0,false⟩:qc)=some (l.take p++List.replicate (l.length+1-p) ⟨[],[],0,0,0,0,0,0,false⟩):=by
   unfold ql6
   rw[if_pos ⟨by omega,by omega,by omega,by omega,hp,by simp only[Int.toNat_natCast];omega,by simp only[Int.toNat_natCast];omega,by simp only[Int.toNat_natCast];omega⟩,Int.toNat_natCast]
  rw[e1,Option.bind_some]
  obtain⟨z,hz⟩: ∃z:qc,z=⟨[],[],0,0,0,0,0,0,false⟩:=⟨_,rfl⟩
  rw[←hz]
  have e2:List.replicate (l.length+1-p) z=z::List.replicate (l.length-p) z:=by
   rw[show l.length+1-p=(l.length-p)+1 by omega];rfl
  have lt:(l.take p).length=p:=by rw[List.length_take];omega
  have e3:(if(p:Int)=0 then(some (cpy (l.take p++List.replicate (l.length+1-p) z) [s])).bind fun l13=>some l13
   else(at' (l.take p++List.replicate (l.length+1-p) z) (p:Int)).bind fun j14=>((if j14<(l.take p++List.replicate (l.length+1-p) z).length then some ()else none:Option Unit)).bind fun u15=>
    (some (qe4 (l.take p++List.replicate (l.length+1-p) z) j14 [s])).bind fun l16=>some l16:Option (List qc))=some (l.take p++s::List.replicate (l.length-p) z):=by
   by_cases h0:p=0
   ·subst h0
    rw[if_pos (by rfl)]
    simp only[Option.bind_some,List.take_zero,List.nil_append,e2]
    simp[cpy]
   ·rw[if_neg (by omega),qkA (by simp;omega),Option.bind_some,if_pos (by simp;omega),Option.bind_some,Option.bind_some]
    simp only[qe4,List.take_append,List.drop_append,lt,Nat.sub_self,List.take_zero,List.append_nil,List.drop_zero]
    rw[List.take_of_length_le (by omega),List.drop_of_length_le (by omega),List.nil_append,e2]
    simp[cpy]
  rw[e3,Option.bind_some,if_neg (by omega),qkA (by simp;omega),Option.bind_some,if_pos (by simp;omega),Option.bind_some,Option.bind_some]
  have e4:(l.take p++s::List.replicate (l.length-p) z).take (p+1)=l.take p++[s]:=by
   rw[List.take_append,lt,List.take_of_length_le (by omega),show p+1-p=1 by omega];rfl
  have e5:(l.take p++s::List.replicate (l.length-p) z).drop (p+1)=List.replicate (l.length-p) z:=by
   rw[List.drop_append,lt,List.drop_of_length_le (by omega),show p+1-p=1 by omega];rfl
  simp only[qe4,e4,e5]
  rw[qju (by simp),List.append_assoc]
  rfl
def qar (d day:Int):Int:=if day>99999 then 3 else if day<d then 19 else 0
theorem qlY {N:Nat} (hN:2<N) {d day:Int} (h:0≤day):qC N [if vQ day 0 99999=true then 3 else 0,if decide (day<d)=true then 19 else 0]=some (qar d day):=by
 rw[vY (by simp) (by simpa using hN)]
 unfold vQ qar
 by_cases h1:day>99999
 ·simp[h1,qV]
 ·have: ¬day<0:=by omega
  by_cases h2:day<d<;>simp[h1,h2,this,qV]
theorem qfU (n:Int):yA n=some (if vQ n 0 99999=true then 3 else 0):=by
 unfold yA;rw[qaX];rfl
structure qbK (N:Nat) (l:List qc):Prop where
 asc:Asc l
 len:l.length≤1000
 big:2000<N
 max:N<4611686018427387904
def qe7 (r:Option (Int×List qc×Int)) (err day:Int) (new:List qc):Prop:= ∃x l',r=some (x,l',err)∧(err=0→x=day∧l'=new)
structure qlm (N:Nat) (d:Int) (l:List qc) (e:qg) (err day:Int) (new:List qc):Prop where
 ref:yG N ⟨d,l⟩ e=some err
 aft:err=0→vH N ⟨d,l⟩ e=some ⟨day,new⟩
theorem qe7.day {N:Nat} (hN:2000<N) {d:Int} {l new:List qc} {num:Int} {k:Str} {ns:List Str} {vs:List Int} {t:Str} {day err err2:Int} (hv:vs[0]? =some day) (h0:0≤day) (he:err=if qar d day=0 then err2 else qar d day)
 (hk:qar d day=0→ ∃l',(((zY).bind fun r9=>
    if(k==[109,97,107,101])=true then(qy d l).bind fun l12=>(xL N d l12 num k ns vs t).bind fun(l14,e_15)=>some (l14,e_15)
    else if(k==[116,101,115,116])=true then(qy d l).bind fun l18=>(yM N d l18 num k ns vs t).bind fun(l20,e_21)=>some (l20,e_21)
    else if(k==[117,115,101])=true then(qy d l).bind fun l24=>(xQ N d l24 num k ns vs t).bind fun(l26,e_27)=>some (l26,e_27)
    else if(k==[102,97,105,108])=true then(qy d l).bind fun l30=>(yK N d l30 num k ns vs t).bind fun(l32,e_33)=>some (l32,e_33)
    else if(k==[114,101,99,97,108,108])=true then(qy d l).bind fun l36=>(yh N d l36 num k ns vs t).bind fun(l38,e_39)=>some (l38,e_39)
    else if(k==[117,110,100,111])=true then none else none:Option (List qc×Int))=some (l',err2))∧(err2=0→l'=new)):
 qe7 (qG N d l num k ns vs t) err day new:=by
 unfold qe7 qG
 rw[xE,hv,Option.bind_some,qfU,Option.bind_some,xC,Option.bind_some,qlY (by omega) h0,Option.bind_some]
 by_cases hd:qar d day=0
 ·obtain⟨l',h1,h2⟩:=hk hd
  rw[if_pos hd]at he
  subst he
  rw[if_neg (by simp[hd]),h1,Option.bind_some]
  exact⟨day,l',rfl,fun h=>⟨rfl,h2 h⟩⟩
 ·rw[if_neg hd]at he
  subst he
  rw[if_pos (by simp[hd])]
  exact⟨0,[],rfl,fun h=>absurd h hd⟩
def qg0 (l:List qc) (n:Str) (day life uses:Int):Int:=
 if xG l n=true then 9 else if vQ life 1 9999=true then 3 else if vQ uses 1 9999=true then 3 else if w64 (day+life)>99999 then 3 else if l.length≥256 then 5 else 0
theorem qoT {N:Nat} {d:Int} {l:List qc} (h:qbK N l) {num day life uses:Int} {n b t:Str} (h0:0≤day∧day≤999999999) (h1:0≤life∧life≤999999999):
 qe7 (qG N d l num xR [n,b] [day,life,uses] t) (if qar d day=0 then qg0 l n day life uses else qar d day) day (qhi l ⟨n,b,day,w64 (day+life),uses,0,0,0,false⟩):=by
 obtain⟨ha,hl,hN,hM⟩:=h
 refine qe7.day hN rfl h0.1 rfl fun hd=>?_
 simp only[zY,Option.bind_some,show(xR==[109,97,107,101])=true by decide,if_true,qcl hl,xL,xE,qeb,qmj,List.getElem?_cons_zero,List.getElem?_cons_succ,qkJ (N:=N) (l:=l) (by omega) (by omega),xC,qaX,qfU]
 rw[vY (by simp) (by simp;omega),Option.bind_some]
 have e:qV [if xG l n=true then 9 else 0,if vQ life 1 9999=true then 3 else 0,if vQ uses 1 9999=true then 3 else 0,if vQ (w64 (day+life)) 0 99999=true then 3 else 0,if decide ((l.length:Int)≥256)=true then 5 else 0]=qg0 l n day life uses:=by
  have hw:w64 (day+life)=day+life:=qaq (by omega) (by omega)
  rw[hw]
  unfold qg0
  rw[hw]
  by_cases a1:xG l n=true
  ·simp[a1,qV]
  ·by_cases a2:vQ life 1 9999=true
   ·simp[a1,a2,qV]
   ·by_cases a3:vQ uses 1 9999=true
    ·simp[a1,a2,a3,qV]
    ·by_cases a4:day+life>99999
     ·have:vQ (day+life) 0 99999=true:=by simp[vQ];omega
      simp[a1,a2,a3,a4,this,qV]
     ·have:vQ (day+life) 0 99999=false:=by simp[vQ];omega
      by_cases a5:l.length≥256
      ·have:(l.length:Int)≥256:=by omega
       simp[a1,a2,a3,a4,a5,this,qV, *]
      ·have: ¬(l.length:Int)≥256:=by omega
       simp[a1,a2,a3,a4,a5,this,qV, *]
 rw[e]
 by_cases hz:qg0 l n day life uses=0
 ·rw[if_neg (by simp[hz])]
  simp only[qlG hl (qeS l n),Option.bind_some]
  exact⟨_,by rw[hz];rfl,fun _=>rfl⟩
 ·rw[if_pos (by simp[hz])]
  exact⟨_,rfl,fun h=>absurd h hz⟩
theorem qiV (l:List qc) (hl:l.length≤1000) (n:Str) (x:Int): ∀(K k:Nat),k≤l.length→l.length<K+k→yL l n K x (k:Int)=some (x,((k+vS (l.drop k) n:Nat):Int))
 |0,k,h,hK=>by omega
 |K+1,k,h,hK=>by
  unfold yL
  by_cases hk:k<l.length
  ·rw[if_pos (by omega),qJ,List.getElem?_eq_getElem hk,List.drop_eq_getElem_cons hk,kg (by omega),qiV l hl n x K (k+1) (by omega) (by omega)]
   simp only[Option.bind_some,vS]
   by_cases hc:ltL (l[k]).Name n=true
   ·simp only[hc,if_true,Option.some.injEq,Prod.mk.injEq,true_and]
    omega
   ·simp[hc]
  ·rw[if_neg (by omega),List.drop_of_length_le (by omega)]
   simp[vS]
theorem qo8 {N:Nat} {d:Int} {l:List qc} (h:qbK N l) {num day life uses:Int} {n b t:Str}:
 qlm N d l ⟨num,xR,[n,b],[day,life,uses],t⟩ (if qar d day=0 then qg0 l n day life uses else qar d day) day (qhi l ⟨n,b,day,w64 (day+life),uses,0,0,0,false⟩):=by
 obtain⟨ha,hl,hN,hM⟩:=h
 constructor
 ·unfold yG
  simp only[xE,qeb,qmj,List.getElem?_cons_zero,List.getElem?_cons_succ,Option.bind_some,qmK (N:=N) (r:=⟨d,l⟩) (show l.length<_ by omega) (show l.length<N by omega) ha,qcu,show(xR==[109,97,107,101])=true by decide,if_true]
  unfold qar qg0
  by_cases a1:day>99999
  ·simp[a1]
  by_cases a2:day<d
  ·simp[a1,a2]
  simp only[a1,a2,if_false,if_true]
  by_cases a3:xG l n=true
  ·simp[a3]
  ·have: ¬((-1:Int)≥0):=by omega
   simp only[a3,this,if_false,Bool.false_eq_true]
   by_cases a4:vQ life 1 9999=true
   ·simp[a4]
   ·by_cases a5:vQ uses 1 9999=true
    ·simp[a4,a5]
    ·by_cases a6:w64 (day+life)>99999
     ·simp[a4,a5,a6]
     ·by_cases a7:l.length≥256
      ·have:(l.length:Int)≥256:=by omega
       simp[a4,a5,a6,a7,this]
      ·have: ¬(l.length:Int)≥256:=by omega
       simp[a4,a5,a6,a7,this]
 ·intro hz
  unfold vH
  have e0:(0:Int)=((0:Nat):Int):=rfl
  simp only[xE,qeb,qmj,List.getElem?_cons_zero,List.getElem?_cons_succ,Option.bind_some,show(xR==[109,97,107,101])=true by decide,if_true]
  rw[jQ (by simp;omega) (by simp;omega),Option.bind_some,List.nil_append]
  rw[show(yL l n N (w64 (day+life)) 0)=yL l n N (w64 (day+life)) ((0:Nat):Int)from rfl,qiV l hl n _ N 0 (by omega) (by omega),List.drop_zero,Option.bind_some]
  have hp:=qeS l n
  simp only[Nat.zero_add]
  rw[qeV hp,Option.bind_some,jQ (by simp;omega) (by simp;omega),Option.bind_some,List.nil_append,jQ (by simp;omega) (by simp;omega),Option.bind_some,qhj hp,Option.bind_some,jQ (by simp;omega) (by simp;omega),Option.bind_some]
  simp[qhi]
def qf3 (l:List qc) (n:Str) (f:qc→qc):List qc:=l.map fun s=>if(s.Name==n)=true then f s else s
theorem Asc.set {l:List qc} (h:Asc l) {i:Nat} {s:qc} {n:Str} (hi:l[i]? =some s) (hs:s.Name=n) (f:qc→qc):qf3 l n f=l.set i (f s):=by
 refine List.ext_getElem? fun j=>?_
 have hlt:=(List.getElem?_eq_some_iff.1 hi).1
 unfold qf3
 rw[List.getElem?_map,List.getElem?_set]
 by_cases hj:i=j
 ·subst hj
  rw[if_pos rfl,hi]
  simp[hs,hlt]
 ·rw[if_neg hj]
  cases hq:l[j]? with
  |none=>rfl
  |some t=>
   have: ¬(t.Name==n)=true:=fun e=>hj ((h.uniq hi hs).2.symm.trans (h.uniq hq (beq_iff_eq.1 e)).2)
   simp only[Option.map_some,this,if_false,Bool.false_eq_true]
def qcf (l:List qc) (n:Str) (day:Int) (more:qc→Int):Int:=match l[vS l n]? with
 |some s=>if xG l n=true then if qco s day=true then 20 else more s else 10
 |none=>10
theorem qiA {N:Nat} {d:Int} {l:List qc} (h:qbK N l) (n:Str) (day:Int):zC N d l n day=match l[vS l n]? with
 |some s=>if xG l n=true then some ((vS l n:Int),true,if qco s day=true then 20 else 0)else some (0,false,10)
 |none=>some (0,false,10):=by
 obtain⟨ha,hl,hN,hM⟩:=h
 unfold zC
 rw[qkJ (by omega) (by omega),Option.bind_some]
 cases hq:l[vS l n]? with
 |none=>
  have:xG l n=false:=by
   cases hh:xG l n with
   |false=>rfl
   |true=>have:=qdQ hh;rw[List.getElem?_eq_getElem this]at hq;cases hq
  simp[this]
 |some s=>
  by_cases hh:xG l n=true
  ·simp only[hh,Bool.not_true,Bool.false_eq_true,if_false,if_true,qJ,hq,Option.bind_some,qgt,xC]
  ·simp[hh]
theorem qiJ {l:List qc} {n:Str} {s:qc} (hq:l[vS l n]? =some s) (hh:xG l n=true):s.Name=n:=by
 have:=qfc hq
 rw[hh]at this
 exact beq_iff_eq.1 this.symm
theorem qau {l:List qc} {n:Str} {day:Int} {m:qc→Int} (h:xG l n=false):qcf l n day m=10:=by
 unfold qcf
 cases l[vS l n]? with
 |none=>rfl
 |some s=>simp[h]
theorem qf7 {l:List qc} {n:Str} (h:xG l n=true): ∃s,l[vS l n]? =some s∧vS l n<l.length:=⟨_,List.getElem?_eq_getElem (qdQ h),qdQ h⟩
theorem qeC {N:Nat} {d:Int} {l:List qc} (h:qbK N l) {e:qg} {n:Str} {day:Int} (hn:e.Names[0]? =some n) (hv:e.Values[0]? =some day) (h1:(e.Kind==xR)=false) (h5:(e.Kind==jw)=false) {m:qc→Int}
 (hm: ∀s:qc,(((if(e.Kind==[116,101,115,116])=true then(idx e.Values 1).bind fun x43=>(zS x43 2 999999999).bind fun r44=>some r44 else some false:Option Bool).bind fun b45=>
    if b45=true then some 3 else((if(e.Kind==[117,115,101])=true then(qbZ s day).bind fun r51=>if(!r51)=true then some (.inr 24)else(idx e.Values 1).bind fun x53=>if x53>s.Limit then some (.inr 31)else some (.inl ())else some (.inl ()):Option (Unit⊕Int))).bind (fun
     |(.inl ())=>some 0
     |(.inr q55)=>some q55)):Option Int)=some (m s)):
 yG N ⟨d,l⟩ e=some (if qar d day=0 then qcf l n day m else qar d day):=by
 obtain⟨ha,hl,hN,hM⟩:=h
 unfold yG
 simp only[xE,hv,hn,Option.bind_some,qmK (N:=N) (r:=⟨d,l⟩) (show l.length<_ by omega) (show l.length<N by omega) ha]
 have h1': ¬(e.Kind==[109,97,107,101])=true:=by rw[show([109,97,107,101]:Str)=xR from rfl,h1];simp
 have h5': ¬(e.Kind==[114,101,99,97,108,108])=true:=by rw[show([114,101,99,97,108,108]:Str)=jw from rfl,h5];simp
 rw[if_neg h1',if_neg h5']
 unfold qar
 by_cases a1:day>99999
 ·simp[a1]
 by_cases a2:day<d
 ·simp[a1,a2]
 simp only[a1,a2,if_false,if_true]
 cases hh:xG l n with
 |false=>rw[qau hh];rfl
 |true=>
  obtain⟨s,hs,hlt⟩:=qf7 hh
  rw[if_pos rfl,if_neg (by omega),qJ,hs,Option.bind_some,qfH,Option.bind_some]
  unfold qcf
  rw[hs]
  simp only[hh,if_true]
  by_cases hr:qco s day=true
  ·simp[hr]
  ·rw[if_neg hr,if_neg hr]
   exact hm s
theorem qdF {e:qg} {day:Int} {n:Str} (hn:e.Names[0]? =some n) (f:qc→qc) (hf: ∀(s:qc) (l:List qc) (k:Nat),l[k]? =some s→(((if(e.Kind==[116,101,115,116])=true then some (s.Name==n)else some false:Option Bool).bind fun b33=>
 if b33=true then(idx e.Values 1).bind fun x36=>(put l k (⟨s.Name,s.Batch,s.Born,s.Last,s.Uses,s.Used,w64 (x36.tdiv 2),s.Until,s.Gone⟩:qc)).bind fun l37=>(idx l37 k).bind fun x38=>
  (put l37 k (⟨x38.Name,x38.Batch,x38.Born,x38.Last,x38.Uses,x38.Used,x38.Limit,(if x38.Last<(w64 (day+365))then x38.Last else(w64 (day+365))),x38.Gone⟩:qc)).bind fun l39=>some l39
 else(if(e.Kind==[117,115,101])=true then some (s.Name==n)else some false:Option Bool).bind fun b41=>
 if b41=true then(put l k (⟨s.Name,s.Batch,s.Born,s.Last,s.Uses,w64 (s.Used+1),s.Limit,s.Until,s.Gone⟩:qc)).bind fun l44=>some l44
 else(if(e.Kind==[102,97,105,108])=true then some (s.Name==n)else some false:Option Bool).bind fun b46=>
 ((if b46=true then some b46 else(if(e.Kind==[114,101,99,97,108,108])=true then some (s.Batch==n)else some false:Option Bool).bind fun b52=>some b52:Option Bool)).bind fun b48=>
 if b48=true then(put l k (⟨s.Name,s.Batch,s.Born,s.Last,s.Uses,s.Used,s.Limit,s.Until,true⟩:qc)).bind fun l55=>some l55 else some l):Option (List qc))=some (l.set k (f s))):
 ∀(K:Nat) (l:List qc) (k:Nat),l.length≤1000→k≤l.length→l.length<K+k→yj e day K l (k:Int)=some (l.take k++(l.drop k).map f)
 |0,l,k,hl,h,hK=>by omega
 |K+1,l,k,hl,h,hK=>by
  unfold yj
  by_cases hk:k<l.length
  ·have hg:l[k]? =some l[k]:=List.getElem?_eq_getElem hk
   rw[if_pos (by omega),qJ,hg,Option.bind_some,xE,hn,Option.bind_some]
   have:=hf l[k] l k hg
   rw[this,Option.bind_some,kg (by omega),qdF hn f hf K (l.set k (f l[k])) (k+1) (by simp;omega) (by simp;omega) (by simp;omega)]
   congr 1
   rw[List.drop_eq_getElem_cons hk,List.drop_set,if_pos (by omega),List.map_cons,List.take_add_one,List.getElem?_set_self hk,List.take_set,List.set_eq_of_length_le (by simp;exact Nat.min_le_left _ _)]
   simp
  ·rw[if_neg (by omega),List.take_of_length_le (by omega),List.drop_of_length_le (by omega)]
   simp
theorem qdO {N:Nat} {d:Int} {l:List qc} (h:qbK N l) {e:qg} {day:Int} {n:Str} (hn:e.Names[0]? =some n) (hv:e.Values[0]? =some day) (h1:(e.Kind==xR)=false) (f:qc→qc)
 (hK: ∀(K:Nat) (l:List qc) (k:Nat),l.length≤1000→k≤l.length→l.length<K+k→yj e day K l (k:Int)=some (l.take k++(l.drop k).map f)):vH N ⟨d,l⟩ e=some ⟨day,l.map f⟩:=by
 obtain⟨ha,hl,hN,hM⟩:=h
 unfold vH
 rw[xE,hv,Option.bind_some]
 have h1': ¬(e.Kind==[109,97,107,101])=true:=by rw[show([109,97,107,101]:Str)=xR from rfl,h1];simp
 simp only
 rw[jQ (by simp;omega) (by simp;omega),Option.bind_some,List.nil_append,if_neg h1']
 rw[show yj e day N l 0=yj e day N l ((0:Nat):Int)from rfl,hK N l 0 hl (by omega) (by omega)]
 simp
def qkO (load:Int) (_:qc):Int:=if vQ load 2 999999999=true then 3 else 0
def qns (day load:Int) (s:qc):qc:=⟨s.Name,s.Batch,s.Born,s.Last,s.Uses,s.Used,w64 (load.tdiv 2),(if s.Last<w64 (day+365)then s.Last else w64 (day+365)),s.Gone⟩
theorem qmx {N:Nat} {d:Int} {l:List qc} (h:qbK N l) {num day load:Int} {n t:Str} (h0:0≤day):
 qe7 (qG N d l num qaC [n] [day,load] t) (if qar d day=0 then qcf l n day (qkO load)else qar d day) day (qf3 l n (qns day load)):=by
 have h':=h
 obtain⟨ha,hl,hN,hM⟩:=h
 refine qe7.day hN rfl h0 rfl fun hd=>?_
 simp only[zY,Option.bind_some,show(qaC==[109,97,107,101])=false by decide,show(qaC==[116,101,115,116])=true by decide,Bool.false_eq_true,if_false,if_true,qcl hl,yM,xE,qeb,List.getElem?_cons_zero,List.getElem?_cons_succ,qaX]
 rw[qiA h']
 cases hh:xG l n with
 |false=>
  refine⟨l,?_,fun h=>?_⟩
  ·rw[qau hh]
   cases hq:l[vS l n]? with
   |none=>
    simp only[Option.bind_some]
    rw[vY (by simp) (by simp;omega)]
    simp[qV]
   |some s=>
    simp only[hh,Bool.false_eq_true,if_false,Option.bind_some]
    rw[vY (by simp) (by simp;omega)]
    simp[qV]
  ·rw[qau hh]at h;cases h
 |true=>
  obtain⟨s,hs,hlt⟩:=qf7 hh
  have hname:=qiJ hs hh
  unfold qcf
  rw[hs]
  simp only[hh,if_true,Option.bind_some]
  rw[vY (by simp) (by simp;omega)]
  unfold qkO
  by_cases hr:qco s day=true
  ·exact⟨l,by simp[hr,qV],fun h=>by rw[if_pos hr]at h;cases h⟩
  ·by_cases ho:vQ load 2 999999999=true
   ·exact⟨l,by simp[hr,ho,qV],fun h=>by rw[if_neg hr,if_pos ho]at h;cases h⟩
   ·refine⟨l.set (vS l n) (qns day load s),?_,fun _=>(ha.set hs hname _).symm⟩
    have hlen:vS l n<(l.set (vS l n) (⟨s.Name,s.Batch,s.Born,s.Last,s.Uses,s.Used,w64 (load.tdiv 2),s.Until,s.Gone⟩:qc)).length:=by simpa using hlt
    simp only[hr,ho,if_false,qV,if_true,Bool.false_eq_true,Option.bind_some,decide_true,Bool.not_true,qJ,hs,xD hlt,List.getElem?_set_self hlt,xD hlen,List.set_set]
    rfl
theorem qmm {N:Nat} {d:Int} {l:List qc} (h:qbK N l) {num day load:Int} {n t:Str}:
 qlm N d l ⟨num,qaC,[n],[day,load],t⟩ (if qar d day=0 then qcf l n day (qkO load)else qar d day) day (qf3 l n (qns day load)):=by
 constructor
 ·refine qeC h rfl rfl (by show(qaC==xR)=false;decide) (by show(qaC==jw)=false;decide) fun s=>?_
  simp only[show(qaC==[116,101,115,116])=true by decide,show(qaC==[117,115,101])=false by decide,if_true,if_false,Bool.false_eq_true,qeb,List.getElem?_cons_succ,List.getElem?_cons_zero,Option.bind_some,qcu,qkO]
  by_cases ho:vQ load 2 999999999=true<;>simp[ho]
 ·intro _
  refine qdO h rfl rfl (by show(qaC==xR)=false;decide) _ (qdF (n:=n) rfl _ fun s l k hk=>?_)
  have hlt:=(List.getElem?_eq_some_iff.1 hk).1
  simp only[show(qaC==[116,101,115,116])=true by decide,show(qaC==[117,115,101])=false by decide,show(qaC==[102,97,105,108])=false by decide,show(qaC==[114,101,99,97,108,108])=false by decide,if_true,if_false,Bool.false_eq_true,qeb,List.getElem?_cons_succ,List.getElem?_cons_zero,Option.bind_some]
  by_cases hb:(s.Name==n)=true
  ·simp only[hb,if_true,xD hlt,Option.bind_some,qJ,List.getElem?_set_self hlt]
   rw[xD (by simpa using hlt),List.set_set]
   rfl
  ·simp only[hb,if_false,Bool.false_eq_true]
   rw[show l.set k s=l from by
    have e:l[k]=s:=by rw[List.getElem?_eq_getElem hlt]at hk;injection hk
    rw[←e,List.set_getElem_self]]
def useM (day load:Int) (s:qc):Int:=if qhe s day=false then 24 else if load>s.Limit then 31 else 0
def useF (s:qc):qc:=⟨s.Name,s.Batch,s.Born,s.Last,s.Uses,w64 (s.Used+1),s.Limit,s.Until,s.Gone⟩
theorem qpb {N:Nat} {d:Int} {l:List qc} (h:qbK N l) {num day load:Int} {n t:Str} (h0:0≤day):
 qe7 (qG N d l num qb9 [n] [day,load] t) (if qar d day=0 then qcf l n day (useM day load)else qar d day) day (qf3 l n useF):=by
 have h':=h
 obtain⟨ha,hl,hN,hM⟩:=h
 refine qe7.day hN rfl h0 rfl fun hd=>?_
 simp only[zY,Option.bind_some,show(qb9==[109,97,107,101])=false by decide,show(qb9==[116,101,115,116])=false by decide,show(qb9==[117,115,101])=true by decide,Bool.false_eq_true,if_false,if_true,qcl hl,xQ,xE,qeb,List.getElem?_cons_zero,List.getElem?_cons_succ]
 rw[qiA h']
 cases hh:xG l n with
 |false=>
  refine⟨l,?_,fun h=>by rw[qau hh]at h;cases h⟩
  rw[qau hh]
  cases hq:l[vS l n]? with
  |none=>simp
  |some s=>simp[hh]
 |true=>
  obtain⟨s,hs,hlt⟩:=qf7 hh
  have hname:=qiJ hs hh
  unfold qcf
  rw[hs]
  simp only[hh,if_true,Option.bind_some]
  by_cases hr:qco s day=true
  ·exact⟨l,by simp[hr],fun h=>by rw[if_pos hr]at h;cases h⟩
  ·simp only[hr,if_false,Bool.false_eq_true,decide_true,Bool.not_true,qJ,hs,Option.bind_some,qmA,xC]
   rw[vY (by simp) (by simp;omega)]
   unfold useM
   simp only[Option.bind_some]
   by_cases hH:qhe s day=true
   ·by_cases hL:load>s.Limit
    ·exact⟨l,by simp[hH,hL,qV],fun h=>by simp[hH,hL]at h⟩
    ·refine⟨l.set (vS l n) (useF s),?_,fun _=>(ha.set hs hname _).symm⟩
     simp only[hH,hL,qV,Bool.not_true,Bool.false_eq_true,if_false,if_true,decide_false,decide_true,xD hlt,Option.bind_some]
     rfl
   ·exact⟨l,by simp[hH,qV],fun h=>by simp[hH]at h⟩
theorem qo6 {N:Nat} {d:Int} {l:List qc} (h:qbK N l) {num day load:Int} {n t:Str}:
 qlm N d l ⟨num,qb9,[n],[day,load],t⟩ (if qar d day=0 then qcf l n day (useM day load)else qar d day) day (qf3 l n useF):=by
 constructor
 ·refine qeC h rfl rfl (by show(qb9==xR)=false;decide) (by show(qb9==jw)=false;decide) fun s=>?_
  simp only[show(qb9==[116,101,115,116])=false by decide,show(qb9==[117,115,101])=true by decide,if_true,if_false,Bool.false_eq_true,qeb,List.getElem?_cons_succ,List.getElem?_cons_zero,Option.bind_some,ql8,useM]
  by_cases hH:qhe s day=true
  ·by_cases hL:load>s.Limit<;>simp[hH,hL]
  ·simp[hH]
 ·intro _
  refine qdO h rfl rfl (by show(qb9==xR)=false;decide) _ (qdF (n:=n) rfl _ fun s l k hk=>?_)
  have hlt:=(List.getElem?_eq_some_iff.1 hk).1
  simp only[show(qb9==[116,101,115,116])=false by decide,show(qb9==[117,115,101])=true by decide,show(qb9==[102,97,105,108])=false by decide,show(qb9==[114,101,99,97,108,108])=false by decide,if_true,if_false,Bool.false_eq_true,Option.bind_some]
  by_cases hb:(s.Name==n)=true
  ·simp only[hb,if_true,xD hlt,Option.bind_some]
   rfl
  ·simp only[hb,if_false,Bool.false_eq_true]
   rw[show l.set k s=l from by
    have e:l[k]=s:=by rw[List.getElem?_eq_getElem hlt]at hk;injection hk
    rw[←e,List.set_getElem_self]]
def qkS (s:qc):qc:=⟨s.Name,s.Batch,s.Born,s.Last,s.Uses,s.Used,s.Limit,s.Until,true⟩
theorem qmW {N:Nat} {d:Int} {l:List qc} (h:qbK N l) {num day:Int} {n t:Str} (h0:0≤day):
 qe7 (qG N d l num xZ [n] [day] t) (if qar d day=0 then qcf l n day (fun _=>0)else qar d day) day (qf3 l n qkS):=by
 have h':=h
 obtain⟨ha,hl,hN,hM⟩:=h
 refine qe7.day hN rfl h0 rfl fun hd=>?_
 simp only[zY,Option.bind_some,show(xZ==[109,97,107,101])=false by decide,show(xZ==[116,101,115,116])=false by decide,show(xZ==[117,115,101])=false by decide,show(xZ==[102,97,105,108])=true by decide,Bool.false_eq_true,if_false,if_true,qcl hl,yK,xE,qeb,List.getElem?_cons_zero,List.getElem?_cons_succ]
 rw[qiA h']
 cases hh:xG l n with
 |false=>
  refine⟨l,?_,fun h=>by rw[qau hh]at h;cases h⟩
  rw[qau hh]
  cases hq:l[vS l n]? with
  |none=>simp
  |some s=>simp[hh]
 |true=>
  obtain⟨s,hs,hlt⟩:=qf7 hh
  have hname:=qiJ hs hh
  unfold qcf
  rw[hs]
  simp only[hh,if_true,Option.bind_some]
  by_cases hr:qco s day=true
  ·exact⟨l,by simp[hr],fun h=>by rw[if_pos hr]at h;cases h⟩
  ·refine⟨l.set (vS l n) (qkS s),?_,fun _=>(ha.set hs hname _).symm⟩
   simp only[hr,if_false,Bool.false_eq_true,decide_true,Bool.not_true,qJ,hs,Option.bind_some,xD hlt]
   rfl
theorem qnf {N:Nat} {d:Int} {l:List qc} (h:qbK N l) {num day:Int} {n t:Str}:
 qlm N d l ⟨num,xZ,[n],[day],t⟩ (if qar d day=0 then qcf l n day (fun _=>0)else qar d day) day (qf3 l n qkS):=by
 constructor
 ·refine qeC h rfl rfl (by show(xZ==xR)=false;decide) (by show(xZ==jw)=false;decide) fun s=>?_
  simp only[show(xZ==[116,101,115,116])=false by decide,show(xZ==[117,115,101])=false by decide,if_true,if_false,Bool.false_eq_true,Option.bind_some]
 ·intro _
  refine qdO h rfl rfl (by show(xZ==xR)=false;decide) _ (qdF (n:=n) rfl _ fun s l k hk=>?_)
  have hlt:=(List.getElem?_eq_some_iff.1 hk).1
  simp only[show(xZ==[116,101,115,116])=false by decide,show(xZ==[117,115,101])=false by decide,show(xZ==[102,97,105,108])=true by decide,show(xZ==[114,101,99,97,108,108])=false by decide,if_true,if_false,Bool.false_eq_true,Option.bind_some]
  by_cases hb:(s.Name==n)=true
  ·simp only[hb,if_true,xD hlt,Option.bind_some]
   rfl
  ·simp only[hb,if_false,Bool.false_eq_true,Option.bind_some]
   rw[show l.set k s=l from by
    have e:l[k]=s:=by rw[List.getElem?_eq_getElem hlt]at hk;injection hk
    rw[←e,List.set_getElem_self]]
def qcw (n:Str) (s:qc):qc:=if(s.Batch==n)=true then qkS s else s
def qgy (n:Str) (day:Int):Int→List qc→Int
 |b,[]=>b
 |b,s::l=>qgy n day (if(s.Batch==n)=true then if qco s day=true then if b=10 then 20 else b else 0 else b) l
def qfw (l:List qc) (n:Str) (day:Int):Int:=if(l.any fun s=>s.Batch==n)=false then 10 else if(l.any fun s=>s.Batch==n&&!qco s day)=false then 20 else 0
theorem qgM (n:Str) (day:Int): ∀l,qgy n day 0 l=0
 |[]=>rfl
 |s::l=>by
  unfold qgy
  by_cases h:(s.Batch==n)=true
  ·by_cases h2:qco s day=true
   ·simp only[h,h2,if_true];rw[if_neg (by decide)];exact qgM n day l
   ·simp only[h,h2,if_true,if_false,Bool.false_eq_true];exact qgM n day l
  ·simp only[h,if_false,Bool.false_eq_true];exact qgM n day l
theorem qim (n:Str) (day:Int): ∀l:List qc,qgy n day 20 l=if(l.any fun s=>s.Batch==n&&!qco s day)=false then 20 else 0
 |[]=>rfl
 |s::l=>by
  unfold qgy
  rw[List.any_cons]
  by_cases h:(s.Batch==n)=true
  ·by_cases h2:qco s day=true
   ·simp only[h,h2,if_true];rw[if_neg (by decide),qim n day l];simp
   ·simp only[h,h2,if_true,if_false,Bool.false_eq_true];rw[qgM];simp
  ·simp only[h,if_false,Bool.false_eq_true];rw[qim n day l];simp
theorem qk0 (n:Str) (day:Int): ∀l:List qc,qgy n day 10 l=qfw l n day
 |[]=>rfl
 |s::l=>by
  unfold qgy qfw
  rw[List.any_cons,List.any_cons]
  by_cases h:(s.Batch==n)=true
  ·by_cases h2:qco s day=true
   ·simp only[h,h2,if_true];rw[qim n day l];simp
   ·simp only[h,h2,if_true,if_false,Bool.false_eq_true];rw[qgM];simp
  ·simp only[h,if_false,Bool.false_eq_true];rw[qk0 n day l];simp[qfw]
theorem qay {l:List qc} (hl:l.length≤1000) {n:Str} {day:Int}: ∀(K k:Nat) (b:Int),k≤l.length→l.length<K+k→
 zb l [n] [day] K ((l.take k).map (qcw n)++l.drop k) (k:Int) b=some (l.map (qcw n),qgy n day b (l.drop k))
 |0,k,b,h,hK=>by omega
 |K+1,k,b,h,hK=>by
  unfold zb
  by_cases hk:k<l.length
  ·have hlen:((l.take k).map (qcw n)).length=k:=by simp;omega
   have hg:((l.take k).map (qcw n)++l.drop k)[k]? =some l[k]:=by
    rw[List.getElem?_append_right (by omega),hlen,Nat.sub_self,List.drop_eq_getElem_cons hk];rfl
   have hlt:k<((l.take k).map (qcw n)++l.drop k).length:=by rw[List.length_append,hlen,List.length_drop];omega
   rw[if_pos (by omega),qJ,hg,Option.bind_some,xE]
   simp only[List.getElem?_cons_zero,Option.bind_some]
   have hset: ∀x:qc,((l.take k).map (qcw n)++l.drop k).set k x=(l.take k).map (qcw n)++x::l.drop (k+1):=by
    intro x
    rw[List.set_append_right _ _ (by omega),hlen,Nat.sub_self,List.drop_eq_getElem_cons hk,List.set_cons_zero]
   have hnext: ∀x:qc,x=qcw n l[k]→(l.take k).map (qcw n)++x::l.drop (k+1)=(l.take (k+1)).map (qcw n)++l.drop (k+1):=by
    rintro x rfl
    rw[List.take_add_one,List.getElem?_eq_getElem hk,List.map_append,List.append_assoc]
    rfl
   have hsame:(l.take k).map (qcw n)++l.drop k=(l.take k).map (qcw n)++l[k]::l.drop (k+1):=by rw[List.drop_eq_getElem_cons hk]
   have e1:qgy n day b (l.drop k)=qgy n day (if((l[k]).Batch==n)=true then if qco l[k] day=true then if b=10 then 20 else b else 0 else b) (l.drop (k+1)):=by
    rw[List.drop_eq_getElem_cons hk];rfl
   rw[e1]
   by_cases hb:((l[k]).Batch==n)=true
   ·simp only[hb,Bool.not_true,Bool.false_eq_true,if_false,if_true,qgt,Option.bind_some,xD hlt,hset]
    have hF:(⟨(l[k]).Name,(l[k]).Batch,(l[k]).Born,(l[k]).Last,(l[k]).Uses,(l[k]).Used,(l[k]).Limit,(l[k]).Until,true⟩:qc)=qcw n l[k]:=by unfold qcw;rw[if_pos hb];rfl
    rw[hnext _ hF]
    by_cases hr:qco l[k] day=true
    ·by_cases hb10:b=10
     ·simp only[hr,hb10,if_true,xE,List.getElem?_cons_zero,Bool.not_true,Bool.false_eq_true,if_false,Option.bind_some]
      rw[kg (by omega),qay hl K (k+1) _ (by omega) (by omega)]
     ·simp only[hr,hb10,if_true,xE,List.getElem?_cons_zero,Bool.not_true,Bool.false_eq_true,if_false,Option.bind_some]
      rw[kg (by omega),qay hl K (k+1) _ (by omega) (by omega)]
    ·by_cases hb10:b=10
     ·simp only[hr,hb10,if_true,xE,List.getElem?_cons_zero,Bool.not_false,Bool.false_eq_true,if_false,Option.bind_some]
      rw[kg (by omega),qay hl K (k+1) _ (by omega) (by omega)]
     ·simp only[hr,hb10,if_true,xE,List.getElem?_cons_zero,Bool.not_false,Bool.false_eq_true,if_false,Option.bind_some]
      rw[kg (by omega),qay hl K (k+1) _ (by omega) (by omega)]
   ·simp only[hb,Bool.not_false,Bool.false_eq_true,if_false,if_true,Option.bind_some]
    rw[hsame,hnext _ (by unfold qcw;rw[if_neg hb]),kg (by omega),qay hl K (k+1) _ (by omega) (by omega)]
  ·have:l.take k=l:=List.take_of_length_le (by omega)
   rw[if_neg (by omega),List.drop_of_length_le (by omega),this]
   simp[qgy]
theorem qkh {N:Nat} {d:Int} {l:List qc} (h:qbK N l) {num day:Int} {n t:Str} (h0:0≤day):
 qe7 (qG N d l num jw [n] [day] t) (if qar d day=0 then qfw l n day else qar d day) day (l.map (qcw n)):=by
 obtain⟨ha,hl,hN,hM⟩:=h
 refine qe7.day hN rfl h0 rfl fun hd=>?_
 simp only[zY,Option.bind_some,show(jw==[109,97,107,101])=false by decide,show(jw==[116,101,115,116])=false by decide,show(jw==[117,115,101])=false by decide,show(jw==[102,97,105,108])=false by decide,show(jw==[114,101,99,97,108,108])=true by decide,Bool.false_eq_true,if_false,if_true,qcl hl,yh]
 have:=qay hl (n:=n) (day:=day) N 0 10 (by omega) (by omega)
 rw[List.take_zero,List.map_nil,List.nil_append,List.drop_zero]at this
 rw[show zb l [n] [day] N l 0 10=zb l [n] [day] N l ((0:Nat):Int) 10 from rfl,this,qk0]
 exact⟨_,rfl,fun _=>rfl⟩
theorem qcG {N:Nat} {r:zw} (hl:r.Slings.length≤1000) {e:qg} {n:Str} (hn:e.Names[0]? =some n) (day:Int): ∀(K k:Nat) (a b:Bool),k≤r.Slings.length→r.Slings.length<K+k→
 vX r e day K a b (k:Int)=some (a||(r.Slings.drop k).any (fun s=>s.Batch==n),b||(r.Slings.drop k).any (fun s=>s.Batch==n&&!qco s day))
 |0,k,a,b,h,hK=>by omega
 |K+1,k,a,b,h,hK=>by
  unfold vX
  by_cases hk:k<r.Slings.length
  ·rw[if_pos (by omega),qJ,List.getElem?_eq_getElem hk,Option.bind_some,xE,hn,Option.bind_some,kg (by omega),List.drop_eq_getElem_cons hk,List.any_cons,List.any_cons]
   by_cases hb:((r.Slings[k]).Batch==n)=true
   ·by_cases hq:b=true
    ·simp only[hb,hq,if_true,Option.bind_some]
     rw[qcG (N:=N) hl hn day K (k+1) _ _ (by omega) (by omega)]
     simp
    ·simp only[hb,hq,if_true,if_false,Option.bind_some,qfH,Bool.false_eq_true]
     rw[qcG (N:=N) hl hn day K (k+1) _ _ (by omega) (by omega)]
     simp
   ·simp only[hb,if_false,Option.bind_some,Bool.false_eq_true]
    rw[qcG (N:=N) hl hn day K (k+1) _ _ (by omega) (by omega)]
    simp
  ·rw[if_neg (by omega),List.drop_of_length_le (by omega)]
   simp
theorem qjU {N:Nat} {d:Int} {l:List qc} (h:qbK N l) {num day:Int} {n t:Str}:
 qlm N d l ⟨num,jw,[n],[day],t⟩ (if qar d day=0 then qfw l n day else qar d day) day (l.map (qcw n)):=by
 constructor
 ·obtain⟨ha,hl,hN,hM⟩:=h
  unfold yG
  simp only[xE,List.getElem?_cons_zero,Option.bind_some,qmK (N:=N) (r:=⟨d,l⟩) (show l.length<_ by omega) (show l.length<N by omega) ha,show(jw==[109,97,107,101])=false by decide,show(jw==[114,101,99,97,108,108])=true by decide,if_true,if_false,Bool.false_eq_true]
  unfold qar
  by_cases a1:day>99999
  ·simp[a1]
  by_cases a2:day<d
  ·simp[a1,a2]
  simp only[a1,a2,if_false,if_true]
  rw[show∀e,vX ⟨d,l⟩ e day N false false 0=vX ⟨d,l⟩ e day N false false ((0:Nat):Int)from fun _=>rfl,qcG (N:=N) (r:=⟨d,l⟩) hl (n:=n) rfl day N 0 false false (Nat.zero_le _) (show l.length<N+0 by omega),List.drop_zero,Option.bind_some]
  unfold qfw
  simp only[Bool.false_or]
  by_cases b1:(l.any fun s=>s.Batch==n)=true
  ·by_cases b2:(l.any fun s=>s.Batch==n&&!qco s day)=true<;>simp[b1,b2]
  ·simp[b1]
 ·intro _
  refine qdO h rfl rfl (by show(jw==xR)=false;decide) _ (qdF (n:=n) rfl _ fun s l k hk=>?_)
  have hlt:=(List.getElem?_eq_some_iff.1 hk).1
  simp only[show(jw==[116,101,115,116])=false by decide,show(jw==[117,115,101])=false by decide,show(jw==[102,97,105,108])=false by decide,show(jw==[114,101,99,97,108,108])=true by decide,if_true,if_false,Bool.false_eq_true,Option.bind_some]
  unfold qcw
  by_cases hb:(s.Batch==n)=true
  ·simp only[hb,if_true,xD hlt,Option.bind_some]
   rfl
  ·simp only[hb,if_false,Bool.false_eq_true,Option.bind_some]
   rw[show l.set k s=l from by
    have e:l[k]=s:=by rw[List.getElem?_eq_getElem hlt]at hk;injection hk
    rw[←e,List.set_getElem_self]]
theorem Asc.map {l:List qc} (h:Asc l) {f:qc→qc} (hf: ∀s,(f s).Name=s.Name):Asc (l.map f):=by
 unfold Asc
 rw[List.pairwise_map]
 exact h.imp fun {a b} hab=>by rw[hf,hf];exact hab
theorem qhH (t:qc) (l:List qc) (s:qc):qhi (t::l) s=if ltL t.Name s.Name=true then t::qhi l s else s::t::l:=by
 unfold qhi
 rw[vS]
 split<;>simp
theorem qjn {x s:qc}: ∀{l:List qc},x∈qhi l s→x=s∨x∈l
 |[],h=>by simp[qhi,vS]at h;exact .inl h
 |t::l,h=>by
  rw[qhH]at h
  split at h
  ·rcases List.mem_cons.1 h with rfl|h
   ·exact .inr (by simp)
   ·rcases qjn h with h|h
    ·exact .inl h
    ·exact .inr (by simp[h])
  ·rcases List.mem_cons.1 h with rfl|h
   ·exact .inl rfl
   ·exact .inr h
theorem Asc.ins {s:qc}: ∀{l:List qc},Asc l→xG l s.Name=false→Asc (qhi l s)
 |[],_,_=>by simp[qhi,vS,Asc]
 |t::l,h,hn=>by
  obtain⟨h1,h2⟩:=List.pairwise_cons.1 h
  rw[qhH]
  unfold xG at hn
  split
  ·rename_i hc
   rw[if_pos hc]at hn
   refine List.pairwise_cons.2 ⟨fun x hx=>?_,Asc.ins h2 hn⟩
   rcases qjn hx with rfl|hx
   ·exact hc
   ·exact h1 x hx
  ·rename_i hc
   rw[if_neg hc]at hn
   have hlt:ltL s.Name t.Name=true:=by
    cases hq:ltL s.Name t.Name with
    |true=>rfl
    |false=>exact absurd (qbu _ _ (by simpa using hc) hq) (beq_eq_false_iff_ne.1 hn)
   refine List.pairwise_cons.2 ⟨fun x hx=>?_,h⟩
   rcases List.mem_cons.1 hx with rfl|hx
   ·exact hlt
   ·exact qa0 hlt (h1 x hx)
theorem qik (l:List qc) (n:Str) (f:qc→qc):qf3 l n f=l.map fun s=>if(s.Name==n)=true then f s else s:=rfl
theorem qma {α:Type} {l:List α} (h:(l.length:Int)=2): ∃a b,l=[a,b]:=by
 match l,h with
 |[a,b],_=>exact⟨a,b,rfl⟩
 |[],h=>simp at h
 |[_],h=>simp at h
 |_::_::_::_,h=>simp at h;omega
theorem qgX {α:Type} {l:List α} (h:(l.length:Int)=1): ∃a,l=[a]:=by
 match l,h with
 |[a],_=>exact⟨a,rfl⟩
 |[],h=>simp at h
 |_::_::_,h=>simp at h;omega
theorem list3 {α:Type} {l:List α} (h:(l.length:Int)=3): ∃a b c,l=[a,b,c]:=by
 match l,h with
 |[a,b,c],_=>exact⟨a,b,c,rfl⟩
 |[],h=>simp at h
 |[_],h=>simp at h
 |[_,_],h=>simp at h
 |_::_::_::_::_,h=>simp at h;omega
structure qoH (e:qg):Prop where
 num:1≤e.Number∧e.Number≤1000
 form:(j6 e.Kind).2.2=true
 names:(e.Names.length:Int)=(j6 e.Kind).1
 values:(e.Values.length:Int)=(j6 e.Kind).2.1
 range: ∀v∈e.Values,0≤v∧v≤999999999
 text:e.Text=[]
theorem qiI {e:qg} (h:qb6 e=0):qoH e:=by
 unfold qb6 at h
 by_cases h1:vQ e.Number 1 1000=true
 ·rw[if_pos h1]at h;cases h
 rw[if_neg h1]at h
 by_cases h2:(j6 e.Kind).2.2=false
 ·rw[if_pos h2]at h;cases h
 rw[if_neg h2]at h
 by_cases h3:((e.Names.length:Int)=(j6 e.Kind).1∧(e.Values.length:Int)=(j6 e.Kind).2.1)
 ·rw[if_neg (by simpa using h3)]at h
  by_cases h4:e.Names.all xI=false
  ·rw[if_pos h4]at h;cases h
  rw[if_neg h4]at h
  by_cases h5:e.Values.all (fun v=>!vQ v 0 999999999)=false
  ·rw[if_pos h5]at h;cases h
  rw[if_neg h5]at h
  by_cases h6:e.Text=[]
  ·refine⟨?_,by simpa using h2,h3.1,h3.2,fun v hv=>?_,h6⟩
   ·simp[vQ]at h1;omega
   ·have h5:e.Values.all (fun v=>!vQ v 0 999999999)=true:=by simpa using h5
    have:=List.all_eq_true.1 h5 v hv
    simp[vQ]at this
    exact this
  ·rw[if_neg h6]at h;cases h
 ·rw[if_pos h3]at h;cases h
theorem qnx {k:Str} (h:(j6 k).2.2=true):k=xR∨k=qaC∨k=qb9∨k=xZ∨k=jw∨k=qaj:=by
 unfold j6 at h
 by_cases h1:(k==xR)=true
 ·exact .inl (beq_iff_eq.1 h1)
 by_cases h2:(k==qaC)=true
 ·exact .inr (.inl (beq_iff_eq.1 h2))
 by_cases h3:(k==qb9)=true
 ·exact .inr (.inr (.inl (beq_iff_eq.1 h3)))
 by_cases h4:(k==xZ)=true
 ·exact .inr (.inr (.inr (.inl (beq_iff_eq.1 h4))))
 by_cases h5:(k==jw)=true
 ·exact .inr (.inr (.inr (.inr (.inl (beq_iff_eq.1 h5)))))
 by_cases h6:(k==qaj)=true
 ·exact .inr (.inr (.inr (.inr (.inr (beq_iff_eq.1 h6)))))
 simp[h1,h2,h3,h4,h5,h6]at h
theorem qn7 {N:Nat} {d:Int} {l:List qc} (h:qbK N l) {e:qg} (hv:qoH e) (hu:(e.Kind==qaj)=false):
 ∃err day new,qe7 (qG N d l e.Number e.Kind e.Names e.Values e.Text) err day new∧qlm N d l e err day new∧(err=0→Asc new∧new.length≤l.length+1):=by
 obtain⟨num,k,ns,vs,t⟩:=e
 obtain⟨_,hf,hn,hs,hr,_⟩:=hv
 simp only at hf hn hs hr hu
 have ha:=h.asc
 rcases qnx hf with rfl|rfl|rfl|rfl|rfl|rfl
 ·obtain⟨n,b,rfl⟩:=qma (show(ns.length:Int)=2 from hn)
  obtain⟨day,life,uses,rfl⟩:=list3 (show(vs.length:Int)=3 from hs)
  refine⟨_,_,_,qoT h (hr _ (by simp)) (hr _ (by simp)),qo8 h,fun h0=>?_⟩
  have hh:xG l n=false:=by
   cases hq:xG l n with
   |false=>rfl
   |true=>
    split at h0
    ·simp[qg0,hq]at h0
    ·rename_i hd;exact absurd h0 hd
  refine⟨Asc.ins ha hh,?_⟩
  have hp:=qeS l n
  simp[qhi]
  omega
 ·obtain⟨n,rfl⟩:=qgX (show(ns.length:Int)=1 from hn)
  obtain⟨day,load,rfl⟩:=qma (show(vs.length:Int)=2 from hs)
  refine⟨_,_,_,qmx h (hr _ (by simp)).1,qmm h,fun _=>⟨?_,by simp[qf3]⟩⟩
  rw[qik]
  exact ha.map fun s=>by split<;>rfl
 ·obtain⟨n,rfl⟩:=qgX (show(ns.length:Int)=1 from hn)
  obtain⟨day,load,rfl⟩:=qma (show(vs.length:Int)=2 from hs)
  refine⟨_,_,_,qpb h (hr _ (by simp)).1,qo6 h,fun _=>⟨?_,by simp[qf3]⟩⟩
  rw[qik]
  exact ha.map fun s=>by split<;>rfl
 ·obtain⟨n,rfl⟩:=qgX (show(ns.length:Int)=1 from hn)
  obtain⟨day,rfl⟩:=qgX (show(vs.length:Int)=1 from hs)
  refine⟨_,_,_,qmW h (hr _ (by simp)).1,qnf h,fun _=>⟨?_,by simp[qf3]⟩⟩
  rw[qik]
  exact ha.map fun s=>by split<;>rfl
 ·obtain⟨n,rfl⟩:=qgX (show(ns.length:Int)=1 from hn)
  obtain⟨day,rfl⟩:=qgX (show(vs.length:Int)=1 from hs)
  refine⟨_,_,_,qkh h (hr _ (by simp)).1,qjU h,fun _=>⟨?_,by simp⟩⟩
  exact ha.map fun s=>by unfold qcw;split<;>rfl
 ·simp at hu
def qiu (N:Nat) (c:List qg):Option zw:=c.foldlM (fun r e=>vH N r e) ⟨0,[]⟩
theorem qfP {N:Nat} (c:List qg) (hc:c.length≤1000): ∀(K k:Nat) (d:Int) (l:List qc),k≤c.length→c.length<K+k→vL N c K d l (k:Int)=((c.drop k).foldlM (fun r e=>vH N r e) (⟨d,l⟩:zw)).map fun r=>(r.Day,r.Slings)
 |0,k,d,l,h,hK=>by omega
 |K+1,k,d,l,h,hK=>by
  unfold vL
  by_cases hk:k<c.length
  ·rw[if_pos (by omega),qJ,List.getElem?_eq_getElem hk,Option.bind_some,List.drop_eq_getElem_cons hk,List.foldlM_cons,kg (by omega)]
   cases vH N ⟨d,l⟩ c[k]with
   |none=>rfl
   |some r=>
    simp only[Option.bind_some]
    rw[qfP c hc K (k+1) _ _ (by omega) (by omega)]
    rfl
  ·rw[if_neg (by omega),List.drop_of_length_le (by omega)]
   rfl
theorem qfK {N:Nat} {c:List qg} (hc:c.length≤1000) (hN:2000<N):yP N c=qiu N c:=by
 unfold yP
 rw[show vL N c N 0 [] 0=vL N c N 0 [] ((0:Nat):Int)from rfl,qfP c hc N 0 0 [] (by omega) (by omega),List.drop_zero]
 unfold qiu
 cases c.foldlM (fun r e=>vH N r e) (⟨0,[]⟩:zw)<;>rfl
theorem qlJ (N:Nat) (c:List qg) (e:qg):qiu N (c++[e])=(qiu N c).bind fun r=>vH N r e:=by
 unfold qiu
 rw[List.foldlM_append]
 cases c.foldlM (fun r e=>vH N r e) (⟨0,[]⟩:zw)with
 |none=>rfl
 |some r=>simp[List.foldlM]
structure Rel (N:Nat) (c:List qg) (ss:List StateT):Prop where
 len:ss.length=c.length
 at_: ∀(j:Nat) (s:StateT) (e:qg),ss[j]? =some s→c[j]? =some e→s.number=e.Number∧qiu N (c.take (j+1))=some ⟨s.register.Day,s.register.Slings⟩∧Asc s.register.Slings∧s.register.Slings.length≤j+1
theorem Rel.nil (N:Nat):Rel N [] []:=⟨rfl,by simp⟩
theorem Rel.last {N:Nat} {c:List qg} {ss:List StateT} (h:Rel N c ss):(ss=[]∧c=[])∨ ∃s,ss[ss.length-1]? =some s∧0<ss.length∧qiu N c=some ⟨s.register.Day,s.register.Slings⟩∧Asc s.register.Slings∧s.register.Slings.length≤c.length:=by
 rcases Nat.eq_zero_or_pos ss.length with h0|h0
 ·have h1:=h.len
  exact .inl ⟨List.length_eq_zero_iff.1 h0,List.length_eq_zero_iff.1 (by omega)⟩
 ·have hlt:ss.length-1<ss.length:=by omega
  have hlc:ss.length-1<c.length:=by have:=h.len;omega
  obtain⟨_,h2,h3,h4⟩:=h.at_ _ _ _ (List.getElem?_eq_getElem hlt) (List.getElem?_eq_getElem hlc)
  rw[show ss.length-1+1=c.length by have:=h.len;omega,List.take_length]at h2
  exact .inr ⟨_,List.getElem?_eq_getElem hlt,h0,h2,h3,by omega⟩
theorem Rel.pop {N:Nat} {c:List qg} {ss:List StateT} (h:Rel N c ss):Rel N c.dropLast (ss.take (ss.length-1)):=by
 refine⟨by rw[List.length_take,List.length_dropLast,h.len];omega,fun j s e hs he=>?_⟩
 rw[List.getElem?_take]at hs
 rw[List.getElem?_dropLast]at he
 split at hs
 ·rename_i hj
  split at he
  ·rename_i hj2
   obtain⟨h1,h2,h3,h4⟩:=h.at_ j s e hs he
   refine⟨h1,?_,h3,h4⟩
   rw[List.dropLast_eq_take,List.take_take,Nat.min_eq_left (by omega)]
   exact h2
  ·cases he
 ·cases hs
theorem Rel.push {N:Nat} {c:List qg} {ss:List StateT} (h:Rel N c ss) {e:qg} {d:Int} {l:List qc} (hr:qiu N (c++[e])=some ⟨d,l⟩) (ha:Asc l) (hl:l.length≤c.length+1):Rel N (c++[e]) (ss++[⟨e.Number,⟨d,l⟩⟩]):=by
 have hlen:=h.len
 refine⟨by simp[hlen],fun j s e' hs he=>?_⟩
 rcases Nat.lt_or_ge j ss.length with hj|hj
 ·rw[List.getElem?_append_left hj]at hs
  rw[List.getElem?_append_left (by omega)]at he
  obtain⟨h1,h2,h3,h4⟩:=h.at_ j s e' hs he
  refine⟨h1,?_,h3,h4⟩
  rw[List.take_append_of_le_length (by omega)]
  exact h2
 ·rw[List.getElem?_append_right hj]at hs
  rw[List.getElem?_append_right (by omega)]at he
  have hj0:j-ss.length=0:=by
   have:=(List.getElem?_eq_some_iff.1 hs).1
   simp at this
   omega
  rw[hj0]at hs
  rw[show j-c.length=0 by omega]at he
  simp only[List.getElem?_cons_zero,Option.some.injEq]at hs he
  subst hs he
  refine⟨rfl,?_,ha,by simp only;omega⟩
  rw[List.take_of_length_le (by simp;omega)]
  exact hr
def qc9 (N:Nat) (c:List qg) (k:Nat) (e:qg):Int:=
 if qb6 e≠0 then qb6 e else if e.Number≠((k+1:Nat):Int)then 11 else if(e.Kind==qaj)=true then(if c=[]then 12 else 0)else((yP N c).bind fun r=>yG N r e).getD 0
def qek (c:List qg) (e:qg):List qg:=if(e.Kind==qaj)=true then c.dropLast else c++[e]
structure Pre (N:Nat) (c:List qg) (ss:List StateT) (k:Nat) (e:qg):Prop where
 rel:Rel N c ss
 ck:c.length≤k
 k1:k<1000
 big:2000<N
 max:N<4611686018427387904
 short:qis N e
theorem qgr {evs:List qg} {o:Option (List StateT)} {N:Nat} {c:List qg} (h:Rel N c (hof o)) (hc:c.length≤1000) (hN:2000<N): ∃o' d l,zu evs o=some (o',d,l)∧hof o'=hof o∧yP N c=some ⟨d,l⟩∧Asc l∧l.length≤c.length:=by
 rw[qfK hc hN]
 rcases h.last with⟨h1,rfl⟩|⟨s,h1,h2,h3,h4,h5⟩
 ·cases o with
  |none=>exact⟨none,0,[],by simp[zu],rfl,rfl,List.Pairwise.nil,by simp⟩
  |some l=>
   have:l=[]:=h1
   subst this
   exact⟨some [],0,[],by simp[zu],rfl,rfl,List.Pairwise.nil,by simp⟩
 ·cases o with
  |none=>simp[hof]at h2
  |some l=>
   have h1:l[l.length-1]? =some s:=h1
   have h2:0<l.length:=h2
   have hlen:l.length=c.length:=h.len
   refine⟨some l,s.register.Day,s.register.Slings,?_,rfl,h3,h4,h5⟩
   have: ¬((l.length:Int)=0):=by omega
   simp only[zu,this,decide_false,Option.bind_some,Bool.false_eq_true,if_false]
   rw[qeB (by omega) h2,qJ,h1]
   rfl
theorem qgU {e:qg} (hn:e.Names.length≤1000) (hv:e.Values.length≤1000):jH e=some e:=by
 have e1:slices_Clone_string e.Names=some e.Names:=by
  cases hq:e.Names with
  |nil=>
   simp only[slices_Clone_string,j5,qeX]
   rw[jQ (by simp) (by simp)]
   simp
  |cons x xs=>
   rw[hq]at hn
   simp only[slices_Clone_string,jA]
   rw[jQ (by simp only[List.length_nil];omega) (by simp only[List.length_nil];omega)]
   rfl
 have e2:slices_Clone_int e.Values=some e.Values:=by
  cases hq:e.Values with
  |nil=>
   simp only[slices_Clone_int,xe,qeX]
   rw[jQ (by simp) (by simp)]
   simp
  |cons x xs=>
   rw[hq]at hv
   simp only[slices_Clone_int,y8]
   rw[jQ (by simp only[List.length_nil];omega) (by simp only[List.length_nil];omega)]
   rfl
 unfold jH
 rw[e1,e2]
 rfl
theorem qly {N:Nat} {c:List qg} {k:Nat} {e:qg} {evs:List qg} {o:Option (List StateT)} (h:Pre N c (hof o) k e) (hk:evs.length=k) (hc:qb6 e=0):
 ∃evs' o',jU N evs o e.Number e.Kind e.Names e.Values e.Text=some (evs',o',qc9 N c k e)∧(qc9 N c k e=0→evs'=evs++[e]∧Rel N (qek c e) (hof o')∧(qek c e).length≤k+1)∧(qc9 N c k e≠0→evs'=evs∧hof o'=hof o):=by
 obtain⟨hrel,hck,hk1,hN,hM,hs⟩:=h
 have hv:=qiI hc
 have hlen:(e.Names.length≤3)∧(e.Values.length≤3):=by
  have h1:=hv.names
  have h2:=hv.values
  have h3:(j6 e.Kind).1≤2∧(j6 e.Kind).2.1≤3:=by
   unfold j6
   repeat' split
   all_goals decide
  omega
 have hcopy:jH (⟨e.Number,e.Kind,e.Names,e.Values,e.Text⟩:qg)=some e:=qgU (e:=e) (by omega) (by omega)
 have happ:app 88 evs [e]=some (evs++[e]):=jQ (by simp;omega) (by simp;omega)
 unfold jU
 have hw:w64 ((evs.length:Int)+1)=((k+1:Nat):Int):=by rw[kg (by omega),hk]
 rw[hw]
 rw[show([117,110,100,111]:Str)=qaj from rfl]
 have c0:(qb6 e≠0)=False:=by simp[hc]
 unfold qc9
 simp only[c0,if_false]
 by_cases h1:e.Number=((k+1:Nat):Int)
 ·have c1:((!decide (e.Number=((k+1:Nat):Int)))=true)=False:=by simp[h1]
  have c2:(e.Number≠((k+1:Nat):Int))=False:=by simp[h1]
  simp only[c1,c2,if_false]
  by_cases hu:(e.Kind==qaj)=true
  ·simp only[hu,if_true]
   cases o with
   |none=>
    have hc0:c=[]:=by have:=hrel.len;simp[hof]at this;exact List.length_eq_zero_iff.1 this.symm
    rw[if_pos hc0]
    exact⟨evs,none,by simp,fun h=>(by cases h),fun _=>⟨rfl,rfl⟩⟩
   |some l=>
    have hl:l.length=c.length:=hrel.len
    by_cases hl0:l.length=0
    ·have hc0:c=[]:=List.length_eq_zero_iff.1 (by omega)
     rw[if_pos hc0]
     exact⟨evs,some l,by simp[hl0],fun h=>(by cases h),fun _=>⟨rfl,rfl⟩⟩
    ·have hc0: ¬c=[]:=fun e=>hl0 (by rw[hl,e];rfl)
     rw[if_neg hc0]
     have: ¬((l.length:Int)=0):=by omega
     refine⟨evs++[e],some (l.take (l.length-1)),?_,fun _=>⟨rfl,?_,?_⟩,fun h=>absurd rfl h⟩
     ·simp only[this,decide_false,Option.bind_some,Bool.false_eq_true,if_false]
      rw[qeB (by omega) (by omega),qeV (by omega)]
      simp only[Option.bind_some]
      rw[hcopy,Option.bind_some,happ]
      rfl
     ·unfold qek
      rw[if_pos hu]
      exact hrel.pop
     ·unfold qek
      rw[if_pos hu,List.length_dropLast]
      omega
  ·simp only[hu,if_false,Bool.false_eq_true]
   obtain⟨o',d,l,e1,e2,e3,e4,e5⟩:=qgr (evs:=evs) hrel (by omega) hN
   obtain⟨err,day,new,hP,hR,hA⟩:=qn7 (d:=d) (⟨e4,by omega,hN,hM⟩:qbK N l) hv (by simpa using hu)
   obtain⟨x,l',hP1,hP2⟩:=hP
   rw[e1,Option.bind_some]
   simp only
   rw[hP1,Option.bind_some,e3,Option.bind_some,hR.ref,Option.getD_some]
   simp only
   by_cases h0:err=0
   ·obtain⟨rfl,rfl⟩:=hP2 h0
    rw[if_neg (by simp[h0])]
    obtain⟨hA1,hA2⟩:=hA h0
    have hreg:qiu N (c++[e])=some ⟨x,l'⟩:=by
     rw[qlJ,←qfK (by omega) hN,e3,Option.bind_some]
     exact hR.aft h0
    have hrel':Rel N (c++[e]) (hof o'++[⟨e.Number,⟨x,l'⟩⟩]):=by
     rw[e2]
     exact hrel.push hreg hA1 (by omega)
    have hlo:(hof o').length≤1000:=by rw[e2,hrel.len];omega
    have fin: ∀o2:Option (List StateT),hof o2=hof o'++[⟨e.Number,⟨x,l'⟩⟩]→err=0→(evs++[e]=evs++[e]∧Rel N (qek c e) (hof o2)∧(qek c e).length≤k+1):=by
     intro o2 ho2 _
     unfold qek
     rw[if_neg hu,ho2]
     exact⟨rfl,hrel',by simp;omega⟩
    cases o' with
    |none=>
     simp only[Option.bind_some]
     rw[hcopy,Option.bind_some,happ,Option.bind_some]
     exact⟨_,_,by rw[h0],fin (some [⟨e.Number,⟨x,l'⟩⟩]) rfl,fun h=>absurd h0 h⟩
    |some l2=>
     have hlo:l2.length≤1000:=hlo
     simp only
     rw[jQ (by simp;omega) (by simp;omega)]
     simp only[Option.bind_some]
     rw[hcopy,Option.bind_some,happ,Option.bind_some]
     exact⟨_,_,by rw[h0],fin (some (l2++[⟨e.Number,⟨x,l'⟩⟩])) rfl,fun h=>absurd h0 h⟩
   ·rw[if_pos (by simp[h0])]
    exact⟨evs,o',rfl,fun h=>absurd h h0,fun _=>⟨rfl,e2⟩⟩
 ·have c1:((!decide (e.Number=((k+1:Nat):Int)))=true)=True:=by simp only[h1,decide_false,Bool.not_false]
  have c2:(e.Number≠((k+1:Nat):Int))=True:=eq_true h1
  simp only[c1,c2,if_true]
  exact⟨evs,o,rfl,fun h=>(by cases h),fun _=>⟨rfl,rfl⟩⟩
theorem qpa {N:Nat} {c:List qg} {k:Nat} {e:qg} {evs:List qg} {o:Option (List StateT)} (h:Pre N c (hof o) k e) (hk:evs.length=k):
 ∃evs' o',jr N evs o e.Number e.Kind e.Names e.Values e.Text=some (evs',o',qc9 N c k e)∧(qc9 N c k e=0→evs'=evs++[e]∧Rel N (qek c e) (hof o')∧(qek c e).length≤k+1)∧(qc9 N c k e≠0→evs'=evs∧hof o'=hof o):=by
 unfold jr
 have hN:=h.big
 rw[show(⟨e.Number,e.Kind,e.Names,e.Values,e.Text⟩:qg)=e from rfl,qhw h.max (by omega) h.short,Option.bind_some]
 by_cases hc:qb6 e=0
 ·rw[if_neg (by simp[hc])]
  obtain⟨evs',o',h1,h2⟩:=qly h hk hc
  rw[h1]
  exact⟨evs',o',rfl,h2⟩
 ·rw[if_pos (by simp[hc])]
  have:qc9 N c k e=qb6 e:=by unfold qc9;rw[if_pos hc]
  rw[this]
  exact⟨evs,o,rfl,fun h=>absurd h hc,fun _=>⟨rfl,rfl⟩⟩
def qgZ (N:Nat):List qg→Nat→List qg→Int×Int×List qg
 |[],_,c=>(0,0,c)
 |e::es,k,c=>if qc9 N c k e=0 then qgZ N es (k+1) (qek c e)else(((k+1:Nat):Int),qc9 N c k e,[])
structure Evs (N:Nat) (l:List qg):Prop where
 len:l.length≤1000
 short: ∀e∈l,qis N e
 big:2000<N
 max:N<4611686018427387904
theorem qfx (N:Nat) (e:qg) (es:List qg) (k:Nat) (c:List qg):qgZ N (e::es) k c=if qc9 N c k e=0 then qgZ N es (k+1) (qek c e)else(((k+1:Nat):Int),qc9 N c k e,[]):=rfl
theorem qfT (N:Nat) (e:qg): ∀(l:List qg) (k:Nat) (c:List qg),qgZ N (l++[e]) k c=if(qgZ N l k c).2.1=0 then qgZ N [e] (k+l.length) (qgZ N l k c).2.2 else qgZ N l k c
 |[],k,c=>by
  show qgZ N [e] k c=if(0:Int)=0 then qgZ N [e] (k+0) c else _
  rw[if_pos rfl]
  rfl
 |x::l,k,c=>by
  rw[List.cons_append,qfx N x (l++[e]),qfx N x l]
  by_cases h:qc9 N c k x=0
  ·rw[if_pos h,if_pos h,qfT N e l (k+1) (qek c x),List.length_cons,show k+1+l.length=k+(l.length+1)by omega]
  ·rw[if_neg h,if_neg h,if_neg h]
def spl:Str→Str→List Str
 |a,[]=>[a]
 |a,c::s=>if c=32 then a::spl [] s else spl (a++[c]) s
noncomputable def qaF (s:Str):Nat:=qjK 32 s
theorem qch (c:UInt8) (s:Str):qaF (c::s)=if c=32 then qaF s+1 else qaF s:=by
 show jh (Nat.beq c.toNat 32) (Nat.succ (qaF s)) (qaF s)=_
 rw[zi]
 by_cases h:c=32
 ·subst h;rfl
 ·have h2:c.toNat≠32:=fun e=>h (UInt8.toNat_inj.1 (by rw[e];rfl))
  rw[if_neg (by rw[qa8 h2];simp),if_neg h]
theorem qe3: ∀s:Str,qaF s≤s.length
 |[]=>Nat.le_refl _
 |c::s=>by
  have:=qe3 s
  rw[qch,List.length_cons]
  split<;>omega
def qff:Str→Option Nat
 |[]=>none
 |c::s=>if c=32 then some 0 else(qff s).map (· +1)
theorem qhK: ∀(s:Str) (j:Nat),qhA 32 s j=match qff s with|some k=>((j+k:Nat):Int)|none=> -1
 |[],_=>rfl
 |c::s,j=>by
  show jh (Nat.beq c.toNat 32) (Int.ofNat j) (qhA 32 s (j+1))=_
  rw[zi,qhK s (j+1),qff]
  by_cases h:c=32
  ·subst h;rfl
  ·have h2:c.toNat≠32:=fun e=>h (UInt8.toNat_inj.1 (by rw[e];rfl))
   rw[if_neg (by rw[qa8 h2];simp),if_neg h]
   cases qff s with
   |none=>rfl
   |some k=>
    simp only[Option.map_some]
    congr 1
    omega
theorem qfu: ∀{s:Str},qff s=none→qaF s=0∧ ∀a,spl a s=[a++s]
 |[],_=>⟨rfl,fun a=>by simp[spl]⟩
 |c::s,h=>by
  unfold qff at h
  by_cases hc:c=32
  ·rw[if_pos hc]at h;cases h
  ·rw[if_neg hc]at h
   cases hp:qff s with
   |some k=>rw[hp]at h;cases h
   |none=>
    obtain⟨h1,h2⟩:=qfu hp
    refine⟨by rw[qch,if_neg hc,h1],fun a=>?_⟩
    rw[spl,if_neg hc,h2]
    simp
theorem qfg: ∀{s:Str} {k:Nat},qff s=some k→k<s.length∧qaF s=qaF (s.drop (k+1))+1∧ ∀a,spl a s=(a++s.take k)::spl [] (s.drop (k+1))
 |[],_,h=>by cases h
 |c::s,k,h=>by
  unfold qff at h
  by_cases hc:c=32
  ·rw[if_pos hc]at h
   obtain rfl:=Option.some.inj h
   refine⟨by simp,?_,fun a=>?_⟩
   ·rw[qch,if_pos hc];rfl
   ·rw[spl,if_pos hc];simp
  ·rw[if_neg hc]at h
   cases hp:qff s with
   |none=>rw[hp]at h;cases h
   |some j=>
    rw[hp]at h
    obtain rfl:=Option.some.inj h
    obtain⟨h1,h2,h3⟩:=qfg hp
    refine⟨by simp;omega,?_,fun a=>?_⟩
    ·rw[qch,if_neg hc,h2,List.drop_succ_cons]
    ·rw[spl,if_neg hc,h3]
     simp
theorem qps {s:Str} (h:qaF s=0):qff s=none:=by
 cases hp:qff s with
 |none=>rfl
 |some k=>have:=(qfg hp).2.1;omega
theorem qeL: ∀(a s:Str),(spl a s).length=qaF s+1
 |a,[]=>rfl
 |a,c::s=>by
  rw[qch,spl]
  by_cases hc:c=32
  ·rw[if_pos hc,if_pos hc,List.length_cons,qeL]
  ·rw[if_neg hc,if_neg hc,qeL]
theorem qnO {s:Str}:strings_Index s [32]=some (qhA 32 s 0):=by
 unfold strings_Index stringslite_Index stringslite_IndexByte qig
 have h0: ¬(([32]:Str).length:Int)=0:=by simp
 have h1:(([32]:Str).length:Int)=1:=by simp
 rw[if_neg h0]
 simp only[Option.bind_some]
 by_cases hs:(([32]:Str)==s)=true
 ·have:s=[32]:=(beq_iff_eq.1 hs).symm
  subst this
  rfl
 ·rw[if_neg hs,if_pos h1,xE,show([32]:Str)[0]? =some 32 from rfl,Option.bind_some,if_pos (by decide)]
  rfl
theorem qmZ {N:Nat} {s:Str}:strings_Count N s [32]=some (qaF s:Int):=by
 unfold strings_Count qia
 have h0: ¬(([32]:Str).length:Int)=0:=by simp
 have h1:(([32]:Str).length:Int)=1:=by simp
 rw[if_neg h0,if_pos h1,xE,show([32]:Str)[0]? =some 32 from rfl,Option.bind_some,if_pos (by decide)]
 rfl
theorem qfG (s0:Str) (n:Int) (c:Nat) (hc:c<4611686018427387904) (hn:w64 ((if(w64 ((s0.length:Int)+1))<n then(w64 ((s0.length:Int)+1))else n)-1)=(c:Int)): ∀(K:Nat) (l:List Str) (s:Str) (i:Nat),i+qaF s=c→l.length=c+1→c<K+i→s.length<4611686018427387904→
 ∃l' s',zV s0 [32] 0 n K l s (i:Int)=some (l',s',(c:Int))∧l'.length=c+1∧l'.take c++[s']=l.take i++spl [] s
 |0,l,s,i,h,hl,hK,hs=>by omega
 |K+1,l,s,i,h,hl,hK,hs=>by
  unfold zV
  rw[hn]
  by_cases hi:i<c
  ·rw[if_pos (by omega),qnO,qhK]
   cases hp:qff s with
   |none=>have:=(qfu hp).1;omega
   |some k=>
    obtain⟨h1,h2,h3⟩:=qfg hp
    simp only[Option.bind_some,Nat.zero_add]
    have w1:w64 ((k:Int)+0)=(k:Int):=by rw[Int.add_zero];exact qaq (by omega) (by omega)
    have w2:w64 ((k:Int)+(([32]:Str).length:Int))=((k+1:Nat):Int):=kg (by omega)
    rw[if_neg (by omega),w1,w2,qeV (by omega),Option.bind_some,qJ,List.getElem?_eq_getElem (by omega),Option.bind_some,xD (by omega),Option.bind_some,qhj (by omega),Option.bind_some,kg (by omega)]
    obtain⟨l',s',g1,g2,g3⟩:=qfG s0 n c hc hn K (l.set i (s.take k)) (s.drop (k+1)) (i+1) (by omega) (by simpa using hl) (by omega) (by simp;omega)
    refine⟨l',s',g1,g2,?_⟩
    rw[g3,h3,List.nil_append,List.take_add_one,List.getElem?_set_self (by omega)]
    simp only[List.take_set,Option.toList_some,List.append_assoc,List.singleton_append]
    rw[List.set_eq_of_length_le (by rw[List.length_take];exact Nat.min_le_left _ _)]
  ·have hi:i=c:=by omega
   subst hi
   rw[if_neg (by omega)]
   refine⟨l,s,rfl,hl,?_⟩
   have:=(qfu (qps (show qaF s=0 by omega))).2 []
   rw[this,List.nil_append]
theorem qmX {N:Nat} {s:Str} (hs:s.length<100000) (hN:s.length<N):strings_Split N s [32]=some (spl [] s):=by
 unfold strings_Split strings_genSplit
 have hc:=qe3 s
 have w1:w64 ((qaF s:Int)+1)=((qaF s+1:Nat):Int):=kg (by omega)
 have w2:w64 ((s.length:Int)+1)=((s.length+1:Nat):Int):=kg (by omega)
 have w3:(if((s.length+1:Nat):Int)<((qaF s+1:Nat):Int)then((s.length+1:Nat):Int)else((qaF s+1:Nat):Int))=((qaF s+1:Nat):Int):=if_neg (by omega)
 have w4:w64 (((qaF s+1:Nat):Int)-1)=(qaF s:Int):=by rw[qaq (by omega) (by omega)];omega
 rw[if_neg (by omega),if_neg (by decide),if_pos (by omega),qmZ]
 simp only[Option.bind_some,w1,w2,w3]
 have e:mk 16 ((qaF s+1:Nat):Int) ([]:Str)=some (List.replicate (qaF s+1) []):=by
  unfold mk
  rw[if_pos ⟨by omega,by omega,by omega⟩,Int.toNat_natCast]
 rw[e,Option.bind_some]
 obtain⟨l',s',g1,g2,g3⟩:=qfG s ((qaF s+1:Nat):Int) (qaF s) (by omega) (by rw[w2,w3,w4]) N (List.replicate (qaF s+1) []) s 0 (by omega) (by simp) (by omega) (by omega)
 rw[show zV s [32] 0 ((qaF s+1:Nat):Int) N (List.replicate (qaF s+1) []) s 0=_ from g1]
 have hx:l'[qaF s]? =some l'[qaF s]:=List.getElem?_eq_getElem (by omega)
 simp only[Option.bind_some]
 rw[qJ,hx,Option.bind_some,xD (by omega),Option.bind_some,w1,qeV (by simp;omega),Option.bind_some,Option.bind_some]
 rw[List.take_zero,List.nil_append]at g3
 rw[←g3,List.take_add_one,List.getElem?_set_self (by omega),List.take_set,List.set_eq_of_length_le (by simp;omega)]
 rfl
theorem qgc {α:Type} {l:List α} {a b:Nat} (h1:a≤b) (h2:b≤l.length):cut l (a:Int) (b:Int)=some ((l.drop a).take (b-a)):=by
 unfold cut
 rw[if_pos ⟨by omega,by omega,by omega⟩]
 simp only[Int.toNat_natCast,Option.some.injEq]
theorem qfh (s:Str) (hs:s.length<100000): ∀(K:Nat) (l:List Str) (f i:Nat),f≤i→i≤s.length→s.length<K+i→l.length≤i→
 jC s (K+1) l (f:Int) (i:Int)=some (l++spl ((s.drop f).take (i-f)) (s.drop i))
 |K,l,f,i,h1,h2,hK,hl=>by
  unfold jC
  rw[if_pos (by omega)]
  by_cases hi:i=s.length
  ·subst hi
   rw[if_pos rfl]
   simp only[Option.bind_some,if_true]
   rw[qgc h1 (Nat.le_refl _),Option.bind_some,jQ (by simp;omega) (by simp;omega),Option.bind_some,Option.bind_some,kg (by omega)]
   have hd:s.drop s.length=[]:=List.drop_length
   rw[hd,spl]
   cases K with
   |zero=>omega
   |succ K=>
    simp only
    unfold jC
    rw[if_neg (by omega)]
  ·have hx:s[i]? =some s[i]:=List.getElem?_eq_getElem (by omega)
   have hd:s.drop i=s[i]::s.drop (i+1):=List.drop_eq_getElem_cons (by omega)
   rw[if_neg (by omega),qJ,hx,Option.bind_some,hd,spl]
   generalize s[i]=c at hx
   cases K with
   |zero=>omega
   |succ K=>
   by_cases hc:c=32
   ·subst hc
    simp only[Option.bind_some,show decide ((((32:UInt8).toNat:Nat):Int)=32)=true by decide,if_true]
    rw[qgc h1 h2,Option.bind_some,jQ (by simp;omega) (by simp;omega),Option.bind_some,Option.bind_some,kg (by omega)]
    simp only
    rw[qfh s hs K _ (i+1) (i+1) (Nat.le_refl _) (by omega) (by omega) (by simp;omega),Nat.sub_self,List.take_zero,List.append_assoc]
    rfl
   ·have hc2: ¬((c.toNat:Int)=32):=fun e=>hc (UInt8.toNat_inj.1 (by have:c.toNat=32:=by omega
                                                                    rw[this];rfl))
    simp only[Option.bind_some,decide_eq_false hc2,Bool.false_eq_true,if_false,if_neg hc]
    rw[kg (by omega),qfh s hs K l f (i+1) (by omega) (by omega) (by omega) (by omega)]
    congr 3
    rw[show i+1-f=(i-f)+1 by omega,List.take_add_one,List.getElem?_drop,show f+(i-f)=i by omega,hx]
    rfl
theorem qlv {N:Nat} {s:Str} (hs:s.length<100000) (hN:s.length+1<N):qbc N s=some (spl [] s):=by
 unfold qbc
 obtain⟨K,rfl⟩: ∃K,N=K+1:=⟨N-1,by omega⟩
 rw[show jC s (K+1) [] 0 0=jC s (K+1) [] ((0:Nat):Int) ((0:Nat):Int)from rfl,qfh s hs K [] 0 0 (Nat.le_refl _) (Nat.zero_le _) (by omega) (by simp)]
 simp
def qaG (c:UInt8):Bool:=decide (48≤c.toNat)&&decide (c.toNat≤57)
def qfE (n:Nat) (s:List UInt8):Nat:=s.foldl (fun a c=>a*10+(c.toNat-48)) n
theorem qmp (n:Nat):qfE n []=n:=List.foldl_nil
theorem qdP (n:Nat) (c:UInt8) (s:List UInt8):qfE n (c::s)=qfE (n*10+(c.toNat-48)) s:=by
 unfold qfE
 rw[List.foldl_cons]
theorem qoA (s:List UInt8): ∀n:Nat,s.all qaG=true→qfE n s<(n+1)*10^s.length:=by
 induction s with
 |nil=>
  intro n _
  rw[List.length_nil,Nat.pow_zero,Nat.mul_one,qmp]
  exact Nat.lt_succ_self n
 |cons c s ih=>
  intro n h
  rw[List.all_cons,Bool.and_eq_true]at h
  have h1:=ih (n*10+(c.toNat-48)) h.2
  have hd:c.toNat-48≤9:=by
   have:=h.1
   simp[qaG]at this
   omega
  have h2:n*10+(c.toNat-48)+1≤(n+1)*10:=by omega
  rw[qdP,List.length_cons,Nat.pow_succ,Nat.mul_comm (10^s.length) 10,←Nat.mul_assoc]
  exact Nat.lt_of_lt_of_le h1 (Nat.mul_le_mul_right _ h2)
theorem ne48 {c:UInt8} (h: ¬c=48): ¬((c.toNat:Int)=48):=fun e=>h (UInt8.toNat_inj.1 (show c.toNat=48 from by omega))
def intB (s:Str):Bool:=decide (1≤s.length)&&(decide (s.length≤9)&&(s.all qaG&&(decide (s.length=1)||!(s[0]? ==some 48))))
def qdd (s:Str):Int×Bool:=if intB s=true then((qfE 0 s:Nat),true)else(0,false)
theorem qfM (s:Str) (hs:s.length≤9): ∀(K i n:Nat),i≤s.length→s.length<K+i→(∀j≤s.length,i≤j→qfE n ((s.drop i).take (j-i))<10^9∨((s.drop i).take (j-i)).all qaG=false)→
 jO s K (n:Int) (i:Int)=some (if(s.drop i).all qaG=true then .inl ((qfE n (s.drop i):Nat):Int)else .inr (0,false))
 |0,i,n,h,hK,_=>by omega
 |K+1,i,n,h,hK,hb=>by
  unfold jO
  by_cases hi:i<s.length
  ·have hx:s[i]? =some s[i]:=List.getElem?_eq_getElem hi
   have hd:s.drop i=s[i]::s.drop (i+1):=List.drop_eq_getElem_cons hi
   rw[if_pos (by omega),qJ,hx,Option.bind_some,hd,List.all_cons]
   rw[hd]at hb
   generalize s[i]=c at hx hb
   by_cases hc:qaG c=true
   ·have h1:48≤c.toNat∧c.toNat≤57:=by simpa[qaG]using hc
    have n1: ¬(c.toNat:Int)<48:=by omega
    have n2: ¬(c.toNat:Int)>57:=by omega
    rw[if_neg n1]
    simp only[Option.bind_some,decide_eq_false n2,Bool.false_eq_true,if_false,hc,Bool.true_and]
    have hn:qfE n [c]<10^9:=by
     rcases hb (i+1) (by omega) (by omega)with h|h
     ·rw[show i+1-i=1 by omega]at h;simpa using h
     ·rw[show i+1-i=1 by omega]at h;simp[hc]at h
    have hn:n*10+(c.toNat-48)<1000000000:=hn
    have w0:IntKind.wrap .u8 ((c.toNat:Int)-48)=((c.toNat-48:Nat):Int):=by
     unfold IntKind.wrap
     have e:(2:Int)^IntKind.u8.bits=256:=by decide
     have e3:IntKind.u8.signed=false:=by decide
     simp only[e,e3,Bool.false_and,if_false,Bool.false_eq_true]
     omega
    have w1:w64 ((c.toNat-48:Nat):Int)=((c.toNat-48:Nat):Int):=qaq (by omega) (by omega)
    have w2:w64 (10*(n:Int))=((10*n:Nat):Int):=by rw[qaq (by omega) (by omega)];omega
    have w3:w64 (((10*n:Nat):Int)+((c.toNat-48:Nat):Int))=((n*10+(c.toNat-48):Nat):Int):=by rw[qaq (by omega) (by omega)];omega
    rw[w0,w1,w2,w3,kg (by omega),qfM s hs K (i+1) (n*10+(c.toNat-48)) (by omega) (by omega) (fun j hj hij=>?_)]
    ·rw[qdP]
    ·have:=hb j hj (by omega)
     rw[show j-i=(j-(i+1))+1 by omega,List.take_succ_cons,qdP,List.all_cons,hc,Bool.true_and]at this
     exact this
   ·have hc2:qaG c=false:=by simpa using hc
    rw[hc2,Bool.false_and]
    by_cases n1:(c.toNat:Int)<48
    ·rw[if_pos n1];rfl
    ·rw[if_neg n1]
     have n2:(c.toNat:Int)>57:=by
      simp[qaG]at hc2
      omega
     simp only[Option.bind_some,decide_eq_true n2,if_true,Bool.false_eq_true,if_false]
  ·rw[if_neg (by omega),List.drop_of_length_le (by omega)]
   rfl
theorem qjl {N:Nat} {s:Str} (hN:2000<N):qal N s=some (qdd s):=by
 unfold qal qdd intB
 by_cases h0:s.length=0
 ·have: ¬1≤s.length:=by omega
  rw[if_pos (by omega)]
  simp[this]
 by_cases h9:s.length>9
 ·have: ¬s.length≤9:=by omega
  rw[if_neg (by omega),if_pos (by omega)]
  simp[this]
 rw[if_neg (by omega),if_neg (by omega)]
 have a1:1≤s.length:=by omega
 have a2:s.length≤9:=by omega
 have key:jO s N 0 0=some (if s.all qaG=true then .inl ((qfE 0 s:Nat):Int)else .inr (0,false)):=by
  have:=qfM s a2 N 0 0 (Nat.zero_le _) (by omega) (fun j hj _=>by
   by_cases hq:((s.drop 0).take (j-0)).all qaG=true
   ·left
    have h1:=qoA _ 0 hq
    have h2:((s.drop 0).take (j-0)).length≤9:=by simp;omega
    have h3:(10:Nat)^((s.drop 0).take (j-0)).length≤10^9:=Nat.pow_le_pow_right (by omega) h2
    omega
   ·right;simpa using hq)
  rw[List.drop_zero]at this
  exact this
 rw[key]
 by_cases h1:s.length>1
 ·have hne: ¬s.length=1:=by omega
  have hx:s[0]? =some s[0]:=List.getElem?_eq_getElem (by omega)
  rw[if_pos (by omega),xE,hx]
  generalize s[0]=c
  by_cases hc:c=48
  ·subst hc
   simp[hne]
  ·have hc2: ¬((c.toNat:Int)=48):=ne48 hc
   have hc3:(some c==some (48:UInt8))=false:=by simpa using hc
   simp only[Option.bind_some,decide_eq_false hc2,Bool.false_eq_true,if_false,a1,a2,hne,hc3,decide_true,decide_false,Bool.true_and,Bool.not_false,Bool.or_true,Bool.and_true]
   by_cases hd:s.all qaG=true<;>simp[hd]
 ·have h1':s.length=1:=by omega
  rw[if_neg (by omega)]
  simp only[Option.bind_some,Bool.false_eq_true,if_false,a1,a2,h1',decide_true,Bool.true_and,Bool.true_or,Bool.and_true,Nat.le_refl]
  by_cases hd:s.all qaG=true<;>simp[hd]
theorem qmv (c:UInt8):([48,49,50,51,52,53,54,55,56,57]:Str).contains c=qaG c:=by
 rw[Bool.eq_iff_iff]
 simp only[List.contains_cons,List.contains_nil,Bool.or_eq_true,beq_iff_eq,qaG,Bool.and_eq_true,decide_eq_true_eq,←UInt8.toNat_inj,Bool.or_false]
 simp only[show(48:UInt8).toNat=48 from rfl,show(49:UInt8).toNat=49 from rfl,show(50:UInt8).toNat=50 from rfl,show(51:UInt8).toNat=51 from rfl,show(52:UInt8).toNat=52 from rfl,show(53:UInt8).toNat=53 from rfl,show(54:UInt8).toNat=54 from rfl,show(55:UInt8).toNat=55 from rfl,show(56:UInt8).toNat=56 from rfl,show(57:UInt8).toNat=57 from rfl]
 omega
theorem qca {α:Type} {p:α→Bool}: ∀{l:List α},l.dropWhile p=[]↔l.all p=true
 |[]=>by simp
 |x::l=>by
  rw[List.dropWhile_cons,List.all_cons]
  by_cases h:p x=true
  ·rw[if_pos h,h,Bool.true_and];exact qca
  ·rw[if_neg h];simp[h]
theorem ql3 {s:Str}:(Lib.trimS s [48,49,50,51,52,53,54,55,56,57]==[])=s.all qaG:=by
 have e:(fun c=>([48,49,50,51,52,53,54,55,56,57]:Str).contains c)=qaG:=funext qmv
 unfold Lib.trimS Lib.trimLeftS Lib.trimRightS
 rw[e]
 rw[Bool.eq_iff_iff,beq_iff_eq,qca,List.all_reverse]
 constructor
 ·intro h
  have h2: ∀x∈s.reverse.takeWhile qaG++s.reverse.dropWhile qaG,qaG x=true:=by
   intro x hx
   rcases List.mem_append.1 hx with hx|hx
   ·exact List.all_eq_true.1 List.all_takeWhile x hx
   ·exact List.all_eq_true.1 h x hx
  rw[List.takeWhile_append_dropWhile]at h2
  exact List.all_eq_true.2 fun x hx=>h2 x (by simpa using hx)
 ·intro h
  have:s.reverse.dropWhile qaG=[]:=qca.2 (by rw[List.all_reverse];exact h)
  rw[this]
  rfl
theorem qi1 {s:Str} (hs:s.length≤1000000):xm s=some (decide (1≤s.length)&&s.all qaG):=by
 have hT:qjf s [48,49,50,51,52,53,54,55,56,57]=some (Lib.trimS s [48,49,50,51,52,53,54,55,56,57]):=by
  unfold qjf
  rw[if_pos ⟨hs,by decide,by decide⟩]
 unfold xm
 simp only[hT,Option.bind_some,ql3]
 cases s with
 |nil=>rfl
 |cons x xs=>simp
theorem qgq: ∀(s:Str) (n:Nat),s.all qaG=true→Lib.decFrom n s=some (qfE n s)
 |[],n,_=>rfl
 |c::s,n,h=>by
  rw[List.all_cons,Bool.and_eq_true]at h
  unfold Lib.decFrom
  rw[qdP]
  have h1:48≤c.toNat∧c.toNat≤57:=by simpa[qaG]using h.1
  have e:Lib.digitVal c=some (c.toNat-48):=by unfold Lib.digitVal;rw[if_pos h1]
  rw[e]
  exact qgq s _ h.2
theorem qjg {s:Str} (h0:1≤s.length) (h:s.all qaG=true):Lib.atoi s=some ((qfE 0 s:Nat):Int):=by
 cases s with
 |nil=>simp at h0
 |cons c s=>
  have hc:qaG c=true:=by rw[List.all_cons,Bool.and_eq_true]at h;exact h.1
  have h1:48≤c.toNat∧c.toNat≤57:=by simpa[qaG]using hc
  unfold Lib.atoi Lib.decNat
  have n1: ¬(c==45)=true:=fun e=>by rw[beq_iff_eq.1 e]at h1;simp at h1
  have n2: ¬(c==43)=true:=fun e=>by rw[beq_iff_eq.1 e]at h1;simp at h1
  simp only
  rw[if_neg n1,if_neg n2,if_neg (by simp),qgq _ _ h]
  rfl
theorem qkq {s:Str} (hs:s.length≤1000000):xS s=some (qdd s):=by
 unfold xS qdd intB
 by_cases h9:s.length>9
 ·have: ¬s.length≤9:=by omega
  rw[if_pos (by omega)]
  simp[this]
 rw[if_neg (by omega),qi1 hs]
 have a2:s.length≤9:=by omega
 simp only[Option.bind_some]
 by_cases h0:s.length=0
 ·have: ¬1≤s.length:=by omega
  simp[this]
 have a1:1≤s.length:=by omega
 by_cases hd:s.all qaG=true
 ·have hx:s[0]? =some s[0]:=List.getElem?_eq_getElem (by omega)
  simp only[a1,a2,hd,decide_true,Bool.and_self,Bool.not_true,Bool.false_eq_true,if_false,Bool.true_and,xE]
  have hat:qjr s=some (((qfE 0 s:Nat):Int),()):=by
   unfold qjr
   rw[if_pos (by omega),qjg a1 hd]
   rfl
  rw[hx,Option.bind_some]
  by_cases hc:s[0]=48
  ·have hc1:((s[0].toNat:Int)=48):=by rw[hc];rfl
   rw[if_pos hc1]
   simp only[Option.bind_some]
   by_cases h1:s.length=1
   ·obtain⟨c,rfl⟩:=qgX (show(s.length:Int)=1 by omega)
    have hc:c=48:=hc
    subst hc
    rw[hat]
    rfl
   ·have: ¬(s==[48])=true:=fun e=>h1 (by rw[beq_iff_eq.1 e];rfl)
    have h48:(some s[0]==some (48:UInt8))=true:=by simpa using hc
    simp[this,h1,h48]
  ·have hc1: ¬((s[0].toNat:Int)=48):=ne48 hc
   have h48:(some s[0]==some (48:UInt8))=false:=by simpa using hc
   rw[if_neg hc1]
   simp only[Option.bind_some,Bool.false_eq_true,if_false,hat,h48,Bool.not_false,Bool.or_true,if_true]
 ·have hd2:s.all qaG=false:=by simpa using hd
  simp[a1,a2,hd2]
def ev0:qg:=⟨0,[],[],[],[]⟩
def qlb (ws:List Str):qg×Bool:=
 if((j6 (ws.headD [])).2.2&&(decide ((ws.length:Int)=1+(j6 (ws.headD [])).1+(j6 (ws.headD [])).2.1)&&(!(ws.any fun w=>([]:Str)==w)&&(ws.drop (1+(j6 (ws.headD [])).1.toNat)).all fun w=>(qdd w).2)))=true then
  (⟨0,ws.headD [],(ws.drop 1).take (j6 (ws.headD [])).1.toNat,(ws.drop (1+(j6 (ws.headD [])).1.toNat)).map fun w=>(qdd w).1,[]⟩,true)
 else(ev0,false)
def yc (s:Str):qg×Bool:=qlb (spl [] s)
theorem qfm (k:Str): ∃a b:Nat,a≤2∧b≤3∧(j6 k).1=(a:Int)∧(j6 k).2.1=(b:Int)∧((j6 k).2.2=true→k≠[]):=by
 unfold j6
 by_cases h1:(k==xR)=true
 ·simp only[h1,if_true];exact⟨2,3,by omega,by omega,rfl,rfl,fun _ e=>by rw[e]at h1;cases h1⟩
 by_cases h2:(k==qaC)=true
 ·simp only[h1,h2,if_true,if_false];exact⟨1,2,by omega,by omega,rfl,rfl,fun _ e=>by rw[e]at h2;cases h2⟩
 by_cases h3:(k==qb9)=true
 ·simp only[h1,h2,h3,if_true,if_false];exact⟨1,2,by omega,by omega,rfl,rfl,fun _ e=>by rw[e]at h3;cases h3⟩
 by_cases h4:(k==xZ)=true
 ·simp only[h1,h2,h3,h4,if_true,if_false];exact⟨1,1,by omega,by omega,rfl,rfl,fun _ e=>by rw[e]at h4;cases h4⟩
 by_cases h5:(k==jw)=true
 ·simp only[h1,h2,h3,h4,h5,if_true,if_false];exact⟨1,1,by omega,by omega,rfl,rfl,fun _ e=>by rw[e]at h5;cases h5⟩
 by_cases h6:(k==qaj)=true
 ·simp only[h1,h2,h3,h4,h5,h6,if_true,if_false];exact⟨0,0,by omega,by omega,rfl,rfl,fun _ e=>by rw[e]at h6;cases h6⟩
 simp only[h1,h2,h3,h4,h5,h6,if_false]
 exact⟨0,0,by omega,by omega,rfl,rfl,fun h=>by simp at h⟩
theorem qiW (x:Str):(if(x==[109,97,107,101])=true then some (2,3,true)else if(x==[116,101,115,116])=true then some (1,2,true)else if(x==[117,115,101])=true then some (1,2,true)else
 if(x==[102,97,105,108])=true then some (1,1,true)else if(x==[114,101,99,97,108,108])=true then some (1,1,true)else if(x==[117,110,100,111])=true then some (0,0,true)else some (0,0,false):Option (Int×Int×Bool))=some (j6 x):=by
 unfold j6 xR qaC qb9 xZ jw qaj
 repeat' split
 all_goals rfl
theorem qh5 (l:List Str) (v:Str) (hl:l.length<4611686018427387904): ∀(K k:Nat),k≤l.length→l.length<K+k→ ∃r,zt l v K (k:Int)=some r∧(((l.drop k).any fun w=>v==w)=true∧(∃j:Nat,r= .inr (j:Int))∨((l.drop k).any fun w=>v==w)=false∧r= .inl ())
 |0,k,h,hK=>by omega
 |K+1,k,h,hK=>by
  unfold zt
  by_cases hk:k<l.length
  ·rw[if_pos (by omega),qJ,List.getElem?_eq_getElem hk,Option.bind_some,kg (by omega),List.drop_eq_getElem_cons hk,List.any_cons]
   by_cases hc:(v==l[k])=true
   ·rw[if_pos hc,hc,Bool.true_or]
    exact⟨_,rfl,.inl ⟨rfl,k,rfl⟩⟩
   ·have hc2:(v==l[k])=false:=by simpa using hc
    rw[if_neg hc,hc2,Bool.false_or]
    exact qh5 l v hl K (k+1) (by omega) (by omega)
  ·rw[if_neg (by omega),List.drop_of_length_le (by omega)]
   exact⟨_,rfl,.inr ⟨rfl,rfl⟩⟩
theorem qjL {N:Nat} {l:List Str} {v:Str} (hl:l.length<4611686018427387904) (hN:l.length<N):slices_Contains_string N l v=some (l.any fun w=>v==w):=by
 unfold slices_Contains_string slices_Index_string
 obtain⟨r,h1,h2⟩:=qh5 l v hl N 0 (by omega) (by omega)
 rw[List.drop_zero]at h2
 rw[show zt l v N 0=_ from h1]
 rcases h2 with⟨h2,j,rfl⟩|⟨h2,rfl⟩
 ·rw[h2]
  simp
 ·rw[h2]
  simp
theorem qfW (l:List Str) (hl:l.length≤1000) (hs: ∀w∈l,w.length≤1000000): ∀(K k:Nat) (vs:List Int),k≤l.length→l.length<K+k→vs.length≤k→
 jb l K vs (k:Int)=some (if((l.drop k).all fun w=>(qdd w).2)=true then .inl (vs++(l.drop k).map fun w=>(qdd w).1)else .inr (ev0,false))
 |0,k,vs,h,hK,hv=>by omega
 |K+1,k,vs,h,hK,hv=>by
  unfold jb
  by_cases hk:k<l.length
  ·have hm:(l[k]).length≤1000000:=hs _ (List.getElem_mem hk)
   rw[if_pos (by omega),qJ,List.getElem?_eq_getElem hk,Option.bind_some,qkq hm,Option.bind_some,List.drop_eq_getElem_cons hk,List.all_cons]
   by_cases hc:(qdd l[k]).2=true
   ·rw[hc]
    simp only[Bool.not_true,Bool.false_eq_true,if_false,Bool.true_and]
    rw[jQ (by simp;omega) (by simp;omega),Option.bind_some,kg (by omega),qfW l hl hs K (k+1) _ (by omega) (by omega) (by simp;omega)]
    simp only[List.append_assoc,List.singleton_append,List.map_cons]
   ·have hc2:(qdd l[k]).2=false:=by simpa using hc
    rw[hc2]
    rfl
  ·rw[if_neg (by omega),List.drop_of_length_le (by omega)]
   simp
theorem ql0 {l:List Str} (h:l.length≤1000):slices_Clone_string l=some l:=by
 cases l with
 |nil=>
  simp only[slices_Clone_string,j5,qeX]
  rw[jQ (by simp) (by simp)]
  simp
 |cons x xs=>
  show jA x xs=_
  unfold jA
  simp only[List.length_cons]at h
  rw[jQ (by simp;omega) (by simp;omega)]
  rfl
theorem qdX: ∀(a s:Str),∀w∈spl a s,w.length≤a.length+s.length
 |a,[],w,h=>by simp[spl]at h;subst h;simp
 |a,c::s,w,h=>by
  rw[spl]at h
  split at h
  ·rcases List.mem_cons.1 h with rfl|h
   ·simp
   ·have:=qdX [] s w h
    simp at this⊢;omega
  ·have:=qdX (a++[c]) s w h
   simp at this⊢;omega
theorem qfZ {N:Nat} {s:Str} (hs:s.length≤900) (hN:2000<N):vP N s=some (yc s):=by
 unfold vP yc
 rw[qmX (by omega) (by omega),Option.bind_some]
 have hlen:=qeL [] s
 have hc:=qe3 s
 have hsh:=qdX [] s
 generalize spl [] s=ws at hlen hsh
 obtain⟨w0,tl,rfl⟩: ∃w0 tl,ws=w0::tl:=by
  cases ws with
  |nil=>simp at hlen
  |cons x xs=>exact⟨x,xs,rfl⟩
 unfold qlb
 have hh:(w0::tl).headD []=w0:=rfl
 rw[hh]
 obtain⟨a,b,ha,hb,e1,e2,e3⟩:=qfm w0
 have hlen2:(w0::tl).length≤901:=by omega
 have hlen3:=hlen2
 rw[List.length_cons]at hlen3
 simp only[zY,Option.bind_some,xE,List.getElem?_cons_zero,qiW]
 rw[show j6 w0=((a:Int),(b:Int),(j6 w0).2.2)from by rw[←e1,←e2]]
 simp only[Option.bind_some]
 cases hk:(j6 w0).2.2 with
 |false=>simp[ev0]
 |true=>
  simp only[Bool.not_true,Bool.false_eq_true,if_false,Bool.true_and]
  have w1:w64 (1+(a:Int))=((1+a:Nat):Int):=by rw[qaq (by omega) (by omega)];omega
  have w2:w64 (((1+a:Nat):Int)+(b:Int))=((1+a+b:Nat):Int):=by rw[qaq (by omega) (by omega)];omega
  rw[w1,w2]
  by_cases hl:(w0::tl).length=1+a+b
  ·have d1:decide (((w0::tl).length:Int)=((1+a+b:Nat):Int))=true:=decide_eq_true (by omega)
   have d2:decide (((w0::tl).length:Int)=1+(a:Int)+(b:Int))=true:=decide_eq_true (by omega)
   rw[d1,d2]
   simp only[Bool.not_true,Bool.false_eq_true,if_false,Bool.true_and,qjL (N:=N) (l:=w0::tl) (v:=[]) (by omega) (by omega),Option.bind_some]
   cases hany:(w0::tl).any fun w=>([]:Str)==w with
   |true=>simp[ev0]
   |false=>
    simp only[Bool.false_eq_true,if_false,Bool.not_false,Bool.true_and]
    rw[show cut (w0::tl) 1 ((1+a:Nat):Int)=cut (w0::tl) ((1:Nat):Int) ((1+a:Nat):Int)from rfl,qgc (by omega) (by omega),Option.bind_some,ql0 (by simp;omega),Option.bind_some,qhj (by omega),Option.bind_some]
    have hL:=qfW ((w0::tl).drop (1+a)) (by simp;omega) (fun w hw=>by have:=hsh w (List.mem_of_mem_drop hw);simp at this;omega) N 0 [] (by omega) (by simp;omega) (by simp)
    rw[List.drop_zero,List.nil_append]at hL
    rw[show jb ((w0::tl).drop (1+a)) N [] 0=_ from hL,show 1+a-1=a by omega,Int.toNat_natCast]
    cases hall:((w0::tl).drop (1+a)).all fun w=>(qdd w).2 with
    |true=>simp only[if_true,Option.bind_some]
    |false=>simp only[Bool.false_eq_true,if_false,Option.bind_some]
  ·have d1:decide (((w0::tl).length:Int)=((1+a+b:Nat):Int))=false:=decide_eq_false (by omega)
   have d2:decide (((w0::tl).length:Int)=1+(a:Int)+(b:Int))=false:=decide_eq_false (by omega)
   rw[d1,d2]
   simp[ev0]
def goP (a:Nat):List Str→Nat→List Str→List Int→Option (List Str×List Int)
 |[],_,l8,l9=>some (l8,l9)
 |w::ws,i,l8,l9=>if(w==[])=true then none else if i≤a then goP a ws (i+1) (l8++[w]) l9 else if(qdd w).2=true then goP a ws (i+1) l8 (l9++[(qdd w).1])else none
theorem qfl {N:Nat} (hN:2000<N) (ws:List Str) (hl:ws.length≤1000) (a:Nat) (F:Int×Int×Bool) (hF:F.1=(a:Int)): ∀(K i:Nat) (l8:List Str) (l9:List Int),i≤ws.length→ws.length<K+i→l8.length≤i→l9.length≤i→
 jY N ws F K l8 l9 (i:Int)=some (match goP a (ws.drop i) i l8 l9 with|some r=> .inl r|none=> .inr (ev0,false))
 |0,i,l8,l9,h,hK,_,_=>by omega
 |K+1,i,l8,l9,h,hK,h8,h9=>by
  unfold jY
  by_cases hi:i<ws.length
  ·rw[if_pos (by omega),qJ,List.getElem?_eq_getElem hi,Option.bind_some,List.drop_eq_getElem_cons hi,goP]
   generalize ws[i]=w
   by_cases hw:(w==[])=true
   ·rw[if_pos hw,if_pos hw]
    rfl
   ·rw[if_neg hw,if_neg hw]
    by_cases hia:i≤a
    ·rw[if_pos (show(i:Int)≤F.1 by omega),if_pos hia,jQ (by simp;omega) (by simp;omega),Option.bind_some,Option.bind_some]
     simp only
     rw[kg (by omega),qfl hN ws hl a F hF K (i+1) _ _ (by omega) (by omega) (by simp;omega) (by omega)]
    ·rw[if_neg (show¬(i:Int)≤F.1 by omega),if_neg hia,qjl hN,Option.bind_some]
     cases hc:(qdd w).2 with
     |false=>rfl
     |true=>
      simp only[Bool.not_true,Bool.false_eq_true,if_false,if_true]
      rw[jQ (by simp;omega) (by simp;omega),Option.bind_some,Option.bind_some]
      simp only
      rw[kg (by omega),qfl hN ws hl a F hF K (i+1) _ _ (by omega) (by omega) (by omega) (by simp;omega)]
  ·rw[if_neg (by omega),List.drop_of_length_le (by omega)]
   rfl
theorem qj4 (a:Nat): ∀(ws:List Str) (i:Nat) (l8:List Str) (l9:List Int),goP a ws i l8 l9=if(!(ws.any fun w=>([]:Str)==w)&&(ws.drop (a+1-i)).all fun w=>(qdd w).2)=true then some (l8++ws.take (a+1-i),l9++(ws.drop (a+1-i)).map fun w=>(qdd w).1)else none
 |[],i,l8,l9=>by simp[goP]
 |w::ws,i,l8,l9=>by
  rw[goP]
  have hcomm:(([]:Str)==w)=(w==[]):=by
   cases w<;>rfl
  by_cases hw:(w==[])=true
  ·rw[if_pos hw,List.any_cons,hcomm,hw]
   simp
  ·have hw2:(w==[])=false:=by simpa using hw
   rw[if_neg hw,List.any_cons,hcomm,hw2,Bool.false_or]
   by_cases hia:i≤a
   ·rw[if_pos hia,qj4 a ws (i+1),show a+1-i=(a+1-(i+1))+1 by omega]
    simp only[List.drop_succ_cons,List.take_succ_cons,List.append_assoc,List.singleton_append]
   ·rw[if_neg hia,show a+1-i=0 by omega]
    simp only[List.drop_zero,List.take_zero,List.append_nil,List.all_cons,List.map_cons]
    cases hc:(qdd w).2 with
    |false=>simp
    |true=>
     rw[if_pos rfl,qj4 a ws (i+1),show a+1-(i+1)=0 by omega]
     simp
theorem qlO {N:Nat} {s:Str} (hs:s.length≤900) (hN:2000<N):qaH N s=some (yc s):=by
 unfold qaH yc
 rw[qlv (by omega) (by omega),Option.bind_some]
 have hlen:=qeL [] s
 have hc:=qe3 s
 generalize spl [] s=ws at hlen
 obtain⟨w0,tl,rfl⟩: ∃w0 tl,ws=w0::tl:=by
  cases ws with
  |nil=>simp at hlen
  |cons x xs=>exact⟨x,xs,rfl⟩
 unfold qlb
 have hh:(w0::tl).headD []=w0:=rfl
 rw[hh]
 obtain⟨a,b,ha,hb,e1,e2,e3⟩:=qfm w0
 have hlen2:(w0::tl).length≤901:=by omega
 have hlen3:=hlen2
 rw[List.length_cons]at hlen3
 simp only[Option.bind_some,xE,List.getElem?_cons_zero,qov]
 cases hk:(j6 w0).2.2 with
 |false=>simp[ev0]
 |true=>
  simp only[Bool.not_true,Bool.false_eq_true,if_false,Bool.true_and,e1,e2]
  have w1:w64 (1+(a:Int))=((1+a:Nat):Int):=by rw[qaq (by omega) (by omega)];omega
  have w2:w64 (((1+a:Nat):Int)+(b:Int))=((1+a+b:Nat):Int):=by rw[qaq (by omega) (by omega)];omega
  rw[w1,w2]
  by_cases hl:(w0::tl).length=1+a+b
  ·have d1:decide (((w0::tl).length:Int)=((1+a+b:Nat):Int))=true:=decide_eq_true (by omega)
   have d2:decide (((w0::tl).length:Int)=1+(a:Int)+(b:Int))=true:=decide_eq_true (by omega)
   rw[d1,d2]
   simp only[Bool.not_true,Bool.false_eq_true,if_false,Bool.true_and,Option.bind_some]
   have hL:=qfl hN (w0::tl) (by omega) a (j6 w0) e1 N 1 [] [] (by simp) (by omega) (by simp) (by simp)
   rw[show jY N (w0::tl) (j6 w0) N [] [] 1=_ from hL,List.drop_succ_cons,List.drop_zero,qj4,show a+1-1=a by omega,Int.toNat_natCast]
   have hne:(([]:Str)==w0)=false:=by
    have:=e3 hk
    cases w0 with
    |nil=>exact absurd rfl this
    |cons x xs=>rfl
   rw[List.any_cons,hne,Bool.false_or,show 1+a=a+1 by omega,List.drop_succ_cons]
   simp only[List.nil_append]
   cases(!(tl.any fun w=>([]:Str)==w)&&(tl.drop a).all fun w=>(qdd w).2)with
   |true=>simp only[if_true,Option.bind_some]
   |false=>simp only[Bool.false_eq_true,if_false,Option.bind_some]
  ·have d1:decide (((w0::tl).length:Int)=((1+a+b:Nat):Int))=false:=decide_eq_false (by omega)
   have d2:decide (((w0::tl).length:Int)=1+(a:Int)+(b:Int))=false:=decide_eq_false (by omega)
   rw[d1,d2]
   simp[ev0]
theorem qk4 (a b:Int):cmp_Compare_int a b=some (if a<b then-1 else if a>b then 1 else 0):=by
 unfold cmp_Compare_int cmp_isNaN_int
 by_cases h1:a<b
 ·simp[h1]
 ·by_cases h2:a>b<;>simp[h1,h2]
theorem qor (a b:Str):vZ a b=some (if ltL a b=true then-1 else if a=b then 0 else 1):=by
 unfold vZ cmp_isNaN_string
 by_cases h1:ltL a b=true
 ·simp[h1]
 ·by_cases h2:a=b
  ·subst h2;simp[h1]
  ·simp[h1,h2]
theorem qnD {N:Nat} (hN:2000<N) (a b:Int):qbP N [a,b]=some (if a=0 then b else a):=by
 unfold qbP
 obtain⟨K,rfl⟩: ∃K,N=K+3:=⟨N-3,by omega⟩
 have w0:w64 ((0:Int)+1)=1:=by decide
 have w1:w64 ((1:Int)+1)=2:=by decide
 unfold vU
 rw[if_pos (by simp),xE]
 simp only[List.getElem?_cons_zero,Option.bind_some,w0]
 by_cases h1:a=0
 ·subst h1
  unfold vU
  simp only[decide_true,Bool.not_true,Bool.false_eq_true,if_false]
  rw[if_pos (by simp),qeb]
  simp only[List.getElem?_cons_succ,List.getElem?_cons_zero,Option.bind_some,w1]
  by_cases h2:b=0
  ·subst h2
   unfold vU
   simp
  ·simp[h2]
 ·simp[h1]
theorem qkD {N:Nat} (hN:2000<N) (m o:qB):jo N m o=some (if ltL m.Desk o.Desk=true then-1 else if m.Desk=o.Desk then(if m.Number<o.Number then-1 else if m.Number>o.Number then 1 else 0)else 1):=by
 unfold jo
 rw[qor,Option.bind_some,qk4,Option.bind_some,qnD hN]
 by_cases h1:ltL m.Desk o.Desk=true
 ·simp[h1]
 ·by_cases h2:m.Desk=o.Desk
  ·simp only[if_neg h1,if_pos h2,if_true,Option.bind_some]
  ·simp[h1,h2]
def yw (n:qb):Int:=if xI n.Desk=false then 8 else if(vQ n.Number 1 1000||vQ n.Clock 1 1000000)=true then 3 else if(!(yc n.Line).2||(yc n.Line).1.Kind==qaj)=true then 25 else 0
def qaL (p n:qb):Bool:=ltL n.Desk p.Desk||(n.Desk==p.Desk&&(decide (n.Number≤p.Number)||decide (n.Clock≤p.Clock)))
def qf0:Option qb→qb→Bool
 |some q,n=>qaL q n
 |none,_=>false
def qdC:Option qb→List qb→Int
 |_,[]=>0
 |p,n::l=>if yw n≠0 then yw n else if qf0 p n=true then 11 else qdC (some n) l
theorem qbB (p:Option qb) (n:qb) (l:List qb):qdC p (n::l)=if yw n≠0 then yw n else if qf0 p n=true then 11 else qdC (some n) l:=rfl
def checkN (l:List qb):Int:=if l.length>1000 then 5 else qdC none l
def qat (l:List qb):Prop:= ∀n∈l,n.Desk.length≤60∧n.Line.length≤150
theorem qil {N:Nat} (hN:2000<N) {n:qb} (h:n.Desk.length≤60∧n.Line.length≤150):yT N n=some (yw n):=by
 unfold yT yw
 rw[qfZ (by omega) hN,Option.bind_some]
 simp only[qg3 (N:=N) (s:=n.Desk) (by omega),qaX,xC,Option.bind_some]
 rw[show([117,110,100,111]:Str)=qaj from rfl]
 have f: ∀a b c d:Int,qC N [a,b,c,d]=some (qV [a,b,c,d]):=fun a b c d=>vY (by simp) (by simp;omega)
 simp only[f,Option.bind_some]
 by_cases h1:xI n.Desk=true
 ·by_cases h2:vQ n.Number 1 1000=true
  ·by_cases h5:(yc n.Line).2=true<;>simp[h1,h2,h5,qV]
  ·by_cases h3:vQ n.Clock 1 1000000=true
   ·by_cases h5:(yc n.Line).2=true<;>simp[h1,h2,h3,h5,qV]
   ·by_cases h5:(yc n.Line).2=true
    ·by_cases h6:((yc n.Line).1.Kind==qaj)=true<;>simp[h1,h2,h3,h5,h6,qV]
    ·simp[h1,h2,h3,h5,qV]
 ·by_cases h5:(yc n.Line).2=true<;>simp[h1,h5,qV]
theorem qmS (p n:qb):(if(if ltL p.Desk n.Desk=true then(-1:Int)else if p.Desk=n.Desk then(if p.Number<n.Number then-1 else if p.Number>n.Number then 1 else 0)else 1)≥0 then some true else if(p.Desk==n.Desk)=true then some (decide (p.Clock≥n.Clock))else some false:Option Bool)=some (qaL p n):=by
 unfold qaL
 by_cases h1:ltL p.Desk n.Desk=true
 ·have h2:=qhV h1
  have h3: ¬(p.Desk==n.Desk)=true:=fun e=>qes h1 (beq_iff_eq.1 e)
  have h4: ¬(n.Desk==p.Desk)=true:=fun e=>qes h1 (beq_iff_eq.1 e).symm
  simp[h1,h2,h3,h4]
 ·by_cases h2:p.Desk=n.Desk
  ·have h3:ltL n.Desk p.Desk=false:=by rw[h2];exact xH _
   by_cases h5:p.Number<n.Number
   ·have: ¬n.Number≤p.Number:=by omega
    have h6:((p.Desk==n.Desk)=true):=by simpa using h2
    have h7:((n.Desk==p.Desk)=true):=by simpa using h2.symm
    simp only[h1,if_pos h2,if_pos h5,h3,h6,h7,this,decide_false,Bool.false_or,Bool.true_and,if_true,if_false]
    simp
   ·have:n.Number≤p.Number:=by omega
    have h7:((n.Desk==p.Desk)=true):=by simpa using h2.symm
    have h6:((p.Desk==n.Desk)=true):=by simpa using h2
    by_cases h8:p.Number>n.Number<;>simp only[if_neg h1,if_pos h2,if_neg h5,h8,if_true,if_false,h3,h7,this,decide_true,Bool.false_or,Bool.true_or,Bool.true_and]<;>rfl
  ·have h3:ltL n.Desk p.Desk=true:=by
    cases hq:ltL n.Desk p.Desk with
    |true=>rfl
    |false=>exact absurd (qbu _ _ (by simpa using h1) hq) h2
   simp[h1,h2,h3]
def qbb (l:List qb) (k:Nat):Option qb:=if k=0 then none else l[k-1]?
theorem qha {l:List qb} {k:Nat} (hk:k<l.length):qbb l (k+1)=some l[k]:=by
 unfold qbb
 rw[if_neg (by omega),Nat.add_sub_cancel,List.getElem?_eq_getElem hk]
theorem qej {N:Nat} (hN:2000<N) {l:List qb} (hs:qat l) (hl:l.length≤1000): ∀(K k:Nat),k≤l.length→l.length<K+k→
 zl N l K (k:Int)=some (if qdC (qbb l k) (l.drop k)=0 then .inl ()else .inr (qdC (qbb l k) (l.drop k)))
 |0,k,h,hK=>by omega
 |K+1,k,h,hK=>by
  unfold zl
  by_cases hk:k<l.length
  ·rw[if_pos (by omega),qJ,List.getElem?_eq_getElem hk,Option.bind_some,List.drop_eq_getElem_cons hk,kg (by omega),qej hN hs hl K (k+1) (by omega) (by omega),qha hk]
   have hq:=hs l[k] (List.getElem_mem hk)
   generalize l[k]=n at hq⊢
   have e:(if(k:Int)>0 then(idx l (w64 ((k:Int)-1))).bind fun x8=>(qW x8).bind fun r9=>(qW n).bind fun r10=>(jo N r9 r10).bind fun r11=>if r11≥0 then some true else if(x8.Desk==n.Desk)=true then some (decide (x8.Clock≥n.Clock))else some false else some false:Option Bool)=some (qf0 (qbb l k) n):=by
    by_cases h0:k=0
    ·subst h0
     rfl
    ·rw[if_pos (by omega),qeB (by omega) (by omega),qJ,List.getElem?_eq_getElem (by omega)]
     have:qbb l k=some l[k-1]:=by unfold qbb;rw[if_neg h0,List.getElem?_eq_getElem (by omega)]
     rw[this]
     simp only[Option.bind_some,qW,qkD hN]
     exact qmS l[k-1] n
   rw[e,Option.bind_some,qil hN hq]
   simp only[Option.bind_some,xC]
   rw[vY (by simp) (by simp;omega),Option.bind_some,qbB]
   generalize qf0 (qbb l k) n=b
   by_cases h1:yw n=0
   ·cases b<;>simp[h1,qV]
   ·simp[h1,qV]
  ·rw[if_neg (by omega),List.drop_of_length_le (by omega)]
   rfl
theorem jP {N:Nat} (hN:2000<N) {l:List qb} (hs:qat l):qO N l=some (checkN l):=by
 unfold qO checkN
 by_cases hl:l.length>1000
 ·rw[if_pos (by omega),if_pos hl]
 ·rw[if_neg (by omega),if_neg hl,show zl N l N 0=zl N l N ((0:Nat):Int)from rfl,qej hN hs (by omega) N 0 (by omega) (by omega),List.drop_zero]
  show(some (if qdC none l=0 then _ else _):Option _).bind _=_
  by_cases h0:qdC none l=0
  ·simp[h0,qbb]
  ·simp[h0,qbb]
theorem qdg {N:Nat} (hN:2000<N) {l:List qb} (hs:qat l) (hl:l.length≤1000): ∀(K k:Nat),k≤l.length→l.length<K+k→
 zA N l K (k:Int)=some (if qdC (qbb l k) (l.drop k)=0 then .inl ()else .inr (qdC (qbb l k) (l.drop k)))
 |0,k,h,hK=>by omega
 |K+1,k,h,hK=>by
  unfold zA
  by_cases hk:k<l.length
  ·rw[if_pos (by omega),qJ,List.getElem?_eq_getElem hk,Option.bind_some,List.drop_eq_getElem_cons hk,kg (by omega),qdg hN hs hl K (k+1) (by omega) (by omega),qha hk]
   have hq:=hs l[k] (List.getElem_mem hk)
   generalize l[k]=n at hq⊢
   rw[qbB]
   simp only[qgQ (N:=N) (s:=n.Desk) (by omega) (by omega),qcu,qlO (N:=N) (s:=n.Line) (by omega) hN,Option.bind_some]
   rw[show([117,110,100,111]:Str)=qaj from rfl]
   unfold yw
   by_cases h1:xI n.Desk=true
   ·by_cases h2:vQ n.Number 1 1000=true
    ·simp[h1,h2]
    by_cases h3:vQ n.Clock 1 1000000=true
    ·simp[h1,h2,h3]
    by_cases h5:(yc n.Line).2=true
    ·by_cases h6:((yc n.Line).1.Kind==qaj)=true
     ·simp[h1,h2,h3,h5,h6]
     ·by_cases h0:k=0
      ·subst h0
       simp[h1,h2,h3,h5,h6,qbb,qf0]
      ·have hp:qbb l k=some l[k-1]:=by unfold qbb;rw[if_neg h0,List.getElem?_eq_getElem (by omega)]
       have hb:(if ltL n.Desk (l[k-1]).Desk=true then some true else if(n.Desk==(l[k-1]).Desk)=true then if n.Number≤(l[k-1]).Number then some true else some (decide (n.Clock≤(l[k-1]).Clock))else some false:Option Bool)=some (qaL l[k-1] n):=by
        unfold qaL
        by_cases g1:ltL n.Desk (l[k-1]).Desk=true
        ·simp[g1]
        ·by_cases g2:(n.Desk==(l[k-1]).Desk)=true
         ·by_cases g3:n.Number≤(l[k-1]).Number<;>simp[g1,g2,g3]
         ·simp[g1,g2]
       rw[hp,show qf0 (some l[k-1]) n=qaL l[k-1] n from rfl]
       have hk0:(k:Int)>0:=by omega
       simp only[h1,h2,h3,h5,h6,hk0,if_true,if_false,Bool.not_true,Bool.false_eq_true,Option.bind_some,Bool.or_self,Bool.or_false,qeB (show k<4611686018427387904 by omega) (by omega),qJ,List.getElem?_eq_getElem (show k-1<l.length by omega),hb,ne_eq,not_true_eq_false,Bool.true_eq_false]
       by_cases hb2:qaL l[k-1] n=true<;>simp[hb2]
    ·simp[h1,h2,h3,h5]
   ·simp[h1]
  ·rw[if_neg (by omega),List.drop_of_length_le (by omega)]
   rfl
theorem qdv {N:Nat} (hN:2000<N) {l:List qb} (hs:qat l):vW N l=some (checkN l):=by
 unfold vW checkN
 by_cases hl:l.length>1000
 ·rw[if_pos (by omega),if_pos hl]
 ·rw[if_neg (by omega),if_neg hl,show zA N l N 0=zA N l N ((0:Nat):Int)from rfl,qdg hN hs (by omega) N 0 (by omega) (by omega),List.drop_zero]
  show(some (if qdC none l=0 then _ else _):Option _).bind _=_
  by_cases h0:qdC none l=0
  ·simp[h0,qbb]
  ·simp[h0,qbb]
def qbX (m:qB):Int:=if xI m.Desk=false then 8 else if vQ m.Number 0 1000=true then 3 else 0
def qja:Option qB→qB→Bool
 |some q,m=>!(ltL q.Desk m.Desk)
 |none,_=>false
def qgR:Option qB→List qB→Int
 |_,[]=>0
 |p,m::l=>if qbX m≠0 then qbX m else if qja p m=true then 11 else qgR (some m) l
theorem qfC (p:Option qB) (m:qB) (l:List qB):qgR p (m::l)=if qbX m≠0 then qbX m else if qja p m=true then 11 else qgR (some m) l:=rfl
def qcH (l:List qB):Int:=if l.length>1000 then 5 else qgR none l
def qfs (l:List qB):Prop:= ∀m∈l,m.Desk.length≤60
def qaI (l:List qB) (k:Nat):Option qB:=if k=0 then none else l[k-1]?
theorem qgs {l:List qB} {k:Nat} (hk:k<l.length):qaI l (k+1)=some l[k]:=by
 unfold qaI
 rw[if_neg (by omega),Nat.add_sub_cancel,List.getElem?_eq_getElem hk]
theorem qdt {N:Nat} (hN:2000<N) {l:List qB} (hs:qfs l) (hl:l.length≤1000): ∀(K k:Nat),k≤l.length→l.length<K+k→
 ze N l K (k:Int)=some (if qgR (qaI l k) (l.drop k)=0 then .inl ()else .inr (qgR (qaI l k) (l.drop k)))
 |0,k,h,hK=>by omega
 |K+1,k,h,hK=>by
  unfold ze
  by_cases hk:k<l.length
  ·rw[if_pos (by omega),qJ,List.getElem?_eq_getElem hk,Option.bind_some,List.drop_eq_getElem_cons hk,kg (by omega),qdt hN hs hl K (k+1) (by omega) (by omega),qgs hk,qfC]
   have hq:=hs l[k] (List.getElem_mem hk)
   generalize l[k]=m at hq⊢
   have f: ∀a b c:Int,qC N [a,b,c]=some (qV [a,b,c]):=fun a b c=>vY (by simp) (by simp;omega)
   have e:((yE N m.Desk).bind fun r7=>(zF m.Number 0 1000).bind fun r8=>if(k:Int)>0 then(idx l (w64 ((k:Int)-1))).bind fun x10=>(qE (!(ltL x10.Desk m.Desk)) 11).bind fun r11=>(qC N ([r7,r8,r11]:List Int)).bind fun r12=>some (r7,r8,r11,r12)
    else(qE false 11).bind fun r13=>(qC N ([r7,r8,r13]:List Int)).bind fun r14=>some (r7,r8,r13,r14):Option (Int×Int×Int×Int))=
    some (if xI m.Desk=true then 0 else 8,if vQ m.Number 0 1000=true then 3 else 0,if qja (qaI l k) m=true then 11 else 0,qV [if xI m.Desk=true then 0 else 8,if vQ m.Number 0 1000=true then 3 else 0,if qja (qaI l k) m=true then 11 else 0]):=by
    simp only[qg3 (N:=N) (s:=m.Desk) (by omega),qaX,xC,f,Option.bind_some]
    by_cases h0:k=0
    ·subst h0
     rfl
    ·have hp:qaI l k=some l[k-1]:=by unfold qaI;rw[if_neg h0,List.getElem?_eq_getElem (by omega)]
     rw[if_pos (by omega),qeB (by omega) (by omega),qJ,List.getElem?_eq_getElem (by omega),hp]
     rfl
   rw[e,Option.bind_some]
   simp only
   unfold qbX
   by_cases h1:xI m.Desk=true
   ·by_cases h2:vQ m.Number 0 1000=true
    ·simp[h1,h2,qV]
    ·by_cases h3:qja (qaI l k) m=true<;>simp[h1,h2,h3,qV]
   ·simp[h1,qV]
  ·rw[if_neg (by omega),List.drop_of_length_le (by omega)]
   rfl
theorem qhd {N:Nat} (hN:2000<N) {l:List qB} (hs:qfs l):yo N l=some (qcH l):=by
 unfold yo qcH
 by_cases hl:l.length>1000
 ·rw[if_pos (by omega),if_pos hl]
 ·rw[if_neg (by omega),if_neg hl,show ze N l N 0=ze N l N ((0:Nat):Int)from rfl,qdt hN hs (by omega) N 0 (by omega) (by omega),List.drop_zero]
  by_cases h0:qgR none l=0
  ·simp[h0,qaI]
  ·simp[h0,qaI]
theorem qcW {N:Nat} (hN:2000<N) {l:List qB} (hs:qfs l) (hl:l.length≤1000): ∀(K k:Nat),k≤l.length→l.length<K+k→
 zm N l K (k:Int)=some (if qgR (qaI l k) (l.drop k)=0 then .inl ()else .inr (qgR (qaI l k) (l.drop k)))
 |0,k,h,hK=>by omega
 |K+1,k,h,hK=>by
  unfold zm
  by_cases hk:k<l.length
  ·rw[if_pos (by omega),qJ,List.getElem?_eq_getElem hk,Option.bind_some,List.drop_eq_getElem_cons hk,kg (by omega),qcW hN hs hl K (k+1) (by omega) (by omega),qgs hk,qfC]
   have hq:=hs l[k] (List.getElem_mem hk)
   generalize l[k]=m at hq⊢
   have e:(if(k:Int)>0 then(idx l (w64 ((k:Int)-1))).bind fun x12=>some (ltL m.Desk x12.Desk||m.Desk==x12.Desk)else some false:Option Bool)=some (qja (qaI l k) m):=by
    by_cases h0:k=0
    ·subst h0
     rfl
    ·have hp:qaI l k=some l[k-1]:=by unfold qaI;rw[if_neg h0,List.getElem?_eq_getElem (by omega)]
     rw[if_pos (by omega),qeB (by omega) (by omega),qJ,List.getElem?_eq_getElem (by omega),hp,Option.bind_some]
     show some (ltL m.Desk (l[k-1]).Desk||m.Desk==(l[k-1]).Desk)=some (!(ltL (l[k-1]).Desk m.Desk))
     generalize (l[k-1]).Desk=a
     congr 1
     by_cases h1:ltL a m.Desk=true
     ·have h2:=qhV h1
      have h3:(m.Desk==a)=false:=by simpa using fun e=>qes h1 e.symm
      simp[h1,h2,h3]
     ·by_cases h2:ltL m.Desk a=true
      ·simp[h1,h2]
      ·have:=qbu _ _ (by simpa using h1) (by simpa using h2)
       rw[this]
       simp[xH]
   simp only[qgQ (N:=N) (s:=m.Desk) (by omega) (by omega),qcu,Option.bind_some,e]
   unfold qbX
   by_cases h1:xI m.Desk=true
   ·by_cases h2:vQ m.Number 0 1000=true
    ·simp[h1,h2]
    ·by_cases h3:qja (qaI l k) m=true<;>simp[h1,h2,h3]
   ·simp[h1]
  ·rw[if_neg (by omega),List.drop_of_length_le (by omega)]
   rfl
theorem qf1 {N:Nat} (hN:2000<N) {l:List qB} (hs:qfs l):yD N l=some (qcH l):=by
 unfold yD qcH
 by_cases hl:l.length>1000
 ·rw[if_pos (by omega),if_pos hl]
 ·rw[if_neg (by omega),if_neg hl,show zm N l N 0=zm N l N ((0:Nat):Int)from rfl,qcW hN hs (by omega) N 0 (by omega) (by omega),List.drop_zero]
  by_cases h0:qgR none l=0
  ·simp[h0,qaI]
  ·simp[h0,qaI]
theorem qcn {α κ:Type} [BEq κ] (p:κ×α) (m:List (κ×α)) (k:κ):qby (p::m) k=if(k==p.1)=true then some p.2 else qby m k:=by
 unfold qby
 rw[List.find?_cons]
 cases h:k==p.1<;>simp
theorem qi8 {α κ:Type} [BEq κ] [LawfulBEq κ] (v:α) (k k':κ): ∀m:List (κ×α),qby (qeu m k v) k'=if(k'==k)=true then some v else qby m k'
 |[]=>by
  show qby [(k,v)] k'=_
  rw[qcn]
 |p::m=>by
  unfold qeu
  by_cases h:(k==p.1)=true
  ·rw[if_pos h,qcn,qcn]
   have e:k=p.1:=eq_of_beq h
   by_cases h2:(k'==p.1)=true
   ·have:(k'==k)=true:=by rw[e];exact h2
    rw[if_pos h2,if_pos this]
   ·have: ¬(k'==k)=true:=by rw[e];exact h2
    rw[if_neg h2,if_neg this,if_neg h2]
  ·rw[if_neg h,qcn,qi8 v k k' m,qcn]
   by_cases h2:(k'==p.1)=true
   ·have e:k'=p.1:=eq_of_beq h2
    have: ¬(k'==k)=true:=fun h3=>h (by rw[←eq_of_beq h3,e];exact beq_self_eq_true _)
    rw[if_pos h2,if_neg this,if_pos h2]
   ·rw[if_neg h2,if_neg h2]
def qhs (h:Int) (v:List qB) (d:Str):Int:=v.foldl (fun h m=>if(m.Desk==d)=true then m.Number else h) h
def qgw (l:List qb) (v:List qB):List qb:=l.filter fun n=>decide (n.Number>qhs 0 v n.Desk)
theorem qhk (v:List qB) (hl:v.length≤1003): ∀(K k:Nat) (m:List (Str×Int)),k≤v.length→v.length<K+k→ ∃m',jy v K m (k:Int)=some m'∧ ∀d,(qby m' d).getD 0=qhs ((qby m d).getD 0) (v.drop k) d
 |0,k,m,h,hK=>by omega
 |K+1,k,m,h,hK=>by
  unfold jy
  by_cases hk:k<v.length
  ·rw[if_pos (by omega),qJ,List.getElem?_eq_getElem hk,Option.bind_some,Option.bind_some,kg (by omega)]
   obtain⟨m',h1,h2⟩:=qhk v hl K (k+1) (qeu m (v[k]).Desk (v[k]).Number) (by omega) (by omega)
   refine⟨m',h1,fun d=>?_⟩
   rw[h2,List.drop_eq_getElem_cons hk,qi8]
   unfold qhs
   rw[List.foldl_cons]
   congr 1
   have:(d==(v[k]).Desk)=((v[k]).Desk==d):=Bool.eq_iff_iff.2 ⟨fun e=>by rw[eq_of_beq e];exact beq_self_eq_true _,fun e=>by rw[eq_of_beq e];exact beq_self_eq_true _⟩
   rw[this]
   split<;>rfl
  ·rw[if_neg (by omega),List.drop_of_length_le (by omega)]
   exact⟨m,rfl,fun _=>rfl⟩
theorem qfy (l:List qb) (m:List (Str×Int)) (v:List qB) (hm: ∀d,(qby m d).getD 0=qhs 0 v d) (hl:l.length≤1003): ∀(K k:Nat) (o:List qb),k≤l.length→l.length<K+k→o.length≤k→
 kr l m K o (k:Int)=some (o++qgw (l.drop k) v)
 |0,k,o,h,hK,_=>by omega
 |K+1,k,o,h,hK,ho=>by
  unfold kr
  by_cases hk:k<l.length
  ·rw[if_pos (by omega),qJ,List.getElem?_eq_getElem hk,Option.bind_some,List.drop_eq_getElem_cons hk,kg (by omega)]
   unfold qgw
   rw[List.filter_cons,hm]
   simp only[yC,xz,Option.bind_some]
   by_cases hc:(l[k]).Number>qhs 0 v (l[k]).Desk
   ·simp only[decide_eq_true hc,if_true]
    rw[jQ (by simp;omega) (by simp;omega)]
    simp only[Option.bind_some]
    rw[qfy l m v hm hl K (k+1) _ (by omega) (by omega) (by simp;omega),List.append_assoc]
    rfl
   ·simp only[decide_eq_false hc,if_false,Bool.false_eq_true,Option.bind_some]
    exact qfy l m v hm hl K (k+1) _ (by omega) (by omega) (by omega)
  ·rw[if_neg (by omega),List.drop_of_length_le (by omega)]
   simp[qgw]
theorem qkG {N:Nat} (hN:2000<N) {l:List qb} {v:List qB} (hs:qat l) (hv:qfs v) (h1:l.length≤1003) (h2:v.length≤1003):xW N l v=some (if qV [checkN l,qcH v]=0 then qgw l v else[],qV [checkN l,qcH v]):=by
 unfold xW
 rw[jP hN hs,qhd hN hv]
 simp only[Option.bind_some]
 rw[vY (by simp) (by simp;omega),Option.bind_some]
 by_cases h0:qV [checkN l,qcH v]=0
 ·rw[if_neg (by simp[h0]),if_pos h0,h0]
  obtain⟨m',g1,g2⟩:=qhk v h2 N 0 [] (by omega) (by omega)
  rw[show jy v N [] 0=_ from g1,Option.bind_some]
  unfold yx
  rw[List.drop_zero]at g2
  have:=qfy l m' v g2 h1 N 0 [] (by omega) (by omega) (by simp)
  rw[show kr l m' N [] 0=_ from this]
  rfl
 ·rw[if_pos (by simp[h0]),if_neg h0]
def qew (o:List qb) (n:qb):List qb:=o.takeWhile (fun x=>decide (x.Clock≤n.Clock))++n::o.dropWhile fun x=>decide (x.Clock≤n.Clock)
def qed (l:List qb):List qb:=l.foldl qew []
def qna:List qb→qb→List qb
 |[],n=>[n]
 |x::xs,n=>if n.Clock<x.Clock then qna xs n++[x]else(x::xs).reverse++[n]
def qif (l:List qb):Prop:=l.Pairwise fun a b=>a.Clock≤b.Clock
theorem qdE {α:Type} {p:α→Bool} {x:α} (hx:p x=false): ∀l:List α,(l++[x]).takeWhile p=l.takeWhile p∧(l++[x]).dropWhile p=l.dropWhile p++[x]
 |[]=>by simp[hx]
 |y::l=>by
  obtain⟨h1,h2⟩:=qdE hx l
  rw[List.cons_append,List.takeWhile_cons,List.takeWhile_cons,List.dropWhile_cons,List.dropWhile_cons]
  cases h:p y with
  |true=>simp[h1,h2]
  |false=>simp
theorem qh7 {α:Type} {p:α→Bool}: ∀{l:List α},(∀x∈l,p x=true)→l.takeWhile p=l∧l.dropWhile p=[]
 |[],_=>⟨rfl,rfl⟩
 |y::l,h=>by
  obtain⟨h1,h2⟩:=qh7 (fun x hx=>h x (List.mem_cons_of_mem _ hx))
  rw[List.takeWhile_cons,List.dropWhile_cons,if_pos (h y List.mem_cons_self),if_pos (h y List.mem_cons_self),h1,h2]
  exact⟨rfl,rfl⟩
theorem qkQ (n:qb): ∀r:List qb,qif r.reverse→qna r n=qew r.reverse n
 |[],_=>rfl
 |x::xs,h=>by
  rw[List.reverse_cons]at h⊢
  obtain⟨h1,h2,h3⟩:=List.pairwise_append.1 h
  unfold qna
  by_cases hc:n.Clock<x.Clock
  ·rw[if_pos hc,qkQ n xs h1]
   obtain⟨g1,g2⟩:=qdE (p:=fun y:qb=>decide (y.Clock≤n.Clock)) (x:=x) (by simp;omega) xs.reverse
   unfold qew
   rw[g1,g2]
   simp
  ·rw[if_neg hc]
   obtain⟨g1,g2⟩:=qh7 (p:=fun y:qb=>decide (y.Clock≤n.Clock)) (l:=xs.reverse++[x]) (fun y hy=>by
    rcases List.mem_append.1 hy with hy|hy
    ·have:=h3 y hy x (by simp)
     simp;omega
    ·simp at hy;subst hy;simp;omega)
   unfold qew
   rw[g1,g2,List.reverse_cons]
theorem qmQ {o:List qb} {n x:qb}:x∈qew o n↔x=n∨x∈o:=by
 unfold qew
 have h:=List.takeWhile_append_dropWhile (p:=fun x:qb=>decide (x.Clock≤n.Clock)) (l:=o)
 conv=>rhs;rw[←h]
 simp only[List.mem_append,List.mem_cons]
 constructor
 ·rintro(h|h|h)
  ·exact .inr (.inl h)
  ·exact .inl h
  ·exact .inr (.inr h)
 ·rintro(h|h|h)
  ·exact .inr (.inl h)
  ·exact .inl h
  ·exact .inr (.inr h)
theorem qdn (o:List qb) (n:qb):(qew o n).length=o.length+1:=by
 unfold qew
 have h:=congrArg List.length (List.takeWhile_append_dropWhile (p:=fun x:qb=>decide (x.Clock≤n.Clock)) (l:=o))
 rw[List.length_append]at h
 rw[List.length_append,List.length_cons]
 omega
theorem qk3 {n:qb}: ∀{o:List qb},qif o→ ∀x∈o.dropWhile (fun x=>decide (x.Clock≤n.Clock)),n.Clock<x.Clock
 |[],_,x,hx=>by simp at hx
 |y::o,h,x,hx=>by
  obtain⟨h1,h2⟩:=List.pairwise_cons.1 h
  rw[List.dropWhile_cons]at hx
  by_cases hc:y.Clock≤n.Clock
  ·rw[if_pos (decide_eq_true hc)]at hx
   exact qk3 h2 x hx
  ·rw[if_neg (by simpa using hc)]at hx
   rcases List.mem_cons.1 hx with rfl|hx
   ·omega
   ·have:=h1 x hx
    omega
theorem qi7 {o:List qb} (h:qif o) (n:qb):qif (qew o n):=by
 have hs:=List.takeWhile_append_dropWhile (p:=fun x:qb=>decide (x.Clock≤n.Clock)) (l:=o)
 have hg:=qk3 (n:=n) h
 unfold qif at h
 rw[←hs]at h
 obtain⟨h1,h2,h3⟩:=List.pairwise_append.1 h
 refine List.pairwise_append.2 ⟨h1,List.pairwise_cons.2 ⟨fun x hx=>by have:=hg x hx;omega,h2⟩,fun a ha b hb=>?_⟩
 have hle:a.Clock≤n.Clock:=by
  have:=List.all_eq_true.1 (List.all_takeWhile (p:=fun x:qb=>decide (x.Clock≤n.Clock)) (l:=o)) a ha
  simpa using this
 rcases List.mem_cons.1 hb with rfl|hb
 ·exact hle
 ·exact h3 a ha b hb
theorem qbV (l:List qb):qif (qed l)∧(qed l).length=l.length∧ ∀x,x∈qed l↔x∈l:=by
 have key: ∀(l o:List qb),qif o→qif (l.foldl qew o)∧(l.foldl qew o).length=o.length+l.length∧ ∀x,x∈l.foldl qew o↔x∈o∨x∈l:=by
  intro l
  induction l with
  |nil=>intro o h;exact⟨h,by simp,by simp⟩
  |cons n l ih=>
   intro o h
   obtain⟨h1,h2,h3⟩:=ih (qew o n) (qi7 h n)
   refine⟨h1,?_,fun x=>?_⟩
   ·rw[List.foldl_cons,h2,qdn,List.length_cons];omega
   ·rw[List.foldl_cons,h3,qmQ,List.mem_cons]
    constructor
    ·rintro((h|h)|h)
     ·exact .inr (.inl h)
     ·exact .inl h
     ·exact .inr (.inr h)
    ·rintro(h|h|h)
     ·exact .inl (.inr h)
     ·exact .inl (.inl h)
     ·exact .inr h
 obtain⟨h1,h2,h3⟩:=key l [] List.Pairwise.nil
 exact⟨h1,by rw[qed,h2];simp,fun x=>by rw[qed,h3];simp⟩
theorem qn3 {α:Type} (r:List α) (x n:α) (rest:List α):((r++x::n::rest).set (r.length+1) x).set r.length n=r++n::x::rest:=by
 rw[List.set_append_right _ _ (by omega),List.set_append_right _ _ (by omega)]
 simp
theorem qnG: ∀(r:List qb) (K:Nat) (n:qb) (rest:List qb),r.length<K→(r.length+rest.length<1000)→qA 0 K (r.reverse++n::rest) (r.length:Int)=some (qna r n++rest)
 |r,0,n,rest,h,_=>by omega
 |[],K+1,n,rest,h,_=>by
  unfold qA
  rw[if_neg (by simp)]
  rfl
 |x::xs,K+1,n,rest,h,hl=>by
  unfold qA
  have hlen:(xs.reverse).length=xs.length:=List.length_reverse
  simp only[List.length_cons]at h hl
  rw[List.length_cons,List.reverse_cons,List.append_assoc,List.singleton_append,if_pos (by omega),qeB (by omega) (by omega),Nat.add_sub_cancel]
  have g1:(xs.reverse++x::n::rest)[xs.length+1]? =some n:=by rw[List.getElem?_append_right (by omega),hlen,Nat.add_sub_cancel_left];rfl
  have g2:(xs.reverse++x::n::rest)[xs.length]? =some x:=by rw[List.getElem?_append_right (by omega),hlen,Nat.sub_self];rfl
  have l1:xs.length+1<(xs.reverse++x::n::rest).length:=by rw[List.length_append,hlen,List.length_cons,List.length_cons];omega
  simp only[qJ,g1,g2,Option.bind_some,xP,qk4]
  unfold qna
  by_cases hc:n.Clock<x.Clock
  ·have hsw:=qn3 xs.reverse x n rest
   rw[hlen]at hsw
   have g3:((xs.reverse++x::n::rest).set (xs.length+1) x)[xs.length]? =some x:=by rw[List.getElem?_set_ne (by omega),g2]
   simp only[if_pos hc,show decide ((-1:Int)<0)=true by decide,if_true,xD l1,Option.bind_some,g3]
   rw[xD (by rw[List.length_set];omega),Option.bind_some,hsw,qnG xs K n (x::rest) (by omega) (by simp;omega),List.append_assoc]
   rfl
  ·have: ¬((if n.Clock>x.Clock then(1:Int)else 0)<0):=by split<;>omega
   simp only[if_neg hc,decide_eq_false this,Bool.false_eq_true,if_false]
   simp
theorem qne {N:Nat} (hN:2000<N) (b:Nat) (hb:b<1000): ∀(K:Nat) (s rest:List qb),1≤s.length→s.length+rest.length=b→b<K+s.length→qif s→
 qp N 0 (b:Int) K (s++rest) (s.length:Int)=some (rest.foldl qew s)
 |0,s,rest,h1,h2,hK,_=>by omega
 |K+1,s,[],h1,h2,hK,_=>by
  simp at h2
  unfold qp
  rw[if_neg (by omega)]
  simp
 |K+1,s,n::rest,h1,h2,hK,hs=>by
  simp at h2
  unfold qp
  have h:=qnG s.reverse N n rest (by simp;omega) (by simp;omega)
  rw[List.reverse_reverse,List.length_reverse,qkQ n s.reverse (by rw[List.reverse_reverse];exact hs),List.reverse_reverse]at h
  rw[if_pos (by omega),h,Option.bind_some,kg (by omega),←qdn s n,qne hN b hb K (qew s n) rest (by rw[qdn];omega) (by rw[qdn];omega) (by rw[qdn];omega) (qi7 hs n)]
  rfl
theorem qpn {N:Nat} (hN:2000<N) {l:List qb} (h1:1≤l.length) (h2:l.length<1000):qR N l 0 (l.length:Int)=some (qed l):=by
 cases l with
 |nil=>simp at h1
 |cons x xs=>
  unfold qR
  have:=qne hN (x::xs).length h2 N [x] xs (by simp) (by simp;omega) (by simp at h2⊢;omega) (List.pairwise_singleton _ _)
  rw[show w64 ((0:Int)+1)=(([x]:List qb).length:Int)from(by decide:w64 ((0:Int)+1)=1)]
  rw[show qp N 0 ((x::xs).length:Int) N (x::xs) _=_ from this]
  rfl
theorem qlR {N:Nat} (hN:2000<N) {l:List qb} (h1:1≤l.length) (h2:l.length<20):zI N l=some (qed l):=by
 have hs:=(qbV l).2.1
 unfold zI jD
 obtain⟨K,rfl⟩: ∃K,N=K+1:=⟨N-1,by omega⟩
 have e0:qP (K+1) (l.length:Int) (K+1) l 0 20=some (l,0):=by
  unfold qP
  rw[if_neg (by omega)]
 have e1:qQ (K+1) (l.length:Int) (K+1) 20=some ():=by
  unfold qQ
  rw[if_neg (by omega)]
 rw[e0,Option.bind_some]
 simp only
 rw[qpn hN h1 (by omega),Option.bind_some,if_pos hs.symm,Option.bind_some,e1]
 simp only[Option.bind_some]
 rw[if_pos hs.symm]
 rfl
theorem qkp {s:Str} (hs:s.length≤900):(yc s).1.Names.length≤2∧(yc s).1.Values.length≤901∧ ∀w∈(yc s).1.Names,w.length≤900:=by
 unfold yc
 have hlen:=qeL [] s
 have hc:=qe3 s
 have hsh:=qdX [] s
 generalize spl [] s=ws at hlen hsh
 unfold qlb
 obtain⟨a,b,ha,hb,e1,e2,e3⟩:=qfm (ws.headD [])
 rw[e1,Int.toNat_natCast]
 split
 ·refine⟨?_,?_,fun w hw=>?_⟩
  ·simp only[List.length_take];omega
  ·simp only[List.length_map,List.length_drop];omega
  ·have:=hsh w (List.mem_of_mem_drop (List.mem_of_mem_take hw))
   simp at this;omega
 ·exact⟨by simp[ev0],by simp[ev0],fun w hw=>by simp[ev0]at hw⟩
def evN (evs:List qg) (n:qb):qg:=⟨((evs.length+1:Nat):Int),(yc n.Line).1.Kind,(yc n.Line).1.Names,(yc n.Line).1.Values,(yc n.Line).1.Text⟩
theorem qhQ {N:Nat} (hN:2000<N) (evs:List qg) {n:qb} (h:n.Line.length≤150):qis N (evN evs n):=by
 obtain⟨h1,h2,h3⟩:=qkp (s:=n.Line) (by omega)
 exact⟨by show(yc n.Line).1.Names.length<N;omega,by show(yc n.Line).1.Values.length<N;omega,fun w hw=>by have:=h3 w hw;omega⟩
def qdK (N:Nat):List qb→List qg→List qB→List qg×List qB
 |[],evs,ms=>(evs,ms)
 |n::l,evs,ms=>if qc9 N evs evs.length (evN evs n)=0 then qdK N l (evs++[evN evs n]) ms else qdK N l evs (ms++[⟨n.Desk,n.Number⟩])
theorem qg9 (N:Nat) (n:qb) (l:List qb) (evs:List qg) (ms:List qB):qdK N (n::l) evs ms=if qc9 N evs evs.length (evN evs n)=0 then qdK N l (evs++[evN evs n]) ms else qdK N l evs (ms++[⟨n.Desk,n.Number⟩]):=rfl
def qkM (l:List qb):Prop:= ∀n∈l,n.Line.length≤150∧((yc n.Line).1.Kind==qaj)=false
structure qeE (N:Nat) (evs:List qg) (o:Option (List StateT)):Prop where
 ev:Evs N evs
 run:qgZ N evs 0 []=(0,0,evs)
 rel:Rel N evs (hof o)
theorem qeE.next {N:Nat} {evs:List qg} {o o':Option (List StateT)} (h:qeE N evs o) (hl:evs.length<1000) {n:qb} (hn:n.Line.length≤150∧((yc n.Line).1.Kind==qaj)=false) (h0:qc9 N evs evs.length (evN evs n)=0) (hr:Rel N (qek evs (evN evs n)) (hof o')):qeE N (evs++[evN evs n]) o':=by
 have hu:((evN evs n).Kind==qaj)=false:=hn.2
 have hc:qek evs (evN evs n)=evs++[evN evs n]:=by unfold qek;rw[hu];rfl
 refine⟨⟨by simp;omega,fun x hx=>?_,h.ev.big,h.ev.max⟩,?_,hc▸hr⟩
 ·rcases List.mem_append.1 hx with hx|hx
  ·exact h.ev.short x hx
  ·simp at hx;subst hx;exact qhQ h.ev.big evs hn.1
 ·rw[qfT,h.run,if_pos rfl,Nat.zero_add,qfx,if_pos h0,hc]
  rfl
theorem qiw {N:Nat} {l:List qb} (hg:qkM l) (hl:l.length≤900) (hN:2000<N): ∀(K k:Nat) (evs:List qg) (ms:List qB) (o:Option (List StateT)),k≤l.length→l.length<K+k→evs.length≤k→ms.length≤k→qeE N evs o→
 ∃o',jK N l K evs ms o (k:Int)=some ((qdK N (l.drop k) evs ms).1,o',(qdK N (l.drop k) evs ms).2)
 |0,k,evs,ms,o,h,hK,_,_,_=>by omega
 |K+1,k,evs,ms,o,h,hK,he,hm,F=>by
  unfold jK
  by_cases hk:k<l.length
  ·have hq:=hg l[k] (List.getElem_mem hk)
   rw[if_pos (by omega),qJ,List.getElem?_eq_getElem hk,Option.bind_some,List.drop_eq_getElem_cons hk,qg9,kg (show k<_ by omega)]
   generalize l[k]=n at hq⊢
   rw[qfZ (by omega) hN,Option.bind_some,kg (show evs.length<_ by omega)]
   have hP:Pre N evs (hof o) evs.length (evN evs n):=⟨F.rel,Nat.le_refl _,by omega,F.ev.big,F.ev.max,qhQ hN evs hq.1⟩
   obtain⟨evs',o',a1,a2,a3⟩:=qpa (evs:=evs) hP rfl
   rw[show jr N evs o ((evs.length+1:Nat):Int) (yc n.Line).1.Kind (yc n.Line).1.Names (yc n.Line).1.Values (yc n.Line).1.Text=_ from a1,Option.bind_some]
   simp only
   by_cases h0:qc9 N evs evs.length (evN evs n)=0
   ·obtain⟨rfl,b2,b3⟩:=a2 h0
    rw[if_neg (by simp[h0]),if_pos h0,Option.bind_some]
    simp only
    exact qiw hg hl hN K (k+1) _ ms o' (by omega) (by omega) (by simp;omega) (by omega) (F.next (by omega) hq h0 b2)
   ·obtain⟨rfl,b2⟩:=a3 h0
    rw[if_pos (by simp[h0]),if_neg h0]
    simp only[qW,Option.bind_some]
    rw[jQ (by simp;omega) (by simp;omega)]
    simp only[Option.bind_some]
    exact qiw hg hl hN K (k+1) _ _ o' (by omega) (by omega) (by omega) (by simp;omega) ⟨F.ev,F.run,by rw[b2];exact F.rel⟩
  ·rw[if_neg (by omega),List.drop_of_length_le (by omega)]
   exact⟨o,rfl⟩
def qgP (N:Nat) (l:List qb):List qg×List qB:=qdK N (qed l) [] []
theorem qeE.nil {N:Nat} (hN:2000<N) (hM:N<4611686018427387904):qeE N [] none:=⟨⟨by simp,fun _ h=>by simp at h,hN,hM⟩,rfl,Rel.nil N⟩
theorem qhE: ∀(l:List qb) (p:Option qb),qdC p l=0→ ∀n∈l,yw n=0
 |[],_,_,n,h=>by simp at h
 |x::l,p,h0,n,h=>by
  rw[qbB]at h0
  by_cases h1:yw x=0
  ·rw[if_neg (by simp[h1])]at h0
   by_cases h2:qf0 p x=true
   ·rw[if_pos h2]at h0;cases h0
   ·rw[if_neg h2]at h0
    rcases List.mem_cons.1 h with rfl|h
    ·exact h1
    ·exact qhE l _ h0 n h
  ·rw[if_pos h1]at h0;exact absurd h0 h1
theorem qoy {l:List qb} (hs:qat l) (h0:checkN l=0):qkM l∧l.length≤1000:=by
 unfold checkN at h0
 by_cases hl:l.length>1000
 ·rw[if_pos hl]at h0;cases h0
 ·rw[if_neg hl]at h0
  refine⟨fun n hn=>⟨(hs n hn).2,?_⟩,by omega⟩
  have:=qhE l none h0 n hn
  unfold yw at this
  by_cases h1:xI n.Desk=false
  ·rw[if_pos h1]at this;cases this
  ·rw[if_neg h1]at this
   by_cases h2:(vQ n.Number 1 1000||vQ n.Clock 1 1000000)=true
   ·rw[if_pos h2]at this;cases this
   ·rw[if_neg h2]at this
    by_cases h3:(!(yc n.Line).2||(yc n.Line).1.Kind==qaj)=true
    ·rw[if_pos h3]at this;cases this
    ·simp only[Bool.not_eq_true,Bool.or_eq_false_iff]at h3
     exact h3.2
theorem qlZ {l:List qb} (h:qkM l):qkM (qed l):=fun n hn=>h n (((qbV l).2.2 n).1 hn)
theorem qoD {N:Nat} (hN:2000<N) (hM:N<4611686018427387904) {l:List qb} (hs:qat l) (hl:l.length≤16∨1000<l.length):qdy N l=some (if checkN l=0 then(qgP N l).1 else[],if checkN l=0 then(qgP N l).2 else[],checkN l):=by
 cases l with
 |nil=>
  show qai N=_
  unfold qai
  obtain⟨K,rfl⟩: ∃K,N=K+1:=⟨N-1,by omega⟩
  have a0:qO (K+1) []=some 0:=jP hN (fun n h=>by simp at h)
  have a1:xA []=some []:=by
   simp only[xA,yH,qeX]
   rw[jQ (by simp) (by simp)]
   simp
  have a2:zH (K+1) []=some ():=by
   unfold zH jG qY qZ kw qM
   rfl
  have a3:vg (K+1) [] (K+1) [] [] none 0=some ([],none,[]):=by
   unfold vg
   rfl
  rw[a0,Option.bind_some,if_neg (by simp),a1,Option.bind_some,a2,Option.bind_some,a3]
  rfl
 |cons x xs=>
  show qaf N x xs=_
  unfold qaf
  rw[jP hN hs,Option.bind_some]
  by_cases h0:checkN (x::xs)=0
  ·obtain⟨hg,h1000⟩:=qoy hs h0
   have h16:(x::xs).length≤16:=by omega
   have hc:jf x xs=some (x::xs):=by
    unfold jf
    rw[jQ (by simp at h16⊢;omega) (by simp at h16⊢;omega)]
    rfl
   have hlen:=(qbV (x::xs)).2.1
   rw[if_neg (by simp[h0]),hc,Option.bind_some,qlR hN (by simp) (by omega),Option.bind_some,if_pos hlen.symm,Option.bind_some,if_pos h0,if_pos h0,h0]
   obtain⟨o',h⟩:=qiw (N:=N) (qlZ hg) (by omega) hN N 0 [] [] none (by omega) (by omega) (by simp) (by simp) (qeE.nil hN hM)
   rw[List.drop_zero]at h
   rw[show jK N (qed (x::xs)) N [] [] none 0=_ from h]
   rfl
  ·rw[if_pos (by simp[h0]),if_neg h0,if_neg h0]
theorem qjw (l:List qb) (hl:l.length*48≤140737488355328): ∀(K k:Nat) (o:List qb),k≤l.length→l.length<K+k→o.length≤k→vJ l K o (k:Int)=some (o++l.drop k)
 |0,k,o,h,hK,_=>by omega
 |K+1,k,o,h,hK,ho=>by
  unfold vJ
  by_cases hk:k<l.length
  ·rw[if_pos (by omega),qJ,List.getElem?_eq_getElem hk,Option.bind_some,jQ (by simp;omega) (by simp;omega),Option.bind_some,kg (by omega),qjw l hl K (k+1) _ (by omega) (by omega) (by simp;omega),List.drop_eq_getElem_cons hk,List.append_assoc]
   rfl
  ·rw[if_neg (by omega),List.drop_of_length_le (by omega),List.append_nil]
theorem qiL (l:List qB) (hl:l.length*24≤140737488355328): ∀(K k:Nat) (o:List qB),k≤l.length→l.length<K+k→o.length≤k→vE l K o (k:Int)=some (o++l.drop k)
 |0,k,o,h,hK,_=>by omega
 |K+1,k,o,h,hK,ho=>by
  unfold vE
  by_cases hk:k<l.length
  ·rw[if_pos (by omega),qJ,List.getElem?_eq_getElem hk,Option.bind_some,jQ (by simp;omega) (by simp;omega),Option.bind_some,kg (by omega),qiL l hl K (k+1) _ (by omega) (by omega) (by simp;omega),List.drop_eq_getElem_cons hk,List.append_assoc]
   rfl
  ·rw[if_neg (by omega),List.drop_of_length_le (by omega),List.append_nil]
theorem qdA {N:Nat} {l:List qb} (hl:l.length*48≤140737488355328) (hN:l.length<N):jM N l=some l:=by
 unfold jM
 have:=qjw l hl N 0 [] (by omega) (by omega) (by simp)
 rw[show vJ l N [] 0=_ from this]
 rfl
theorem qmE {N:Nat} {l:List qB} (hl:l.length*24≤140737488355328) (hN:l.length<N):qaD N l=some l:=by
 unfold qaD
 have:=qiL l hl N 0 [] (by omega) (by omega) (by simp)
 rw[show vE l N [] 0=_ from this]
 rfl
theorem qcC {N:Nat} (l:List qb) (hl:l.length≤1003) (hN:2000<N):jg N l l=some true:=by
 have key: ∀(K k:Nat),k≤l.length→l.length<K+k→zL l l K (k:Int)=some (.inl ()):=by
  intro K
  induction K with
  |zero=>intro k h hK;omega
  |succ K ih=>
   intro k h hK
   unfold zL
   by_cases hk:k<l.length
   ·rw[if_pos (by omega),qJ,List.getElem?_eq_getElem hk,Option.bind_some,Option.bind_some,kg (by omega),if_neg (by simp)]
    exact ih (k+1) (by omega) (by omega)
   ·rw[if_neg (by omega)]
 unfold jg
 rw[if_neg (by simp),show zL l l N 0=zL l l N ((0:Nat):Int)from rfl,key N 0 (by omega) (by omega)]
 rfl
theorem qei (l:List qb) (hl:l.length≤1003): ∀(K k:Nat),k≤l.length→l.length<K+k→ ∃r,zU l K (k:Int)=some r∧((r= .inl ()∧ ∀n∈l.drop k,n.Desk.length≤60∧n.Line.length≤150)∨r= .inr false)
 |0,k,h,hK=>by omega
 |K+1,k,h,hK=>by
  unfold zU
  by_cases hk:k<l.length
  ·rw[if_pos (by omega),qJ,List.getElem?_eq_getElem hk,Option.bind_some,List.drop_eq_getElem_cons hk,kg (by omega)]
   obtain⟨r,h1,h2⟩:=qei l hl K (k+1) (by omega) (by omega)
   by_cases c1:((l[k]).Desk.length:Int)>60
   ·rw[if_pos c1]
    exact⟨_,rfl,.inr rfl⟩
   ·rw[if_neg c1]
    by_cases c2:((l[k]).Line.length:Int)>150
    ·simp only[Option.bind_some,decide_eq_true c2,if_true]
     exact⟨_,rfl,.inr rfl⟩
    ·simp only[Option.bind_some,decide_eq_false c2,Bool.false_eq_true,if_false]
     refine⟨r,h1,?_⟩
     rcases h2 with⟨g1,g2⟩|g1
     ·refine .inl ⟨g1,fun n hn=>?_⟩
      rcases List.mem_cons.1 hn with rfl|hn
      ·omega
      ·exact g2 n hn
     ·exact .inr g1
  ·rw[if_neg (by omega),List.drop_of_length_le (by omega)]
   exact⟨_,rfl,.inl ⟨rfl,fun n hn=>by simp at hn⟩⟩
theorem qhr {N:Nat} (hN:2000<N) (l:List qb) (m:Nat) (hm:m≤1000): ∃b,vV N l (m:Int)=some b∧(b=true→qat l∧l.length≤1003∧(l.length≤m∨1000<l.length)):=by
 unfold vV
 by_cases h1:l.length>1003
 ·refine⟨false,?_,fun h=>by cases h⟩
  have a1:(l.length:Int)>(m:Int):=by omega
  have a2: ¬(l.length:Int)≤1000:=by omega
  have a3:(l.length:Int)>1003:=by omega
  simp[a1,a2,a3]
 ·obtain⟨r,g1,g2⟩:=qei l (by omega) N 0 (by omega) (by omega)
  have g1:zU l N 0=some r:=g1
  have a3: ¬(l.length:Int)>1003:=by omega
  rw[g1]
  by_cases a1:(l.length:Int)>(m:Int)
  ·by_cases a2:(l.length:Int)≤1000
   ·exact⟨false,by simp[a1,a2],fun h=>by cases h⟩
   ·rcases g2 with⟨rfl,g2⟩|rfl
    ·exact⟨true,by simp[a1,a2,a3],fun _=>⟨g2,by omega,.inr (by omega)⟩⟩
    ·exact⟨false,by simp[a1,a2,a3],fun h=>by cases h⟩
  ·rcases g2 with⟨rfl,g2⟩|rfl
   ·exact⟨true,by simp[a1,a3],fun _=>⟨g2,by omega,.inl (by omega)⟩⟩
   ·exact⟨false,by simp[a1,a3],fun h=>by cases h⟩
def ltN (a b:qb):Bool:=ltL a.Desk b.Desk||(a.Desk==b.Desk&&decide (a.Number<b.Number))
theorem qhY {a b c:qb} (h:ltN a b=true) (k:ltN b c=true):ltN a c=true:=qcm (x:=toQ a) (y:=toQ b) (z:=toQ c) h k
theorem qez (a:qb):ltN a a=false:=qcT (toQ a)
theorem qoj {p n:qb} (h:qaL p n=false):ltN p n=true:=by
 unfold qaL at h
 simp only[Bool.or_eq_false_iff,Bool.and_eq_false_iff,beq_eq_false_iff_ne,decide_eq_false_iff_not]at h
 unfold ltN
 by_cases e:p.Desk=n.Desk
 ·have:p.Number<n.Number:=by
   rcases h.2 with h2|h2
   ·exact absurd e.symm h2
   ·have:=h2.1
    omega
  simp[e,this]
 ·have:ltL p.Desk n.Desk=true:=by
   cases h1:ltL p.Desk n.Desk with
   |true=>rfl
   |false=>exact absurd (qbu _ _ h1 h.1) e
  simp[this]
abbrev qbJ (l:List qb):Prop:=l.Pairwise fun a b=>ltN a b=true
theorem qij: ∀(l:List qb) (p:Option qb),qdC p l=0→(∀q,p=some q→ ∀n∈l,ltN q n=true)∧qbJ l∧ ∀n∈l,1≤n.Number∧n.Number≤1000
 |[],p,_=>⟨by simp,List.Pairwise.nil,by simp⟩
 |n::l,p,h=>by
  rw[qbB]at h
  by_cases h1:yw n=0
  ·rw[if_neg (fun x=>x h1)]at h
   by_cases h2:qf0 p n=true
   ·rw[if_pos h2]at h;cases h
   ·rw[if_neg h2]at h
    obtain⟨a,b,c⟩:=qij l (some n) h
    have hn:1≤n.Number∧n.Number≤1000:=by
     unfold yw at h1
     by_cases e1:xI n.Desk=false
     ·rw[if_pos e1]at h1;cases h1
     ·rw[if_neg e1]at h1
      by_cases e2:(vQ n.Number 1 1000||vQ n.Clock 1 1000000)=true
      ·rw[if_pos e2]at h1;cases h1
      ·unfold vQ at e2
       simp at e2
       omega
    refine⟨fun q hq x hx=>?_,List.Pairwise.cons (fun x hx=>a n rfl x hx) b,fun x hx=>?_⟩
    ·subst hq
     have hb:ltN q n=true:=qoj (by simpa[qf0]using h2)
     rcases List.mem_cons.1 hx with rfl|hx
     ·exact hb
     ·exact qhY hb (a n rfl x hx)
    ·rcases List.mem_cons.1 hx with rfl|hx
     ·exact hn
     ·exact c x hx
  ·rw[if_pos h1]at h;exact absurd h h1
def qdc:List qb→Int→Int
 |[],m=>m
 |n::s,m=>if n.Number=m+1 then qdc s (m+1)else m
def refE:List qb→Int→Int
 |[],m=>m
 |n::s,m=>if n.Number=m+1 then refE s (m+1)else refE s m
def zz (d:Str) (n:qb):Bool:=n.Desk==d
theorem qnK {l:List qb} (hl:l.length≤1003) (x:qb): ∀(K i:Nat),i≤l.length→l.length<K+i→ve l x K (i:Int)=some ((i+((l.drop i).takeWhile (zz x.Desk)).length:Nat):Int)
 |0,i,h1,h2=>by omega
 |K+1,i,h1,h2=>by
  unfold ve
  by_cases hi:i<l.length
  ·rw[if_pos (by omega),qJ,List.getElem?_eq_getElem hi,Option.bind_some,Option.bind_some,List.drop_eq_getElem_cons hi,List.takeWhile_cons,show(l[i].Desk==x.Desk)=zz x.Desk l[i]from rfl]
   by_cases hd:zz x.Desk l[i]=true
   ·rw[if_pos hd,if_pos hd,kg (by omega),qnK hl x K (i+1) (by omega) (by omega),List.length_cons]
    congr 2
    omega
   ·rw[if_neg hd,if_neg hd]
    rfl
  ·rw[if_neg (by omega),Option.bind_some,if_neg (by simp),List.drop_of_length_le (by omega)]
   simp
theorem qnk {s:List qb} (hs:s.length≤1003): ∀(K i:Nat) (m:Int),i≤s.length→s.length<K+i→0≤m→m≤i→jI s K m (i:Int)=some (qdc (s.drop i) m)
 |0,i,m,h1,h2,_,_=>by omega
 |K+1,i,m,h1,h2,h3,h4=>by
  unfold jI
  by_cases hi:i<s.length
  ·have e1:w64 (m+1)=m+1:=qaq (by omega) (by omega)
   rw[if_pos (by omega),qJ,List.getElem?_eq_getElem hi,Option.bind_some,List.drop_eq_getElem_cons hi,qdc,e1]
   by_cases e:s[i].Number=m+1
   ·rw[if_neg (by simp[e]),if_pos e,kg (by omega),qnk hs K (i+1) (m+1) (by omega) (by omega) (by omega) (by omega)]
   ·rw[if_pos (by simp[e]),if_neg e]
  ·rw[if_neg (by omega),List.drop_of_length_le (by omega)]
   rfl
def Begins (l:List qb) (i:Nat):Prop:=i=0∨(0<i∧ ∀x,l[i]? =some x→ ∃p,l[i-1]? =some p∧(p.Desk==x.Desk)=false)
def qah (x n:qb):Bool:=x.Desk==n.Desk&&(decide (x.Number=n.Number)&&true)
def qhW (x n:qb):Bool:=(x.Desk==n.Desk)&&(decide (x.Number=n.Number)&&(decide (x.Clock=n.Clock)&&((x.Line==n.Line)&&true)))
def qen (a:List qb) (n:qb):Bool:=a.any fun x=>qah x n
def qbo (a:List qb) (n:qb):Bool:=a.any fun x=>qah x n&&!qhW x n
theorem yz {x n:qb}:qah x n=true↔x.Desk=n.Desk∧x.Number=n.Number:=by simp[qah]
theorem qgi {x y:qb} (h:ltN x y=true):qah x y=false:=by
 cases e:qah x y with
 |false=>rfl
 |true=>
  obtain⟨h1,h2⟩:=yz.1 e
  unfold ltN at h
  rw[h1,h2,xH]at h
  simp at h
theorem qeM {a:List qb} (ha:qbJ a) {x y n:qb} (hx:x∈a) (hy:y∈a) (h1:qah x n=true) (h2:qah y n=true):x=y:=by
 obtain⟨i,hi⟩:=List.getElem?_of_mem hx
 obtain⟨j,hj⟩:=List.getElem?_of_mem hy
 obtain⟨hil,hi⟩:=List.getElem?_eq_some_iff.1 hi
 obtain⟨hjl,hj⟩:=List.getElem?_eq_some_iff.1 hj
 have hp:=List.pairwise_iff_getElem.1 ha
 obtain⟨m1,m2⟩:=yz.1 h1
 obtain⟨m3,m4⟩:=yz.1 h2
 have hs:qah x y=true:=yz.2 ⟨m1.trans m3.symm,m2.trans m4.symm⟩
 have hs':qah y x=true:=yz.2 ⟨m3.trans m1.symm,m4.trans m2.symm⟩
 rcases Nat.lt_trichotomy i j with h|h|h
 ·have:=qgi (hp i j hil hjl h)
  rw[hi,hj,hs]at this;cases this
 ·subst h;exact hi.symm.trans hj
 ·have:=qgi (hp j i hjl hil h)
  rw[hi,hj,hs']at this;cases this
theorem qmB {a:List qb} (ha:qbJ a) {x n:qb} (hx:x∈a) (h:qah x n=true):qbo a n=!qhW x n∧qen a n=true:=by
 refine⟨?_,List.any_eq_true.2 ⟨x,hx,h⟩⟩
 unfold qbo
 cases e:qhW x n with
 |false=>exact List.any_eq_true.2 ⟨x,hx,by simp[h,e]⟩
 |true=>
  rw[Bool.not_true,List.any_eq_false]
  intro y hy
  cases hm:qah y n with
  |false=>simp
  |true=>rw[qeM ha hy hx hm h];simp[e]
theorem qme {a:List qb} {n:qb} (h:qen a n=false):qbo a n=false:=by
 unfold qen at h
 unfold qbo
 rw[List.any_eq_false]at h⊢
 intro x hx
 have:=h x hx
 simp[this]
theorem qkP {a:List qb} (hl:a.length≤1003) (n:qb): ∀(K k:Nat),k≤a.length→a.length<K+k→ ∃r,qU a n.Desk n.Number n.Clock n.Line K (k:Int)=some r∧((r= .inl ()∧qen (a.drop k) n=false)∨ ∃j x,r= .inr ((j:Nat):Int)∧a[j]? =some x∧qah x n=true)
 |0,k,h1,h2=>by omega
 |K+1,k,h1,h2=>by
  unfold qU
  by_cases hk:k<a.length
  ·have ec:yJ a[k] n.Desk n.Number n.Clock n.Line=some (qah a[k] n):=rfl
   rw[if_pos (by omega),qJ,List.getElem?_eq_getElem hk,Option.bind_some,ec,Option.bind_some]
   by_cases hs:qah a[k] n=true
   ·rw[if_pos hs]
    exact⟨_,rfl,.inr ⟨k,a[k],rfl,List.getElem?_eq_getElem hk,hs⟩⟩
   ·rw[if_neg hs,kg (by omega)]
    obtain⟨r,r1,r2⟩:=qkP hl n K (k+1) (by omega) (by omega)
    refine⟨r,r1,?_⟩
    rcases r2 with⟨r2,r3⟩|r2
    ·refine .inl ⟨r2,?_⟩
     rw[List.drop_eq_getElem_cons hk]
     unfold qen at r3⊢
     rw[List.any_cons,r3]
     simpa using hs
    ·exact .inr r2
  ·rw[if_neg (by omega),List.drop_of_length_le (by omega)]
   exact⟨_,rfl,.inl ⟨rfl,rfl⟩⟩
theorem qlN {N:Nat} (hN:2000<N) {a:List qb} (hl:a.length≤1003) (n:qb):(ko N a n.Desk n.Number n.Clock n.Line=some (-1)∧qen a n=false)∨ ∃j x,ko N a n.Desk n.Number n.Clock n.Line=some ((j:Nat):Int)∧a[j]? =some x∧qah x n=true:=by
 obtain⟨r,r1,r2⟩:=qkP hl n N 0 (by omega) (by omega)
 unfold ko
 rw[show qU a n.Desk n.Number n.Clock n.Line N 0=_ from r1]
 rcases r2 with⟨rfl,r2⟩|⟨j,x,rfl,r2,r3⟩
 ·exact .inl ⟨rfl,by simpa using r2⟩
 ·exact .inr ⟨j,x,rfl,r2,r3⟩
theorem qle {N:Nat} (hN:2000<N) {a:List qb} (hl:a.length≤1003) (ha:qbJ a) (n:qb) {out:List qb} (ho:out.length≤2100):
 ((ko N a n.Desk n.Number n.Clock n.Line).bind fun r17=>if r17<0 then(app 48 out [n]).bind fun l19=>some (.inl l19)else
   (idx a r17).bind fun x20=>if(!((x20.Desk==n.Desk)&&(decide (x20.Number=n.Number)&&(decide (x20.Clock=n.Clock)&&((x20.Line==n.Line)&&true)))))=true then some (.inr ([],29))else some (.inl out):Option ((List qb)⊕((List qb)×Int)))
 =some (if qbo a n=true then .inr ([],29)else .inl (if qen a n=true then out else out++[n])):=by
 rcases qlN hN hl n with⟨h1,h2⟩|⟨j,x,h1,h2,h3⟩
 ·rw[h1,Option.bind_some,if_pos (by omega),jQ (by simp;omega) (by simp;omega),Option.bind_some,qme h2,h2]
  rfl
 ·obtain⟨c1,c2⟩:=qmB ha (List.mem_of_getElem? h2) h3
  rw[h1,Option.bind_some,if_neg (by omega),qJ,h2,Option.bind_some,show((x.Desk==n.Desk)&&(decide (x.Number=n.Number)&&(decide (x.Clock=n.Clock)&&((x.Line==n.Line)&&true))))=qhW x n from rfl,c1,c2]
  cases qhW x n<;>rfl
def qbU (a b:List qb):List qb:=b.filter fun n=>!qen a n
theorem pg_n {N:Nat} (hN:2000<N) {b:List qb} (hb:b.length≤1003): ∀(K k:Nat) (out:List qb),k≤b.length→b.length<K+k→out.length≤1003+k→
 jd N b K out (k:Int)=some (if(b.drop k).any (qbo [])=true then .inr ([],29)else .inl (out++qbU [] (b.drop k)))
 |0,k,out,h1,h2,_=>by omega
 |K+1,k,out,h1,h2,h3=>by
  unfold jd
  by_cases hk:k<b.length
  ·rw[if_pos (by omega),qJ,List.getElem?_eq_getElem hk,Option.bind_some]
   rw[show _=_ from qle hN (a:=[]) (by simp) List.Pairwise.nil b[k] (out:=out) (by omega),Option.bind_some,List.drop_eq_getElem_cons hk,List.any_cons]
   have e1:qbo [] b[k]=false:=rfl
   have e2:qen [] b[k]=false:=rfl
   rw[e1,e2,if_neg (by simp),if_neg (by simp),Bool.false_or]
   simp only
   rw[kg (by omega),pg_n hN hb K (k+1) (out++[b[k]]) (by omega) (by omega) (by simp;omega)]
   unfold qbU
   rw[List.filter_cons,e2]
   simp
  ·rw[if_neg (by omega),List.drop_of_length_le (by omega)]
   simp[qbU]
theorem pg_c {N:Nat} (hN:2000<N) {hd:qb} {tl b:List qb} (hl:(hd::tl).length≤1003) (ha:qbJ (hd::tl)) (hb:b.length≤1003): ∀(K k:Nat) (out:List qb),k≤b.length→b.length<K+k→out.length≤1003+k→
 jc N hd tl b K out (k:Int)=some (if(b.drop k).any (qbo (hd::tl))=true then .inr ([],29)else .inl (out++qbU (hd::tl) (b.drop k)))
 |0,k,out,h1,h2,_=>by omega
 |K+1,k,out,h1,h2,h3=>by
  unfold jc
  by_cases hk:k<b.length
  ·rw[if_pos (by omega),qJ,List.getElem?_eq_getElem hk,Option.bind_some]
   rw[show _=_ from qle hN hl ha b[k] (out:=out) (by omega),Option.bind_some,List.drop_eq_getElem_cons hk,List.any_cons]
   by_cases e1:qbo (hd::tl) b[k]=true
   ·rw[if_pos e1,e1,Bool.true_or,if_pos rfl]
   ·have e1':qbo (hd::tl) b[k]=false:=by simpa using e1
    rw[if_neg e1,e1',Bool.false_or]
    simp only
    rw[kg (by omega),pg_c hN hl ha hb K (k+1) _ (by omega) (by omega) (by split<;>(try simp only[List.length_append,List.length_singleton])<;>omega)]
    unfold qbU
    rw[List.filter_cons]
    cases e2:qen (hd::tl) b[k]<;>simp
  ·rw[if_neg (by omega),List.drop_of_length_le (by omega)]
   simp[qbU]
def befN (y:qb) (x:qb):Bool:=ltN x y
def insN (o:List qb) (y:qb):List qb:=o.takeWhile (befN y)++y::o.dropWhile (befN y)
theorem qoe {x y:qb} (h:ltN x y=false) (hs:qah x y=false):ltN y x=true:=by
 unfold ltN at h⊢
 simp only[Bool.or_eq_false_iff,Bool.and_eq_false_iff,beq_eq_false_iff_ne,decide_eq_false_iff_not]at h
 by_cases e:y.Desk=x.Desk
 ·have: ¬x.Number=y.Number:=fun e2=>by rw[yz.2 ⟨e.symm,e2⟩]at hs;cases hs
  have h2: ¬x.Number<y.Number:=by
   rcases h.2 with h2|h2
   ·exact absurd e.symm h2
   ·exact h2
  have:y.Number<x.Number:=by omega
  simp[e,this]
 ·have:ltL y.Desk x.Desk=true:=by
   cases h1:ltL y.Desk x.Desk with
   |true=>rfl
   |false=>exact absurd (qbu _ _ h1 h.1) e
  simp[this]
theorem qg8 (x y:qb):qah x y=qah y x:=by
 rw[Bool.eq_iff_iff,yz,yz]
 exact⟨fun h=>⟨h.1.symm,h.2.symm⟩,fun h=>⟨h.1.symm,h.2.symm⟩⟩
abbrev Dist (l:List qb):Prop:=l.Pairwise fun x y=>qah x y=false
theorem qfk (l:List qb):(yR l).length=l.length:=by
 unfold yR
 rw[List.length_map,(qaE _).1,List.length_map]
theorem qeA (l:List qb):(yR l).Perm l:=by
 have h:=((qaE (l.map toQ)).2.1).map ofQ
 rw[List.map_map,show ofQ∘toQ=id from rfl,List.map_id]at h
 exact h
theorem qlt {l:List qb} (h:Dist l):qbJ (yR l):=by
 have hd:Dist (yR l):=(qeA l).symm.pairwise h fun {x y} h=>by rw[qg8];exact h
 rw[qbJ,List.pairwise_iff_getElem]
 intro i j hi hj hij
 have hdj:=List.pairwise_iff_getElem.1 hd i j hi hj hij
 have hlen:=(qaE (l.map toQ)).1
 have hl:=qfk l
 have hs:=(qaE (l.map toQ)).2.2 i j hij (by rw[List.length_map];omega)
 rw[getElem!_pos (qbq (l.map toQ)) j (by rw[hlen,List.length_map];omega),getElem!_pos (qbq (l.map toQ)) i (by rw[hlen,List.length_map];omega)]at hs
 have e: ∀(k:Nat) (hk:k<(yR l).length),toQ (yR l)[k]=(qbq (l.map toQ))[k]'(by rw[hlen,List.length_map];omega):=by
  intro k hk
  simp only[yR,List.getElem_map]
  rfl
 have h2:ltN (yR l)[j] (yR l)[i]=false:=by
  show lt4 (toQ (yR l)[j]) (toQ (yR l)[i])=false
  rw[e j hj,e i hi]
  exact hs
 exact qoe h2 (by rw[qg8];exact hdj)
theorem qnb {a b:List qb} (ha:qbJ a) (hb:qbJ b):Dist (a++qbU a b):=by
 refine List.pairwise_append.2 ⟨ha.imp fun h=>qgi h,(hb.sublist List.filter_sublist).imp fun h=>qgi h,fun x hx y hy=>?_⟩
 have:=(List.mem_filter.1 hy).2
 have hm:qen a y=false:=by simpa using this
 unfold qen at hm
 rw[List.any_eq_false]at hm
 simpa using hm x hx
theorem qo3 (a b:Int):qV [a,b]=0↔a=0∧b=0:=by
 by_cases h1:a=0
 ·by_cases h2:b=0<;>simp[qV,h1,h2]
 ·simp[qV,h1]
def endN (L:List qb):List qb×Int:=if checkN L=0 then(L,0)else([],29)
def qlc (a b:List qb):List qb×Int:=if b.any (qbo a)=true then([],29)else endN (yR (a++qbU a b))
theorem qjS {a b:List qb} (ha:qat a) (hb:qat b):qat (yR (a++qbU a b)):=by
 intro n hn
 rcases List.mem_append.1 ((qeA _).subset hn)with h|h
 ·exact ha n h
 ·exact hb n (List.mem_filter.1 h).1
theorem qkF {N:Nat} (hN:4000<N) {a b:List qb} (sa:qat a) (sb:qat b) (h0:checkN a=0) (k0:checkN b=0) (ha:qbJ a) (hb:qbJ b) (la:a.length≤16) (lb:b.length≤16):qK N a b=some (qlc a b):=by
 have hN2:2000<N:=by omega
 have hf:qV [(0:Int),0]=0:=rfl
 have hl:(yR (a++qbU a b)).length≤32:=by
  have:=List.length_filter_le (fun n=>!qen a n) b
  rw[qfk,List.length_append]
  unfold qbU
  omega
 have hl2:(a++qbU a b).length=(yR (a++qbU a b)).length:=(qfk _).symm
 have ss:=qjS sa sb
 unfold qlc endN
 cases a with
 |nil=>
  show xh N b=_
  unfold xh
  have e1:=pg_n hN2 (b:=b) (by omega) N 0 [] (by omega) (by omega) (by simp)
  rw[List.drop_zero]at e1
  rw[jP hN2 sa,Option.bind_some,jP hN2 sb,Option.bind_some,h0,k0,vY (by simp) (by simp;omega),Option.bind_some,hf,if_neg (by simp),show qjX=some ()from rfl,Option.bind_some,show jd N b N [] 0=_ from e1,Option.bind_some]
  by_cases hc:b.any (qbo [])=true
  ·rw[if_pos hc,if_pos hc]
  ·rw[if_neg hc,if_neg hc]
   simp only
   unfold qla
   rw[if_pos (by omega),Option.bind_some,if_pos hl2,Option.bind_some,xC,Option.bind_some,if_pos (by omega),jP hN2 ss,Option.bind_some,xC,Option.bind_some,vY (by simp) (by simp;omega),Option.bind_some,Option.bind_some]
   have hw: ¬((yR ([]++qbU [] b)).length:Int)>1000:=by omega
   simp only[hw,decide_false,Bool.false_eq_true,if_false]
   by_cases hz:checkN (yR ([]++qbU [] b))=0
   ·rw[if_pos hz,hz]
    rfl
   ·rw[if_neg hz]
    revert hz
    generalize checkN (yR ([]++qbU [] b))=z
    intro hz
    simp[hz,qV]
 |cons hd tl=>
  show xk N hd tl b=_
  unfold xk jf
  have e1:=pg_c hN2 (hd:=hd) (tl:=tl) (b:=b) (by omega) ha (by omega) N 0 (hd::tl) (by omega) (by omega) (by omega)
  rw[List.drop_zero]at e1
  rw[jP hN2 sa,Option.bind_some,jP hN2 sb,Option.bind_some,h0,k0,vY (by simp) (by simp;omega),Option.bind_some,hf,if_neg (by simp),jQ (by simp at la⊢;omega) (by simp at la⊢;omega),Option.bind_some,Option.bind_some,List.nil_append,show jc N hd tl b N (hd::tl) 0=_ from e1,Option.bind_some]
  by_cases hc:b.any (qbo (hd::tl))=true
  ·rw[if_pos hc,if_pos hc]
  ·rw[if_neg hc,if_neg hc]
   simp only
   unfold qkN
   rw[if_pos (by omega),Option.bind_some,if_pos hl2,Option.bind_some,xC,Option.bind_some,if_pos (by omega),jP hN2 ss,Option.bind_some,xC,Option.bind_some,vY (by simp) (by simp;omega),Option.bind_some,Option.bind_some]
   have hw: ¬((yR ((hd::tl)++qbU (hd::tl) b)).length:Int)>1000:=by omega
   simp only[hw,decide_false,Bool.false_eq_true,if_false]
   by_cases hz:checkN (yR ((hd::tl)++qbU (hd::tl) b))=0
   ·rw[if_pos hz,hz]
    rfl
   ·rw[if_neg hz]
    revert hz
    generalize checkN (yR ((hd::tl)++qbU (hd::tl) b))=z
    intro hz
    simp[hz,qV]
theorem qfq (N:Nat): ∀(l:List qb) (evs:List qg) (ms:List qB),(qdK N l evs ms).1.length+(qdK N l evs ms).2.length=evs.length+ms.length+l.length
 |[],evs,ms=>by simp[qdK]
 |n::l,evs,ms=>by
  rw[qg9]
  split
  ·rw[qfq N l]
   simp only[List.length_append,List.length_cons,List.length_nil]
   omega
  ·rw[qfq N l]
   simp only[List.length_append,List.length_cons,List.length_nil]
   omega
theorem qlS (N:Nat) (l:List qb):(qgP N l).1.length+(qgP N l).2.length=l.length:=by
 unfold qgP
 rw[qfq,(qbV l).2.1]
 simp
theorem qi3: ∀(s:List qb) (m q:Int),m<q→q≤qdc s m→ ∃n∈s,n.Number=q
 |[],m,q,h1,h2=>by rw[qdc]at h2;omega
 |n::s,m,q,h1,h2=>by
  rw[qdc]at h2
  split at h2
  ·rename_i e
   rcases Int.lt_or_le (m+1) q with h|h
   ·obtain⟨x,hx,hxq⟩:=qi3 s (m+1) q h h2
    exact⟨x,List.mem_cons_of_mem _ hx,hxq⟩
   ·exact⟨n,List.mem_cons_self ..,by omega⟩
  ·omega
theorem qnE {p n:qb}:qaL p n=false↔ltL n.Desk p.Desk=false∧(n.Desk=p.Desk→p.Number<n.Number∧p.Clock<n.Clock):=by
 unfold qaL
 simp only[Bool.or_eq_false_iff,Bool.and_eq_false_iff,beq_eq_false_iff_ne,decide_eq_false_iff_not]
 constructor
 ·rintro⟨h1,h2⟩
  refine⟨h1,fun e=>?_⟩
  rcases h2 with h2|h2
  ·exact absurd e h2
  ·omega
 ·rintro⟨h1,h2⟩
  refine⟨h1,?_⟩
  by_cases e:n.Desk=p.Desk
  ·have:=h2 e
   exact .inr (by omega)
  ·exact .inl e
theorem qjW {a b c:qb} (h:qaL a b=false) (k:qaL b c=false):qaL a c=false:=by
 rw[qnE]at h k⊢
 obtain⟨h1,h2⟩:=h
 obtain⟨k1,k2⟩:=k
 have hab:a.Desk=b.Desk∨ltL a.Desk b.Desk=true:=by
  cases e:ltL a.Desk b.Desk with
  |true=>exact .inr rfl
  |false=>exact .inl (qbu _ _ e h1)
 have hca:ltL c.Desk a.Desk=false:=by
  cases e:ltL c.Desk a.Desk with
  |false=>rfl
  |true=>
   rcases hab with e2|e2
   ·rw[e2,k1]at e;cases e
   ·rw[qa0 e e2]at k1;cases k1
 refine⟨hca,fun e=>?_⟩
 have eb:b.Desk=a.Desk:=by
  rcases hab with e2|e2
  ·exact e2.symm
  ·rw[←e,k1]at e2;cases e2
 have q1:=h2 eb
 have q2:=k2 (e.trans eb.symm)
 omega
theorem qhl: ∀(l:List qb) (p:Option qb),qdC p l=0→(∀q,p=some q→ ∀n∈l,qaL q n=false)∧(l.Pairwise fun a b=>qaL a b=false)∧ ∀n∈l,yw n=0
 |[],p,_=>⟨by simp,List.Pairwise.nil,by simp⟩
 |n::l,p,h=>by
  rw[qbB]at h
  by_cases h1:yw n=0
  ·rw[if_neg (fun x=>x h1)]at h
   by_cases h2:qf0 p n=true
   ·rw[if_pos h2]at h;cases h
   ·rw[if_neg h2]at h
    obtain⟨a,b,c⟩:=qhl l (some n) h
    refine⟨fun q hq x hx=>?_,List.Pairwise.cons (fun x hx=>a n rfl x hx) b,fun x hx=>?_⟩
    ·subst hq
     have hb:qaL q n=false:=by simpa[qf0]using h2
     rcases List.mem_cons.1 hx with rfl|hx
     ·exact hb
     ·exact qjW hb (a n rfl x hx)
    ·rcases List.mem_cons.1 hx with rfl|hx
     ·exact h1
     ·exact c x hx
  ·rw[if_pos h1]at h;exact absurd h h1
theorem qjA: ∀(l:List qb) (p:Option qb),(∀q,p=some q→ ∀n∈l,qaL q n=false)→(l.Pairwise fun a b=>qaL a b=false)→(∀n∈l,yw n=0)→qdC p l=0
 |[],p,_,_,_=>rfl
 |n::l,p,h1,h2,h3=>by
  obtain⟨p1,p2⟩:=List.pairwise_cons.1 h2
  rw[qbB,if_neg (fun x=>x (h3 n (List.mem_cons_self ..)))]
  have hb:qf0 p n=false:=by
   cases p with
   |none=>rfl
   |some q=>exact h1 q rfl n (List.mem_cons_self ..)
  rw[if_neg (by simp[hb])]
  exact qjA l (some n) (fun q hq x hx=>by injection hq with hq;subst hq;exact p1 x hx) p2 fun x hx=>h3 x (List.mem_cons_of_mem _ hx)
theorem qcj {l s:List qb} (h:checkN l=0) (hs:s.Sublist l):checkN s=0:=by
 unfold checkN at h⊢
 split at h
 ·cases h
 ·have:=hs.length_le
  rw[if_neg (by omega)]
  obtain⟨_,b,c⟩:=qhl l none h
  exact qjA s none (by simp) (b.sublist hs) fun n hn=>c n (hs.subset hn)
def qd3:Nat→List qb→List qB
 |0,_=>[]
 |_+1,[]=>[]
 |t+1,n::l=>⟨n.Desk,qdc ((n::l).takeWhile (zz n.Desk)) 0⟩::qd3 t ((n::l).dropWhile (zz n.Desk))
theorem qkR: ∀(s:List qb) (m:Int),m≤qdc s m∧qdc s m≤m+s.length
 |[],m=>⟨Int.le_refl _,by simp[qdc]⟩
 |n::s,m=>by
  rw[qdc]
  split
  ·have:=qkR s (m+1)
   simp only[List.length_cons]
   omega
  ·simp only[List.length_cons]
   omega
theorem qk2 {N:Nat} {l:List qb} (hl:l.length≤1003) (hN:2000<N): ∀(t i K:Nat) (acc:List qB),l.length-i≤t→i≤l.length→l.length<K+i→acc.length≤i→
 jk N l K acc (i:Int)=some (acc++qd3 t (l.drop i))
 |t,i,0,acc,h1,h2,h3,h5=>by omega
 |t,i,K+1,acc,h1,h2,h3,h5=>by
  by_cases hi:i<l.length
  ·have hx:l[i]? =some l[i]:=List.getElem?_eq_getElem hi
   obtain⟨g',hg'⟩: ∃g',(l.drop i).takeWhile (zz l[i].Desk)=l[i]::g':=by
    rw[List.drop_eq_getElem_cons hi,List.takeWhile_cons,if_pos (by simp[zz])]
    exact⟨_,rfl⟩
   have hsplit:l.drop i=(l[i]::g')++(l.drop i).dropWhile (zz l[i].Desk):=by rw[←hg',List.takeWhile_append_dropWhile]
   have hlen:i+(g'.length+1)≤l.length:=by
    have:=congrArg List.length hsplit
    simp only[List.length_drop,List.length_append,List.length_cons]at this
    omega
   have htake:(l.drop i).take (g'.length+1)=l[i]::g':=by
    rw[hsplit,show g'.length+1=(l[i]::g').length from rfl,List.take_left]
   match t,h1 with
   |0,h1=>omega
   |t+1,h1=>
    have ih:=qk2 hl hN t (i+(g'.length+1)) K (acc++[⟨l[i].Desk,qdc (l[i]::g') 0⟩]) (by omega) hlen (by omega) (by simp;omega)
    have hglen:(l[i]::g').length=g'.length+1:=rfl
    have hg3:(l[i]::g').length≤1003:=by omega
    have e2:=qnk hg3 N 0 0 (by omega) (by omega) (Int.le_refl _) (by omega)
    rw[List.drop_zero]at e2
    rw[jk,if_pos (by omega),qJ,hx,Option.bind_some,qnK hl _ N i (by omega) (by omega),Option.bind_some,hg',hglen,qgc (by omega) hlen,show i+(g'.length+1)-i=g'.length+1 by omega,htake,Option.bind_some]
    rw[show jI (l[i]::g') N 0 0=_ from e2,Option.bind_some,jQ (by simp;omega) (by simp;omega),Option.bind_some]
    rw[ih,List.append_assoc]
    have ed:l.drop (i+(g'.length+1))=(l.drop i).dropWhile (zz l[i].Desk):=by
     rw[←List.drop_drop]
     have:=congrArg (List.drop (g'.length+1)) hsplit
     rw[this,show g'.length+1=(l[i]::g').length from rfl,List.drop_left]
    have ev:qd3 (t+1) (l.drop i)=⟨l[i].Desk,qdc (l[i]::g') 0⟩::qd3 t ((l.drop i).dropWhile (zz l[i].Desk)):=by
     rw[←hg']
     rw[List.drop_eq_getElem_cons hi]
     rfl
    rw[ev,ed]
    rfl
  ·rw[jk,if_neg (by omega),List.drop_of_length_le (by omega)]
   cases t<;>simp[qd3]
theorem qcr (d:Str): ∀(l:List qb),qbJ l→(∀x∈l,x.Desk=d∨ltL d x.Desk=true)→ ∀z∈l.dropWhile (zz d),ltL d z.Desk=true
 |[],_,_,z,hz=>by simp at hz
 |x::l,ha,hx,z,hz=>by
  obtain⟨h1,h2⟩:=List.pairwise_cons.1 ha
  rw[List.dropWhile_cons]at hz
  by_cases hd:zz d x=true
  ·rw[if_pos hd]at hz
   exact qcr d l h2 (fun y hy=>hx y (List.mem_cons_of_mem _ hy)) z hz
  ·rw[if_neg hd]at hz
   have h0:ltL d x.Desk=true:=by
    rcases hx x (List.mem_cons_self ..)with e|e
    ·exact absurd (beq_iff_eq.2 e) hd
    ·exact e
   rcases List.mem_cons.1 hz with rfl|hz
   ·exact h0
   ·have:=h1 z hz
    unfold ltN at this
    rcases Bool.or_eq_true _ _▸this with e|e
    ·exact qa0 h0 e
    ·simp only[Bool.and_eq_true,beq_iff_eq]at e
     rw[←e.1];exact h0
theorem qdZ {n:qb} {l:List qb} (ha:qbJ (n::l)): ∀x∈n::l,x.Desk=n.Desk∨ltL n.Desk x.Desk=true:=by
 intro x hx
 rcases List.mem_cons.1 hx with rfl|hx
 ·exact .inl rfl
 ·have:=(List.pairwise_cons.1 ha).1 x hx
  unfold ltN at this
  rcases Bool.or_eq_true _ _▸this with e|e
  ·exact .inr e
  ·simp only[Bool.and_eq_true,beq_iff_eq]at e
   exact .inl e.1.symm
theorem qiF {a b:Str} (h:ltL a b=true):(b==a)=false:=by
 cases e:b==a with
 |false=>rfl
 |true=>rw[beq_iff_eq.1 e,xH]at h;cases h
theorem qfI {n:qb} {l:List qb} (ha:qbJ (n::l)):(n::l).takeWhile (zz n.Desk)=(n::l).filter (zz n.Desk):=by
 have h:=qcr n.Desk (n::l) ha (qdZ ha)
 have e:(n::l).filter (zz n.Desk)=((n::l).takeWhile (zz n.Desk)++(n::l).dropWhile (zz n.Desk)).filter (zz n.Desk):=by rw[List.takeWhile_append_dropWhile]
 rw[e,List.filter_append,List.filter_eq_self.2 (fun x hx=>List.all_eq_true.1 List.all_takeWhile x hx),List.filter_eq_nil_iff.2 (fun x hx=>by have:=h x hx;unfold zz;rw[qiF this];simp),List.append_nil]
theorem qfV {n:qb} {l:List qb} {d:Str} (hd:(d==n.Desk)=false):((n::l).dropWhile (zz n.Desk)).filter (zz d)=(n::l).filter (zz d):=by
 have e:(n::l).filter (zz d)=((n::l).takeWhile (zz n.Desk)++(n::l).dropWhile (zz n.Desk)).filter (zz d):=by rw[List.takeWhile_append_dropWhile]
 rw[e,List.filter_append]
 have h0:((n::l).takeWhile (zz n.Desk)).filter (zz d)=[]:=by
  rw[List.filter_eq_nil_iff]
  intro x hx
  have:=List.all_eq_true.1 (List.all_takeWhile (l:=n::l) (p:=zz n.Desk)) x hx
  unfold zz at this⊢
  rw[beq_iff_eq.1 this]
  intro e2
  rw[beq_iff_eq.1 e2]at hd
  simp at hd
 rw[h0,List.nil_append]
theorem qeW (n:qb) (l:List qb):((n::l).dropWhile (zz n.Desk)).length≤l.length:=by
 rw[List.dropWhile_cons,if_pos (by simp[zz])]
 exact(List.dropWhile_sublist _).length_le
theorem qgN {n:qb} {l:List qb} (ha:qbJ (n::l)):qbJ ((n::l).dropWhile (zz n.Desk)):=ha.sublist (List.dropWhile_sublist _)
def qiz (l:List qb) (d:Str):Int:=qdc (l.filter (zz d)) 0
theorem qjd: ∀(t:Nat) (l:List qb) (h:Int) (d:Str),l.length≤t→qbJ l→qhs h (qd3 t l) d=if l.any (zz d)=true then qiz l d else h
 |0,l,h,d,ht,_=>by
  obtain rfl:=List.length_eq_zero_iff.1 (Nat.le_zero.1 ht)
  rfl
 |t+1,[],h,d,_,_=>rfl
 |t+1,n::l,h,d,ht,ha=>by
  have hlen:=qeW n l
  have ih:=fun h=>qjd t ((n::l).dropWhile (zz n.Desk)) h d (by simp only[List.length_cons]at ht;omega) (qgN ha)
  have e:qhs h (qd3 (t+1) (n::l)) d=qhs (if(n.Desk==d)=true then qdc ((n::l).takeWhile (zz n.Desk)) 0 else h) (qd3 t ((n::l).dropWhile (zz n.Desk))) d:=rfl
  rw[e,ih]
  have hlt:=qcr n.Desk (n::l) ha (qdZ ha)
  by_cases hd:n.Desk=d
  ·subst hd
   rw[if_pos (beq_self_eq_true _)]
   have h1:((n::l).dropWhile (zz n.Desk)).any (zz n.Desk)=false:=List.any_eq_false.2 fun x hx=>by have:=hlt x hx;unfold zz;rw[qiF this];simp
   rw[h1,if_neg (by simp),if_pos (by simp[zz]),qfI ha]
   rfl
  ·have hd1:(n.Desk==d)=false:=beq_eq_false_iff_ne.2 hd
   have hd2:(d==n.Desk)=false:=beq_eq_false_iff_ne.2 (Ne.symm hd)
   simp only[hd1,Bool.false_eq_true,if_false]
   have ef:=qfV (n:=n) (l:=l) hd2
   have ea:((n::l).dropWhile (zz n.Desk)).any (zz d)=(n::l).any (zz d):=by
    have: ∀m:List qb,m.any (zz d)=!(m.filter (zz d)).isEmpty:=by
     intro m
     induction m with
     |nil=>rfl
     |cons a m ih=>
      rw[List.any_cons,List.filter_cons,ih]
      cases zz d a<;>simp
    rw[this,this,ef]
   rw[ea]
   unfold qiz
   rw[ef]
theorem qgI: ∀(t:Nat) (l:List qb),l.length≤t→qbJ l→ ∀m∈qd3 t l,m.Number=qiz l m.Desk∧ ∃n∈l,n.Desk=m.Desk
 |0,l,ht,_,m,hm=>by cases hm
 |t+1,[],_,_,m,hm=>by cases hm
 |t+1,n::l,ht,ha,m,hm=>by
  have hlen:=qeW n l
  rcases List.mem_cons.1 hm with rfl|hm
  ·refine⟨?_,n,List.mem_cons_self ..,rfl⟩
   show qdc ((n::l).takeWhile (zz n.Desk)) 0=qiz (n::l) n.Desk
   rw[qfI ha]
   rfl
  ·obtain⟨h1,x,hx,h2⟩:=qgI t ((n::l).dropWhile (zz n.Desk)) (by simp only[List.length_cons]at ht;omega) (qgN ha) m hm
   have hlt:=qcr n.Desk (n::l) ha (qdZ ha) x hx
   refine⟨?_,x,(List.dropWhile_sublist _).subset hx,h2⟩
   rw[h1]
   unfold qiz
   rw[qfV (by rw[←h2];exact qiF hlt)]
theorem qji: ∀(t:Nat) (l:List qb),(qd3 t l).length≤l.length
 |0,l=>by simp[qd3]
 |t+1,[]=>by simp[qd3]
 |t+1,n::l=>by
  have:=qji t ((n::l).dropWhile (zz n.Desk))
  have hlen:=qeW n l
  rw[qd3]
  simp only[List.length_cons]
  omega
theorem qiT: ∀(t:Nat) (l:List qb) (p:Option qB),l.length≤t→l.length≤1000→qbJ l→(∀n∈l,yw n=0)→(∀q,p=some q→ ∀n∈l,ltL q.Desk n.Desk=true)→qgR p (qd3 t l)=0
 |0,l,p,_,_,_,_,_=>rfl
 |t+1,[],p,_,_,_,_,_=>rfl
 |t+1,n::l,p,ht,h1,ha,hn,hp=>by
  have hlen:=qeW n l
  have hlt:=qcr n.Desk (n::l) ha (qdZ ha)
  rw[qd3,qfC]
  have hnm:xI n.Desk=true:=by
   have:=hn n (List.mem_cons_self ..)
   unfold yw at this
   cases e:xI n.Desk with
   |true=>rfl
   |false=>rw[e]at this;simp at this
  have hc:=qkR ((n::l).takeWhile (zz n.Desk)) 0
  have hc2:((n::l).takeWhile (zz n.Desk)).length≤(n::l).length:=(List.takeWhile_sublist _).length_le
  have hme:qbX ⟨n.Desk,qdc ((n::l).takeWhile (zz n.Desk)) 0⟩=0:=by
   unfold qbX
   simp only[hnm]
   unfold vQ
   rw[if_neg (by simp),if_neg]
   simp only[List.length_cons]at*
   simp
   omega
  rw[hme,if_neg (by simp)]
  have hb:qja p ⟨n.Desk,qdc ((n::l).takeWhile (zz n.Desk)) 0⟩=false:=by
   cases p with
   |none=>rfl
   |some q=>
    show(!(ltL q.Desk n.Desk))=false
    rw[hp q rfl n (List.mem_cons_self ..)]
    rfl
  rw[hb,if_neg (by simp)]
  exact qiT t _ _ (by simp only[List.length_cons]at ht;omega) (by simp only[List.length_cons]at h1;omega) (qgN ha) (fun x hx=>hn x ((List.dropWhile_sublist _).subset hx)) fun q hq x hx=>by
   injection hq with hq
   subst hq
   exact hlt x hx
theorem qlD {N:Nat} (hN:2000<N) {l:List qb} (hs:qat l) (hl:l.length≤1000) (h0:checkN l=0): ∃v,qae N l=some (v,0)∧v.length≤l.length∧qcH v=0∧qfs v∧(∀m∈v,m.Number=qiz l m.Desk)∧(∀h d,qhs h v d=if l.any (zz d)=true then qiz l d else h):=by
 have hc:qdC none l=0:=by
  unfold checkN at h0
  split at h0
  ·cases h0
  ·exact h0
 obtain⟨_,ha,hr⟩:=qij l none hc
 obtain⟨_,_,hg⟩:=qhl l none hc
 have hv:=qk2 (N:=N) (l:=l) (by omega) hN l.length 0 N [] (by omega) (by omega) (by omega) (by simp)
 have hlv:=qji l.length l
 refine⟨qd3 l.length l,?_,hlv,?_,?_,?_,fun h d=>qjd _ l h d (Nat.le_refl _) ha⟩
 ·unfold qae
  rw[jP hN hs,Option.bind_some,h0,if_neg (by simp),show jk N l N [] 0=_ from hv]
  rfl
 ·unfold qcH
  rw[if_neg (by omega)]
  exact qiT _ l none (Nat.le_refl _) hl ha hg (by simp)
 ·intro m hm
  obtain⟨_,n,hn,e⟩:=qgI _ l (Nat.le_refl _) ha m hm
  rw[←e]
  exact(hs n hn).1
 ·intro m hm
  exact(qgI _ l (Nat.le_refl _) ha m hm).1
theorem qgn: ∀{l r:List qb},qbJ l→qbJ r→(∀x,x∈l↔x∈r)→l=r
 |[],[],_,_,_=>rfl
 |[],b::r,_,_,h=>by have:=(h b).2 (List.mem_cons_self ..);cases this
 |a::l,[],_,_,h=>by have:=(h a).1 (List.mem_cons_self ..);cases this
 |a::l,b::r,hl,hr,h=>by
  obtain⟨l1,l2⟩:=List.pairwise_cons.1 hl
  obtain⟨r1,r2⟩:=List.pairwise_cons.1 hr
  have e:a=b:=by
   rcases List.mem_cons.1 ((h a).1 (List.mem_cons_self ..))with e|e
   ·exact e
   ·rcases List.mem_cons.1 ((h b).2 (List.mem_cons_self ..))with e2|e2
    ·exact e2.symm
    ·have:=qhY (r1 a e) (l1 b e2)
     rw[qez]at this;cases this
  subst e
  congr 1
  refine qgn l2 r2 fun x=>⟨fun hx=>?_,fun hx=>?_⟩
  ·rcases List.mem_cons.1 ((h x).1 (List.mem_cons_of_mem _ hx))with e|e
   ·subst e
    have:=l1 x hx
    rw[qez]at this;cases this
   ·exact e
  ·rcases List.mem_cons.1 ((h x).2 (List.mem_cons_of_mem _ hx))with e|e
   ·subst e
    have:=r1 x hx
    rw[qez]at this;cases this
   ·exact e
noncomputable instance decN:DecidableEq qb:=fun _ _=>Classical.propDecidable _
noncomputable def seen (l S:List qb):List qb:=l.filter fun n=>decide (n∈S)
theorem mem_seen {l S:List qb} {x:qb}:x∈seen l S↔x∈l∧x∈S:=by simp[seen]
theorem qdi (l S:List qb):(seen l S).Sublist l:=List.filter_sublist
theorem qiE {l:List qb} (h0:checkN l=0):qbJ l∧ ∀n∈l,1≤n.Number∧n.Number≤1000:=by
 unfold checkN at h0
 split at h0
 ·cases h0
 ·exact(qij l none h0).2
theorem qeO {l S:List qb} (h: ∀x∈l,x∈S):seen l S=l:=List.filter_eq_self.2 fun x hx=>decide_eq_true (h x hx)
theorem qlq {l S T:List qb} (h: ∀x∈l,x∈S↔x∈T):seen l S=seen l T:=
 List.filter_congr fun x hx=>by
  have:=h x hx
  by_cases k:x∈S
  ·rw[decide_eq_true k,decide_eq_true (this.1 k)]
  ·rw[decide_eq_false k,decide_eq_false fun q=>k (this.2 q)]
theorem qnF {l p q:List qb} (ha:qbJ l) (h0:checkN l=0) (hp:p.Sublist l) (hq:q.Sublist l):qlc p q=(seen l (p++q),0):=by
 have hc:q.any (qbo p)=false:=by
  rw[List.any_eq_false]
  intro y hy
  have:qbo p y=false:=by
   unfold qbo
   rw[List.any_eq_false]
   intro x hx
   cases hs:qah x y with
   |false=>simp
   |true=>
    have:=qeM ha (hp.subset hx) (hq.subset hy) hs (yz.2 ⟨rfl,rfl⟩)
    subst this
    simp[qhW]
  rw[this]
  simp
 unfold qlc
 rw[hc,if_neg (by simp)]
 have hd:Dist (p++qbU p q):=qnb (ha.sublist hp) (ha.sublist hq)
 have e:yR (p++qbU p q)=seen l (p++q):=by
  refine qgn (qlt hd) (ha.sublist (qdi l _)) fun y=>?_
  rw[(qeA _).mem_iff,List.mem_append,mem_seen,List.mem_append]
  unfold qbU
  rw[List.mem_filter]
  constructor
  ·rintro(h|⟨h,_⟩)
   ·exact⟨hp.subset h,.inl h⟩
   ·exact⟨hq.subset h,.inr h⟩
  ·rintro⟨h1,h|h⟩
   ·exact .inl h
   ·by_cases hm:y∈p
    ·exact .inl hm
    ·refine .inr ⟨h,?_⟩
     cases e:qen p y with
     |false=>rfl
     |true=>
      unfold qen at e
      obtain⟨x,hx,hs⟩:=List.any_eq_true.1 e
      have:=qeM ha (hp.subset hx) h1 hs (yz.2 ⟨rfl,rfl⟩)
      exact absurd (this▸hx) hm
 rw[e]
 unfold endN
 rw[if_pos (qcj h0 (qdi l _))]
theorem qj9 {N:Nat} (hN:4000<N) {l:List qb} (hs:qat l) (hl:l.length≤14) (h0:checkN l=0) {p q:List qb} (hp:p.Sublist l) (hq:q.Sublist l):qK N p q=some (seen l (p++q),0):=by
 have ha:=(qiE h0).1
 have h1:=hp.length_le
 have h2:=hq.length_le
 rw[qkF hN (fun n hn=>hs n (hp.subset hn)) (fun n hn=>hs n (hq.subset hn)) (qcj h0 hp) (qcj h0 hq) (ha.sublist hp) (ha.sublist hq) (by omega) (by omega),qnF ha h0 hp hq]
theorem qnN {l p:List qb} (h0:checkN l=0) (hp:p.Sublist l) {v:List qB} (hv: ∀h d,qhs h v d=if p.any (zz d)=true then qiz p d else h) {x:qb} (hx:x∈l) (hn:x∉p):x∈qgw l v:=by
 obtain⟨ha,hN⟩:=qiE h0
 have hx1:=(hN x hx).1
 refine List.mem_filter.2 ⟨hx,decide_eq_true ?_⟩
 rw[hv]
 split
 ·rcases Int.lt_or_le (qiz p x.Desk) x.Number with h|h
  ·exact h
  ·obtain⟨y,hy1,hy2⟩:=qi3 _ 0 x.Number (by omega) h
   obtain⟨hy3,hy4⟩:=List.mem_filter.1 hy1
   have:=qeM ha (hp.subset hy3) hx (n:=x) (yz.2 ⟨beq_iff_eq.1 hy4,hy2⟩) (yz.2 ⟨rfl,rfl⟩)
   subst this
   exact absurd hy3 hn
 ·omega
def ad (b:Bool) (o:Option (List qb)) (x:qb):Option (List qb):=if b=true then some (hof o++[x])else o
theorem qgC (a:Int) (i:Nat): ∃q,qkz .i64 a (i:Int)=some q:=by
 unfold qkz
 rw[if_neg (by omega)]
 exact⟨_,rfl⟩
theorem app1 {l:List qb} (h:l.length≤100) (x:qb):app 48 l [x]=some (l++[x]):=jQ (by simp;omega) (by simp;omega)
theorem qnI {c:Prop} [Decidable c] {d:Prop} [Decidable d]:(if c then some true else some (decide d):Option Bool)=some (decide c||decide d):=by
 by_cases hc:c
 ·rw[if_pos hc,decide_eq_true hc];rfl
 ·rw[if_neg hc,decide_eq_false hc];rfl
theorem qm5 {N:Nat} (hN:10<N) (n15 n13 n14:Int) (i:Nat) (x:qb) (o1 o2 o3:Option (List qb)) (l1:(hof o1).length≤100) (l2:(hof o2).length≤100) (l3:(hof o3).length≤100):
 ∃b1 b2 b3:Bool,qD (i:Int) n15 n13 n14 x N o1 o2 o3 0=some (ad b1 o1 x,ad b2 o2 x,ad b3 o3 x)∧(b1||(b2||b3))=true:=by
 obtain⟨K,rfl⟩: ∃K,N=K+1+1+1+1:=⟨N-4,by omega⟩
 obtain⟨q1,h1⟩:=qgC (w64 n13) i
 obtain⟨q2,h2⟩:=qgC (w64 n14) i
 obtain⟨q3,h3⟩:=qgC (w64 n15) i
 have e1:w64 ((0:Int)+1)=1:=rfl
 have e2:w64 ((1:Int)+1)=2:=rfl
 have e3:w64 ((2:Int)+1)=3:=rfl
 refine⟨decide (qf2 .i64 q1 1=1)||decide ((0:Int)=((i:Int).tmod 3)),decide (qf2 .i64 q2 1=1)||decide ((1:Int)=((i:Int).tmod 3)),decide (qf2 .i64 q3 1=1)||decide ((2:Int)=((i:Int).tmod 3)),?_,?_⟩
 ·unfold qD
  rw[if_pos (by decide),if_pos rfl,h1,Option.bind_some,qnI,Option.bind_some]
  generalize (decide (qf2 .i64 q1 1=1)||decide ((0:Int)=((i:Int).tmod 3)))=b1
  have r1: ∀z,z=ad b1 o1 x→qD (i:Int) n15 n13 n14 x (K+1+1+1) z o2 o3 1=some (ad b1 o1 x,ad (decide (qf2 .i64 q2 1=1)||decide ((1:Int)=((i:Int).tmod 3))) o2 x,ad (decide (qf2 .i64 q3 1=1)||decide ((2:Int)=((i:Int).tmod 3))) o3 x):=by
   rintro z rfl
   generalize ad b1 o1 x=z1
   unfold qD
   rw[if_pos (by decide),if_neg (by decide),if_pos rfl,h2,Option.bind_some,qnI,Option.bind_some]
   generalize (decide (qf2 .i64 q2 1=1)||decide ((1:Int)=((i:Int).tmod 3)))=b2
   have r2: ∀z,z=ad b2 o2 x→qD (i:Int) n15 n13 n14 x (K+1+1) z1 z o3 2=some (z1,ad b2 o2 x,ad (decide (qf2 .i64 q3 1=1)||decide ((2:Int)=((i:Int).tmod 3))) o3 x):=by
    rintro z rfl
    generalize ad b2 o2 x=z2
    unfold qD
    rw[if_pos (by decide),if_neg (by decide),if_neg (by decide),if_pos rfl,h3,Option.bind_some,qnI,Option.bind_some]
    generalize (decide (qf2 .i64 q3 1=1)||decide ((2:Int)=((i:Int).tmod 3)))=b3
    have r3: ∀z,qD (i:Int) n15 n13 n14 x (K+1) z1 z2 z 3=some (z1,z2,z):=fun z=>by unfold qD;rw[if_neg (by decide)]
    cases b3 with
    |false=>simp only[Bool.false_eq_true,if_false,Option.bind_some,e3,r3,ad]
    |true=>
     rw[if_pos rfl,if_neg (by decide),if_neg (by decide),if_pos rfl]
     cases o3 with
     |none=>simp only[Option.bind_some,e3,r3,ad,if_true,hof,Option.getD_none,List.nil_append]
     |some l=>simp only[app1 l3,Option.bind_some,e3,r3,ad,if_true,hof,Option.getD_some];rw[app1 (show l.length≤100 from l3)];simp only[Option.bind_some,r3]
   cases b2 with
   |false=>simp only[Bool.false_eq_true,if_false,Option.bind_some,e2];exact r2 o2 rfl
   |true=>
    rw[if_pos rfl,if_neg (by decide),if_pos rfl]
    cases o2 with
    |none=>simp only[Option.bind_some,e2];exact r2 _ rfl
    |some l=>simp only[app1 (show l.length≤100 from l2),Option.bind_some,e2];exact r2 _ rfl
  cases b1 with
  |false=>simp only[Bool.false_eq_true,if_false,Option.bind_some,e1];exact r1 o1 rfl
  |true=>
   rw[if_pos rfl,if_pos rfl]
   cases o1 with
   |none=>simp only[Option.bind_some,e1];exact r1 _ rfl
   |some l=>simp only[app1 (show l.length≤100 from l1),Option.bind_some,e1];exact r1 _ rfl
 ·have ht:(i:Int).tmod 3=(i:Int)%3:=Int.tmod_eq_emod_of_nonneg (by omega)
  have:(0:Int)=(i:Int).tmod 3∨(1:Int)=(i:Int).tmod 3∨(2:Int)=(i:Int).tmod 3:=by omega
  rcases this with h|h|h<;>rw[decide_eq_true h]<;>simp
theorem qkx {b:Bool} {o:Option (List qb)} {x:qb} {m:List qb} (h:(hof o).Sublist m):(hof (ad b o x)).Sublist (m++[x]):=by
 unfold ad
 split
 ·exact h.append (List.Sublist.refl _)
 ·exact h.trans (List.sublist_append_left ..)
theorem qkr {b:Bool} {o:Option (List qb)} {x y:qb} (h:y∈hof o):y∈hof (ad b o x):=by
 unfold ad
 split
 ·exact List.mem_append_left _ h
 ·exact h
theorem qj0 {o:Option (List qb)} {x:qb}:x∈hof (ad true o x):=by
 unfold ad
 rw[if_pos rfl]
 exact List.mem_append_right _ (List.mem_singleton.2 rfl)
theorem qiN {N:Nat} (hN:10<N) {l:List qb} (hl:l.length≤14) (n13 n14 n15:Int): ∀(K i:Nat) (o1 o2 o3:Option (List qb)),i≤l.length→l.length<K+i→
 (hof o1).Sublist (l.take i)→(hof o2).Sublist (l.take i)→(hof o3).Sublist (l.take i)→(∀x∈l.take i,x∈hof o1∨x∈hof o2∨x∈hof o3)→
 ∃p1 p2 p3,zo N l K n13 n14 n15 o1 o2 o3 (i:Int)=some (p1,p2,p3)∧(hof p1).Sublist l∧(hof p2).Sublist l∧(hof p3).Sublist l∧ ∀x∈l,x∈hof p1∨x∈hof p2∨x∈hof p3
 |0,i,o1,o2,o3,h,hK,_,_,_,_=>by omega
 |K+1,i,o1,o2,o3,h,hK,s1,s2,s3,hc=>by
  unfold zo
  by_cases hi:i<l.length
  ·have hln:(l.take i).length≤14:=by rw[List.length_take];omega
   have a1:=s1.length_le
   have a2:=s2.length_le
   have a3:=s3.length_le
   obtain⟨b1,b2,b3,e,hb⟩:=qm5 hN n15 n13 n14 i l[i] o1 o2 o3 (by omega) (by omega) (by omega)
   rw[if_pos (by omega),qJ,List.getElem?_eq_getElem hi,Option.bind_some,e,Option.bind_some]
   simp only
   rw[kg (by omega)]
   have et:l.take (i+1)=l.take i++[l[i]]:=List.take_succ_eq_append_getElem hi
   refine qiN hN hl n13 n14 n15 K (i+1) _ _ _ (by omega) (by omega) (et▸qkx s1) (et▸qkx s2) (et▸qkx s3) fun x hx=>?_
   rw[et]at hx
   rcases List.mem_append.1 hx with hx|hx
   ·rcases hc x hx with h|h|h
    ·exact .inl (qkr h)
    ·exact .inr (.inl (qkr h))
    ·exact .inr (.inr (qkr h))
   ·obtain rfl:=List.mem_singleton.1 hx
    cases b1 with
    |true=>exact .inl qj0
    |false=>
     cases b2 with
     |true=>exact .inr (.inl qj0)
     |false=>
      cases b3 with
      |true=>exact .inr (.inr qj0)
      |false=>cases hb
  ·have e:l.take i=l:=List.take_of_length_le (by omega)
   rw[if_neg (by omega)]
   rw[e]at s1 s2 s3 hc
   exact⟨o1,o2,o3,rfl,s1,s2,s3,hc⟩
theorem qlW (N:Nat) (o1 o2:Option (List qb)):((match o1 with
 |none=>(match o2 with
  |none=>(qK N [] []).bind fun r66=>some ([],[],r66.1,r66.2)
  |some l65=>(qK N [] l65).bind fun r67=>some ([],l65,r67.1,r67.2))
 |some l64=>(match o2 with
  |none=>(qK N l64 []).bind fun r69=>some (l64,[],r69.1,r69.2)
  |some l68=>(qK N l64 l68).bind fun r70=>some (l64,l68,r70.1,r70.2))):Option ((List qb)×(List qb)×(List qb)×Int))=(qK N (hof o1) (hof o2)).bind fun r=>some (hof o1,hof o2,r.1,r.2):=by
 cases o1<;>cases o2<;>rfl
theorem qkw (N:Nat) (p:List qb) (o:Option (List qb)):((match o with
 |none=>(qK N p []).bind fun r78=>some ([],r78.1,r78.2)
 |some l77=>(qK N p l77).bind fun r79=>some (l77,r79.1,r79.2)):Option ((List qb)×(List qb)×Int))=(qK N p (hof o)).bind fun r=>some (hof o,r.1,r.2):=by
 cases o<;>rfl
theorem qd2 (l:List qb) (c:Int×Int×Int) (hb:l.length*48≤140737488351232):yI (5000+l.length) l c=some true:=by
 have hN:4000<5000+l.length:=by omega
 have hNl:l.length<5000+l.length:=by omega
 have hM:5000+l.length<4611686018427387904:=by omega
 generalize 5000+l.length=N at*
 have hN2:2000<N:=by omega
 unfold yI
 rw[qdA (by omega) hNl,Option.bind_some]
 obtain⟨c1,s1,t1⟩:=qhr hN2 l 14 (by omega)
 have s1:vV N l 14=some c1:=s1
 rw[s1,Option.bind_some]
 cases c1 with
 |false=>rfl
 |true=>
  obtain⟨hs,hl,hl2⟩:=t1 rfl
  rw[if_neg (by simp)]
  by_cases h12:(l.length:Int)>14
  ·rw[if_pos h12]
   rfl
  rw[if_neg h12,qdv hN2 hs,Option.bind_some,Option.bind_some]
  by_cases h0:checkN l=0
  ·simp only[h0,decide_true,Bool.not_true,Bool.false_eq_true,if_false]
   have hl12:l.length≤14:=by omega
   have ha:=(qiE h0).1
   obtain⟨p1,p2,p3,e0,q1,q2,q3,hc⟩:=qiN (N:=N) (by omega) hl12 c.1 c.2.1 c.2.2 N 0 none none none (by omega) (by omega) (List.nil_sublist _) (List.nil_sublist _) (List.nil_sublist _) (fun x hx=>by simp at hx)
   have e0:zo N l N c.1 c.2.1 c.2.2 none none none 0=some (p1,p2,p3):=e0
   rw[e0,Option.bind_some]
   simp only
   have G:=fun {p q:List qb} (hp:p.Sublist l) (hq:q.Sublist l)=>qj9 hN hs hl12 h0 hp hq
   have len:=fun(S:List qb)=>(qdi l S).length_le
   refine(congrArg (fun z=>Option.bind z _) (qlW N p1 p2)).trans ?_
   rw[G q1 q2,Option.bind_some,Option.bind_some]
   simp only
   rw[G q2 q1,Option.bind_some]
   refine(congrArg (fun z=>Option.bind z _) (qkw N (hof p2) p3)).trans ?_
   rw[G q2 q3,Option.bind_some,Option.bind_some]
   have i1:seen l (hof p2++hof p1)=seen l (hof p1++hof p2):=qlq fun x _=>by simp only[List.mem_append];exact Or.comm
   have i2:seen l (seen l (hof p1++hof p2)++hof p3)=l:=qeO fun x hx=>by
    simp only[List.mem_append,mem_seen]
    rcases hc x hx with h|h|h
    ·exact .inl ⟨hx,.inl h⟩
    ·exact .inl ⟨hx,.inr h⟩
    ·exact .inr h
   have i3:seen l (hof p1++seen l (hof p2++hof p3))=l:=qeO fun x hx=>by
    simp only[List.mem_append,mem_seen]
    rcases hc x hx with h|h|h
    ·exact .inl h
    ·exact .inr ⟨hx,.inl h⟩
    ·exact .inr ⟨hx,.inr h⟩
   have i4:seen l (l++l)=l:=qeO fun x hx=>List.mem_append_left _ hx
   have j1:=len (hof p1++hof p2)
   have j2:=len (hof p2++hof p3)
   simp only[i1,decide_true,Bool.not_true,Bool.false_eq_true,if_false]
   rw[qdA (by omega) (by omega),Option.bind_some,Option.bind_some,qcC _ (by omega) hN2,Option.bind_some,if_neg (by simp),if_neg (by omega),Option.bind_some,decide_eq_false (by omega),if_neg (by simp),G (qdi l _) q3,Option.bind_some,G q1 (qdi l _),Option.bind_some,G (List.Sublist.refl l) (List.Sublist.refl l),Option.bind_some,i2,i3,i4]
   obtain⟨v,v1,v2,v3,v4,v5,v6⟩:=qlD hN2 (l:=hof p1) (fun n hn=>hs n (q1.subset hn)) (by have:=q1.length_le;omega) (qcj h0 q1)
   have j3:=q1.length_le
   rw[v1,Option.bind_some]
   simp only[decide_true,Bool.not_true,Bool.false_eq_true,if_false]
   have SN:jg N l l=some true:=qcC l (by omega) hN2
   have NL:jM N l=some l:=qdA (by omega) hNl
   have MK:qaD N v=some v:=qmE (by omega) (by omega)
   simp only[NL,MK,SN,qf1 hN2 v4,v3,Option.bind_some,decide_true,Bool.not_true,Bool.false_eq_true,if_false]
   rw[qkG hN2 hs v4 (by omega) (by omega),Option.bind_some,(qo3 _ _).2 ⟨h0,v3⟩]
   simp only[decide_true,Bool.not_true,Bool.false_eq_true,if_false,if_true]
   have k1:(qgw l v).Sublist l:=List.filter_sublist
   have k2:=k1.length_le
   rw[qdA (by omega) (by omega),Option.bind_some,qdv hN2 (fun n hn=>hs n (k1.subset hn)),Option.bind_some,qcj h0 k1]
   simp only[decide_true,Bool.not_true,Bool.false_eq_true,if_false]
   rw[Option.bind_some,decide_eq_false (by omega),if_neg (by simp),G q1 k1,Option.bind_some]
   have i5:seen l (hof p1++qgw l v)=l:=qeO fun x hx=>by
    rw[List.mem_append]
    by_cases hx1:x∈hof p1
    ·exact .inl hx1
    ·exact .inr (qnN h0 q1 v6 hx hx1)
   rw[i5,qoD hN2 hM hs (by omega)]
   have f4:=qlS N l
   simp only[h0,if_true,Option.bind_some]
   rw[qdA (by omega) hNl,Option.bind_some,qcC l (by omega) hN2,Option.bind_some,if_pos rfl]
   have e4:w64 (((qgP N l).1.length:Int)+((qgP N l).2.length:Int))=(l.length:Int):=by
    rw[qaq (by omega) (by omega)]
    omega
   rw[e4,if_pos rfl]
   rfl
  ·simp only[h0,decide_false,Bool.not_false,if_true]
   rfl
end Go.Av
