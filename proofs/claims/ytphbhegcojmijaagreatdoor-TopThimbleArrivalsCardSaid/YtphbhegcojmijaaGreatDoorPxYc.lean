/-
  Chapter 10: names and events.
-/
import Derived.Test.YtphbhegcojmijaaGreatDoorAvPl
import Derived.Test.YtphbhegcojmijaaGreatDoorQGenYb
noncomputable section
namespace Go.Av
set_option linter.unusedSimpArgs false
set_option linter.unusedVariables false
theorem qrk {s:Str} {k:Nat} {c:UInt8} (h:s[k]? =some c):((⟨s.toArray⟩:ByteArray).get! k)=c:=by
 have hk:=(List.getElem?_eq_some_iff.1 h).1
 show s.toArray[k]! =c
 rw[getElem!_def]
 simp[h]
theorem qsN {s:Str} {k:Nat} {c:UInt8} (h:s[k]? =some c) (hc:c.toNat<128):qbR s k=c.toNat∧runeLen s k=1:=by
 have e:=qrk h
 unfold qbR runeLen Utf8.decode
 simp only[Nat.add_zero,e,if_pos hc,and_self]
theorem qt5 {s:Str} {k:Nat} {c:UInt8} (h:s[k]? =some c) (hc:128≤c.toNat):128≤qbR s k:=by
 have e:=qrk h
 unfold qbR Utf8.decode
 simp only[Nat.add_zero,e,if_neg (Nat.not_lt.2 hc)]
 have hr:(128:Nat)≤Utf8.runeError:=by decide
 repeat' split
 all_goals first|(simp only[Bool.and_eq_true,decide_eq_true_eq]at*;omega)|(simp;omega)|omega
def qqK (c:Int):Bool:=(decide (97≤c)&&decide (c≤122))||(decide (65≤c)&&decide (c≤90))
theorem qnj (c:Int):qcg c=some (qqK c):=by
 unfold qcg qqK
 by_cases h1:c≥97<;>by_cases h2:c≤122<;>by_cases h3:c≥65<;>by_cases h4:c≤90<;>simp[h1,h2,h3,h4]<;>omega
def qsg (k:Nat) (c:Int):Bool:=!qqK c&&(decide (k=0)||(!decide (c=95)&&(decide (c<48)||decide (c>57))))
def qd3 (s:Str):Bool:=decide (1≤s.length)&&decide (s.length≤24)&&!((List.range s.length).any fun k=>qsg k (s.getD k 0).toNat)
theorem qve {k:Nat} {c:Int} (h:128≤c):qsg k c=true:=by
 unfold qsg qqK
 simp
 omega
def qeT (s:Str) (k:Nat):Bool:=(List.range (s.length-k)).any fun j=>qsg (k+j) (s.getD (k+j) 0).toNat
theorem qmg {s:Str} {k:Nat} {c:UInt8} (h:s[k]? =some c):qeT s k=(qsg k c.toNat||qeT s (k+1)):=by
 have hk:=(List.getElem?_eq_some_iff.1 h).1
 unfold qeT
 rw[show s.length-k=(s.length-(k+1))+1 by omega,List.range_succ_eq_map,List.any_cons,List.any_map]
 congr 1
 ·simp[List.getD,h]
 ·congr 1
  funext j
  simp only[Function.comp,Nat.succ_eq_add_one]
  rw[show k+(j+1)=k+1+j by omega]
theorem qns {s:Str} {k:Nat} (h:s.length≤k):qeT s k=false:=by
 unfold qeT
 rw[show s.length-k=0 by omega]
 rfl
theorem qpZ (s:Str): ∀(K k:Nat),k≤s.length→s.length<K+k→qbi s K k=some (if qeT s k then .inr false else .inl ())
 |0,k,h,hK=>by omega
 |K+1,k,h,hK=>by
  unfold qbi
  by_cases hk:k<s.length
  ·have hc:s[k]? =some s[k]:=List.getElem?_eq_getElem hk
   rw[if_pos hk,qnj,qmg hc]
   by_cases ha:(s[k]).toNat<128
   ·obtain⟨e1,e2⟩:=qsN hc ha
    rw[e1,e2,qpZ s K (k+1) (by omega) (by omega)]
    have ek:((k:Int)=0)↔k=0:=by omega
    unfold qsg
    generalize ((s[k]).toNat:Int)=c
    cases hl:qqK c<;>by_cases h0:k=0<;>by_cases h1:c=95<;>by_cases h2:c<48<;>by_cases h3:57<c<;>
     simp[hl,h0,h1,h2,h3]
   ·have hw:=qt5 hc (by omega)
    rw[qve (show(128:Int)≤((s[k]).toNat:Int)by omega)]
    have hl:qqK (qbR s k)=false:=by unfold qqK;simp;omega
    have h1: ¬qbR s k=95:=by omega
    have h2: ¬qbR s k<48:=by omega
    have h3:qbR s k>57:=by omega
    have ek:((k:Int)=0)↔k=0:=by omega
    simp only[hl,Option.bind_some,Bool.not_false,if_true,h1,h2,h3,decide_true,decide_false,if_false,Bool.true_or,ek]
    by_cases h0:k=0
    ·simp only[h0,if_true,Option.bind_some]
    ·simp only[h0,if_false,Option.bind_some,if_true]
  ·rw[if_neg hk,qns (by omega)]
   rfl
theorem qrb (s:Str):qd3 s=(decide (1≤s.length)&&decide (s.length≤24)&&!qeT s 0):=by
 unfold qd3 qeT
 simp
theorem qty {N:Nat} {s:Str} (h:s.length<N):qea N s=some (qd3 s):=by
 unfold qea
 rw[qpZ s N 0 (Nat.zero_le _) (by omega),qrb]
 cases hb:qeT s 0
 ·cases s with
  |nil=>simp
  |cons x xs=>
   have e:((x::xs)==([]:Str))=false:=rfl
   simp only[Option.bind_some,Bool.false_eq_true,if_false,e,Bool.not_false,if_true,Bool.and_true,Option.some.injEq]
   have:(1≤(x::xs).length):=by simp
   rw[Bool.eq_iff_iff]
   simp only[decide_eq_true_eq,Bool.and_eq_true,this,true_and]
   omega
 ·simp
theorem qol (s:Str) (hs:s.length<4611686018427387904): ∀(K k:Nat),k≤s.length→s.length<K+k→qbG s K (k:Int)=some (if qeT s k then .inr false else .inl ())
 |0,k,h,hK=>by omega
 |K+1,k,h,hK=>by
  unfold qbG
  by_cases hk:k<s.length
  ·have hc:s[k]? =some s[k]:=List.getElem?_eq_getElem hk
   rw[if_pos (by omega),zl,hc,qmg hc,zN (by omega),qol s hs K (k+1) (by omega) (by omega)]
   simp only[Option.bind_some]
   have ek:((k:Int)=0)↔k=0:=by omega
   unfold qsg
   generalize ((s[k]).toNat:Int)=c
   rw[show(if c≥97 then if c≤122 then some true else if c≥65 then some (decide (c≤90))else some false else if c≥65 then some (decide (c≤90))else some false:Option Bool)=some (qqK c)from by
    have:=qnj c
    unfold qcg at this
    rw[←this]
    cases(if c≥97 then if c≤122 then some true else if c≥65 then some (decide (c≤90))else some false else if c≥65 then some (decide (c≤90))else some false:Option Bool)<;>rfl]
   simp only[Option.bind_some,ek]
   cases qqK c
   ·by_cases h5:k=0
    ·simp[h5]
    ·by_cases h6:c≥48
     ·by_cases h7:c≤57
      ·have a1: ¬c<48:=by omega
       have a2: ¬c>57:=by omega
       simp[h5,h6,h7,a1,a2]
      ·have a1: ¬c<48:=by omega
       have a2:c>57:=by omega
       by_cases h8:c=95<;>simp[h5,h6,h7,h8,a1,a2]
     ·have a1:c<48:=by omega
      by_cases h8:c=95<;>simp[h5,h6,h8,a1]
   ·simp
  ·rw[if_neg (by omega),qns (by omega)]
   rfl
theorem qsE {N:Nat} {s:Str} (h:s.length<N) (hs:s.length<4611686018427387904):qdZ N s=some (qd3 s):=by
 unfold qdZ
 rw[show(0:Int)=((0:Nat):Int)from rfl,qol s hs N 0 (Nat.zero_le _) (by omega),qrb]
 by_cases h1:s.length<1
 ·rw[if_pos (by omega)]
  simp[show¬1≤s.length by omega]
 ·by_cases h2:s.length>24
  ·rw[if_neg (by omega)]
   simp only[Option.bind_some,show((s.length:Int)>24)by omega,decide_true,if_true,show¬s.length≤24 by omega,decide_false,Bool.and_false,Bool.false_and]
  ·rw[if_neg (by omega)]
   simp only[Option.bind_some,show¬((s.length:Int)>24)by omega,decide_false,Bool.false_eq_true,if_false,show 1≤s.length by omega,show s.length≤24 by omega,decide_true,Bool.true_and]
   cases hb:qeT s 0<;>rfl
def zM:List Int→Int
 |[]=>0
 |x::xs=>if x=0 then zM xs else x
theorem qre (l:List Int) (hl:l.length<4611686018427387904): ∀(K k:Nat),k≤l.length→l.length<K+k→qbF l K (k:Int)=some (if zM (l.drop k)=0 then .inl ()else .inr (zM (l.drop k)))
 |0,k,h,hK=>by omega
 |K+1,k,h,hK=>by
  unfold qbF
  by_cases hk:k<l.length
  ·rw[if_pos (by omega),zl,List.getElem?_eq_getElem hk,List.drop_eq_getElem_cons hk,zN (by omega),qre l hl K (k+1) (by omega) (by omega)]
   simp only[Option.bind_some,zM]
   by_cases h0:l[k]=0
   ·simp[h0]
   ·simp[h0]
  ·rw[if_neg (by omega),List.drop_of_length_le (by omega)]
   rfl
theorem qbX {N:Nat} {l:List Int} (hl:l.length<4611686018427387904) (h:l.length<N):kz N l=some (zM l):=by
 unfold kz
 rw[show(0:Int)=((0:Nat):Int)from rfl,qre l hl N 0 (Nat.zero_le _) (by omega),List.drop_zero]
 by_cases h0:zM l=0
 ·simp[h0]
 ·simp[h0]
theorem qdy (b:Bool) (e:Int):za b e=some (if b=true then e else 0):=by
 unfold za;split<;>rfl
def qbL (n lo hi:Int):Bool:=decide (n<lo)||decide (n>hi)
theorem qfx (n lo hi:Int):vY n lo hi=some (if qbL n lo hi=true then 3 else 0):=by
 unfold vY qbL
 simp only[qdy]
 by_cases h:n<lo<;>simp[h]
theorem qlD (n lo hi:Int):xZ n lo hi=some (qbL n lo hi):=by
 unfold xZ qbL
 by_cases h:n<lo<;>simp[h]
theorem qpA {N:Nat} {s:Str} (h:s.length<N):qcn N s=some (if qd3 s=true then 0 else 8):=by
 unfold qcn
 simp only[qty h,qdy,Option.bind_some]
 cases qd3 s<;>rfl
def qdS:Str:=[109,97,107,101]
def qeD:Str:=[116,101,115,116]
def qht:Str:=[117,115,101]
def qd1:Str:=[102,97,105,108]
def qav:Str:=[114,101,99,97,108,108]
def qd8:Str:=[117,110,100,111]
def qba (k:Str):Int×Int×Bool:=
 if(k==qdS)=true then(2,3,true)else if(k==qeD)=true then(1,2,true)else if(k==qht)=true then(1,2,true)else if(k==qd1)=true then(1,1,true)
 else if(k==qav)=true then(1,1,true)else if(k==qd8)=true then(0,0,true)else(0,0,false)
theorem qwq (k:Str):qfo k=some (qba k):=by
 unfold qfo qba qdS qeD qht qd1 qav qd8
 by_cases h1:(k==[109,97,107,101])=true
 ·simp only[h1,if_true]
 ·by_cases h2:(k==[116,101,115,116])=true
  ·simp only[h1,h2,if_false,if_true,Option.bind_some];rfl
  ·by_cases h3:(k==[117,115,101])=true
   ·simp only[h1,h2,h3,if_false,if_true,Option.bind_some];rfl
   ·by_cases h4:(k==[102,97,105,108])=true
    ·simp only[h1,h2,h3,h4,if_false,if_true,Option.bind_some];rfl
    ·by_cases h5:(k==[114,101,99,97,108,108])=true
     ·simp only[h1,h2,h3,h4,h5,if_false,if_true,Option.bind_some];rfl
     ·simp only[h1,h2,h3,h4,h5,if_false,Option.bind_some,Bool.false_eq_true]
      split<;>rfl
def qhB (e:qh):Int:=
 if qbL e.Number 1 1000=true then 3
 else if(qba e.Kind).2.2=false then 13
 else if¬((e.Names.length:Int)=(qba e.Kind).1∧(e.Values.length:Int)=(qba e.Kind).2.1)then 2
 else if e.Names.all qd3=false then 8
 else if e.Values.all (fun v=>!qbL v 0 999999999)=false then 3
 else if e.Text=[]then 0 else 1
theorem qw1 {N:Nat} (e:qh) (hl:e.Names.length<4611686018427387904) (hs: ∀s∈e.Names,s.length<N): ∀(K k:Nat),k≤e.Names.length→e.Names.length<K+k→xz N e K (k:Int)=some (if(e.Names.drop k).all qd3=true then .inl ()else .inr 8)
 |0,k,h,hK=>by omega
 |K+1,k,h,hK=>by
  unfold xz
  by_cases hk:k<e.Names.length
  ·rw[if_pos (by omega),zl,List.getElem?_eq_getElem hk,List.drop_eq_getElem_cons hk,zN (by omega),qw1 e hl hs K (k+1) (by omega) (by omega)]
   simp only[Option.bind_some,qpA (hs _ (List.getElem_mem hk)),List.all_cons]
   by_cases hq:qd3 e.Names[k]=true<;>simp[hq]
  ·rw[if_neg (by omega),List.drop_of_length_le (by omega)]
   rfl
theorem qw6 (e:qh) (hl:e.Values.length<4611686018427387904): ∀(K k:Nat),k≤e.Values.length→e.Values.length<K+k→xX e K (k:Int)=some (if(e.Values.drop k).all (fun v=>!qbL v 0 999999999)=true then .inl ()else .inr 3)
 |0,k,h,hK=>by omega
 |K+1,k,h,hK=>by
  unfold xX
  by_cases hk:k<e.Values.length
  ·rw[if_pos (by omega),zl,List.getElem?_eq_getElem hk,List.drop_eq_getElem_cons hk,zN (by omega),qw6 e hl K (k+1) (by omega) (by omega)]
   simp only[Option.bind_some,qfx,List.all_cons]
   by_cases hq:qbL e.Values[k] 0 999999999=true<;>simp[hq]
  ·rw[if_neg (by omega),List.drop_of_length_le (by omega)]
   rfl
structure qqJ (N:Nat) (e:qh):Prop where
 n:e.Names.length<N
 v:e.Values.length<N
 s: ∀s∈e.Names,s.length<N
theorem qpL {N:Nat} (hN:N<4611686018427387904) (h3:3<N) {e:qh} (h:qqJ N e):qcj N e=some (qhB e):=by
 obtain⟨hn,hv,hs⟩:=h
 unfold qcj
 have hf:((xm).bind fun r1=>
  if(e.Kind==[109,97,107,101])=true then some (2,3,true)else if(e.Kind==[116,101,115,116])=true then some (1,2,true)else if(e.Kind==[117,115,101])=true then some (1,2,true)
  else if(e.Kind==[102,97,105,108])=true then some (1,1,true)else if(e.Kind==[114,101,99,97,108,108])=true then some (1,1,true)else if(e.Kind==[117,110,100,111])=true then some (0,0,true)
  else some (0,0,false):Option (Int×Int×Bool))=some (qba e.Kind):=by
  simp only[xm,Option.bind_some,qba,qdS,qeD,qht,qd1,qav,qd8]
  by_cases h1:(e.Kind==[109,97,107,101])=true
  ·simp only[h1,if_true]
  by_cases h2:(e.Kind==[116,101,115,116])=true
  ·simp only[h1,h2,if_true,if_false,Bool.false_eq_true]
  by_cases h3:(e.Kind==[117,115,101])=true
  ·simp only[h1,h2,h3,if_true,if_false,Bool.false_eq_true]
  by_cases h4:(e.Kind==[102,97,105,108])=true
  ·simp only[h1,h2,h3,h4,if_true,if_false,Bool.false_eq_true]
  by_cases h5:(e.Kind==[114,101,99,97,108,108])=true
  ·simp only[h1,h2,h3,h4,h5,if_true,if_false,Bool.false_eq_true]
  by_cases h6:(e.Kind==[117,110,100,111])=true
  ·simp only[h1,h2,h3,h4,h5,h6,if_true,if_false,Bool.false_eq_true]
  simp only[h1,h2,h3,h4,h5,h6,if_true,if_false,Bool.false_eq_true]
 rw[hf]
 have e0:(0:Int)=((0:Nat):Int):=rfl
 simp only[Option.bind_some,qfx,qdy,qbX (N:=N) (l:=[_,_,_]) (by simp) (by simpa using h3)]
 rw[e0,qw1 e (by omega) hs N 0 (by omega) (by omega),qw6 e (by omega) N 0 (by omega) (by omega),List.drop_zero,List.drop_zero]
 unfold qhB
 generalize qba e.Kind=f
 obtain⟨a,b,c⟩:=f
 by_cases h1:qbL e.Number 1 1000=true
 ·by_cases hx:(e.Names.length:Int)=a<;>simp[h1,zM,hx]
 ·cases c
  ·by_cases hx:(e.Names.length:Int)=a<;>simp[h1,zM,hx]
  ·by_cases hx:(e.Names.length:Int)=a
   ·by_cases hy:(e.Values.length:Int)=b
    ·cases hA:e.Names.all qd3
     ·simp[h1,zM,hx,hy,hA]
     ·cases hB:e.Values.all (fun v=>!qbL v 0 999999999)
      ·simp[h1,zM,hx,hy,hA,hB]
      ·by_cases ht:e.Text=[]
       ·simp[h1,zM,hx,hy,hA,hB,ht]
       ·have:(e.Text==[])=false:=by cases hq:e.Text with|nil=>exact absurd hq ht|cons=>rfl
        simp[h1,zM,hx,hy,hA,hB,ht,this]
    ·simp[h1,zM,hx,hy]
   ·simp[h1,zM,hx]
def qh0 (s:qg) (d:Int):Bool:=s.Gone||(decide (d>s.Last)||decide (s.Used=s.Uses))
def qoV (s:qg) (d:Int):Bool:=decide (s.Limit>0)&&decide (d≤s.Until)
theorem qo4 (s:qg) (d:Int):qaT s d=some (qh0 s d):=by
 unfold qaT qh0
 by_cases h:s.Gone=true
 ·simp[h]
 ·by_cases h2:d>s.Last<;>simp[h,h2]
theorem qnE (s:qg) (d:Int):qfK s d=some (qh0 s d):=by
 unfold qfK qh0
 by_cases h:s.Gone=true
 ·simp[h]
 ·by_cases h2:d>s.Last<;>simp[h,h2]
theorem qu8 (s:qg) (d:Int):qb8 s d=some (qoV s d):=by
 unfold qb8 qoV
 by_cases h:s.Limit>0<;>simp[h]
theorem qtR (s:qg) (d:Int):qhs s d=some (qoV s d):=by
 unfold qhs qoV
 by_cases h:s.Limit>0<;>simp[h]
def qbI:List qg→Str→Nat
 |[],_=>0
 |s::l,n=>if ltL s.Name n=true then qbI l n+1 else 0
def qdz:List qg→Str→Bool
 |[],_=>false
 |s::l,n=>if ltL s.Name n=true then qdz l n else s.Name==n
theorem qmb: ∀(l:List qg) (n:Str),qbI l n≤l.length
 |[],_=>Nat.le_refl _
 |s::l,n=>by
  unfold qbI
  split
  ·have:=qmb l n;simp only[List.length_cons];omega
  ·simp
theorem qj9: ∀{l:List qg} {n:Str},qdz l n=true→qbI l n<l.length
 |[],_,h=>by simp[qdz]at h
 |s::l,n,h=>by
  unfold qdz at h
  unfold qbI
  by_cases hc:ltL s.Name n=true
  ·rw[if_pos hc]at h⊢
   have:=qj9 h
   simp only[List.length_cons];omega
  ·rw[if_neg hc];simp
theorem qmo: ∀{l:List qg} {n:Str} {s:qg},l[qbI l n]? =some s→qdz l n=(s.Name==n)
 |[],_,_,h=>by simp at h
 |t::l,n,s,h=>by
  unfold qbI at h
  unfold qdz
  by_cases hc:ltL t.Name n=true
  ·rw[if_pos hc]at h⊢
   exact qmo (by simpa using h)
  ·rw[if_neg hc]at h⊢
   simp only[List.getElem?_cons_zero,Option.some.injEq]at h
   rw[h]
theorem qmu (l:List qg) (hl:l.length<4611686018427387904) (n:Str): ∀(K k:Nat),k≤l.length→l.length<K+k→zP l n K (k:Int)=some (if qbI (l.drop k) n<(l.drop k).length then .inr ((k+qbI (l.drop k) n:Nat):Int)else .inl ())
 |0,k,h,hK=>by omega
 |K+1,k,h,hK=>by
  unfold zP
  by_cases hk:k<l.length
  ·rw[if_pos (by omega),zl,List.getElem?_eq_getElem hk,List.drop_eq_getElem_cons hk,zN (by omega),qmu l hl n K (k+1) (by omega) (by omega)]
   simp only[Option.bind_some,qa2,qbI,List.length_cons]
   by_cases hc:ltL (l[k]).Name n=true
   ·simp only[hc,Bool.not_true,Bool.false_eq_true,if_false,if_true,Nat.add_lt_add_iff_right]
    split
    ·rw[show k+1+qbI (List.drop (k+1) l) n=k+(qbI (List.drop (k+1) l) n+1)by omega]
    ·rfl
   ·simp[hc]
  ·rw[if_neg (by omega),List.drop_of_length_le (by omega)]
   rfl
theorem qtp {N:Nat} {l:List qg} (hl:l.length<4611686018427387904) (hN:l.length<N) (d:Int) (n:Str):qaW N ⟨d,l⟩ n=some ((qbI l n:Int),qdz l n):=by
 unfold qaW qa8
 rw[show(0:Int)=((0:Nat):Int)from rfl,qmu l hl n N 0 (by omega) (by omega),List.drop_zero]
 by_cases h:qbI l n<l.length
 ·have hg:l[qbI l n]? =some (l[qbI l n]):=List.getElem?_eq_getElem h
  have h2: ¬((qbI l n:Nat):Int)<0:=by omega
  simp only[h,if_true,Nat.zero_add,Option.bind_some]
  rw[if_neg (by omega),zl,hg,Option.bind_some,qmo hg]
 ·have h0:qdz l n=false:=by
   cases hq:qdz l n with
   |false=>rfl
   |true=>exact absurd (qj9 hq) h
  have h1:qbI l n=l.length:=by have:=qmb l n;omega
  simp[h,h0,h1]
def Asc (l:List qg):Prop:=l.Pairwise fun a b=>ltL a.Name b.Name=true
theorem Asc.find: ∀{l:List qg},Asc l→ ∀n:Str,l.findIdx? (fun s=>s.Name==n)=if qdz l n=true then some (qbI l n)else none
 |[],_,n=>by simp[qdz]
 |s::l,h,n=>by
  have h1:=(List.pairwise_cons.1 h).1
  have h2:=Asc.find (List.pairwise_cons.1 h).2 n
  rw[List.findIdx?_cons]
  unfold qdz qbI
  by_cases hc:ltL s.Name n=true
  ·have:(s.Name==n)=false:=beq_eq_false_iff_ne.2 (qmE hc)
   rw[if_pos hc,if_pos hc,this,h2]
   simp only[Bool.false_eq_true,if_false]
   split<;>rfl
  ·rw[if_neg hc,if_neg hc]
   by_cases he:(s.Name==n)=true
   ·simp[he]
   ·simp only[he,if_false,Bool.false_eq_true]
    have hgt:ltL n s.Name=true:=by
     cases hq:ltL n s.Name with
     |true=>rfl
     |false=>exact absurd (beq_iff_eq.2 (qhi _ _ (by simpa using hc) hq)) he
    have:l.findIdx? (fun s=>s.Name==n)=none:=by
     rw[List.findIdx?_eq_none_iff]
     intro x hx
     exact beq_eq_false_iff_ne.2 fun e=>qmE (qfz hgt (h1 x hx)) e.symm
    rw[this];rfl
theorem qw3 (r:vH) (hl:r.Slings.length<4611686018427387904) (n:Str): ∀(K k:Nat),k≤r.Slings.length→r.Slings.length<K+k→qhm r n K (k:Int)=some (match(r.Slings.drop k).findIdx? (fun s=>s.Name==n)with|some j=> .inr ((k+j:Nat):Int)|none=> .inl ())
 |0,k,h,hK=>by omega
 |K+1,k,h,hK=>by
  unfold qhm
  by_cases hk:k<r.Slings.length
  ·rw[if_pos (by omega),zl,List.getElem?_eq_getElem hk,List.drop_eq_getElem_cons hk,zN (by omega),qw3 r hl n K (k+1) (by omega) (by omega),List.findIdx?_cons]
   simp only[Option.bind_some]
   by_cases he:((r.Slings[k]).Name==n)=true
   ·simp[he]
   ·simp only[he,if_false,Bool.false_eq_true]
    cases(r.Slings.drop (k+1)).findIdx? (fun s=>s.Name==n)with
    |none=>rfl
    |some j=>simp only[Option.map_some];rw[show k+1+j=k+(j+1)by omega]
  ·rw[if_neg (by omega),List.drop_of_length_le (by omega)]
   rfl
theorem qv4 {N:Nat} {r:vH} (hl:r.Slings.length<4611686018427387904) (hN:r.Slings.length<N) (ha:Asc r.Slings) (n:Str):qoC N r n=some (if qdz r.Slings n=true then(qbI r.Slings n:Int)else-1):=by
 unfold qoC
 rw[show(0:Int)=((0:Nat):Int)from rfl,qw3 r hl n N 0 (by omega) (by omega),List.drop_zero,ha.find n]
 by_cases h:qdz r.Slings n=true<;>simp[h]
theorem Asc.uniq {l:List qg} (h:Asc l) {i:Nat} {s:qg} {n:Str} (hi:l[i]? =some s) (hs:s.Name=n):qdz l n=true∧qbI l n=i:=by
 have hf:=h.find n
 have hlt:=(List.getElem?_eq_some_iff.1 hi).1
 cases hq:qdz l n with
 |false=>
  rw[hq,if_neg (by simp),List.findIdx?_eq_none_iff]at hf
  have:=hf s (List.mem_of_getElem? hi)
  simp[hs]at this
 |true=>
  refine⟨rfl,?_⟩
  have hp:=qj9 hq
  have hg:l[qbI l n]? =some (l[qbI l n]):=List.getElem?_eq_getElem hp
  have hn:=qmo hg
  rw[hq]at hn
  have hn:(l[qbI l n]).Name=n:=(beq_iff_eq.1 hn.symm)
  have he:l[i]=s:=by
   rw[List.getElem?_eq_getElem hlt]at hi
   injection hi
  rcases Nat.lt_trichotomy (qbI l n) i with hlt2|e|hgt
  ·have:=List.pairwise_iff_getElem.1 h _ _ hp hlt hlt2
   rw[he,hn,hs]at this
   exact absurd rfl (qmE this)
  ·exact e
  ·have:=List.pairwise_iff_getElem.1 h _ _ hlt hp hgt
   rw[he,hn,hs]at this
   exact absurd rfl (qmE this)
def qpf (l:List qg) (s:qg):List qg:=l.take (qbI l s.Name)++s::l.drop (qbI l s.Name)
theorem qhS {d:Int} {l:List qg} (h:l.length≤1000):qH d l=some l:=by
 unfold qH
 have e:mk 88 (l.length:Int) (⟨[],[],0,0,0,0,0,0,false⟩:qg)=some (List.replicate l.length ⟨[],[],0,0,0,0,0,0,false⟩):=by
  unfold mk
  rw[if_pos ⟨by omega,by omega,by omega⟩,Int.toNat_natCast]
 rw[e,Option.bind_some,qrm (by simp)]
 rfl
theorem qtH {l:List qg} (h:l.length≤1000) {p:Nat} (hp:p≤l.length) (a b:Str) (c d e f g i:Int) (j:Bool):qa0 l (p:Int) a b c d e f g i j=some (l.take p++⟨a,b,c,d,e,f,g,i,j⟩::l.drop p):=by
 unfold qa0
 generalize hs:(⟨a,b,c,d,e,f,g,i,j⟩:qg)=s
 rw[qsS hp,Option.bind_some,if_neg (by decide)]
 by_cases he:p=l.length
 ·rw[if_pos (by omega),he,List.take_length,List.drop_length]
  cases l with
  |nil=>rfl
  |cons x xs=>
   simp only[List.length_cons]at h
   simp only[qaL (b:=88) (l:=x::xs) (xs:=[s]) (by simp;omega) (by simp;omega),Option.bind_some]
 ·rw[if_neg (by omega)]
  have w1:w64 ((l.length:Int)+1)=((l.length+1:Nat):Int):=zN (by omega)
  have w2:w64 (((l.length+1:Nat):Int)-(p:Int))=((l.length+1-p:Nat):Int):=by rw[qcK (by omega) (by omega)];omega
  have w3:w64 ((p:Int)+1)=((p+1:Nat):Int):=zN (by omega)
  rw[w1,if_pos (by omega),w2,w3]
  have e1:qtG 88 l p ((l.length+1-p:Nat):Int) (⟨[],[],0,0,0,0,0,0,false⟩:qg)=some (l.take p++List.replicate (l.length+1-p) ⟨[],[],0,0,0,0,0,0,false⟩):=by
   unfold qtG
   rw[if_pos ⟨by omega,by omega,by omega,by omega,hp,by simp only[Int.toNat_natCast];omega,by simp only[Int.toNat_natCast];omega,by simp only[Int.toNat_natCast];omega⟩,Int.toNat_natCast]
  rw[e1,Option.bind_some]
  obtain⟨z,hz⟩: ∃z:qg,z=⟨[],[],0,0,0,0,0,0,false⟩:=⟨_,rfl⟩
  rw[←hz]
  have e2:List.replicate (l.length+1-p) z=z::List.replicate (l.length-p) z:=by
   rw[show l.length+1-p=(l.length-p)+1 by omega];rfl
  have lt:(l.take p).length=p:=by rw[List.length_take];omega
  have e3:(if(p:Int)=0 then(some (cpy (l.take p++List.replicate (l.length+1-p) z) [s])).bind fun l13=>some l13
   else(at' (l.take p++List.replicate (l.length+1-p) z) (p:Int)).bind fun j14=>((if j14<(l.take p++List.replicate (l.length+1-p) z).length then some ()else none:Option Unit)).bind fun u15=>
    (some (qme (l.take p++List.replicate (l.length+1-p) z) j14 [s])).bind fun l16=>some l16:Option (List qg))=some (l.take p++s::List.replicate (l.length-p) z):=by
   by_cases h0:p=0
   ·subst h0
    rw[if_pos (by rfl)]
    simp only[Option.bind_some,List.take_zero,List.nil_append,e2]
    simp[cpy]
   ·rw[if_neg (by omega),qsS (by simp;omega),Option.bind_some,if_pos (by simp;omega),Option.bind_some,Option.bind_some]
    simp only[qme,List.take_append,List.drop_append,lt,Nat.sub_self,List.take_zero,List.append_nil,List.drop_zero]
    rw[List.take_of_length_le (by omega),List.drop_of_length_le (by omega),List.nil_append,e2]
    simp[cpy]
  rw[e3,Option.bind_some,if_neg (by omega),qsS (by simp;omega),Option.bind_some,if_pos (by simp;omega),Option.bind_some,Option.bind_some]
  have e4:(l.take p++s::List.replicate (l.length-p) z).take (p+1)=l.take p++[s]:=by
   rw[List.take_append,lt,List.take_of_length_le (by omega),show p+1-p=1 by omega];rfl
  have e5:(l.take p++s::List.replicate (l.length-p) z).drop (p+1)=List.replicate (l.length-p) z:=by
   rw[List.drop_append,lt,List.drop_of_length_le (by omega),show p+1-p=1 by omega];rfl
  simp only[qme,e4,e5]
  rw[qrm (by simp),List.append_assoc]
  rfl
def qep (d day:Int):Int:=if day>99999 then 3 else if day<d then 19 else 0
theorem qtF {N:Nat} (hN:2<N) {d day:Int} (h:0≤day):kz N [if qbL day 0 99999=true then 3 else 0,if decide (day<d)=true then 19 else 0]=some (qep d day):=by
 rw[qbX (by simp) (by simpa using hN)]
 unfold qbL qep
 by_cases h1:day>99999
 ·simp[h1,zM]
 ·have: ¬day<0:=by omega
  by_cases h2:day<d<;>simp[h1,h2,this,zM]
theorem qnq (n:Int):qcf n=some (if qbL n 0 99999=true then 3 else 0):=by
 unfold qcf;rw[qfx];rfl
structure qg3 (N:Nat) (l:List qg):Prop where
 asc:Asc l
 len:l.length≤1000
 big:2000<N
 max:N<4611686018427387904
def ql0 (r:Option (Int×List qg×Int)) (err day:Int) (new:List qg):Prop:= ∃x l',r=some (x,l',err)∧(err=0→x=day∧l'=new)
structure quj (N:Nat) (d:Int) (l:List qg) (e:qh) (err day:Int) (new:List qg):Prop where
 ref:qcr N ⟨d,l⟩ e=some err
 aft:err=0→qbt N ⟨d,l⟩ e=some ⟨day,new⟩
theorem ql0.day {N:Nat} (hN:2000<N) {d:Int} {l new:List qg} {num:Int} {k:Str} {ns:List Str} {vs:List Int} {t:Str} {day err err2:Int} (hv:vs[0]? =some day) (h0:0≤day) (he:err=if qep d day=0 then err2 else qep d day)
 (hk:qep d day=0→ ∃l',(((xm).bind fun r9=>
    if(k==[109,97,107,101])=true then(qH d l).bind fun l12=>(qdT N d l12 num k ns vs t).bind fun(l14,e_15)=>some (l14,e_15)
    else if(k==[116,101,115,116])=true then(qH d l).bind fun l18=>(qcI N d l18 num k ns vs t).bind fun(l20,e_21)=>some (l20,e_21)
    else if(k==[117,115,101])=true then(qH d l).bind fun l24=>(qdG N d l24 num k ns vs t).bind fun(l26,e_27)=>some (l26,e_27)
    else if(k==[102,97,105,108])=true then(qH d l).bind fun l30=>(qcP N d l30 num k ns vs t).bind fun(l32,e_33)=>some (l32,e_33)
    else if(k==[114,101,99,97,108,108])=true then(qH d l).bind fun l36=>(qb9 N d l36 num k ns vs t).bind fun(l38,e_39)=>some (l38,e_39)
    else if(k==[117,110,100,111])=true then none else none:Option (List qg×Int))=some (l',err2))∧(err2=0→l'=new)):
 ql0 (zb N d l num k ns vs t) err day new:=by
 unfold ql0 zb
 rw[qdt,hv,Option.bind_some,qnq,Option.bind_some,qdy,Option.bind_some,qtF (by omega) h0,Option.bind_some]
 by_cases hd:qep d day=0
 ·obtain⟨l',h1,h2⟩:=hk hd
  rw[if_pos hd]at he
  subst he
  rw[if_neg (by simp[hd]),h1,Option.bind_some]
  exact⟨day,l',rfl,fun h=>⟨rfl,h2 h⟩⟩
 ·rw[if_neg hd]at he
  subst he
  rw[if_pos (by simp[hd])]
  exact⟨0,[],rfl,fun h=>absurd h hd⟩
def qoJ (l:List qg) (n:Str) (day life uses:Int):Int:=
 if qdz l n=true then 9 else if qbL life 1 9999=true then 3 else if qbL uses 1 9999=true then 3 else if w64 (day+life)>99999 then 3 else if l.length≥256 then 5 else 0
theorem qxV {N:Nat} {d:Int} {l:List qg} (h:qg3 N l) {num day life uses:Int} {n b t:Str} (h0:0≤day∧day≤999999999) (h1:0≤life∧life≤999999999):
 ql0 (zb N d l num qdS [n,b] [day,life,uses] t) (if qep d day=0 then qoJ l n day life uses else qep d day) day (qpf l ⟨n,b,day,w64 (day+life),uses,0,0,0,false⟩):=by
 obtain⟨ha,hl,hN,hM⟩:=h
 refine ql0.day hN rfl h0.1 rfl fun hd=>?_
 simp only[xm,Option.bind_some,show(qdS==[109,97,107,101])=true by decide,if_true,qhS hl,qdT,qdt,qkO,qvg,List.getElem?_cons_zero,List.getElem?_cons_succ,qtp (N:=N) (l:=l) (by omega) (by omega),qdy,qfx,qnq]
 rw[qbX (by simp) (by simp;omega),Option.bind_some]
 have e:zM [if qdz l n=true then 9 else 0,if qbL life 1 9999=true then 3 else 0,if qbL uses 1 9999=true then 3 else 0,if qbL (w64 (day+life)) 0 99999=true then 3 else 0,if decide ((l.length:Int)≥256)=true then 5 else 0]=qoJ l n day life uses:=by
  have hw:w64 (day+life)=day+life:=qcK (by omega) (by omega)
  rw[hw]
  unfold qoJ
  rw[hw]
  by_cases a1:qdz l n=true
  ·simp[a1,zM]
  ·by_cases a2:qbL life 1 9999=true
   ·simp[a1,a2,zM]
   ·by_cases a3:qbL uses 1 9999=true
    ·simp[a1,a2,a3,zM]
    ·by_cases a4:day+life>99999
     ·have:qbL (day+life) 0 99999=true:=by simp[qbL];omega
      simp[a1,a2,a3,a4,this,zM]
     ·have:qbL (day+life) 0 99999=false:=by simp[qbL];omega
      by_cases a5:l.length≥256
      ·have:(l.length:Int)≥256:=by omega
       simp[a1,a2,a3,a4,a5,this,zM, *]
      ·have: ¬(l.length:Int)≥256:=by omega
       simp[a1,a2,a3,a4,a5,this,zM, *]
 rw[e]
 by_cases hz:qoJ l n day life uses=0
 ·rw[if_neg (by simp[hz])]
  simp only[qtH hl (qmb l n),Option.bind_some]
  exact⟨_,by rw[hz];rfl,fun _=>rfl⟩
 ·rw[if_pos (by simp[hz])]
  exact⟨_,rfl,fun h=>absurd h hz⟩
theorem qrt (l:List qg) (hl:l.length≤1000) (n:Str) (x:Int): ∀(K k:Nat),k≤l.length→l.length<K+k→qcO l n K x (k:Int)=some (x,((k+qbI (l.drop k) n:Nat):Int))
 |0,k,h,hK=>by omega
 |K+1,k,h,hK=>by
  unfold qcO
  by_cases hk:k<l.length
  ·rw[if_pos (by omega),zl,List.getElem?_eq_getElem hk,List.drop_eq_getElem_cons hk,zN (by omega),qrt l hl n x K (k+1) (by omega) (by omega)]
   simp only[Option.bind_some,qbI]
   by_cases hc:ltL (l[k]).Name n=true
   ·simp only[hc,if_true,Option.some.injEq,Prod.mk.injEq,true_and]
    omega
   ·simp[hc]
  ·rw[if_neg (by omega),List.drop_of_length_le (by omega)]
   simp[qbI]
theorem qxX {N:Nat} {d:Int} {l:List qg} (h:qg3 N l) {num day life uses:Int} {n b t:Str}:
 quj N d l ⟨num,qdS,[n,b],[day,life,uses],t⟩ (if qep d day=0 then qoJ l n day life uses else qep d day) day (qpf l ⟨n,b,day,w64 (day+life),uses,0,0,0,false⟩):=by
 obtain⟨ha,hl,hN,hM⟩:=h
 constructor
 ·unfold qcr
  simp only[qdt,qkO,qvg,List.getElem?_cons_zero,List.getElem?_cons_succ,Option.bind_some,qv4 (N:=N) (r:=⟨d,l⟩) (show l.length<_ by omega) (show l.length<N by omega) ha,qlD,show(qdS==[109,97,107,101])=true by decide,if_true]
  unfold qep qoJ
  by_cases a1:day>99999
  ·simp[a1]
  by_cases a2:day<d
  ·simp[a1,a2]
  simp only[a1,a2,if_false,if_true]
  by_cases a3:qdz l n=true
  ·simp[a3]
  ·have: ¬((-1:Int)≥0):=by omega
   simp only[a3,this,if_false,Bool.false_eq_true]
   by_cases a4:qbL life 1 9999=true
   ·simp[a4]
   ·by_cases a5:qbL uses 1 9999=true
    ·simp[a4,a5]
    ·by_cases a6:w64 (day+life)>99999
     ·simp[a4,a5,a6]
     ·by_cases a7:l.length≥256
      ·have:(l.length:Int)≥256:=by omega
       simp[a4,a5,a6,a7,this]
      ·have: ¬(l.length:Int)≥256:=by omega
       simp[a4,a5,a6,a7,this]
 ·intro hz
  unfold qbt
  have e0:(0:Int)=((0:Nat):Int):=rfl
  simp only[qdt,qkO,qvg,List.getElem?_cons_zero,List.getElem?_cons_succ,Option.bind_some,show(qdS==[109,97,107,101])=true by decide,if_true]
  rw[qaL (by simp;omega) (by simp;omega),Option.bind_some,List.nil_append]
  rw[show(qcO l n N (w64 (day+life)) 0)=qcO l n N (w64 (day+life)) ((0:Nat):Int)from rfl,qrt l hl n _ N 0 (by omega) (by omega),List.drop_zero,Option.bind_some]
  have hp:=qmb l n
  simp only[Nat.zero_add]
  rw[qj4 hp,Option.bind_some,qaL (by simp;omega) (by simp;omega),Option.bind_some,List.nil_append,qaL (by simp;omega) (by simp;omega),Option.bind_some,qlK hp,Option.bind_some,qaL (by simp;omega) (by simp;omega),Option.bind_some]
  simp[qpf]
def qnL (l:List qg) (n:Str) (f:qg→qg):List qg:=l.map fun s=>if(s.Name==n)=true then f s else s
theorem Asc.set {l:List qg} (h:Asc l) {i:Nat} {s:qg} {n:Str} (hi:l[i]? =some s) (hs:s.Name=n) (f:qg→qg):qnL l n f=l.set i (f s):=by
 refine List.ext_getElem? fun j=>?_
 have hlt:=(List.getElem?_eq_some_iff.1 hi).1
 unfold qnL
 rw[List.getElem?_map,List.getElem?_set]
 by_cases hj:i=j
 ·subst hj
  rw[if_pos rfl,hi]
  simp[hs,hlt]
 ·rw[if_neg hj]
  cases hq:l[j]? with
  |none=>rfl
  |some t=>
   have: ¬(t.Name==n)=true:=fun e=>hj ((h.uniq hi hs).2.symm.trans (h.uniq hq (beq_iff_eq.1 e)).2)
   simp only[Option.map_some,this,if_false,Bool.false_eq_true]
def qhZ (l:List qg) (n:Str) (day:Int) (more:qg→Int):Int:=match l[qbI l n]? with
 |some s=>if qdz l n=true then if qh0 s day=true then 20 else more s else 10
 |none=>10
theorem qqO {N:Nat} {d:Int} {l:List qg} (h:qg3 N l) (n:Str) (day:Int):vP N d l n day=match l[qbI l n]? with
 |some s=>if qdz l n=true then some ((qbI l n:Int),true,if qh0 s day=true then 20 else 0)else some (0,false,10)
 |none=>some (0,false,10):=by
 obtain⟨ha,hl,hN,hM⟩:=h
 unfold vP
 rw[qtp (by omega) (by omega),Option.bind_some]
 cases hq:l[qbI l n]? with
 |none=>
  have:qdz l n=false:=by
   cases hh:qdz l n with
   |false=>rfl
   |true=>have:=qj9 hh;rw[List.getElem?_eq_getElem this]at hq;cases hq
  simp[this]
 |some s=>
  by_cases hh:qdz l n=true
  ·simp only[hh,Bool.not_true,Bool.false_eq_true,if_false,if_true,zl,hq,Option.bind_some,qo4,qdy]
  ·simp[hh]
theorem qqE {l:List qg} {n:Str} {s:qg} (hq:l[qbI l n]? =some s) (hh:qdz l n=true):s.Name=n:=by
 have:=qmo hq
 rw[hh]at this
 exact beq_iff_eq.1 this.symm
theorem qer {l:List qg} {n:Str} {day:Int} {m:qg→Int} (h:qdz l n=false):qhZ l n day m=10:=by
 unfold qhZ
 cases l[qbI l n]? with
 |none=>rfl
 |some s=>simp[h]
theorem qoe {l:List qg} {n:Str} (h:qdz l n=true): ∃s,l[qbI l n]? =some s∧qbI l n<l.length:=⟨_,List.getElem?_eq_getElem (qj9 h),qj9 h⟩
theorem qlp {N:Nat} {d:Int} {l:List qg} (h:qg3 N l) {e:qh} {n:Str} {day:Int} (hn:e.Names[0]? =some n) (hv:e.Values[0]? =some day) (h1:(e.Kind==qdS)=false) (h5:(e.Kind==qav)=false) {m:qg→Int}
 (hm: ∀s:qg,(((if(e.Kind==[116,101,115,116])=true then(idx e.Values 1).bind fun x43=>(xZ x43 2 999999999).bind fun r44=>some r44 else some false:Option Bool).bind fun b45=>
    if b45=true then some 3 else((if(e.Kind==[117,115,101])=true then(qhs s day).bind fun r51=>if(!r51)=true then some (.inr 24)else(idx e.Values 1).bind fun x53=>if x53>s.Limit then some (.inr 31)else some (.inl ())else some (.inl ()):Option (Unit⊕Int))).bind (fun
     |(.inl ())=>some 0
     |(.inr q55)=>some q55)):Option Int)=some (m s)):
 qcr N ⟨d,l⟩ e=some (if qep d day=0 then qhZ l n day m else qep d day):=by
 obtain⟨ha,hl,hN,hM⟩:=h
 unfold qcr
 simp only[qdt,hv,hn,Option.bind_some,qv4 (N:=N) (r:=⟨d,l⟩) (show l.length<_ by omega) (show l.length<N by omega) ha]
 have h1': ¬(e.Kind==[109,97,107,101])=true:=by rw[show([109,97,107,101]:Str)=qdS from rfl,h1];simp
 have h5': ¬(e.Kind==[114,101,99,97,108,108])=true:=by rw[show([114,101,99,97,108,108]:Str)=qav from rfl,h5];simp
 rw[if_neg h1',if_neg h5']
 unfold qep
 by_cases a1:day>99999
 ·simp[a1]
 by_cases a2:day<d
 ·simp[a1,a2]
 simp only[a1,a2,if_false,if_true]
 cases hh:qdz l n with
 |false=>rw[qer hh];rfl
 |true=>
  obtain⟨s,hs,hlt⟩:=qoe hh
  rw[if_pos rfl,if_neg (by omega),zl,hs,Option.bind_some,qnE,Option.bind_some]
  unfold qhZ
  rw[hs]
  simp only[hh,if_true]
  by_cases hr:qh0 s day=true
  ·simp[hr]
  ·rw[if_neg hr,if_neg hr]
   exact hm s
theorem qjT {e:qh} {day:Int} {n:Str} (hn:e.Names[0]? =some n) (f:qg→qg) (hf: ∀(s:qg) (l:List qg) (k:Nat),l[k]? =some s→(((if(e.Kind==[116,101,115,116])=true then some (s.Name==n)else some false:Option Bool).bind fun b33=>
 if b33=true then(idx e.Values 1).bind fun x36=>(put l k (⟨s.Name,s.Batch,s.Born,s.Last,s.Uses,s.Used,w64 (x36.tdiv 2),s.Until,s.Gone⟩:qg)).bind fun l37=>(idx l37 k).bind fun x38=>
  (put l37 k (⟨x38.Name,x38.Batch,x38.Born,x38.Last,x38.Uses,x38.Used,x38.Limit,(if x38.Last<(w64 (day+365))then x38.Last else(w64 (day+365))),x38.Gone⟩:qg)).bind fun l39=>some l39
 else(if(e.Kind==[117,115,101])=true then some (s.Name==n)else some false:Option Bool).bind fun b41=>
 if b41=true then(put l k (⟨s.Name,s.Batch,s.Born,s.Last,s.Uses,w64 (s.Used+1),s.Limit,s.Until,s.Gone⟩:qg)).bind fun l44=>some l44
 else(if(e.Kind==[102,97,105,108])=true then some (s.Name==n)else some false:Option Bool).bind fun b46=>
 ((if b46=true then some b46 else(if(e.Kind==[114,101,99,97,108,108])=true then some (s.Batch==n)else some false:Option Bool).bind fun b52=>some b52:Option Bool)).bind fun b48=>
 if b48=true then(put l k (⟨s.Name,s.Batch,s.Born,s.Last,s.Uses,s.Used,s.Limit,s.Until,true⟩:qg)).bind fun l55=>some l55 else some l):Option (List qg))=some (l.set k (f s))):
 ∀(K:Nat) (l:List qg) (k:Nat),l.length≤1000→k≤l.length→l.length<K+k→qca e day K l (k:Int)=some (l.take k++(l.drop k).map f)
 |0,l,k,hl,h,hK=>by omega
 |K+1,l,k,hl,h,hK=>by
  unfold qca
  by_cases hk:k<l.length
  ·have hg:l[k]? =some l[k]:=List.getElem?_eq_getElem hk
   rw[if_pos (by omega),zl,hg,Option.bind_some,qdt,hn,Option.bind_some]
   have:=hf l[k] l k hg
   rw[this,Option.bind_some,zN (by omega),qjT hn f hf K (l.set k (f l[k])) (k+1) (by simp;omega) (by simp;omega) (by simp;omega)]
   congr 1
   rw[List.drop_eq_getElem_cons hk,List.drop_set,if_pos (by omega),List.map_cons,List.take_add_one,List.getElem?_set_self hk,List.take_set,List.set_eq_of_length_le (by simp;exact Nat.min_le_left _ _)]
   simp
  ·rw[if_neg (by omega),List.take_of_length_le (by omega),List.drop_of_length_le (by omega)]
   simp
theorem qkm {N:Nat} {d:Int} {l:List qg} (h:qg3 N l) {e:qh} {day:Int} {n:Str} (hn:e.Names[0]? =some n) (hv:e.Values[0]? =some day) (h1:(e.Kind==qdS)=false) (f:qg→qg)
 (hK: ∀(K:Nat) (l:List qg) (k:Nat),l.length≤1000→k≤l.length→l.length<K+k→qca e day K l (k:Int)=some (l.take k++(l.drop k).map f)):qbt N ⟨d,l⟩ e=some ⟨day,l.map f⟩:=by
 obtain⟨ha,hl,hN,hM⟩:=h
 unfold qbt
 rw[qdt,hv,Option.bind_some]
 have h1': ¬(e.Kind==[109,97,107,101])=true:=by rw[show([109,97,107,101]:Str)=qdS from rfl,h1];simp
 simp only
 rw[qaL (by simp;omega) (by simp;omega),Option.bind_some,List.nil_append,if_neg h1']
 rw[show qca e day N l 0=qca e day N l ((0:Nat):Int)from rfl,hK N l 0 hl (by omega) (by omega)]
 simp
def qtd (load:Int) (_:qg):Int:=if qbL load 2 999999999=true then 3 else 0
def qvA (day load:Int) (s:qg):qg:=⟨s.Name,s.Batch,s.Born,s.Last,s.Uses,s.Used,w64 (load.tdiv 2),(if s.Last<w64 (day+365)then s.Last else w64 (day+365)),s.Gone⟩
theorem qvh {N:Nat} {d:Int} {l:List qg} (h:qg3 N l) {num day load:Int} {n t:Str} (h0:0≤day):
 ql0 (zb N d l num qeD [n] [day,load] t) (if qep d day=0 then qhZ l n day (qtd load)else qep d day) day (qnL l n (qvA day load)):=by
 have h':=h
 obtain⟨ha,hl,hN,hM⟩:=h
 refine ql0.day hN rfl h0 rfl fun hd=>?_
 simp only[xm,Option.bind_some,show(qeD==[109,97,107,101])=false by decide,show(qeD==[116,101,115,116])=true by decide,Bool.false_eq_true,if_false,if_true,qhS hl,qcI,qdt,qkO,List.getElem?_cons_zero,List.getElem?_cons_succ,qfx]
 rw[qqO h']
 cases hh:qdz l n with
 |false=>
  refine⟨l,?_,fun h=>?_⟩
  ·rw[qer hh]
   cases hq:l[qbI l n]? with
   |none=>
    simp only[Option.bind_some]
    rw[qbX (by simp) (by simp;omega)]
    simp[zM]
   |some s=>
    simp only[hh,Bool.false_eq_true,if_false,Option.bind_some]
    rw[qbX (by simp) (by simp;omega)]
    simp[zM]
  ·rw[qer hh]at h;cases h
 |true=>
  obtain⟨s,hs,hlt⟩:=qoe hh
  have hname:=qqE hs hh
  unfold qhZ
  rw[hs]
  simp only[hh,if_true,Option.bind_some]
  rw[qbX (by simp) (by simp;omega)]
  unfold qtd
  by_cases hr:qh0 s day=true
  ·exact⟨l,by simp[hr,zM],fun h=>by rw[if_pos hr]at h;cases h⟩
  ·by_cases ho:qbL load 2 999999999=true
   ·exact⟨l,by simp[hr,ho,zM],fun h=>by rw[if_neg hr,if_pos ho]at h;cases h⟩
   ·refine⟨l.set (qbI l n) (qvA day load s),?_,fun _=>(ha.set hs hname _).symm⟩
    have hlen:qbI l n<(l.set (qbI l n) (⟨s.Name,s.Batch,s.Born,s.Last,s.Uses,s.Used,w64 (load.tdiv 2),s.Until,s.Gone⟩:qg)).length:=by simpa using hlt
    simp only[hr,ho,if_false,zM,if_true,Bool.false_eq_true,Option.bind_some,decide_true,Bool.not_true,zl,hs,qds hlt,List.getElem?_set_self hlt,qds hlen,List.set_set]
    rfl
theorem qu9 {N:Nat} {d:Int} {l:List qg} (h:qg3 N l) {num day load:Int} {n t:Str}:
 quj N d l ⟨num,qeD,[n],[day,load],t⟩ (if qep d day=0 then qhZ l n day (qtd load)else qep d day) day (qnL l n (qvA day load)):=by
 constructor
 ·refine qlp h rfl rfl (by show(qeD==qdS)=false;decide) (by show(qeD==qav)=false;decide) fun s=>?_
  simp only[show(qeD==[116,101,115,116])=true by decide,show(qeD==[117,115,101])=false by decide,if_true,if_false,Bool.false_eq_true,qkO,List.getElem?_cons_succ,List.getElem?_cons_zero,Option.bind_some,qlD,qtd]
  by_cases ho:qbL load 2 999999999=true<;>simp[ho]
 ·intro _
  refine qkm h rfl rfl (by show(qeD==qdS)=false;decide) _ (qjT (n:=n) rfl _ fun s l k hk=>?_)
  have hlt:=(List.getElem?_eq_some_iff.1 hk).1
  simp only[show(qeD==[116,101,115,116])=true by decide,show(qeD==[117,115,101])=false by decide,show(qeD==[102,97,105,108])=false by decide,show(qeD==[114,101,99,97,108,108])=false by decide,if_true,if_false,Bool.false_eq_true,qkO,List.getElem?_cons_succ,List.getElem?_cons_zero,Option.bind_some]
  by_cases hb:(s.Name==n)=true
  ·simp only[hb,if_true,qds hlt,Option.bind_some,zl,List.getElem?_set_self hlt]
   rw[qds (by simpa using hlt),List.set_set]
   rfl
  ·simp only[hb,if_false,Bool.false_eq_true]
   rw[show l.set k s=l from by
    have e:l[k]=s:=by rw[List.getElem?_eq_getElem hlt]at hk;injection hk
    rw[←e,List.set_getElem_self]]
def useM (day load:Int) (s:qg):Int:=if qoV s day=false then 24 else if load>s.Limit then 31 else 0
def useF (s:qg):qg:=⟨s.Name,s.Batch,s.Born,s.Last,s.Uses,w64 (s.Used+1),s.Limit,s.Until,s.Gone⟩
theorem qxJ {N:Nat} {d:Int} {l:List qg} (h:qg3 N l) {num day load:Int} {n t:Str} (h0:0≤day):
 ql0 (zb N d l num qht [n] [day,load] t) (if qep d day=0 then qhZ l n day (useM day load)else qep d day) day (qnL l n useF):=by
 have h':=h
 obtain⟨ha,hl,hN,hM⟩:=h
 refine ql0.day hN rfl h0 rfl fun hd=>?_
 simp only[xm,Option.bind_some,show(qht==[109,97,107,101])=false by decide,show(qht==[116,101,115,116])=false by decide,show(qht==[117,115,101])=true by decide,Bool.false_eq_true,if_false,if_true,qhS hl,qdG,qdt,qkO,List.getElem?_cons_zero,List.getElem?_cons_succ]
 rw[qqO h']
 cases hh:qdz l n with
 |false=>
  refine⟨l,?_,fun h=>by rw[qer hh]at h;cases h⟩
  rw[qer hh]
  cases hq:l[qbI l n]? with
  |none=>simp
  |some s=>simp[hh]
 |true=>
  obtain⟨s,hs,hlt⟩:=qoe hh
  have hname:=qqE hs hh
  unfold qhZ
  rw[hs]
  simp only[hh,if_true,Option.bind_some]
  by_cases hr:qh0 s day=true
  ·exact⟨l,by simp[hr],fun h=>by rw[if_pos hr]at h;cases h⟩
  ·simp only[hr,if_false,Bool.false_eq_true,decide_true,Bool.not_true,zl,hs,Option.bind_some,qu8,qdy]
   rw[qbX (by simp) (by simp;omega)]
   unfold useM
   simp only[Option.bind_some]
   by_cases hH:qoV s day=true
   ·by_cases hL:load>s.Limit
    ·exact⟨l,by simp[hH,hL,zM],fun h=>by simp[hH,hL]at h⟩
    ·refine⟨l.set (qbI l n) (useF s),?_,fun _=>(ha.set hs hname _).symm⟩
     simp only[hH,hL,zM,Bool.not_true,Bool.false_eq_true,if_false,if_true,decide_false,decide_true,qds hlt,Option.bind_some]
     rfl
   ·exact⟨l,by simp[hH,zM],fun h=>by simp[hH]at h⟩
theorem qw9 {N:Nat} {d:Int} {l:List qg} (h:qg3 N l) {num day load:Int} {n t:Str}:
 quj N d l ⟨num,qht,[n],[day,load],t⟩ (if qep d day=0 then qhZ l n day (useM day load)else qep d day) day (qnL l n useF):=by
 constructor
 ·refine qlp h rfl rfl (by show(qht==qdS)=false;decide) (by show(qht==qav)=false;decide) fun s=>?_
  simp only[show(qht==[116,101,115,116])=false by decide,show(qht==[117,115,101])=true by decide,if_true,if_false,Bool.false_eq_true,qkO,List.getElem?_cons_succ,List.getElem?_cons_zero,Option.bind_some,qtR,useM]
  by_cases hH:qoV s day=true
  ·by_cases hL:load>s.Limit<;>simp[hH,hL]
  ·simp[hH]
 ·intro _
  refine qkm h rfl rfl (by show(qht==qdS)=false;decide) _ (qjT (n:=n) rfl _ fun s l k hk=>?_)
  have hlt:=(List.getElem?_eq_some_iff.1 hk).1
  simp only[show(qht==[116,101,115,116])=false by decide,show(qht==[117,115,101])=true by decide,show(qht==[102,97,105,108])=false by decide,show(qht==[114,101,99,97,108,108])=false by decide,if_true,if_false,Bool.false_eq_true,Option.bind_some]
  by_cases hb:(s.Name==n)=true
  ·simp only[hb,if_true,qds hlt,Option.bind_some]
   rfl
  ·simp only[hb,if_false,Bool.false_eq_true]
   rw[show l.set k s=l from by
    have e:l[k]=s:=by rw[List.getElem?_eq_getElem hlt]at hk;injection hk
    rw[←e,List.set_getElem_self]]
def qs1 (s:qg):qg:=⟨s.Name,s.Batch,s.Born,s.Last,s.Uses,s.Used,s.Limit,s.Until,true⟩
theorem qu7 {N:Nat} {d:Int} {l:List qg} (h:qg3 N l) {num day:Int} {n t:Str} (h0:0≤day):
 ql0 (zb N d l num qd1 [n] [day] t) (if qep d day=0 then qhZ l n day (fun _=>0)else qep d day) day (qnL l n qs1):=by
 have h':=h
 obtain⟨ha,hl,hN,hM⟩:=h
 refine ql0.day hN rfl h0 rfl fun hd=>?_
 simp only[xm,Option.bind_some,show(qd1==[109,97,107,101])=false by decide,show(qd1==[116,101,115,116])=false by decide,show(qd1==[117,115,101])=false by decide,show(qd1==[102,97,105,108])=true by decide,Bool.false_eq_true,if_false,if_true,qhS hl,qcP,qdt,qkO,List.getElem?_cons_zero,List.getElem?_cons_succ]
 rw[qqO h']
 cases hh:qdz l n with
 |false=>
  refine⟨l,?_,fun h=>by rw[qer hh]at h;cases h⟩
  rw[qer hh]
  cases hq:l[qbI l n]? with
  |none=>simp
  |some s=>simp[hh]
 |true=>
  obtain⟨s,hs,hlt⟩:=qoe hh
  have hname:=qqE hs hh
  unfold qhZ
  rw[hs]
  simp only[hh,if_true,Option.bind_some]
  by_cases hr:qh0 s day=true
  ·exact⟨l,by simp[hr],fun h=>by rw[if_pos hr]at h;cases h⟩
  ·refine⟨l.set (qbI l n) (qs1 s),?_,fun _=>(ha.set hs hname _).symm⟩
   simp only[hr,if_false,Bool.false_eq_true,decide_true,Bool.not_true,zl,hs,Option.bind_some,qds hlt]
   rfl
theorem qvD {N:Nat} {d:Int} {l:List qg} (h:qg3 N l) {num day:Int} {n t:Str}:
 quj N d l ⟨num,qd1,[n],[day],t⟩ (if qep d day=0 then qhZ l n day (fun _=>0)else qep d day) day (qnL l n qs1):=by
 constructor
 ·refine qlp h rfl rfl (by show(qd1==qdS)=false;decide) (by show(qd1==qav)=false;decide) fun s=>?_
  simp only[show(qd1==[116,101,115,116])=false by decide,show(qd1==[117,115,101])=false by decide,if_true,if_false,Bool.false_eq_true,Option.bind_some]
 ·intro _
  refine qkm h rfl rfl (by show(qd1==qdS)=false;decide) _ (qjT (n:=n) rfl _ fun s l k hk=>?_)
  have hlt:=(List.getElem?_eq_some_iff.1 hk).1
  simp only[show(qd1==[116,101,115,116])=false by decide,show(qd1==[117,115,101])=false by decide,show(qd1==[102,97,105,108])=true by decide,show(qd1==[114,101,99,97,108,108])=false by decide,if_true,if_false,Bool.false_eq_true,Option.bind_some]
  by_cases hb:(s.Name==n)=true
  ·simp only[hb,if_true,qds hlt,Option.bind_some]
   rfl
  ·simp only[hb,if_false,Bool.false_eq_true,Option.bind_some]
   rw[show l.set k s=l from by
    have e:l[k]=s:=by rw[List.getElem?_eq_getElem hlt]at hk;injection hk
    rw[←e,List.set_getElem_self]]
def qiK (n:Str) (s:qg):qg:=if(s.Batch==n)=true then qs1 s else s
def qpq (n:Str) (day:Int):Int→List qg→Int
 |b,[]=>b
 |b,s::l=>qpq n day (if(s.Batch==n)=true then if qh0 s day=true then if b=10 then 20 else b else 0 else b) l
def qmJ (l:List qg) (n:Str) (day:Int):Int:=if(l.any fun s=>s.Batch==n)=false then 10 else if(l.any fun s=>s.Batch==n&&!qh0 s day)=false then 20 else 0
theorem qo6 (n:Str) (day:Int): ∀l,qpq n day 0 l=0
 |[]=>rfl
 |s::l=>by
  unfold qpq
  by_cases h:(s.Batch==n)=true
  ·by_cases h2:qh0 s day=true
   ·simp only[h,h2,if_true];rw[if_neg (by decide)];exact qo6 n day l
   ·simp only[h,h2,if_true,if_false,Bool.false_eq_true];exact qo6 n day l
  ·simp only[h,if_false,Bool.false_eq_true];exact qo6 n day l
theorem qqs (n:Str) (day:Int): ∀l:List qg,qpq n day 20 l=if(l.any fun s=>s.Batch==n&&!qh0 s day)=false then 20 else 0
 |[]=>rfl
 |s::l=>by
  unfold qpq
  rw[List.any_cons]
  by_cases h:(s.Batch==n)=true
  ·by_cases h2:qh0 s day=true
   ·simp only[h,h2,if_true];rw[if_neg (by decide),qqs n day l];simp
   ·simp only[h,h2,if_true,if_false,Bool.false_eq_true];rw[qo6];simp
  ·simp only[h,if_false,Bool.false_eq_true];rw[qqs n day l];simp
theorem qtr (n:Str) (day:Int): ∀l:List qg,qpq n day 10 l=qmJ l n day
 |[]=>rfl
 |s::l=>by
  unfold qpq qmJ
  rw[List.any_cons,List.any_cons]
  by_cases h:(s.Batch==n)=true
  ·by_cases h2:qh0 s day=true
   ·simp only[h,h2,if_true];rw[qqs n day l];simp
   ·simp only[h,h2,if_true,if_false,Bool.false_eq_true];rw[qo6];simp
  ·simp only[h,if_false,Bool.false_eq_true];rw[qtr n day l];simp[qmJ]
theorem qeH {l:List qg} (hl:l.length≤1000) {n:Str} {day:Int}: ∀(K k:Nat) (b:Int),k≤l.length→l.length<K+k→
 jX l [n] [day] K ((l.take k).map (qiK n)++l.drop k) (k:Int) b=some (l.map (qiK n),qpq n day b (l.drop k))
 |0,k,b,h,hK=>by omega
 |K+1,k,b,h,hK=>by
  unfold jX
  by_cases hk:k<l.length
  ·have hlen:((l.take k).map (qiK n)).length=k:=by simp;omega
   have hg:((l.take k).map (qiK n)++l.drop k)[k]? =some l[k]:=by
    rw[List.getElem?_append_right (by omega),hlen,Nat.sub_self,List.drop_eq_getElem_cons hk];rfl
   have hlt:k<((l.take k).map (qiK n)++l.drop k).length:=by rw[List.length_append,hlen,List.length_drop];omega
   rw[if_pos (by omega),zl,hg,Option.bind_some,qdt]
   simp only[List.getElem?_cons_zero,Option.bind_some]
   have hset: ∀x:qg,((l.take k).map (qiK n)++l.drop k).set k x=(l.take k).map (qiK n)++x::l.drop (k+1):=by
    intro x
    rw[List.set_append_right _ _ (by omega),hlen,Nat.sub_self,List.drop_eq_getElem_cons hk,List.set_cons_zero]
   have hnext: ∀x:qg,x=qiK n l[k]→(l.take k).map (qiK n)++x::l.drop (k+1)=(l.take (k+1)).map (qiK n)++l.drop (k+1):=by
    rintro x rfl
    rw[List.take_add_one,List.getElem?_eq_getElem hk,List.map_append,List.append_assoc]
    rfl
   have hsame:(l.take k).map (qiK n)++l.drop k=(l.take k).map (qiK n)++l[k]::l.drop (k+1):=by rw[List.drop_eq_getElem_cons hk]
   have e1:qpq n day b (l.drop k)=qpq n day (if((l[k]).Batch==n)=true then if qh0 l[k] day=true then if b=10 then 20 else b else 0 else b) (l.drop (k+1)):=by
    rw[List.drop_eq_getElem_cons hk];rfl
   rw[e1]
   by_cases hb:((l[k]).Batch==n)=true
   ·simp only[hb,Bool.not_true,Bool.false_eq_true,if_false,if_true,qo4,Option.bind_some,qds hlt,hset]
    have hF:(⟨(l[k]).Name,(l[k]).Batch,(l[k]).Born,(l[k]).Last,(l[k]).Uses,(l[k]).Used,(l[k]).Limit,(l[k]).Until,true⟩:qg)=qiK n l[k]:=by unfold qiK;rw[if_pos hb];rfl
    rw[hnext _ hF]
    by_cases hr:qh0 l[k] day=true
    ·by_cases hb10:b=10
     ·simp only[hr,hb10,if_true,qdt,List.getElem?_cons_zero,Bool.not_true,Bool.false_eq_true,if_false,Option.bind_some]
      rw[zN (by omega),qeH hl K (k+1) _ (by omega) (by omega)]
     ·simp only[hr,hb10,if_true,qdt,List.getElem?_cons_zero,Bool.not_true,Bool.false_eq_true,if_false,Option.bind_some]
      rw[zN (by omega),qeH hl K (k+1) _ (by omega) (by omega)]
    ·by_cases hb10:b=10
     ·simp only[hr,hb10,if_true,qdt,List.getElem?_cons_zero,Bool.not_false,Bool.false_eq_true,if_false,Option.bind_some]
      rw[zN (by omega),qeH hl K (k+1) _ (by omega) (by omega)]
     ·simp only[hr,hb10,if_true,qdt,List.getElem?_cons_zero,Bool.not_false,Bool.false_eq_true,if_false,Option.bind_some]
      rw[zN (by omega),qeH hl K (k+1) _ (by omega) (by omega)]
   ·simp only[hb,Bool.not_false,Bool.false_eq_true,if_false,if_true,Option.bind_some]
    rw[hsame,hnext _ (by unfold qiK;rw[if_neg hb]),zN (by omega),qeH hl K (k+1) _ (by omega) (by omega)]
  ·have:l.take k=l:=List.take_of_length_le (by omega)
   rw[if_neg (by omega),List.drop_of_length_le (by omega),this]
   simp[qpq]
theorem qsG {N:Nat} {d:Int} {l:List qg} (h:qg3 N l) {num day:Int} {n t:Str} (h0:0≤day):
 ql0 (zb N d l num qav [n] [day] t) (if qep d day=0 then qmJ l n day else qep d day) day (l.map (qiK n)):=by
 obtain⟨ha,hl,hN,hM⟩:=h
 refine ql0.day hN rfl h0 rfl fun hd=>?_
 simp only[xm,Option.bind_some,show(qav==[109,97,107,101])=false by decide,show(qav==[116,101,115,116])=false by decide,show(qav==[117,115,101])=false by decide,show(qav==[102,97,105,108])=false by decide,show(qav==[114,101,99,97,108,108])=true by decide,Bool.false_eq_true,if_false,if_true,qhS hl,qb9]
 have:=qeH hl (n:=n) (day:=day) N 0 10 (by omega) (by omega)
 rw[List.take_zero,List.map_nil,List.nil_append,List.drop_zero]at this
 rw[show jX l [n] [day] N l 0 10=jX l [n] [day] N l ((0:Nat):Int) 10 from rfl,this,qtr]
 exact⟨_,rfl,fun _=>rfl⟩
theorem qib {N:Nat} {r:vH} (hl:r.Slings.length≤1000) {e:qh} {n:Str} (hn:e.Names[0]? =some n) (day:Int): ∀(K k:Nat) (a b:Bool),k≤r.Slings.length→r.Slings.length<K+k→
 qbP r e day K a b (k:Int)=some (a||(r.Slings.drop k).any (fun s=>s.Batch==n),b||(r.Slings.drop k).any (fun s=>s.Batch==n&&!qh0 s day))
 |0,k,a,b,h,hK=>by omega
 |K+1,k,a,b,h,hK=>by
  unfold qbP
  by_cases hk:k<r.Slings.length
  ·rw[if_pos (by omega),zl,List.getElem?_eq_getElem hk,Option.bind_some,qdt,hn,Option.bind_some,zN (by omega),List.drop_eq_getElem_cons hk,List.any_cons,List.any_cons]
   by_cases hb:((r.Slings[k]).Batch==n)=true
   ·by_cases hq:b=true
    ·simp only[hb,hq,if_true,Option.bind_some]
     rw[qib (N:=N) hl hn day K (k+1) _ _ (by omega) (by omega)]
     simp
    ·simp only[hb,hq,if_true,if_false,Option.bind_some,qnE,Bool.false_eq_true]
     rw[qib (N:=N) hl hn day K (k+1) _ _ (by omega) (by omega)]
     simp
   ·simp only[hb,if_false,Option.bind_some,Bool.false_eq_true]
    rw[qib (N:=N) hl hn day K (k+1) _ _ (by omega) (by omega)]
    simp
  ·rw[if_neg (by omega),List.drop_of_length_le (by omega)]
   simp
theorem qsr {N:Nat} {d:Int} {l:List qg} (h:qg3 N l) {num day:Int} {n t:Str}:
 quj N d l ⟨num,qav,[n],[day],t⟩ (if qep d day=0 then qmJ l n day else qep d day) day (l.map (qiK n)):=by
 constructor
 ·obtain⟨ha,hl,hN,hM⟩:=h
  unfold qcr
  simp only[qdt,List.getElem?_cons_zero,Option.bind_some,qv4 (N:=N) (r:=⟨d,l⟩) (show l.length<_ by omega) (show l.length<N by omega) ha,show(qav==[109,97,107,101])=false by decide,show(qav==[114,101,99,97,108,108])=true by decide,if_true,if_false,Bool.false_eq_true]
  unfold qep
  by_cases a1:day>99999
  ·simp[a1]
  by_cases a2:day<d
  ·simp[a1,a2]
  simp only[a1,a2,if_false,if_true]
  rw[show∀e,qbP ⟨d,l⟩ e day N false false 0=qbP ⟨d,l⟩ e day N false false ((0:Nat):Int)from fun _=>rfl,qib (N:=N) (r:=⟨d,l⟩) hl (n:=n) rfl day N 0 false false (Nat.zero_le _) (show l.length<N+0 by omega),List.drop_zero,Option.bind_some]
  unfold qmJ
  simp only[Bool.false_or]
  by_cases b1:(l.any fun s=>s.Batch==n)=true
  ·by_cases b2:(l.any fun s=>s.Batch==n&&!qh0 s day)=true<;>simp[b1,b2]
  ·simp[b1]
 ·intro _
  refine qkm h rfl rfl (by show(qav==qdS)=false;decide) _ (qjT (n:=n) rfl _ fun s l k hk=>?_)
  have hlt:=(List.getElem?_eq_some_iff.1 hk).1
  simp only[show(qav==[116,101,115,116])=false by decide,show(qav==[117,115,101])=false by decide,show(qav==[102,97,105,108])=false by decide,show(qav==[114,101,99,97,108,108])=true by decide,if_true,if_false,Bool.false_eq_true,Option.bind_some]
  unfold qiK
  by_cases hb:(s.Batch==n)=true
  ·simp only[hb,if_true,qds hlt,Option.bind_some]
   rfl
  ·simp only[hb,if_false,Bool.false_eq_true,Option.bind_some]
   rw[show l.set k s=l from by
    have e:l[k]=s:=by rw[List.getElem?_eq_getElem hlt]at hk;injection hk
    rw[←e,List.set_getElem_self]]
theorem Asc.map {l:List qg} (h:Asc l) {f:qg→qg} (hf: ∀s,(f s).Name=s.Name):Asc (l.map f):=by
 unfold Asc
 rw[List.pairwise_map]
 exact h.imp fun {a b} hab=>by rw[hf,hf];exact hab
theorem qp3 (t:qg) (l:List qg) (s:qg):qpf (t::l) s=if ltL t.Name s.Name=true then t::qpf l s else s::t::l:=by
 unfold qpf
 rw[qbI]
 split<;>simp
theorem qrv {x s:qg}: ∀{l:List qg},x∈qpf l s→x=s∨x∈l
 |[],h=>by simp[qpf,qbI]at h;exact .inl h
 |t::l,h=>by
  rw[qp3]at h
  split at h
  ·rcases List.mem_cons.1 h with rfl|h
   ·exact .inr (by simp)
   ·rcases qrv h with h|h
    ·exact .inl h
    ·exact .inr (by simp[h])
  ·rcases List.mem_cons.1 h with rfl|h
   ·exact .inl rfl
   ·exact .inr h
theorem Asc.ins {s:qg}: ∀{l:List qg},Asc l→qdz l s.Name=false→Asc (qpf l s)
 |[],_,_=>by simp[qpf,qbI,Asc]
 |t::l,h,hn=>by
  obtain⟨h1,h2⟩:=List.pairwise_cons.1 h
  rw[qp3]
  unfold qdz at hn
  split
  ·rename_i hc
   rw[if_pos hc]at hn
   refine List.pairwise_cons.2 ⟨fun x hx=>?_,Asc.ins h2 hn⟩
   rcases qrv hx with rfl|hx
   ·exact hc
   ·exact h1 x hx
  ·rename_i hc
   rw[if_neg hc]at hn
   have hlt:ltL s.Name t.Name=true:=by
    cases hq:ltL s.Name t.Name with
    |true=>rfl
    |false=>exact absurd (qhi _ _ (by simpa using hc) hq) (beq_eq_false_iff_ne.1 hn)
   refine List.pairwise_cons.2 ⟨fun x hx=>?_,h⟩
   rcases List.mem_cons.1 hx with rfl|hx
   ·exact hlt
   ·exact qfz hlt (h1 x hx)
theorem qqF (l:List qg) (n:Str) (f:qg→qg):qnL l n f=l.map fun s=>if(s.Name==n)=true then f s else s:=rfl
theorem qvP {α:Type} {l:List α} (h:(l.length:Int)=2): ∃a b,l=[a,b]:=by
 match l,h with
 |[a,b],_=>exact⟨a,b,rfl⟩
 |[],h=>simp at h
 |[_],h=>simp at h
 |_::_::_::_,h=>simp at h;omega
theorem qpm {α:Type} {l:List α} (h:(l.length:Int)=1): ∃a,l=[a]:=by
 match l,h with
 |[a],_=>exact⟨a,rfl⟩
 |[],h=>simp at h
 |_::_::_,h=>simp at h;omega
theorem list3 {α:Type} {l:List α} (h:(l.length:Int)=3): ∃a b c,l=[a,b,c]:=by
 match l,h with
 |[a,b,c],_=>exact⟨a,b,c,rfl⟩
 |[],h=>simp at h
 |[_],h=>simp at h
 |[_,_],h=>simp at h
 |_::_::_::_::_,h=>simp at h;omega
structure qw0 (e:qh):Prop where
 num:1≤e.Number∧e.Number≤1000
 form:(qba e.Kind).2.2=true
 names:(e.Names.length:Int)=(qba e.Kind).1
 values:(e.Values.length:Int)=(qba e.Kind).2.1
 range: ∀v∈e.Values,0≤v∧v≤999999999
 text:e.Text=[]
theorem qqx {e:qh} (h:qhB e=0):qw0 e:=by
 unfold qhB at h
 by_cases h1:qbL e.Number 1 1000=true
 ·rw[if_pos h1]at h;cases h
 rw[if_neg h1]at h
 by_cases h2:(qba e.Kind).2.2=false
 ·rw[if_pos h2]at h;cases h
 rw[if_neg h2]at h
 by_cases h3:((e.Names.length:Int)=(qba e.Kind).1∧(e.Values.length:Int)=(qba e.Kind).2.1)
 ·rw[if_neg (by simpa using h3)]at h
  by_cases h4:e.Names.all qd3=false
  ·rw[if_pos h4]at h;cases h
  rw[if_neg h4]at h
  by_cases h5:e.Values.all (fun v=>!qbL v 0 999999999)=false
  ·rw[if_pos h5]at h;cases h
  rw[if_neg h5]at h
  by_cases h6:e.Text=[]
  ·refine⟨?_,by simpa using h2,h3.1,h3.2,fun v hv=>?_,h6⟩
   ·simp[qbL]at h1;omega
   ·have h5:e.Values.all (fun v=>!qbL v 0 999999999)=true:=by simpa using h5
    have:=List.all_eq_true.1 h5 v hv
    simp[qbL]at this
    exact this
  ·rw[if_neg h6]at h;cases h
 ·rw[if_pos h3]at h;cases h
theorem qvL {k:Str} (h:(qba k).2.2=true):k=qdS∨k=qeD∨k=qht∨k=qd1∨k=qav∨k=qd8:=by
 unfold qba at h
 by_cases h1:(k==qdS)=true
 ·exact .inl (beq_iff_eq.1 h1)
 by_cases h2:(k==qeD)=true
 ·exact .inr (.inl (beq_iff_eq.1 h2))
 by_cases h3:(k==qht)=true
 ·exact .inr (.inr (.inl (beq_iff_eq.1 h3)))
 by_cases h4:(k==qd1)=true
 ·exact .inr (.inr (.inr (.inl (beq_iff_eq.1 h4))))
 by_cases h5:(k==qav)=true
 ·exact .inr (.inr (.inr (.inr (.inl (beq_iff_eq.1 h5)))))
 by_cases h6:(k==qd8)=true
 ·exact .inr (.inr (.inr (.inr (.inr (beq_iff_eq.1 h6)))))
 simp[h1,h2,h3,h4,h5,h6]at h
theorem qwr {N:Nat} {d:Int} {l:List qg} (h:qg3 N l) {e:qh} (hv:qw0 e) (hu:(e.Kind==qd8)=false):
 ∃err day new,ql0 (zb N d l e.Number e.Kind e.Names e.Values e.Text) err day new∧quj N d l e err day new∧(err=0→Asc new∧new.length≤l.length+1):=by
 obtain⟨num,k,ns,vs,t⟩:=e
 obtain⟨_,hf,hn,hs,hr,_⟩:=hv
 simp only at hf hn hs hr hu
 have ha:=h.asc
 rcases qvL hf with rfl|rfl|rfl|rfl|rfl|rfl
 ·obtain⟨n,b,rfl⟩:=qvP (show(ns.length:Int)=2 from hn)
  obtain⟨day,life,uses,rfl⟩:=list3 (show(vs.length:Int)=3 from hs)
  refine⟨_,_,_,qxV h (hr _ (by simp)) (hr _ (by simp)),qxX h,fun h0=>?_⟩
  have hh:qdz l n=false:=by
   cases hq:qdz l n with
   |false=>rfl
   |true=>
    split at h0
    ·simp[qoJ,hq]at h0
    ·rename_i hd;exact absurd h0 hd
  refine⟨Asc.ins ha hh,?_⟩
  have hp:=qmb l n
  simp[qpf]
  omega
 ·obtain⟨n,rfl⟩:=qpm (show(ns.length:Int)=1 from hn)
  obtain⟨day,load,rfl⟩:=qvP (show(vs.length:Int)=2 from hs)
  refine⟨_,_,_,qvh h (hr _ (by simp)).1,qu9 h,fun _=>⟨?_,by simp[qnL]⟩⟩
  rw[qqF]
  exact ha.map fun s=>by split<;>rfl
 ·obtain⟨n,rfl⟩:=qpm (show(ns.length:Int)=1 from hn)
  obtain⟨day,load,rfl⟩:=qvP (show(vs.length:Int)=2 from hs)
  refine⟨_,_,_,qxJ h (hr _ (by simp)).1,qw9 h,fun _=>⟨?_,by simp[qnL]⟩⟩
  rw[qqF]
  exact ha.map fun s=>by split<;>rfl
 ·obtain⟨n,rfl⟩:=qpm (show(ns.length:Int)=1 from hn)
  obtain⟨day,rfl⟩:=qpm (show(vs.length:Int)=1 from hs)
  refine⟨_,_,_,qu7 h (hr _ (by simp)).1,qvD h,fun _=>⟨?_,by simp[qnL]⟩⟩
  rw[qqF]
  exact ha.map fun s=>by split<;>rfl
 ·obtain⟨n,rfl⟩:=qpm (show(ns.length:Int)=1 from hn)
  obtain⟨day,rfl⟩:=qpm (show(vs.length:Int)=1 from hs)
  refine⟨_,_,_,qsG h (hr _ (by simp)).1,qsr h,fun _=>⟨?_,by simp⟩⟩
  exact ha.map fun s=>by unfold qiK;split<;>rfl
 ·simp at hu
def qqS (N:Nat) (c:List qh):Option vH:=c.foldlM (fun r e=>qbt N r e) ⟨0,[]⟩
theorem qny {N:Nat} (c:List qh) (hc:c.length≤1000): ∀(K k:Nat) (d:Int) (l:List qg),k≤c.length→c.length<K+k→qbD N c K d l (k:Int)=((c.drop k).foldlM (fun r e=>qbt N r e) (⟨d,l⟩:vH)).map fun r=>(r.Day,r.Slings)
 |0,k,d,l,h,hK=>by omega
 |K+1,k,d,l,h,hK=>by
  unfold qbD
  by_cases hk:k<c.length
  ·rw[if_pos (by omega),zl,List.getElem?_eq_getElem hk,Option.bind_some,List.drop_eq_getElem_cons hk,List.foldlM_cons,zN (by omega)]
   cases qbt N ⟨d,l⟩ c[k]with
   |none=>rfl
   |some r=>
    simp only[Option.bind_some]
    rw[qny c hc K (k+1) _ _ (by omega) (by omega)]
    rfl
  ·rw[if_neg (by omega),List.drop_of_length_le (by omega)]
   rfl
theorem qnz {N:Nat} {c:List qh} (hc:c.length≤1000) (hN:2000<N):qcL N c=qqS N c:=by
 unfold qcL
 rw[show qbD N c N 0 [] 0=qbD N c N 0 [] ((0:Nat):Int)from rfl,qny c hc N 0 0 [] (by omega) (by omega),List.drop_zero]
 unfold qqS
 cases c.foldlM (fun r e=>qbt N r e) (⟨0,[]⟩:vH)<;>rfl
theorem quk (N:Nat) (c:List qh) (e:qh):qqS N (c++[e])=(qqS N c).bind fun r=>qbt N r e:=by
 unfold qqS
 rw[List.foldlM_append]
 cases c.foldlM (fun r e=>qbt N r e) (⟨0,[]⟩:vH)with
 |none=>rfl
 |some r=>simp[List.foldlM]
structure Rel (N:Nat) (c:List qh) (ss:List StateT):Prop where
 len:ss.length=c.length
 at_: ∀(j:Nat) (s:StateT) (e:qh),ss[j]? =some s→c[j]? =some e→s.number=e.Number∧qqS N (c.take (j+1))=some ⟨s.register.Day,s.register.Slings⟩∧Asc s.register.Slings∧s.register.Slings.length≤j+1
theorem Rel.nil (N:Nat):Rel N [] []:=⟨rfl,by simp⟩
theorem Rel.last {N:Nat} {c:List qh} {ss:List StateT} (h:Rel N c ss):(ss=[]∧c=[])∨ ∃s,ss[ss.length-1]? =some s∧0<ss.length∧qqS N c=some ⟨s.register.Day,s.register.Slings⟩∧Asc s.register.Slings∧s.register.Slings.length≤c.length:=by
 rcases Nat.eq_zero_or_pos ss.length with h0|h0
 ·have h1:=h.len
  exact .inl ⟨List.length_eq_zero_iff.1 h0,List.length_eq_zero_iff.1 (by omega)⟩
 ·have hlt:ss.length-1<ss.length:=by omega
  have hlc:ss.length-1<c.length:=by have:=h.len;omega
  obtain⟨_,h2,h3,h4⟩:=h.at_ _ _ _ (List.getElem?_eq_getElem hlt) (List.getElem?_eq_getElem hlc)
  rw[show ss.length-1+1=c.length by have:=h.len;omega,List.take_length]at h2
  exact .inr ⟨_,List.getElem?_eq_getElem hlt,h0,h2,h3,by omega⟩
theorem Rel.pop {N:Nat} {c:List qh} {ss:List StateT} (h:Rel N c ss):Rel N c.dropLast (ss.take (ss.length-1)):=by
 refine⟨by rw[List.length_take,List.length_dropLast,h.len];omega,fun j s e hs he=>?_⟩
 rw[List.getElem?_take]at hs
 rw[List.getElem?_dropLast]at he
 split at hs
 ·rename_i hj
  split at he
  ·rename_i hj2
   obtain⟨h1,h2,h3,h4⟩:=h.at_ j s e hs he
   refine⟨h1,?_,h3,h4⟩
   rw[List.dropLast_eq_take,List.take_take,Nat.min_eq_left (by omega)]
   exact h2
  ·cases he
 ·cases hs
theorem Rel.push {N:Nat} {c:List qh} {ss:List StateT} (h:Rel N c ss) {e:qh} {d:Int} {l:List qg} (hr:qqS N (c++[e])=some ⟨d,l⟩) (ha:Asc l) (hl:l.length≤c.length+1):Rel N (c++[e]) (ss++[⟨e.Number,⟨d,l⟩⟩]):=by
 have hlen:=h.len
 refine⟨by simp[hlen],fun j s e' hs he=>?_⟩
 rcases Nat.lt_or_ge j ss.length with hj|hj
 ·rw[List.getElem?_append_left hj]at hs
  rw[List.getElem?_append_left (by omega)]at he
  obtain⟨h1,h2,h3,h4⟩:=h.at_ j s e' hs he
  refine⟨h1,?_,h3,h4⟩
  rw[List.take_append_of_le_length (by omega)]
  exact h2
 ·rw[List.getElem?_append_right hj]at hs
  rw[List.getElem?_append_right (by omega)]at he
  have hj0:j-ss.length=0:=by
   have:=(List.getElem?_eq_some_iff.1 hs).1
   simp at this
   omega
  rw[hj0]at hs
  rw[show j-c.length=0 by omega]at he
  simp only[List.getElem?_cons_zero,Option.some.injEq]at hs he
  subst hs he
  refine⟨rfl,?_,ha,by simp only;omega⟩
  rw[List.take_of_length_le (by simp;omega)]
  exact hr
def qjb (N:Nat) (c:List qh) (k:Nat) (e:qh):Int:=
 if qhB e≠0 then qhB e else if e.Number≠((k+1:Nat):Int)then 11 else if(e.Kind==qd8)=true then(if c=[]then 12 else 0)else((qcL N c).bind fun r=>qcr N r e).getD 0
def qkZ (c:List qh) (e:qh):List qh:=if(e.Kind==qd8)=true then c.dropLast else c++[e]
structure Pre (N:Nat) (c:List qh) (ss:List StateT) (k:Nat) (e:qh):Prop where
 rel:Rel N c ss
 ck:c.length≤k
 k1:k<1000
 big:2000<N
 max:N<4611686018427387904
 short:qqJ N e
theorem qop {evs:List qh} {o:Option (List StateT)} {N:Nat} {c:List qh} (h:Rel N c (hof o)) (hc:c.length≤1000) (hN:2000<N): ∃o' d l,vG evs o=some (o',d,l)∧hof o'=hof o∧qcL N c=some ⟨d,l⟩∧Asc l∧l.length≤c.length:=by
 rw[qnz hc hN]
 rcases h.last with⟨h1,rfl⟩|⟨s,h1,h2,h3,h4,h5⟩
 ·cases o with
  |none=>exact⟨none,0,[],by simp[vG],rfl,rfl,List.Pairwise.nil,by simp⟩
  |some l=>
   have:l=[]:=h1
   subst this
   exact⟨some [],0,[],by simp[vG],rfl,rfl,List.Pairwise.nil,by simp⟩
 ·cases o with
  |none=>simp[hof]at h2
  |some l=>
   have h1:l[l.length-1]? =some s:=h1
   have h2:0<l.length:=h2
   have hlen:l.length=c.length:=h.len
   refine⟨some l,s.register.Day,s.register.Slings,?_,rfl,h3,h4,h5⟩
   have: ¬((l.length:Int)=0):=by omega
   simp only[vG,this,decide_false,Option.bind_some,Bool.false_eq_true,if_false]
   rw[qm2 (by omega) h2,zl,h1]
   rfl
theorem qoz {e:qh} (hn:e.Names.length≤1000) (hv:e.Values.length≤1000):qaK e=some e:=by
 have e1:slices_Clone_string e.Names=some e.Names:=by
  cases hq:e.Names with
  |nil=>
   simp only[slices_Clone_string,qbe,qlP]
   rw[qaL (by simp) (by simp)]
   simp
  |cons x xs=>
   rw[hq]at hn
   simp only[slices_Clone_string,qaw]
   rw[qaL (by simp only[List.length_nil];omega) (by simp only[List.length_nil];omega)]
   rfl
 have e2:slices_Clone_int e.Values=some e.Values:=by
  cases hq:e.Values with
  |nil=>
   simp only[slices_Clone_int,qc0,qlP]
   rw[qaL (by simp) (by simp)]
   simp
  |cons x xs=>
   rw[hq]at hv
   simp only[slices_Clone_int,qcZ]
   rw[qaL (by simp only[List.length_nil];omega) (by simp only[List.length_nil];omega)]
   rfl
 unfold qaK
 rw[e1,e2]
 rfl
theorem qt7 {N:Nat} {c:List qh} {k:Nat} {e:qh} {evs:List qh} {o:Option (List StateT)} (h:Pre N c (hof o) k e) (hk:evs.length=k) (hc:qhB e=0):
 ∃evs' o',qaY N evs o e.Number e.Kind e.Names e.Values e.Text=some (evs',o',qjb N c k e)∧(qjb N c k e=0→evs'=evs++[e]∧Rel N (qkZ c e) (hof o')∧(qkZ c e).length≤k+1)∧(qjb N c k e≠0→evs'=evs∧hof o'=hof o):=by
 obtain⟨hrel,hck,hk1,hN,hM,hs⟩:=h
 have hv:=qqx hc
 have hlen:(e.Names.length≤3)∧(e.Values.length≤3):=by
  have h1:=hv.names
  have h2:=hv.values
  have h3:(qba e.Kind).1≤2∧(qba e.Kind).2.1≤3:=by
   unfold qba
   repeat' split
   all_goals decide
  omega
 have hcopy:qaK (⟨e.Number,e.Kind,e.Names,e.Values,e.Text⟩:qh)=some e:=qoz (e:=e) (by omega) (by omega)
 have happ:app 88 evs [e]=some (evs++[e]):=qaL (by simp;omega) (by simp;omega)
 unfold qaY
 have hw:w64 ((evs.length:Int)+1)=((k+1:Nat):Int):=by rw[zN (by omega),hk]
 rw[hw]
 rw[show([117,110,100,111]:Str)=qd8 from rfl]
 have c0:(qhB e≠0)=False:=by simp[hc]
 unfold qjb
 simp only[c0,if_false]
 by_cases h1:e.Number=((k+1:Nat):Int)
 ·have c1:((!decide (e.Number=((k+1:Nat):Int)))=true)=False:=by simp[h1]
  have c2:(e.Number≠((k+1:Nat):Int))=False:=by simp[h1]
  simp only[c1,c2,if_false]
  by_cases hu:(e.Kind==qd8)=true
  ·simp only[hu,if_true]
   cases o with
   |none=>
    have hc0:c=[]:=by have:=hrel.len;simp[hof]at this;exact List.length_eq_zero_iff.1 this.symm
    rw[if_pos hc0]
    exact⟨evs,none,by simp,fun h=>(by cases h),fun _=>⟨rfl,rfl⟩⟩
   |some l=>
    have hl:l.length=c.length:=hrel.len
    by_cases hl0:l.length=0
    ·have hc0:c=[]:=List.length_eq_zero_iff.1 (by omega)
     rw[if_pos hc0]
     exact⟨evs,some l,by simp[hl0],fun h=>(by cases h),fun _=>⟨rfl,rfl⟩⟩
    ·have hc0: ¬c=[]:=fun e=>hl0 (by rw[hl,e];rfl)
     rw[if_neg hc0]
     have: ¬((l.length:Int)=0):=by omega
     refine⟨evs++[e],some (l.take (l.length-1)),?_,fun _=>⟨rfl,?_,?_⟩,fun h=>absurd rfl h⟩
     ·simp only[this,decide_false,Option.bind_some,Bool.false_eq_true,if_false]
      rw[qm2 (by omega) (by omega),qj4 (by omega)]
      simp only[Option.bind_some]
      rw[hcopy,Option.bind_some,happ]
      rfl
     ·unfold qkZ
      rw[if_pos hu]
      exact hrel.pop
     ·unfold qkZ
      rw[if_pos hu,List.length_dropLast]
      omega
  ·simp only[hu,if_false,Bool.false_eq_true]
   obtain⟨o',d,l,e1,e2,e3,e4,e5⟩:=qop (evs:=evs) hrel (by omega) hN
   obtain⟨err,day,new,hP,hR,hA⟩:=qwr (d:=d) (⟨e4,by omega,hN,hM⟩:qg3 N l) hv (by simpa using hu)
   obtain⟨x,l',hP1,hP2⟩:=hP
   rw[e1,Option.bind_some]
   simp only
   rw[hP1,Option.bind_some,e3,Option.bind_some,hR.ref,Option.getD_some]
   simp only
   by_cases h0:err=0
   ·obtain⟨rfl,rfl⟩:=hP2 h0
    rw[if_neg (by simp[h0])]
    obtain⟨hA1,hA2⟩:=hA h0
    have hreg:qqS N (c++[e])=some ⟨x,l'⟩:=by
     rw[quk,←qnz (by omega) hN,e3,Option.bind_some]
     exact hR.aft h0
    have hrel':Rel N (c++[e]) (hof o'++[⟨e.Number,⟨x,l'⟩⟩]):=by
     rw[e2]
     exact hrel.push hreg hA1 (by omega)
    have hlo:(hof o').length≤1000:=by rw[e2,hrel.len];omega
    have fin: ∀o2:Option (List StateT),hof o2=hof o'++[⟨e.Number,⟨x,l'⟩⟩]→err=0→(evs++[e]=evs++[e]∧Rel N (qkZ c e) (hof o2)∧(qkZ c e).length≤k+1):=by
     intro o2 ho2 _
     unfold qkZ
     rw[if_neg hu,ho2]
     exact⟨rfl,hrel',by simp;omega⟩
    cases o' with
    |none=>
     simp only[Option.bind_some]
     rw[hcopy,Option.bind_some,happ,Option.bind_some]
     exact⟨_,_,by rw[h0],fin (some [⟨e.Number,⟨x,l'⟩⟩]) rfl,fun h=>absurd h0 h⟩
    |some l2=>
     have hlo:l2.length≤1000:=hlo
     simp only
     rw[qaL (by simp;omega) (by simp;omega)]
     simp only[Option.bind_some]
     rw[hcopy,Option.bind_some,happ,Option.bind_some]
     exact⟨_,_,by rw[h0],fin (some (l2++[⟨e.Number,⟨x,l'⟩⟩])) rfl,fun h=>absurd h0 h⟩
   ·rw[if_pos (by simp[h0])]
    exact⟨evs,o',rfl,fun h=>absurd h h0,fun _=>⟨rfl,e2⟩⟩
 ·have c1:((!decide (e.Number=((k+1:Nat):Int)))=true)=True:=by simp only[h1,decide_false,Bool.not_false]
  have c2:(e.Number≠((k+1:Nat):Int))=True:=eq_true h1
  simp only[c1,c2,if_true]
  exact⟨evs,o,rfl,fun h=>(by cases h),fun _=>⟨rfl,rfl⟩⟩
theorem qxh {N:Nat} {c:List qh} {k:Nat} {e:qh} {evs:List qh} {o:Option (List StateT)} (h:Pre N c (hof o) k e) (hk:evs.length=k):
 ∃evs' o',qao N evs o e.Number e.Kind e.Names e.Values e.Text=some (evs',o',qjb N c k e)∧(qjb N c k e=0→evs'=evs++[e]∧Rel N (qkZ c e) (hof o')∧(qkZ c e).length≤k+1)∧(qjb N c k e≠0→evs'=evs∧hof o'=hof o):=by
 unfold qao
 have hN:=h.big
 rw[show(⟨e.Number,e.Kind,e.Names,e.Values,e.Text⟩:qh)=e from rfl,qpL h.max (by omega) h.short,Option.bind_some]
 by_cases hc:qhB e=0
 ·rw[if_neg (by simp[hc])]
  obtain⟨evs',o',h1,h2⟩:=qt7 h hk hc
  rw[h1]
  exact⟨evs',o',rfl,h2⟩
 ·rw[if_pos (by simp[hc])]
  have:qjb N c k e=qhB e:=by unfold qjb;rw[if_pos hc]
  rw[this]
  exact⟨evs,o,rfl,fun h=>absurd h hc,fun _=>⟨rfl,rfl⟩⟩
def qoK (N:Nat):List qh→Nat→List qh→Int×Int×List qh
 |[],_,c=>(0,0,c)
 |e::es,k,c=>if qjb N c k e=0 then qoK N es (k+1) (qkZ c e)else(((k+1:Nat):Int),qjb N c k e,[])
structure Evs (N:Nat) (l:List qh):Prop where
 len:l.length≤1000
 short: ∀e∈l,qqJ N e
 big:2000<N
 max:N<4611686018427387904
theorem qmz (N:Nat) (e:qh) (es:List qh) (k:Nat) (c:List qh):qoK N (e::es) k c=if qjb N c k e=0 then qoK N es (k+1) (qkZ c e)else(((k+1:Nat):Int),qjb N c k e,[]):=rfl
theorem qnI (N:Nat) (e:qh): ∀(l:List qh) (k:Nat) (c:List qh),qoK N (l++[e]) k c=if(qoK N l k c).2.1=0 then qoK N [e] (k+l.length) (qoK N l k c).2.2 else qoK N l k c
 |[],k,c=>by
  show qoK N [e] k c=if(0:Int)=0 then qoK N [e] (k+0) c else _
  rw[if_pos rfl]
  rfl
 |x::l,k,c=>by
  rw[List.cons_append,qmz N x (l++[e]),qmz N x l]
  by_cases h:qjb N c k x=0
  ·rw[if_pos h,if_pos h,qnI N e l (k+1) (qkZ c x),List.length_cons,show k+1+l.length=k+(l.length+1)by omega]
  ·rw[if_neg h,if_neg h,if_neg h]
def spl:Str→Str→List Str
 |a,[]=>[a]
 |a,c::s=>if c=32 then a::spl [] s else spl (a++[c]) s
noncomputable def qeN (s:Str):Nat:=qrE 32 s
theorem qhU (c:UInt8) (s:Str):qeN (c::s)=if c=32 then qeN s+1 else qeN s:=by
 show qaa (Nat.beq c.toNat 32) (Nat.succ (qeN s)) (qeN s)=_
 rw[vv]
 by_cases h:c=32
 ·subst h;rfl
 ·have h2:c.toNat≠32:=fun e=>h (UInt8.toNat_inj.1 (by rw[e];rfl))
  rw[if_neg (by rw[qfE h2];simp),if_neg h]
theorem qms: ∀s:Str,qeN s≤s.length
 |[]=>Nat.le_refl _
 |c::s=>by
  have:=qms s
  rw[qhU,List.length_cons]
  split<;>omega
def qmA:Str→Option Nat
 |[]=>none
 |c::s=>if c=32 then some 0 else(qmA s).map (· +1)
theorem qpT: ∀(s:Str) (j:Nat),qpB 32 s j=match qmA s with|some k=>((j+k:Nat):Int)|none=> -1
 |[],_=>rfl
 |c::s,j=>by
  show qaa (Nat.beq c.toNat 32) (Int.ofNat j) (qpB 32 s (j+1))=_
  rw[vv,qpT s (j+1),qmA]
  by_cases h:c=32
  ·subst h;rfl
  ·have h2:c.toNat≠32:=fun e=>h (UInt8.toNat_inj.1 (by rw[e];rfl))
   rw[if_neg (by rw[qfE h2];simp),if_neg h]
   cases qmA s with
   |none=>rfl
   |some k=>
    simp only[Option.map_some]
    congr 1
    omega
theorem qmU: ∀{s:Str},qmA s=none→qeN s=0∧ ∀a,spl a s=[a++s]
 |[],_=>⟨rfl,fun a=>by simp[spl]⟩
 |c::s,h=>by
  unfold qmA at h
  by_cases hc:c=32
  ·rw[if_pos hc]at h;cases h
  ·rw[if_neg hc]at h
   cases hp:qmA s with
   |some k=>rw[hp]at h;cases h
   |none=>
    obtain⟨h1,h2⟩:=qmU hp
    refine⟨by rw[qhU,if_neg hc,h1],fun a=>?_⟩
    rw[spl,if_neg hc,h2]
    simp
theorem qmW: ∀{s:Str} {k:Nat},qmA s=some k→k<s.length∧qeN s=qeN (s.drop (k+1))+1∧ ∀a,spl a s=(a++s.take k)::spl [] (s.drop (k+1))
 |[],_,h=>by cases h
 |c::s,k,h=>by
  unfold qmA at h
  by_cases hc:c=32
  ·rw[if_pos hc]at h
   obtain rfl:=Option.some.inj h
   refine⟨by simp,?_,fun a=>?_⟩
   ·rw[qhU,if_pos hc];rfl
   ·rw[spl,if_pos hc];simp
  ·rw[if_neg hc]at h
   cases hp:qmA s with
   |none=>rw[hp]at h;cases h
   |some j=>
    rw[hp]at h
    obtain rfl:=Option.some.inj h
    obtain⟨h1,h2,h3⟩:=qmW hp
    refine⟨by simp;omega,?_,fun a=>?_⟩
    ·rw[qhU,if_neg hc,h2,List.drop_succ_cons]
    ·rw[spl,if_neg hc,h3]
     simp
theorem qxa {s:Str} (h:qeN s=0):qmA s=none:=by
 cases hp:qmA s with
 |none=>rfl
 |some k=>have:=(qmW hp).2.1;omega
theorem qmd: ∀(a s:Str),(spl a s).length=qeN s+1
 |a,[]=>rfl
 |a,c::s=>by
  rw[qhU,spl]
  by_cases hc:c=32
  ·rw[if_pos hc,if_pos hc,List.length_cons,qmd]
  ·rw[if_neg hc,if_neg hc,qmd]
theorem quR {s:Str}:strings_Index s [32]=some (qpB 32 s 0):=by
 unfold strings_Index stringslite_Index stringslite_IndexByte qqw
 have h0: ¬(([32]:Str).length:Int)=0:=by simp
 have h1:(([32]:Str).length:Int)=1:=by simp
 rw[if_neg h0]
 simp only[Option.bind_some]
 by_cases hs:(([32]:Str)==s)=true
 ·have:s=[32]:=(beq_iff_eq.1 hs).symm
  subst this
  rfl
 ·rw[if_neg hs,if_pos h1,qdt,show([32]:Str)[0]? =some 32 from rfl,Option.bind_some,if_pos (by decide)]
  rfl
theorem qwc {N:Nat} {s:Str}:strings_Count N s [32]=some (qeN s:Int):=by
 unfold strings_Count qqp
 have h0: ¬(([32]:Str).length:Int)=0:=by simp
 have h1:(([32]:Str).length:Int)=1:=by simp
 rw[if_neg h0,if_pos h1,qdt,show([32]:Str)[0]? =some 32 from rfl,Option.bind_some,if_pos (by decide)]
 rfl
theorem qnw (s0:Str) (n:Int) (c:Nat) (hc:c<4611686018427387904) (hn:w64 ((if(w64 ((s0.length:Int)+1))<n then(w64 ((s0.length:Int)+1))else n)-1)=(c:Int)): ∀(K:Nat) (l:List Str) (s:Str) (i:Nat),i+qeN s=c→l.length=c+1→c<K+i→s.length<4611686018427387904→
 ∃l' s',y8 s0 [32] 0 n K l s (i:Int)=some (l',s',(c:Int))∧l'.length=c+1∧l'.take c++[s']=l.take i++spl [] s
 |0,l,s,i,h,hl,hK,hs=>by omega
 |K+1,l,s,i,h,hl,hK,hs=>by
  unfold y8
  rw[hn]
  by_cases hi:i<c
  ·rw[if_pos (by omega),quR,qpT]
   cases hp:qmA s with
   |none=>have:=(qmU hp).1;omega
   |some k=>
    obtain⟨h1,h2,h3⟩:=qmW hp
    simp only[Option.bind_some,Nat.zero_add]
    have w1:w64 ((k:Int)+0)=(k:Int):=by rw[Int.add_zero];exact qcK (by omega) (by omega)
    have w2:w64 ((k:Int)+(([32]:Str).length:Int))=((k+1:Nat):Int):=zN (by omega)
    rw[if_neg (by omega),w1,w2,qj4 (by omega),Option.bind_some,zl,List.getElem?_eq_getElem (by omega),Option.bind_some,qds (by omega),Option.bind_some,qlK (by omega),Option.bind_some,zN (by omega)]
    obtain⟨l',s',g1,g2,g3⟩:=qnw s0 n c hc hn K (l.set i (s.take k)) (s.drop (k+1)) (i+1) (by omega) (by simpa using hl) (by omega) (by simp;omega)
    refine⟨l',s',g1,g2,?_⟩
    rw[g3,h3,List.nil_append,List.take_add_one,List.getElem?_set_self (by omega)]
    simp only[List.take_set,Option.toList_some,List.append_assoc,List.singleton_append]
    rw[List.set_eq_of_length_le (by rw[List.length_take];exact Nat.min_le_left _ _)]
  ·have hi:i=c:=by omega
   subst hi
   rw[if_neg (by omega)]
   refine⟨l,s,rfl,hl,?_⟩
   have:=(qmU (qxa (show qeN s=0 by omega))).2 []
   rw[this,List.nil_append]
theorem qvr {N:Nat} {s:Str} (hs:s.length<100000) (hN:s.length<N):strings_Split N s [32]=some (spl [] s):=by
 unfold strings_Split strings_genSplit
 have hc:=qms s
 have w1:w64 ((qeN s:Int)+1)=((qeN s+1:Nat):Int):=zN (by omega)
 have w2:w64 ((s.length:Int)+1)=((s.length+1:Nat):Int):=zN (by omega)
 have w3:(if((s.length+1:Nat):Int)<((qeN s+1:Nat):Int)then((s.length+1:Nat):Int)else((qeN s+1:Nat):Int))=((qeN s+1:Nat):Int):=if_neg (by omega)
 have w4:w64 (((qeN s+1:Nat):Int)-1)=(qeN s:Int):=by rw[qcK (by omega) (by omega)];omega
 rw[if_neg (by omega),if_neg (by decide),if_pos (by omega),qwc]
 simp only[Option.bind_some,w1,w2,w3]
 have e:mk 16 ((qeN s+1:Nat):Int) ([]:Str)=some (List.replicate (qeN s+1) []):=by
  unfold mk
  rw[if_pos ⟨by omega,by omega,by omega⟩,Int.toNat_natCast]
 rw[e,Option.bind_some]
 obtain⟨l',s',g1,g2,g3⟩:=qnw s ((qeN s+1:Nat):Int) (qeN s) (by omega) (by rw[w2,w3,w4]) N (List.replicate (qeN s+1) []) s 0 (by omega) (by simp) (by omega) (by omega)
 rw[show y8 s [32] 0 ((qeN s+1:Nat):Int) N (List.replicate (qeN s+1) []) s 0=_ from g1]
 have hx:l'[qeN s]? =some l'[qeN s]:=List.getElem?_eq_getElem (by omega)
 simp only[Option.bind_some]
 rw[zl,hx,Option.bind_some,qds (by omega),Option.bind_some,w1,qj4 (by simp;omega),Option.bind_some,Option.bind_some]
 rw[List.take_zero,List.nil_append]at g3
 rw[←g3,List.take_add_one,List.getElem?_set_self (by omega),List.take_set,List.set_eq_of_length_le (by simp;omega)]
 rfl
theorem qmr {α:Type} {l:List α} {a b:Nat} (h1:a≤b) (h2:b≤l.length):cut l (a:Int) (b:Int)=some ((l.drop a).take (b-a)):=by
 unfold cut
 rw[if_pos ⟨by omega,by omega,by omega⟩]
 simp only[Int.toNat_natCast,Option.some.injEq]
theorem qm6 (s:Str) (hs:s.length<100000): ∀(K:Nat) (l:List Str) (f i:Nat),f≤i→i≤s.length→s.length<K+i→l.length≤i→
 qay s (K+1) l (f:Int) (i:Int)=some (l++spl ((s.drop f).take (i-f)) (s.drop i))
 |K,l,f,i,h1,h2,hK,hl=>by
  unfold qay
  rw[if_pos (by omega)]
  by_cases hi:i=s.length
  ·subst hi
   rw[if_pos rfl]
   simp only[Option.bind_some,if_true]
   rw[qmr h1 (Nat.le_refl _),Option.bind_some,qaL (by simp;omega) (by simp;omega),Option.bind_some,Option.bind_some,zN (by omega)]
   have hd:s.drop s.length=[]:=List.drop_length
   rw[hd,spl]
   cases K with
   |zero=>omega
   |succ K=>
    simp only
    unfold qay
    rw[if_neg (by omega)]
  ·have hx:s[i]? =some s[i]:=List.getElem?_eq_getElem (by omega)
   have hd:s.drop i=s[i]::s.drop (i+1):=List.drop_eq_getElem_cons (by omega)
   rw[if_neg (by omega),zl,hx,Option.bind_some,hd,spl]
   generalize s[i]=c at hx
   cases K with
   |zero=>omega
   |succ K=>
   by_cases hc:c=32
   ·subst hc
    simp only[Option.bind_some,show decide ((((32:UInt8).toNat:Nat):Int)=32)=true by decide,if_true]
    rw[qmr h1 h2,Option.bind_some,qaL (by simp;omega) (by simp;omega),Option.bind_some,Option.bind_some,zN (by omega)]
    simp only
    rw[qm6 s hs K _ (i+1) (i+1) (Nat.le_refl _) (by omega) (by omega) (by simp;omega),Nat.sub_self,List.take_zero,List.append_assoc]
    rfl
   ·have hc2: ¬((c.toNat:Int)=32):=fun e=>hc (UInt8.toNat_inj.1 (by have:c.toNat=32:=by omega
                                                                    rw[this];rfl))
    simp only[Option.bind_some,decide_eq_false hc2,Bool.false_eq_true,if_false,if_neg hc]
    rw[zN (by omega),qm6 s hs K l f (i+1) (by omega) (by omega) (by omega) (by omega)]
    congr 3
    rw[show i+1-f=(i-f)+1 by omega,List.take_add_one,List.getElem?_drop,show f+(i-f)=i by omega,hx]
    rfl
theorem quh {N:Nat} {s:Str} (hs:s.length<100000) (hN:s.length+1<N):qga N s=some (spl [] s):=by
 unfold qga
 obtain⟨K,rfl⟩: ∃K,N=K+1:=⟨N-1,by omega⟩
 rw[show qay s (K+1) [] 0 0=qay s (K+1) [] ((0:Nat):Int) ((0:Nat):Int)from rfl,qm6 s hs K [] 0 0 (Nat.le_refl _) (Nat.zero_le _) (by omega) (by simp)]
 simp
def qeZ (c:UInt8):Bool:=decide (48≤c.toNat)&&decide (c.toNat≤57)
def qmy (n:Nat) (s:List UInt8):Nat:=s.foldl (fun a c=>a*10+(c.toNat-48)) n
theorem qvu (n:Nat):qmy n []=n:=List.foldl_nil
theorem qkr (n:Nat) (c:UInt8) (s:List UInt8):qmy n (c::s)=qmy (n*10+(c.toNat-48)) s:=by
 unfold qmy
 rw[List.foldl_cons]
theorem qwg (s:List UInt8): ∀n:Nat,s.all qeZ=true→qmy n s<(n+1)*10^s.length:=by
 induction s with
 |nil=>
  intro n _
  rw[List.length_nil,Nat.pow_zero,Nat.mul_one,qvu]
  exact Nat.lt_succ_self n
 |cons c s ih=>
  intro n h
  rw[List.all_cons,Bool.and_eq_true]at h
  have h1:=ih (n*10+(c.toNat-48)) h.2
  have hd:c.toNat-48≤9:=by
   have:=h.1
   simp[qeZ]at this
   omega
  have h2:n*10+(c.toNat-48)+1≤(n+1)*10:=by omega
  rw[qkr,List.length_cons,Nat.pow_succ,Nat.mul_comm (10^s.length) 10,←Nat.mul_assoc]
  exact Nat.lt_of_lt_of_le h1 (Nat.mul_le_mul_right _ h2)
theorem ne48 {c:UInt8} (h: ¬c=48): ¬((c.toNat:Int)=48):=fun e=>h (UInt8.toNat_inj.1 (show c.toNat=48 from by omega))
def intB (s:Str):Bool:=decide (1≤s.length)&&(decide (s.length≤9)&&(s.all qeZ&&(decide (s.length=1)||!(s[0]? ==some 48))))
def qjg (s:Str):Int×Bool:=if intB s=true then((qmy 0 s:Nat),true)else(0,false)
theorem qnn (s:Str) (hs:s.length≤9): ∀(K i n:Nat),i≤s.length→s.length<K+i→(∀j≤s.length,i≤j→qmy n ((s.drop i).take (j-i))<10^9∨((s.drop i).take (j-i)).all qeZ=false)→
 qaV s K (n:Int) (i:Int)=some (if(s.drop i).all qeZ=true then .inl ((qmy n (s.drop i):Nat):Int)else .inr (0,false))
 |0,i,n,h,hK,_=>by omega
 |K+1,i,n,h,hK,hb=>by
  unfold qaV
  by_cases hi:i<s.length
  ·have hx:s[i]? =some s[i]:=List.getElem?_eq_getElem hi
   have hd:s.drop i=s[i]::s.drop (i+1):=List.drop_eq_getElem_cons hi
   rw[if_pos (by omega),zl,hx,Option.bind_some,hd,List.all_cons]
   rw[hd]at hb
   generalize s[i]=c at hx hb
   by_cases hc:qeZ c=true
   ·have h1:48≤c.toNat∧c.toNat≤57:=by simpa[qeZ]using hc
    have n1: ¬(c.toNat:Int)<48:=by omega
    have n2: ¬(c.toNat:Int)>57:=by omega
    rw[if_neg n1]
    simp only[Option.bind_some,decide_eq_false n2,Bool.false_eq_true,if_false,hc,Bool.true_and]
    have hn:qmy n [c]<10^9:=by
     rcases hb (i+1) (by omega) (by omega)with h|h
     ·rw[show i+1-i=1 by omega]at h;simpa using h
     ·rw[show i+1-i=1 by omega]at h;simp[hc]at h
    have hn:n*10+(c.toNat-48)<1000000000:=hn
    have w0:IntKind.wrap .u8 ((c.toNat:Int)-48)=((c.toNat-48:Nat):Int):=by
     unfold IntKind.wrap
     have e:(2:Int)^IntKind.u8.bits=256:=by decide
     have e3:IntKind.u8.signed=false:=by decide
     simp only[e,e3,Bool.false_and,if_false,Bool.false_eq_true]
     omega
    have w1:w64 ((c.toNat-48:Nat):Int)=((c.toNat-48:Nat):Int):=qcK (by omega) (by omega)
    have w2:w64 (10*(n:Int))=((10*n:Nat):Int):=by rw[qcK (by omega) (by omega)];omega
    have w3:w64 (((10*n:Nat):Int)+((c.toNat-48:Nat):Int))=((n*10+(c.toNat-48):Nat):Int):=by rw[qcK (by omega) (by omega)];omega
    rw[w0,w1,w2,w3,zN (by omega),qnn s hs K (i+1) (n*10+(c.toNat-48)) (by omega) (by omega) (fun j hj hij=>?_)]
    ·rw[qkr]
    ·have:=hb j hj (by omega)
     rw[show j-i=(j-(i+1))+1 by omega,List.take_succ_cons,qkr,List.all_cons,hc,Bool.true_and]at this
     exact this
   ·have hc2:qeZ c=false:=by simpa using hc
    rw[hc2,Bool.false_and]
    by_cases n1:(c.toNat:Int)<48
    ·rw[if_pos n1];rfl
    ·rw[if_neg n1]
     have n2:(c.toNat:Int)>57:=by
      simp[qeZ]at hc2
      omega
     simp only[Option.bind_some,decide_eq_true n2,if_true,Bool.false_eq_true,if_false]
  ·rw[if_neg (by omega),List.drop_of_length_le (by omega)]
   rfl
theorem qrO {N:Nat} {s:Str} (hN:2000<N):qeg N s=some (qjg s):=by
 unfold qeg qjg intB
 by_cases h0:s.length=0
 ·have: ¬1≤s.length:=by omega
  rw[if_pos (by omega)]
  simp[this]
 by_cases h9:s.length>9
 ·have: ¬s.length≤9:=by omega
  rw[if_neg (by omega),if_pos (by omega)]
  simp[this]
 rw[if_neg (by omega),if_neg (by omega)]
 have a1:1≤s.length:=by omega
 have a2:s.length≤9:=by omega
 have key:qaV s N 0 0=some (if s.all qeZ=true then .inl ((qmy 0 s:Nat):Int)else .inr (0,false)):=by
  have:=qnn s a2 N 0 0 (Nat.zero_le _) (by omega) (fun j hj _=>by
   by_cases hq:((s.drop 0).take (j-0)).all qeZ=true
   ·left
    have h1:=qwg _ 0 hq
    have h2:((s.drop 0).take (j-0)).length≤9:=by simp;omega
    have h3:(10:Nat)^((s.drop 0).take (j-0)).length≤10^9:=Nat.pow_le_pow_right (by omega) h2
    omega
   ·right;simpa using hq)
  rw[List.drop_zero]at this
  exact this
 rw[key]
 by_cases h1:s.length>1
 ·have hne: ¬s.length=1:=by omega
  have hx:s[0]? =some s[0]:=List.getElem?_eq_getElem (by omega)
  rw[if_pos (by omega),qdt,hx]
  generalize s[0]=c
  by_cases hc:c=48
  ·subst hc
   simp[hne]
  ·have hc2: ¬((c.toNat:Int)=48):=ne48 hc
   have hc3:(some c==some (48:UInt8))=false:=by simpa using hc
   simp only[Option.bind_some,decide_eq_false hc2,Bool.false_eq_true,if_false,a1,a2,hne,hc3,decide_true,decide_false,Bool.true_and,Bool.not_false,Bool.or_true,Bool.and_true]
   by_cases hd:s.all qeZ=true<;>simp[hd]
 ·have h1':s.length=1:=by omega
  rw[if_neg (by omega)]
  simp only[Option.bind_some,Bool.false_eq_true,if_false,a1,a2,h1',decide_true,Bool.true_and,Bool.true_or,Bool.and_true,Nat.le_refl]
  by_cases hd:s.all qeZ=true<;>simp[hd]
theorem qvl (c:UInt8):([48,49,50,51,52,53,54,55,56,57]:Str).contains c=qeZ c:=by
 rw[Bool.eq_iff_iff]
 simp only[List.contains_cons,List.contains_nil,Bool.or_eq_true,beq_iff_eq,qeZ,Bool.and_eq_true,decide_eq_true_eq,←UInt8.toNat_inj,Bool.or_false]
 simp only[show(48:UInt8).toNat=48 from rfl,show(49:UInt8).toNat=49 from rfl,show(50:UInt8).toNat=50 from rfl,show(51:UInt8).toNat=51 from rfl,show(52:UInt8).toNat=52 from rfl,show(53:UInt8).toNat=53 from rfl,show(54:UInt8).toNat=54 from rfl,show(55:UInt8).toNat=55 from rfl,show(56:UInt8).toNat=56 from rfl,show(57:UInt8).toNat=57 from rfl]
 omega
theorem qhw {α:Type} {p:α→Bool}: ∀{l:List α},l.dropWhile p=[]↔l.all p=true
 |[]=>by simp
 |x::l=>by
  rw[List.dropWhile_cons,List.all_cons]
  by_cases h:p x=true
  ·rw[if_pos h,h,Bool.true_and];exact qhw
  ·rw[if_neg h];simp[h]
theorem qtM {s:Str}:(Lib.trimS s [48,49,50,51,52,53,54,55,56,57]==[])=s.all qeZ:=by
 have e:(fun c=>([48,49,50,51,52,53,54,55,56,57]:Str).contains c)=qeZ:=funext qvl
 unfold Lib.trimS Lib.trimLeftS Lib.trimRightS
 rw[e]
 rw[Bool.eq_iff_iff,beq_iff_eq,qhw,List.all_reverse]
 constructor
 ·intro h
  have h2: ∀x∈s.reverse.takeWhile qeZ++s.reverse.dropWhile qeZ,qeZ x=true:=by
   intro x hx
   rcases List.mem_append.1 hx with hx|hx
   ·exact List.all_eq_true.1 List.all_takeWhile x hx
   ·exact List.all_eq_true.1 h x hx
  rw[List.takeWhile_append_dropWhile]at h2
  exact List.all_eq_true.2 fun x hx=>h2 x (by simpa using hx)
 ·intro h
  have:s.reverse.dropWhile qeZ=[]:=qhw.2 (by rw[List.all_reverse];exact h)
  rw[this]
  rfl
theorem qrV {s:Str} (hs:s.length≤1000000):qdd s=some (decide (1≤s.length)&&s.all qeZ):=by
 have hT:qrs s [48,49,50,51,52,53,54,55,56,57]=some (Lib.trimS s [48,49,50,51,52,53,54,55,56,57]):=by
  unfold qrs
  rw[if_pos ⟨hs,by decide,by decide⟩]
 unfold qdd
 simp only[hT,Option.bind_some,qtM]
 cases s with
 |nil=>rfl
 |cons x xs=>simp
theorem qoW: ∀(s:Str) (n:Nat),s.all qeZ=true→Lib.decFrom n s=some (qmy n s)
 |[],n,_=>rfl
 |c::s,n,h=>by
  rw[List.all_cons,Bool.and_eq_true]at h
  unfold Lib.decFrom
  rw[qkr]
  have h1:48≤c.toNat∧c.toNat≤57:=by simpa[qeZ]using h.1
  have e:Lib.digitVal c=some (c.toNat-48):=by unfold Lib.digitVal;rw[if_pos h1]
  rw[e]
  exact qoW s _ h.2
theorem qrd {s:Str} (h0:1≤s.length) (h:s.all qeZ=true):Lib.atoi s=some ((qmy 0 s:Nat):Int):=by
 cases s with
 |nil=>simp at h0
 |cons c s=>
  have hc:qeZ c=true:=by rw[List.all_cons,Bool.and_eq_true]at h;exact h.1
  have h1:48≤c.toNat∧c.toNat≤57:=by simpa[qeZ]using hc
  unfold Lib.atoi Lib.decNat
  have n1: ¬(c==45)=true:=fun e=>by rw[beq_iff_eq.1 e]at h1;simp at h1
  have n2: ¬(c==43)=true:=fun e=>by rw[beq_iff_eq.1 e]at h1;simp at h1
  simp only
  rw[if_neg n1,if_neg n2,if_neg (by simp),qoW _ _ h]
  rfl
theorem qsn {s:Str} (hs:s.length≤1000000):qdO s=some (qjg s):=by
 unfold qdO qjg intB
 by_cases h9:s.length>9
 ·have: ¬s.length≤9:=by omega
  rw[if_pos (by omega)]
  simp[this]
 rw[if_neg (by omega),qrV hs]
 have a2:s.length≤9:=by omega
 simp only[Option.bind_some]
 by_cases h0:s.length=0
 ·have: ¬1≤s.length:=by omega
  simp[this]
 have a1:1≤s.length:=by omega
 by_cases hd:s.all qeZ=true
 ·have hx:s[0]? =some s[0]:=List.getElem?_eq_getElem (by omega)
  simp only[a1,a2,hd,decide_true,Bool.and_self,Bool.not_true,Bool.false_eq_true,if_false,Bool.true_and,qdt]
  have hat:qq2 s=some (((qmy 0 s:Nat):Int),()):=by
   unfold qq2
   rw[if_pos (by omega),qrd a1 hd]
   rfl
  rw[hx,Option.bind_some]
  by_cases hc:s[0]=48
  ·have hc1:((s[0].toNat:Int)=48):=by rw[hc];rfl
   rw[if_pos hc1]
   simp only[Option.bind_some]
   by_cases h1:s.length=1
   ·obtain⟨c,rfl⟩:=qpm (show(s.length:Int)=1 by omega)
    have hc:c=48:=hc
    subst hc
    rw[hat]
    rfl
   ·have: ¬(s==[48])=true:=fun e=>h1 (by rw[beq_iff_eq.1 e];rfl)
    have h48:(some s[0]==some (48:UInt8))=true:=by simpa using hc
    simp[this,h1,h48]
  ·have hc1: ¬((s[0].toNat:Int)=48):=ne48 hc
   have h48:(some s[0]==some (48:UInt8))=false:=by simpa using hc
   rw[if_neg hc1]
   simp only[Option.bind_some,Bool.false_eq_true,if_false,hat,h48,Bool.not_false,Bool.or_true,if_true]
 ·have hd2:s.all qeZ=false:=by simpa using hd
  simp[a1,a2,hd2]
def ev0:qh:=⟨0,[],[],[],[]⟩
def qs9 (ws:List Str):qh×Bool:=
 if((qba (ws.headD [])).2.2&&(decide ((ws.length:Int)=1+(qba (ws.headD [])).1+(qba (ws.headD [])).2.1)&&(!(ws.any fun w=>([]:Str)==w)&&(ws.drop (1+(qba (ws.headD [])).1.toNat)).all fun w=>(qjg w).2)))=true then
  (⟨0,ws.headD [],(ws.drop 1).take (qba (ws.headD [])).1.toNat,(ws.drop (1+(qba (ws.headD [])).1.toNat)).map fun w=>(qjg w).1,[]⟩,true)
 else(ev0,false)
def qbY (s:Str):qh×Bool:=qs9 (spl [] s)
theorem qnf (k:Str): ∃a b:Nat,a≤2∧b≤3∧(qba k).1=(a:Int)∧(qba k).2.1=(b:Int)∧((qba k).2.2=true→k≠[]):=by
 unfold qba
 by_cases h1:(k==qdS)=true
 ·simp only[h1,if_true];exact⟨2,3,by omega,by omega,rfl,rfl,fun _ e=>by rw[e]at h1;cases h1⟩
 by_cases h2:(k==qeD)=true
 ·simp only[h1,h2,if_true,if_false];exact⟨1,2,by omega,by omega,rfl,rfl,fun _ e=>by rw[e]at h2;cases h2⟩
 by_cases h3:(k==qht)=true
 ·simp only[h1,h2,h3,if_true,if_false];exact⟨1,2,by omega,by omega,rfl,rfl,fun _ e=>by rw[e]at h3;cases h3⟩
 by_cases h4:(k==qd1)=true
 ·simp only[h1,h2,h3,h4,if_true,if_false];exact⟨1,1,by omega,by omega,rfl,rfl,fun _ e=>by rw[e]at h4;cases h4⟩
 by_cases h5:(k==qav)=true
 ·simp only[h1,h2,h3,h4,h5,if_true,if_false];exact⟨1,1,by omega,by omega,rfl,rfl,fun _ e=>by rw[e]at h5;cases h5⟩
 by_cases h6:(k==qd8)=true
 ·simp only[h1,h2,h3,h4,h5,h6,if_true,if_false];exact⟨0,0,by omega,by omega,rfl,rfl,fun _ e=>by rw[e]at h6;cases h6⟩
 simp only[h1,h2,h3,h4,h5,h6,if_false]
 exact⟨0,0,by omega,by omega,rfl,rfl,fun h=>by simp at h⟩
theorem qrY (x:Str):(if(x==[109,97,107,101])=true then some (2,3,true)else if(x==[116,101,115,116])=true then some (1,2,true)else if(x==[117,115,101])=true then some (1,2,true)else
 if(x==[102,97,105,108])=true then some (1,1,true)else if(x==[114,101,99,97,108,108])=true then some (1,1,true)else if(x==[117,110,100,111])=true then some (0,0,true)else some (0,0,false):Option (Int×Int×Bool))=some (qba x):=by
 unfold qba qdS qeD qht qd1 qav qd8
 repeat' split
 all_goals rfl
theorem qqf (l:List Str) (v:Str) (hl:l.length<4611686018427387904): ∀(K k:Nat),k≤l.length→l.length<K+k→ ∃r,vF l v K (k:Int)=some r∧(((l.drop k).any fun w=>v==w)=true∧(∃j:Nat,r= .inr (j:Int))∨((l.drop k).any fun w=>v==w)=false∧r= .inl ())
 |0,k,h,hK=>by omega
 |K+1,k,h,hK=>by
  unfold vF
  by_cases hk:k<l.length
  ·rw[if_pos (by omega),zl,List.getElem?_eq_getElem hk,Option.bind_some,zN (by omega),List.drop_eq_getElem_cons hk,List.any_cons]
   by_cases hc:(v==l[k])=true
   ·rw[if_pos hc,hc,Bool.true_or]
    exact⟨_,rfl,.inl ⟨rfl,k,rfl⟩⟩
   ·have hc2:(v==l[k])=false:=by simpa using hc
    rw[if_neg hc,hc2,Bool.false_or]
    exact qqf l v hl K (k+1) (by omega) (by omega)
  ·rw[if_neg (by omega),List.drop_of_length_le (by omega)]
   exact⟨_,rfl,.inr ⟨rfl,rfl⟩⟩
theorem qrI {N:Nat} {l:List Str} {v:Str} (hl:l.length<4611686018427387904) (hN:l.length<N):slices_Contains_string N l v=some (l.any fun w=>v==w):=by
 unfold slices_Contains_string slices_Index_string
 obtain⟨r,h1,h2⟩:=qqf l v hl N 0 (by omega) (by omega)
 rw[List.drop_zero]at h2
 rw[show vF l v N 0=_ from h1]
 rcases h2 with⟨h2,j,rfl⟩|⟨h2,rfl⟩
 ·rw[h2]
  simp
 ·rw[h2]
  simp
theorem qnm (l:List Str) (hl:l.length≤1000) (hs: ∀w∈l,w.length≤1000000): ∀(K k:Nat) (vs:List Int),k≤l.length→l.length<K+k→vs.length≤k→
 xI l K vs (k:Int)=some (if((l.drop k).all fun w=>(qjg w).2)=true then .inl (vs++(l.drop k).map fun w=>(qjg w).1)else .inr (ev0,false))
 |0,k,vs,h,hK,hv=>by omega
 |K+1,k,vs,h,hK,hv=>by
  unfold xI
  by_cases hk:k<l.length
  ·have hm:(l[k]).length≤1000000:=hs _ (List.getElem_mem hk)
   rw[if_pos (by omega),zl,List.getElem?_eq_getElem hk,Option.bind_some,qsn hm,Option.bind_some,List.drop_eq_getElem_cons hk,List.all_cons]
   by_cases hc:(qjg l[k]).2=true
   ·rw[hc]
    simp only[Bool.not_true,Bool.false_eq_true,if_false,Bool.true_and]
    rw[qaL (by simp;omega) (by simp;omega),Option.bind_some,zN (by omega),qnm l hl hs K (k+1) _ (by omega) (by omega) (by simp;omega)]
    simp only[List.append_assoc,List.singleton_append,List.map_cons]
   ·have hc2:(qjg l[k]).2=false:=by simpa using hc
    rw[hc2]
    rfl
  ·rw[if_neg (by omega),List.drop_of_length_le (by omega)]
   simp
theorem qud {l:List Str} (h:l.length≤1000):slices_Clone_string l=some l:=by
 cases l with
 |nil=>
  simp only[slices_Clone_string,qbe,qlP]
  rw[qaL (by simp) (by simp)]
  simp
 |cons x xs=>
  show qaw x xs=_
  unfold qaw
  simp only[List.length_cons]at h
  rw[qaL (by simp;omega) (by simp;omega)]
  rfl
theorem qke: ∀(a s:Str),∀w∈spl a s,w.length≤a.length+s.length
 |a,[],w,h=>by simp[spl]at h;subst h;simp
 |a,c::s,w,h=>by
  rw[spl]at h
  split at h
  ·rcases List.mem_cons.1 h with rfl|h
   ·simp
   ·have:=qke [] s w h
    simp at this⊢;omega
  ·have:=qke (a++[c]) s w h
   simp at this⊢;omega
theorem qnh {N:Nat} {s:Str} (hs:s.length≤900) (hN:2000<N):qbH N s=some (qbY s):=by
 unfold qbH qbY
 rw[qvr (by omega) (by omega),Option.bind_some]
 have hlen:=qmd [] s
 have hc:=qms s
 have hsh:=qke [] s
 generalize spl [] s=ws at hlen hsh
 obtain⟨w0,tl,rfl⟩: ∃w0 tl,ws=w0::tl:=by
  cases ws with
  |nil=>simp at hlen
  |cons x xs=>exact⟨x,xs,rfl⟩
 unfold qs9
 have hh:(w0::tl).headD []=w0:=rfl
 rw[hh]
 obtain⟨a,b,ha,hb,e1,e2,e3⟩:=qnf w0
 have hlen2:(w0::tl).length≤901:=by omega
 have hlen3:=hlen2
 rw[List.length_cons]at hlen3
 simp only[xm,Option.bind_some,qdt,List.getElem?_cons_zero,qrY]
 rw[show qba w0=((a:Int),(b:Int),(qba w0).2.2)from by rw[←e1,←e2]]
 simp only[Option.bind_some]
 cases hk:(qba w0).2.2 with
 |false=>simp[ev0]
 |true=>
  simp only[Bool.not_true,Bool.false_eq_true,if_false,Bool.true_and]
  have w1:w64 (1+(a:Int))=((1+a:Nat):Int):=by rw[qcK (by omega) (by omega)];omega
  have w2:w64 (((1+a:Nat):Int)+(b:Int))=((1+a+b:Nat):Int):=by rw[qcK (by omega) (by omega)];omega
  rw[w1,w2]
  by_cases hl:(w0::tl).length=1+a+b
  ·have d1:decide (((w0::tl).length:Int)=((1+a+b:Nat):Int))=true:=decide_eq_true (by omega)
   have d2:decide (((w0::tl).length:Int)=1+(a:Int)+(b:Int))=true:=decide_eq_true (by omega)
   rw[d1,d2]
   simp only[Bool.not_true,Bool.false_eq_true,if_false,Bool.true_and,qrI (N:=N) (l:=w0::tl) (v:=[]) (by omega) (by omega),Option.bind_some]
   cases hany:(w0::tl).any fun w=>([]:Str)==w with
   |true=>simp[ev0]
   |false=>
    simp only[Bool.false_eq_true,if_false,Bool.not_false,Bool.true_and]
    rw[show cut (w0::tl) 1 ((1+a:Nat):Int)=cut (w0::tl) ((1:Nat):Int) ((1+a:Nat):Int)from rfl,qmr (by omega) (by omega),Option.bind_some,qud (by simp;omega),Option.bind_some,qlK (by omega),Option.bind_some]
    have hL:=qnm ((w0::tl).drop (1+a)) (by simp;omega) (fun w hw=>by have:=hsh w (List.mem_of_mem_drop hw);simp at this;omega) N 0 [] (by omega) (by simp;omega) (by simp)
    rw[List.drop_zero,List.nil_append]at hL
    rw[show xI ((w0::tl).drop (1+a)) N [] 0=_ from hL,show 1+a-1=a by omega,Int.toNat_natCast]
    cases hall:((w0::tl).drop (1+a)).all fun w=>(qjg w).2 with
    |true=>simp only[if_true,Option.bind_some]
    |false=>simp only[Bool.false_eq_true,if_false,Option.bind_some]
  ·have d1:decide (((w0::tl).length:Int)=((1+a+b:Nat):Int))=false:=decide_eq_false (by omega)
   have d2:decide (((w0::tl).length:Int)=1+(a:Int)+(b:Int))=false:=decide_eq_false (by omega)
   rw[d1,d2]
   simp[ev0]
def goP (a:Nat):List Str→Nat→List Str→List Int→Option (List Str×List Int)
 |[],_,l8,l9=>some (l8,l9)
 |w::ws,i,l8,l9=>if(w==[])=true then none else if i≤a then goP a ws (i+1) (l8++[w]) l9 else if(qjg w).2=true then goP a ws (i+1) l8 (l9++[(qjg w).1])else none
theorem qmQ {N:Nat} (hN:2000<N) (ws:List Str) (hl:ws.length≤1000) (a:Nat) (F:Int×Int×Bool) (hF:F.1=(a:Int)): ∀(K i:Nat) (l8:List Str) (l9:List Int),i≤ws.length→ws.length<K+i→l8.length≤i→l9.length≤i→
 qa7 N ws F K l8 l9 (i:Int)=some (match goP a (ws.drop i) i l8 l9 with|some r=> .inl r|none=> .inr (ev0,false))
 |0,i,l8,l9,h,hK,_,_=>by omega
 |K+1,i,l8,l9,h,hK,h8,h9=>by
  unfold qa7
  by_cases hi:i<ws.length
  ·rw[if_pos (by omega),zl,List.getElem?_eq_getElem hi,Option.bind_some,List.drop_eq_getElem_cons hi,goP]
   generalize ws[i]=w
   by_cases hw:(w==[])=true
   ·rw[if_pos hw,if_pos hw]
    rfl
   ·rw[if_neg hw,if_neg hw]
    by_cases hia:i≤a
    ·rw[if_pos (show(i:Int)≤F.1 by omega),if_pos hia,qaL (by simp;omega) (by simp;omega),Option.bind_some,Option.bind_some]
     simp only
     rw[zN (by omega),qmQ hN ws hl a F hF K (i+1) _ _ (by omega) (by omega) (by simp;omega) (by omega)]
    ·rw[if_neg (show¬(i:Int)≤F.1 by omega),if_neg hia,qrO hN,Option.bind_some]
     cases hc:(qjg w).2 with
     |false=>rfl
     |true=>
      simp only[Bool.not_true,Bool.false_eq_true,if_false,if_true]
      rw[qaL (by simp;omega) (by simp;omega),Option.bind_some,Option.bind_some]
      simp only
      rw[zN (by omega),qmQ hN ws hl a F hF K (i+1) _ _ (by omega) (by omega) (by omega) (by simp;omega)]
  ·rw[if_neg (by omega),List.drop_of_length_le (by omega)]
   rfl
theorem qr8 (a:Nat): ∀(ws:List Str) (i:Nat) (l8:List Str) (l9:List Int),goP a ws i l8 l9=if(!(ws.any fun w=>([]:Str)==w)&&(ws.drop (a+1-i)).all fun w=>(qjg w).2)=true then some (l8++ws.take (a+1-i),l9++(ws.drop (a+1-i)).map fun w=>(qjg w).1)else none
 |[],i,l8,l9=>by simp[goP]
 |w::ws,i,l8,l9=>by
  rw[goP]
  have hcomm:(([]:Str)==w)=(w==[]):=by
   cases w<;>rfl
  by_cases hw:(w==[])=true
  ·rw[if_pos hw,List.any_cons,hcomm,hw]
   simp
  ·have hw2:(w==[])=false:=by simpa using hw
   rw[if_neg hw,List.any_cons,hcomm,hw2,Bool.false_or]
   by_cases hia:i≤a
   ·rw[if_pos hia,qr8 a ws (i+1),show a+1-i=(a+1-(i+1))+1 by omega]
    simp only[List.drop_succ_cons,List.take_succ_cons,List.append_assoc,List.singleton_append]
   ·rw[if_neg hia,show a+1-i=0 by omega]
    simp only[List.drop_zero,List.take_zero,List.append_nil,List.all_cons,List.map_cons]
    cases hc:(qjg w).2 with
    |false=>simp
    |true=>
     rw[if_pos rfl,qr8 a ws (i+1),show a+1-(i+1)=0 by omega]
     simp
theorem qub {N:Nat} {s:Str} (hs:s.length≤900) (hN:2000<N):qeV N s=some (qbY s):=by
 unfold qeV qbY
 rw[quh (by omega) (by omega),Option.bind_some]
 have hlen:=qmd [] s
 have hc:=qms s
 generalize spl [] s=ws at hlen
 obtain⟨w0,tl,rfl⟩: ∃w0 tl,ws=w0::tl:=by
  cases ws with
  |nil=>simp at hlen
  |cons x xs=>exact⟨x,xs,rfl⟩
 unfold qs9
 have hh:(w0::tl).headD []=w0:=rfl
 rw[hh]
 obtain⟨a,b,ha,hb,e1,e2,e3⟩:=qnf w0
 have hlen2:(w0::tl).length≤901:=by omega
 have hlen3:=hlen2
 rw[List.length_cons]at hlen3
 simp only[Option.bind_some,qdt,List.getElem?_cons_zero,qwq]
 cases hk:(qba w0).2.2 with
 |false=>simp[ev0]
 |true=>
  simp only[Bool.not_true,Bool.false_eq_true,if_false,Bool.true_and,e1,e2]
  have w1:w64 (1+(a:Int))=((1+a:Nat):Int):=by rw[qcK (by omega) (by omega)];omega
  have w2:w64 (((1+a:Nat):Int)+(b:Int))=((1+a+b:Nat):Int):=by rw[qcK (by omega) (by omega)];omega
  rw[w1,w2]
  by_cases hl:(w0::tl).length=1+a+b
  ·have d1:decide (((w0::tl).length:Int)=((1+a+b:Nat):Int))=true:=decide_eq_true (by omega)
   have d2:decide (((w0::tl).length:Int)=1+(a:Int)+(b:Int))=true:=decide_eq_true (by omega)
   rw[d1,d2]
   simp only[Bool.not_true,Bool.false_eq_true,if_false,Bool.true_and,Option.bind_some]
   have hL:=qmQ hN (w0::tl) (by omega) a (qba w0) e1 N 1 [] [] (by simp) (by omega) (by simp) (by simp)
   rw[show qa7 N (w0::tl) (qba w0) N [] [] 1=_ from hL,List.drop_succ_cons,List.drop_zero,qr8,show a+1-1=a by omega,Int.toNat_natCast]
   have hne:(([]:Str)==w0)=false:=by
    have:=e3 hk
    cases w0 with
    |nil=>exact absurd rfl this
    |cons x xs=>rfl
   rw[List.any_cons,hne,Bool.false_or,show 1+a=a+1 by omega,List.drop_succ_cons]
   simp only[List.nil_append]
   cases(!(tl.any fun w=>([]:Str)==w)&&(tl.drop a).all fun w=>(qjg w).2)with
   |true=>simp only[if_true,Option.bind_some]
   |false=>simp only[Bool.false_eq_true,if_false,Option.bind_some]
  ·have d1:decide (((w0::tl).length:Int)=((1+a+b:Nat):Int))=false:=decide_eq_false (by omega)
   have d2:decide (((w0::tl).length:Int)=1+(a:Int)+(b:Int))=false:=decide_eq_false (by omega)
   rw[d1,d2]
   simp[ev0]
theorem qtc (a b:Int):cmp_Compare_int a b=some (if a<b then-1 else if a>b then 1 else 0):=by
 unfold cmp_Compare_int cmp_isNaN_int
 by_cases h1:a<b
 ·simp[h1]
 ·by_cases h2:a>b<;>simp[h1,h2]
theorem qwV (a b:Str):qb0 a b=some (if ltL a b=true then-1 else if a=b then 0 else 1):=by
 unfold qb0 cmp_isNaN_string
 by_cases h1:ltL a b=true
 ·simp[h1]
 ·by_cases h2:a=b
  ·subst h2;simp[h1]
  ·simp[h1,h2]
theorem quU {N:Nat} (hN:2000<N) (a b:Int):qgY N [a,b]=some (if a=0 then b else a):=by
 unfold qgY
 obtain⟨K,rfl⟩: ∃K,N=K+3:=⟨N-3,by omega⟩
 have w0:w64 ((0:Int)+1)=1:=by decide
 have w1:w64 ((1:Int)+1)=2:=by decide
 unfold qbN
 rw[if_pos (by simp),qdt]
 simp only[List.getElem?_cons_zero,Option.bind_some,w0]
 by_cases h1:a=0
 ·subst h1
  unfold qbN
  simp only[decide_true,Bool.not_true,Bool.false_eq_true,if_false]
  rw[if_pos (by simp),qkO]
  simp only[List.getElem?_cons_succ,List.getElem?_cons_zero,Option.bind_some,w1]
  by_cases h2:b=0
  ·subst h2
   unfold qbN
   simp
  ·simp[h2]
 ·simp[h1]
theorem qsM {N:Nat} (hN:2000<N) (m o:zo):qap N m o=some (if ltL m.Desk o.Desk=true then-1 else if m.Desk=o.Desk then(if m.Number<o.Number then-1 else if m.Number>o.Number then 1 else 0)else 1):=by
 unfold qap
 rw[qwV,Option.bind_some,qtc,Option.bind_some,quU hN]
 by_cases h1:ltL m.Desk o.Desk=true
 ·simp[h1]
 ·by_cases h2:m.Desk=o.Desk
  ·simp only[if_neg h1,if_pos h2,if_true,Option.bind_some]
  ·simp[h1,h2]
def qcb (n:qf):Int:=if qd3 n.Desk=false then 8 else if(qbL n.Number 1 1000||qbL n.Clock 1 1000000)=true then 3 else if(!(qbY n.Line).2||(qbY n.Line).1.Kind==qd8)=true then 25 else 0
def qeX (p n:qf):Bool:=ltL n.Desk p.Desk||(n.Desk==p.Desk&&(decide (n.Number≤p.Number)||decide (n.Clock≤p.Clock)))
def qnO:Option qf→qf→Bool
 |some q,n=>qeX q n
 |none,_=>false
def qjm:Option qf→List qf→Int
 |_,[]=>0
 |p,n::l=>if qcb n≠0 then qcb n else if qnO p n=true then 11 else qjm (some n) l
theorem qgF (p:Option qf) (n:qf) (l:List qf):qjm p (n::l)=if qcb n≠0 then qcb n else if qnO p n=true then 11 else qjm (some n) l:=rfl
def checkN (l:List qf):Int:=if l.length>1000 then 5 else qjm none l
def qdV (l:List qf):Prop:= ∀n∈l,n.Desk.length≤60∧n.Line.length≤150
theorem qqC {N:Nat} (hN:2000<N) {n:qf} (h:n.Desk.length≤60∧n.Line.length≤150):qcS N n=some (qcb n):=by
 unfold qcS qcb
 rw[qnh (by omega) hN,Option.bind_some]
 simp only[qpA (N:=N) (s:=n.Desk) (by omega),qfx,qdy,Option.bind_some]
 rw[show([117,110,100,111]:Str)=qd8 from rfl]
 have f: ∀a b c d:Int,kz N [a,b,c,d]=some (zM [a,b,c,d]):=fun a b c d=>qbX (by simp) (by simp;omega)
 simp only[f,Option.bind_some]
 by_cases h1:qd3 n.Desk=true
 ·by_cases h2:qbL n.Number 1 1000=true
  ·by_cases h5:(qbY n.Line).2=true<;>simp[h1,h2,h5,zM]
  ·by_cases h3:qbL n.Clock 1 1000000=true
   ·by_cases h5:(qbY n.Line).2=true<;>simp[h1,h2,h3,h5,zM]
   ·by_cases h5:(qbY n.Line).2=true
    ·by_cases h6:((qbY n.Line).1.Kind==qd8)=true<;>simp[h1,h2,h3,h5,h6,zM]
    ·simp[h1,h2,h3,h5,zM]
 ·by_cases h5:(qbY n.Line).2=true<;>simp[h1,h5,zM]
theorem qvG (p n:qf):(if(if ltL p.Desk n.Desk=true then(-1:Int)else if p.Desk=n.Desk then(if p.Number<n.Number then-1 else if p.Number>n.Number then 1 else 0)else 1)≥0 then some true else if(p.Desk==n.Desk)=true then some (decide (p.Clock≥n.Clock))else some false:Option Bool)=some (qeX p n):=by
 unfold qeX
 by_cases h1:ltL p.Desk n.Desk=true
 ·have h2:=qtA h1
  have h3: ¬(p.Desk==n.Desk)=true:=fun e=>qmE h1 (beq_iff_eq.1 e)
  have h4: ¬(n.Desk==p.Desk)=true:=fun e=>qmE h1 (beq_iff_eq.1 e).symm
  simp[h1,h2,h3,h4]
 ·by_cases h2:p.Desk=n.Desk
  ·have h3:ltL n.Desk p.Desk=false:=by rw[h2];exact qdJ _
   by_cases h5:p.Number<n.Number
   ·have: ¬n.Number≤p.Number:=by omega
    have h6:((p.Desk==n.Desk)=true):=by simpa using h2
    have h7:((n.Desk==p.Desk)=true):=by simpa using h2.symm
    simp only[h1,if_pos h2,if_pos h5,h3,h6,h7,this,decide_false,Bool.false_or,Bool.true_and,if_true,if_false]
    simp
   ·have:n.Number≤p.Number:=by omega
    have h7:((n.Desk==p.Desk)=true):=by simpa using h2.symm
    have h6:((p.Desk==n.Desk)=true):=by simpa using h2
    by_cases h8:p.Number>n.Number<;>simp only[if_neg h1,if_pos h2,if_neg h5,h8,if_true,if_false,h3,h7,this,decide_true,Bool.false_or,Bool.true_or,Bool.true_and]<;>rfl
  ·have h3:ltL n.Desk p.Desk=true:=by
    cases hq:ltL n.Desk p.Desk with
    |true=>rfl
    |false=>exact absurd (qhi _ _ (by simpa using h1) hq) h2
   simp[h1,h2,h3]
def qfP (l:List qf) (k:Nat):Option qf:=if k=0 then none else l[k-1]?
theorem qoA {l:List qf} {k:Nat} (hk:k<l.length):qfP l (k+1)=some l[k]:=by
 unfold qfP
 rw[if_neg (by omega),Nat.add_sub_cancel,List.getElem?_eq_getElem hk]
theorem qkC {N:Nat} (hN:2000<N) {l:List qf} (hs:qdV l) (hl:l.length≤1000): ∀(K k:Nat),k≤l.length→l.length<K+k→
 vB N l K (k:Int)=some (if qjm (qfP l k) (l.drop k)=0 then .inl ()else .inr (qjm (qfP l k) (l.drop k)))
 |0,k,h,hK=>by omega
 |K+1,k,h,hK=>by
  unfold vB
  by_cases hk:k<l.length
  ·rw[if_pos (by omega),zl,List.getElem?_eq_getElem hk,Option.bind_some,List.drop_eq_getElem_cons hk,zN (by omega),qkC hN hs hl K (k+1) (by omega) (by omega),qoA hk]
   have hq:=hs l[k] (List.getElem_mem hk)
   generalize l[k]=n at hq⊢
   have e:(if(k:Int)>0 then(idx l (w64 ((k:Int)-1))).bind fun x8=>(zO x8).bind fun r9=>(zO n).bind fun r10=>(qap N r9 r10).bind fun r11=>if r11≥0 then some true else if(x8.Desk==n.Desk)=true then some (decide (x8.Clock≥n.Clock))else some false else some false:Option Bool)=some (qnO (qfP l k) n):=by
    by_cases h0:k=0
    ·subst h0
     rfl
    ·rw[if_pos (by omega),qm2 (by omega) (by omega),zl,List.getElem?_eq_getElem (by omega)]
     have:qfP l k=some l[k-1]:=by unfold qfP;rw[if_neg h0,List.getElem?_eq_getElem (by omega)]
     rw[this]
     simp only[Option.bind_some,zO,qsM hN]
     exact qvG l[k-1] n
   rw[e,Option.bind_some,qqC hN hq]
   simp only[Option.bind_some,qdy]
   rw[qbX (by simp) (by simp;omega),Option.bind_some,qgF]
   generalize qnO (qfP l k) n=b
   by_cases h1:qcb n=0
   ·cases b<;>simp[h1,zM]
   ·simp[h1,zM]
  ·rw[if_neg (by omega),List.drop_of_length_le (by omega)]
   rfl
theorem qaX {N:Nat} (hN:2000<N) {l:List qf} (hs:qdV l):zC N l=some (checkN l):=by
 unfold zC checkN
 by_cases hl:l.length>1000
 ·rw[if_pos (by omega),if_pos hl]
 ·rw[if_neg (by omega),if_neg hl,show vB N l N 0=vB N l N ((0:Nat):Int)from rfl,qkC hN hs (by omega) N 0 (by omega) (by omega),List.drop_zero]
  show(some (if qjm none l=0 then _ else _):Option _).bind _=_
  by_cases h0:qjm none l=0
  ·simp[h0,qfP]
  ·simp[h0,qfP]
theorem qjl {N:Nat} (hN:2000<N) {l:List qf} (hs:qdV l) (hl:l.length≤1000): ∀(K k:Nat),k≤l.length→l.length<K+k→
 vI N l K (k:Int)=some (if qjm (qfP l k) (l.drop k)=0 then .inl ()else .inr (qjm (qfP l k) (l.drop k)))
 |0,k,h,hK=>by omega
 |K+1,k,h,hK=>by
  unfold vI
  by_cases hk:k<l.length
  ·rw[if_pos (by omega),zl,List.getElem?_eq_getElem hk,Option.bind_some,List.drop_eq_getElem_cons hk,zN (by omega),qjl hN hs hl K (k+1) (by omega) (by omega),qoA hk]
   have hq:=hs l[k] (List.getElem_mem hk)
   generalize l[k]=n at hq⊢
   rw[qgF]
   simp only[qsE (N:=N) (s:=n.Desk) (by omega) (by omega),qlD,qub (N:=N) (s:=n.Line) (by omega) hN,Option.bind_some]
   rw[show([117,110,100,111]:Str)=qd8 from rfl]
   unfold qcb
   by_cases h1:qd3 n.Desk=true
   ·by_cases h2:qbL n.Number 1 1000=true
    ·simp[h1,h2]
    by_cases h3:qbL n.Clock 1 1000000=true
    ·simp[h1,h2,h3]
    by_cases h5:(qbY n.Line).2=true
    ·by_cases h6:((qbY n.Line).1.Kind==qd8)=true
     ·simp[h1,h2,h3,h5,h6]
     ·by_cases h0:k=0
      ·subst h0
       simp[h1,h2,h3,h5,h6,qfP,qnO]
      ·have hp:qfP l k=some l[k-1]:=by unfold qfP;rw[if_neg h0,List.getElem?_eq_getElem (by omega)]
       have hb:(if ltL n.Desk (l[k-1]).Desk=true then some true else if(n.Desk==(l[k-1]).Desk)=true then if n.Number≤(l[k-1]).Number then some true else some (decide (n.Clock≤(l[k-1]).Clock))else some false:Option Bool)=some (qeX l[k-1] n):=by
        unfold qeX
        by_cases g1:ltL n.Desk (l[k-1]).Desk=true
        ·simp[g1]
        ·by_cases g2:(n.Desk==(l[k-1]).Desk)=true
         ·by_cases g3:n.Number≤(l[k-1]).Number<;>simp[g1,g2,g3]
         ·simp[g1,g2]
       rw[hp,show qnO (some l[k-1]) n=qeX l[k-1] n from rfl]
       have hk0:(k:Int)>0:=by omega
       simp only[h1,h2,h3,h5,h6,hk0,if_true,if_false,Bool.not_true,Bool.false_eq_true,Option.bind_some,Bool.or_self,Bool.or_false,qm2 (show k<4611686018427387904 by omega) (by omega),zl,List.getElem?_eq_getElem (show k-1<l.length by omega),hb,ne_eq,not_true_eq_false,Bool.true_eq_false]
       by_cases hb2:qeX l[k-1] n=true<;>simp[hb2]
    ·simp[h1,h2,h3,h5]
   ·simp[h1]
  ·rw[if_neg (by omega),List.drop_of_length_le (by omega)]
   rfl
theorem qpt {N:Nat} (hN:2000<N) {l:List qf} (hs:qdV l):qcR N l=some (checkN l):=by
 unfold qcR checkN
 by_cases hl:l.length>1000
 ·rw[if_pos (by omega),if_pos hl]
 ·rw[if_neg (by omega),if_neg hl,show vI N l N 0=vI N l N ((0:Nat):Int)from rfl,qjl hN hs (by omega) N 0 (by omega) (by omega),List.drop_zero]
  show(some (if qjm none l=0 then _ else _):Option _).bind _=_
  by_cases h0:qjm none l=0
  ·simp[h0,qfP]
  ·simp[h0,qfP]
def qiF (m:zo):Int:=if qd3 m.Desk=false then 8 else if qbL m.Number 0 1000=true then 3 else 0
def qtI:Option zo→zo→Bool
 |some q,m=>!(ltL q.Desk m.Desk)
 |none,_=>false
def qrG:Option zo→List zo→Int
 |_,[]=>0
 |p,m::l=>if qiF m≠0 then qiF m else if qtI p m=true then 11 else qrG (some m) l
theorem qpP (p:Option zo) (m:zo) (l:List zo):qrG p (m::l)=if qiF m≠0 then qiF m else if qtI p m=true then 11 else qrG (some m) l:=rfl
def qlb (l:List zo):Int:=if l.length>1000 then 5 else qrG none l
def qqy (l:List zo):Prop:= ∀m∈l,m.Desk.length≤60
def qjy (l:List zo) (k:Nat):Option zo:=if k=0 then none else l[k-1]?
theorem qsa {l:List zo} {k:Nat} (hk:k<l.length):qjy l (k+1)=some l[k]:=by
 unfold qjy
 rw[if_neg (by omega),Nat.add_sub_cancel,List.getElem?_eq_getElem hk]
theorem qjG {N:Nat} (hN:2000<N) {l:List zo} (hs:qqy l) (hl:l.length≤1000): ∀(K k:Nat),k≤l.length→l.length<K+k→
 jV N l K (k:Int)=some (if qrG (qjy l k) (l.drop k)=0 then .inl ()else .inr (qrG (qjy l k) (l.drop k)))
 |0,k,h,hK=>by omega
 |K+1,k,h,hK=>by
  unfold jV
  by_cases hk:k<l.length
  ·rw[if_pos (by omega),zl,List.getElem?_eq_getElem hk,Option.bind_some,List.drop_eq_getElem_cons hk,zN (by omega),qjG hN hs hl K (k+1) (by omega) (by omega),qsa hk,qpP]
   have hq:=hs l[k] (List.getElem_mem hk)
   generalize l[k]=m at hq⊢
   have f: ∀a b c:Int,kz N [a,b,c]=some (zM [a,b,c]):=fun a b c=>qbX (by simp) (by simp;omega)
   have e:((qcn N m.Desk).bind fun r7=>(vY m.Number 0 1000).bind fun r8=>if(k:Int)>0 then(idx l (w64 ((k:Int)-1))).bind fun x10=>(za (!(ltL x10.Desk m.Desk)) 11).bind fun r11=>(kz N ([r7,r8,r11]:List Int)).bind fun r12=>some (r7,r8,r11,r12)
    else(za false 11).bind fun r13=>(kz N ([r7,r8,r13]:List Int)).bind fun r14=>some (r7,r8,r13,r14):Option (Int×Int×Int×Int))=
    some (if qd3 m.Desk=true then 0 else 8,if qbL m.Number 0 1000=true then 3 else 0,if qtI (qjy l k) m=true then 11 else 0,zM [if qd3 m.Desk=true then 0 else 8,if qbL m.Number 0 1000=true then 3 else 0,if qtI (qjy l k) m=true then 11 else 0]):=by
    simp only[qpA (N:=N) (s:=m.Desk) (by omega),qfx,qdy,f,Option.bind_some]
    by_cases h0:k=0
    ·subst h0
     rfl
    ·have hp:qjy l k=some l[k-1]:=by unfold qjy;rw[if_neg h0,List.getElem?_eq_getElem (by omega)]
     rw[if_pos (by omega),qm2 (by omega) (by omega),zl,List.getElem?_eq_getElem (by omega),hp]
     rfl
   rw[e,Option.bind_some]
   simp only
   unfold qiF
   by_cases h1:qd3 m.Desk=true
   ·by_cases h2:qbL m.Number 0 1000=true
    ·simp[h1,h2,zM]
    ·by_cases h3:qtI (qjy l k) m=true<;>simp[h1,h2,h3,zM]
   ·simp[h1,zM]
  ·rw[if_neg (by omega),List.drop_of_length_le (by omega)]
   rfl
theorem qpz {N:Nat} (hN:2000<N) {l:List zo} (hs:qqy l):qbW N l=some (qlb l):=by
 unfold qbW qlb
 by_cases hl:l.length>1000
 ·rw[if_pos (by omega),if_pos hl]
 ·rw[if_neg (by omega),if_neg hl,show jV N l N 0=jV N l N ((0:Nat):Int)from rfl,qjG hN hs (by omega) N 0 (by omega) (by omega),List.drop_zero]
  by_cases h0:qrG none l=0
  ·simp[h0,qjy]
  ·simp[h0,qjy]
theorem qhT {α κ:Type} [BEq κ] (p:κ×α) (m:List (κ×α)) (k:κ):qeA (p::m) k=if(k==p.1)=true then some p.2 else qeA m k:=by
 unfold qeA
 rw[List.find?_cons]
 cases h:k==p.1<;>simp
theorem qlM {α κ:Type} [BEq κ] [LawfulBEq κ] (v:α) (k k':κ): ∀m:List (κ×α),qeA (qjQ m k v) k'=if(k'==k)=true then some v else qeA m k'
 |[]=>by
  show qeA [(k,v)] k'=_
  rw[qhT]
 |p::m=>by
  unfold qjQ
  by_cases h:(k==p.1)=true
  ·rw[if_pos h,qhT,qhT]
   have e:k=p.1:=eq_of_beq h
   by_cases h2:(k'==p.1)=true
   ·have:(k'==k)=true:=by rw[e];exact h2
    rw[if_pos h2,if_pos this]
   ·have: ¬(k'==k)=true:=by rw[e];exact h2
    rw[if_neg h2,if_neg this,if_neg h2]
  ·rw[if_neg h,qhT,qlM v k k' m,qhT]
   by_cases h2:(k'==p.1)=true
   ·have e:k'=p.1:=eq_of_beq h2
    have: ¬(k'==k)=true:=fun h3=>h (by rw[←eq_of_beq h3,e];exact beq_self_eq_true _)
    rw[if_pos h2,if_neg this,if_pos h2]
   ·rw[if_neg h2,if_neg h2]
def qnM (h:Int) (v:List zo) (d:Str):Int:=v.foldl (fun h m=>if(m.Desk==d)=true then m.Number else h) h
def qql (l:List qf) (v:List zo):List qf:=l.filter fun n=>decide (n.Number>qnM 0 v n.Desk)
theorem qo9 (v:List zo) (hl:v.length≤1003): ∀(K k:Nat) (m:List (Str×Int)),k≤v.length→v.length<K+k→ ∃m',qau v K m (k:Int)=some m'∧ ∀d,(qeA m' d).getD 0=qnM ((qeA m d).getD 0) (v.drop k) d
 |0,k,m,h,hK=>by omega
 |K+1,k,m,h,hK=>by
  unfold qau
  by_cases hk:k<v.length
  ·rw[if_pos (by omega),zl,List.getElem?_eq_getElem hk,Option.bind_some,Option.bind_some,zN (by omega)]
   obtain⟨m',h1,h2⟩:=qo9 v hl K (k+1) (qjQ m (v[k]).Desk (v[k]).Number) (by omega) (by omega)
   refine⟨m',h1,fun d=>?_⟩
   rw[h2,List.drop_eq_getElem_cons hk,qlM]
   unfold qnM
   rw[List.foldl_cons]
   congr 1
   have:(d==(v[k]).Desk)=((v[k]).Desk==d):=Bool.eq_iff_iff.2 ⟨fun e=>by rw[eq_of_beq e];exact beq_self_eq_true _,fun e=>by rw[eq_of_beq e];exact beq_self_eq_true _⟩
   rw[this]
   split<;>rfl
  ·rw[if_neg (by omega),List.drop_of_length_le (by omega)]
   exact⟨m,rfl,fun _=>rfl⟩
theorem qm7 (l:List qf) (m:List (Str×Int)) (v:List zo) (hm: ∀d,(qeA m d).getD 0=qnM 0 v d) (hl:l.length≤1003): ∀(K k:Nat) (o:List qf),k≤l.length→l.length<K+k→o.length≤k→
 jd l m K o (k:Int)=some (o++qql (l.drop k) v)
 |0,k,o,h,hK,_=>by omega
 |K+1,k,o,h,hK,ho=>by
  unfold jd
  by_cases hk:k<l.length
  ·rw[if_pos (by omega),zl,List.getElem?_eq_getElem hk,Option.bind_some,List.drop_eq_getElem_cons hk,zN (by omega)]
   unfold qql
   rw[List.filter_cons,hm]
   simp only[qcq,qdp,Option.bind_some]
   by_cases hc:(l[k]).Number>qnM 0 v (l[k]).Desk
   ·simp only[decide_eq_true hc,if_true]
    rw[qaL (by simp;omega) (by simp;omega)]
    simp only[Option.bind_some]
    rw[qm7 l m v hm hl K (k+1) _ (by omega) (by omega) (by simp;omega),List.append_assoc]
    rfl
   ·simp only[decide_eq_false hc,if_false,Bool.false_eq_true,Option.bind_some]
    exact qm7 l m v hm hl K (k+1) _ (by omega) (by omega) (by omega)
  ·rw[if_neg (by omega),List.drop_of_length_le (by omega)]
   simp[qql]
theorem qsR {N:Nat} (hN:2000<N) {l:List qf} {v:List zo} (hs:qdV l) (hv:qqy v) (h1:l.length≤1003) (h2:v.length≤1003):qdQ N l v=some (if zM [checkN l,qlb v]=0 then qql l v else[],zM [checkN l,qlb v]):=by
 unfold qdQ
 rw[qaX hN hs,qpz hN hv]
 simp only[Option.bind_some]
 rw[qbX (by simp) (by simp;omega),Option.bind_some]
 by_cases h0:zM [checkN l,qlb v]=0
 ·rw[if_neg (by simp[h0]),if_pos h0,h0]
  obtain⟨m',g1,g2⟩:=qo9 v h2 N 0 [] (by omega) (by omega)
  rw[show qau v N [] 0=_ from g1,Option.bind_some]
  unfold qcc
  rw[List.drop_zero]at g2
  have:=qm7 l m' v g2 h1 N 0 [] (by omega) (by omega) (by simp)
  rw[show jd l m' N [] 0=_ from this]
  rfl
 ·rw[if_pos (by simp[h0]),if_neg h0]
def qly (o:List qf) (n:qf):List qf:=o.takeWhile (fun x=>decide (x.Clock≤n.Clock))++n::o.dropWhile fun x=>decide (x.Clock≤n.Clock)
def qi5 (l:List qf):List qf:=l.foldl qly []
def quG:List qf→qf→List qf
 |[],n=>[n]
 |x::xs,n=>if n.Clock<x.Clock then quG xs n++[x]else(x::xs).reverse++[n]
def qqV (l:List qf):Prop:=l.Pairwise fun a b=>a.Clock≤b.Clock
theorem qjD {α:Type} {p:α→Bool} {x:α} (hx:p x=false): ∀l:List α,(l++[x]).takeWhile p=l.takeWhile p∧(l++[x]).dropWhile p=l.dropWhile p++[x]
 |[]=>by simp[hx]
 |y::l=>by
  obtain⟨h1,h2⟩:=qjD hx l
  rw[List.cons_append,List.takeWhile_cons,List.takeWhile_cons,List.dropWhile_cons,List.dropWhile_cons]
  cases h:p y with
  |true=>simp[h1,h2]
  |false=>simp
theorem qqi {α:Type} {p:α→Bool}: ∀{l:List α},(∀x∈l,p x=true)→l.takeWhile p=l∧l.dropWhile p=[]
 |[],_=>⟨rfl,rfl⟩
 |y::l,h=>by
  obtain⟨h1,h2⟩:=qqi (fun x hx=>h x (List.mem_cons_of_mem _ hx))
  rw[List.takeWhile_cons,List.dropWhile_cons,if_pos (h y List.mem_cons_self),if_pos (h y List.mem_cons_self),h1,h2]
  exact⟨rfl,rfl⟩
theorem qtf (n:qf): ∀r:List qf,qqV r.reverse→quG r n=qly r.reverse n
 |[],_=>rfl
 |x::xs,h=>by
  rw[List.reverse_cons]at h⊢
  obtain⟨h1,h2,h3⟩:=List.pairwise_append.1 h
  unfold quG
  by_cases hc:n.Clock<x.Clock
  ·rw[if_pos hc,qtf n xs h1]
   obtain⟨g1,g2⟩:=qjD (p:=fun y:qf=>decide (y.Clock≤n.Clock)) (x:=x) (by simp;omega) xs.reverse
   unfold qly
   rw[g1,g2]
   simp
  ·rw[if_neg hc]
   obtain⟨g1,g2⟩:=qqi (p:=fun y:qf=>decide (y.Clock≤n.Clock)) (l:=xs.reverse++[x]) (fun y hy=>by
    rcases List.mem_append.1 hy with hy|hy
    ·have:=h3 y hy x (by simp)
     simp;omega
    ·simp at hy;subst hy;simp;omega)
   unfold qly
   rw[g1,g2,List.reverse_cons]
theorem quO {o:List qf} {n x:qf}:x∈qly o n↔x=n∨x∈o:=by
 unfold qly
 have h:=List.takeWhile_append_dropWhile (p:=fun x:qf=>decide (x.Clock≤n.Clock)) (l:=o)
 conv=>rhs;rw[←h]
 simp only[List.mem_append,List.mem_cons]
 constructor
 ·rintro(h|h|h)
  ·exact .inr (.inl h)
  ·exact .inl h
  ·exact .inr (.inr h)
 ·rintro(h|h|h)
  ·exact .inr (.inl h)
  ·exact .inl h
  ·exact .inr (.inr h)
theorem qjO (o:List qf) (n:qf):(qly o n).length=o.length+1:=by
 unfold qly
 have h:=congrArg List.length (List.takeWhile_append_dropWhile (p:=fun x:qf=>decide (x.Clock≤n.Clock)) (l:=o))
 rw[List.length_append]at h
 rw[List.length_append,List.length_cons]
 omega
theorem qsW {n:qf}: ∀{o:List qf},qqV o→ ∀x∈o.dropWhile (fun x=>decide (x.Clock≤n.Clock)),n.Clock<x.Clock
 |[],_,x,hx=>by simp at hx
 |y::o,h,x,hx=>by
  obtain⟨h1,h2⟩:=List.pairwise_cons.1 h
  rw[List.dropWhile_cons]at hx
  by_cases hc:y.Clock≤n.Clock
  ·rw[if_pos (decide_eq_true hc)]at hx
   exact qsW h2 x hx
  ·rw[if_neg (by simpa using hc)]at hx
   rcases List.mem_cons.1 hx with rfl|hx
   ·omega
   ·have:=h1 x hx
    omega
theorem qrF {o:List qf} (h:qqV o) (n:qf):qqV (qly o n):=by
 have hs:=List.takeWhile_append_dropWhile (p:=fun x:qf=>decide (x.Clock≤n.Clock)) (l:=o)
 have hg:=qsW (n:=n) h
 unfold qqV at h
 rw[←hs]at h
 obtain⟨h1,h2,h3⟩:=List.pairwise_append.1 h
 refine List.pairwise_append.2 ⟨h1,List.pairwise_cons.2 ⟨fun x hx=>by have:=hg x hx;omega,h2⟩,fun a ha b hb=>?_⟩
 have hle:a.Clock≤n.Clock:=by
  have:=List.all_eq_true.1 (List.all_takeWhile (p:=fun x:qf=>decide (x.Clock≤n.Clock)) (l:=o)) a ha
  simpa using this
 rcases List.mem_cons.1 hb with rfl|hb
 ·exact hle
 ·exact h3 a ha b hb
theorem qfY (l:List qf):qqV (qi5 l)∧(qi5 l).length=l.length∧ ∀x,x∈qi5 l↔x∈l:=by
 have key: ∀(l o:List qf),qqV o→qqV (l.foldl qly o)∧(l.foldl qly o).length=o.length+l.length∧ ∀x,x∈l.foldl qly o↔x∈o∨x∈l:=by
  intro l
  induction l with
  |nil=>intro o h;exact⟨h,by simp,by simp⟩
  |cons n l ih=>
   intro o h
   obtain⟨h1,h2,h3⟩:=ih (qly o n) (qrF h n)
   refine⟨h1,?_,fun x=>?_⟩
   ·rw[List.foldl_cons,h2,qjO,List.length_cons];omega
   ·rw[List.foldl_cons,h3,quO,List.mem_cons]
    constructor
    ·rintro((h|h)|h)
     ·exact .inr (.inl h)
     ·exact .inl h
     ·exact .inr (.inr h)
    ·rintro(h|h|h)
     ·exact .inl (.inr h)
     ·exact .inl (.inl h)
     ·exact .inr h
 obtain⟨h1,h2,h3⟩:=key l [] List.Pairwise.nil
 exact⟨h1,by rw[qi5,h2];simp,fun x=>by rw[qi5,h3];simp⟩
theorem qwm {α:Type} (r:List α) (x n:α) (rest:List α):((r++x::n::rest).set (r.length+1) x).set r.length n=r++n::x::rest:=by
 rw[List.set_append_right _ _ (by omega),List.set_append_right _ _ (by omega)]
 simp
theorem qvz: ∀(r:List qf) (K:Nat) (n:qf) (rest:List qf),r.length<K→(r.length+rest.length<1000)→kw 0 K (r.reverse++n::rest) (r.length:Int)=some (quG r n++rest)
 |r,0,n,rest,h,_=>by omega
 |[],K+1,n,rest,h,_=>by
  unfold kw
  rw[if_neg (by simp)]
  rfl
 |x::xs,K+1,n,rest,h,hl=>by
  unfold kw
  have hlen:(xs.reverse).length=xs.length:=List.length_reverse
  simp only[List.length_cons]at h hl
  rw[List.length_cons,List.reverse_cons,List.append_assoc,List.singleton_append,if_pos (by omega),qm2 (by omega) (by omega),Nat.add_sub_cancel]
  have g1:(xs.reverse++x::n::rest)[xs.length+1]? =some n:=by rw[List.getElem?_append_right (by omega),hlen,Nat.add_sub_cancel_left];rfl
  have g2:(xs.reverse++x::n::rest)[xs.length]? =some x:=by rw[List.getElem?_append_right (by omega),hlen,Nat.sub_self];rfl
  have l1:xs.length+1<(xs.reverse++x::n::rest).length:=by rw[List.length_append,hlen,List.length_cons,List.length_cons];omega
  simp only[zl,g1,g2,Option.bind_some,qdF,qtc]
  unfold quG
  by_cases hc:n.Clock<x.Clock
  ·have hsw:=qwm xs.reverse x n rest
   rw[hlen]at hsw
   have g3:((xs.reverse++x::n::rest).set (xs.length+1) x)[xs.length]? =some x:=by rw[List.getElem?_set_ne (by omega),g2]
   simp only[if_pos hc,show decide ((-1:Int)<0)=true by decide,if_true,qds l1,Option.bind_some,g3]
   rw[qds (by rw[List.length_set];omega),Option.bind_some,hsw,qvz xs K n (x::rest) (by omega) (by simp;omega),List.append_assoc]
   rfl
  ·have: ¬((if n.Clock>x.Clock then(1:Int)else 0)<0):=by split<;>omega
   simp only[if_neg hc,decide_eq_false this,Bool.false_eq_true,if_false]
   simp
theorem quy {N:Nat} (hN:2000<N) (b:Nat) (hb:b<1000): ∀(K:Nat) (s rest:List qf),1≤s.length→s.length+rest.length=b→b<K+s.length→qqV s→
 qy N 0 (b:Int) K (s++rest) (s.length:Int)=some (rest.foldl qly s)
 |0,s,rest,h1,h2,hK,_=>by omega
 |K+1,s,[],h1,h2,hK,_=>by
  simp at h2
  unfold qy
  rw[if_neg (by omega)]
  simp
 |K+1,s,n::rest,h1,h2,hK,hs=>by
  simp at h2
  unfold qy
  have h:=qvz s.reverse N n rest (by simp;omega) (by simp;omega)
  rw[List.reverse_reverse,List.length_reverse,qtf n s.reverse (by rw[List.reverse_reverse];exact hs),List.reverse_reverse]at h
  rw[if_pos (by omega),h,Option.bind_some,zN (by omega),←qjO s n,quy hN b hb K (qly s n) rest (by rw[qjO];omega) (by rw[qjO];omega) (by rw[qjO];omega) (qrF hs n)]
  rfl
theorem qxc {N:Nat} (hN:2000<N) {l:List qf} (h1:1≤l.length) (h2:l.length<1000):zK N l 0 (l.length:Int)=some (qi5 l):=by
 cases l with
 |nil=>simp at h1
 |cons x xs=>
  unfold zK
  have:=quy hN (x::xs).length h2 N [x] xs (by simp) (by simp;omega) (by simp at h2⊢;omega) (List.pairwise_singleton _ _)
  rw[show w64 ((0:Int)+1)=(([x]:List qf).length:Int)from(by decide:w64 ((0:Int)+1)=1)]
  rw[show qy N 0 ((x::xs).length:Int) N (x::xs) _=_ from this]
  rfl
theorem qt0 {N:Nat} (hN:2000<N) {l:List qf} (h1:1≤l.length) (h2:l.length<20):ym N l=some (qi5 l):=by
 have hs:=(qfY l).2.1
 unfold ym qaJ
 obtain⟨K,rfl⟩: ∃K,N=K+1:=⟨N-1,by omega⟩
 have e0:zG (K+1) (l.length:Int) (K+1) l 0 20=some (l,0):=by
  unfold zG
  rw[if_neg (by omega)]
 have e1:zJ (K+1) (l.length:Int) (K+1) 20=some ():=by
  unfold zJ
  rw[if_neg (by omega)]
 rw[e0,Option.bind_some]
 simp only
 rw[qxc hN h1 (by omega),Option.bind_some,if_pos hs.symm,Option.bind_some,e1]
 simp only[Option.bind_some]
 rw[if_pos hs.symm]
 rfl
theorem qsb {s:Str} (hs:s.length≤900):(qbY s).1.Names.length≤2∧(qbY s).1.Values.length≤901∧ ∀w∈(qbY s).1.Names,w.length≤900:=by
 unfold qbY
 have hlen:=qmd [] s
 have hc:=qms s
 have hsh:=qke [] s
 generalize spl [] s=ws at hlen hsh
 unfold qs9
 obtain⟨a,b,ha,hb,e1,e2,e3⟩:=qnf (ws.headD [])
 rw[e1,Int.toNat_natCast]
 split
 ·refine⟨?_,?_,fun w hw=>?_⟩
  ·simp only[List.length_take];omega
  ·simp only[List.length_map,List.length_drop];omega
  ·have:=hsh w (List.mem_of_mem_drop (List.mem_of_mem_take hw))
   simp at this;omega
 ·exact⟨by simp[ev0],by simp[ev0],fun w hw=>by simp[ev0]at hw⟩
def evN (evs:List qh) (n:qf):qh:=⟨((evs.length+1:Nat):Int),(qbY n.Line).1.Kind,(qbY n.Line).1.Names,(qbY n.Line).1.Values,(qbY n.Line).1.Text⟩
theorem qmM {N:Nat} (hN:2000<N) (evs:List qh) {n:qf} (h:n.Line.length≤150):qqJ N (evN evs n):=by
 obtain⟨h1,h2,h3⟩:=qsb (s:=n.Line) (by omega)
 exact⟨by show(qbY n.Line).1.Names.length<N;omega,by show(qbY n.Line).1.Values.length<N;omega,fun w hw=>by have:=h3 w hw;omega⟩
def qgp (N:Nat):List qf→List qh→List zo→List qh×List zo
 |[],evs,ms=>(evs,ms)
 |n::l,evs,ms=>if qjb N evs evs.length (evN evs n)=0 then qgp N l (evs++[evN evs n]) ms else qgp N l evs (ms++[⟨n.Desk,n.Number⟩])
theorem qlB (N:Nat) (n:qf) (l:List qf) (evs:List qh) (ms:List zo):qgp N (n::l) evs ms=if qjb N evs evs.length (evN evs n)=0 then qgp N l (evs++[evN evs n]) ms else qgp N l evs (ms++[⟨n.Desk,n.Number⟩]):=rfl
def qq4 (l:List qf):Prop:= ∀n∈l,n.Line.length≤150∧((qbY n.Line).1.Kind==qd8)=false
structure qli (N:Nat) (evs:List qh) (o:Option (List StateT)):Prop where
 ev:Evs N evs
 run:qoK N evs 0 []=(0,0,evs)
 rel:Rel N evs (hof o)
theorem qli.next {N:Nat} {evs:List qh} {o o':Option (List StateT)} (h:qli N evs o) (hl:evs.length<1000) {n:qf} (hn:n.Line.length≤150∧((qbY n.Line).1.Kind==qd8)=false) (h0:qjb N evs evs.length (evN evs n)=0) (hr:Rel N (qkZ evs (evN evs n)) (hof o')):qli N (evs++[evN evs n]) o':=by
 have hu:((evN evs n).Kind==qd8)=false:=hn.2
 have hc:qkZ evs (evN evs n)=evs++[evN evs n]:=by unfold qkZ;rw[hu];rfl
 refine⟨⟨by simp;omega,fun x hx=>?_,h.ev.big,h.ev.max⟩,?_,hc▸hr⟩
 ·rcases List.mem_append.1 hx with hx|hx
  ·exact h.ev.short x hx
  ·simp at hx;subst hx;exact qmM h.ev.big evs hn.1
 ·rw[qnI,h.run,if_pos rfl,Nat.zero_add,qmz,if_pos h0,hc]
  rfl
theorem qqv {N:Nat} {l:List qf} (hg:qq4 l) (hl:l.length≤900) (hN:2000<N): ∀(K k:Nat) (evs:List qh) (ms:List zo) (o:Option (List StateT)),k≤l.length→l.length<K+k→evs.length≤k→ms.length≤k→qli N evs o→
 ∃o',qaN N l K evs ms o (k:Int)=some ((qgp N (l.drop k) evs ms).1,o',(qgp N (l.drop k) evs ms).2)
 |0,k,evs,ms,o,h,hK,_,_,_=>by omega
 |K+1,k,evs,ms,o,h,hK,he,hm,F=>by
  unfold qaN
  by_cases hk:k<l.length
  ·have hq:=hg l[k] (List.getElem_mem hk)
   rw[if_pos (by omega),zl,List.getElem?_eq_getElem hk,Option.bind_some,List.drop_eq_getElem_cons hk,qlB,zN (show k<_ by omega)]
   generalize l[k]=n at hq⊢
   rw[qnh (by omega) hN,Option.bind_some,zN (show evs.length<_ by omega)]
   have hP:Pre N evs (hof o) evs.length (evN evs n):=⟨F.rel,Nat.le_refl _,by omega,F.ev.big,F.ev.max,qmM hN evs hq.1⟩
   obtain⟨evs',o',a1,a2,a3⟩:=qxh (evs:=evs) hP rfl
   rw[show qao N evs o ((evs.length+1:Nat):Int) (qbY n.Line).1.Kind (qbY n.Line).1.Names (qbY n.Line).1.Values (qbY n.Line).1.Text=_ from a1,Option.bind_some]
   simp only
   by_cases h0:qjb N evs evs.length (evN evs n)=0
   ·obtain⟨rfl,b2,b3⟩:=a2 h0
    rw[if_neg (by simp[h0]),if_pos h0,Option.bind_some]
    simp only
    exact qqv hg hl hN K (k+1) _ ms o' (by omega) (by omega) (by simp;omega) (by omega) (F.next (by omega) hq h0 b2)
   ·obtain⟨rfl,b2⟩:=a3 h0
    rw[if_pos (by simp[h0]),if_neg h0]
    simp only[zO,Option.bind_some]
    rw[qaL (by simp;omega) (by simp;omega)]
    simp only[Option.bind_some]
    exact qqv hg hl hN K (k+1) _ _ o' (by omega) (by omega) (by omega) (by simp;omega) ⟨F.ev,F.run,by rw[b2];exact F.rel⟩
  ·rw[if_neg (by omega),List.drop_of_length_le (by omega)]
   exact⟨o,rfl⟩
def qlT (N:Nat) (l:List qf):List qh×List zo:=qgp N (qi5 l) [] []
theorem qli.nil {N:Nat} (hN:2000<N) (hM:N<4611686018427387904):qli N [] none:=⟨⟨by simp,fun _ h=>by simp at h,hN,hM⟩,rfl,Rel.nil N⟩
theorem qp8: ∀(l:List qf) (p:Option qf),qjm p l=0→ ∀n∈l,qcb n=0
 |[],_,_,n,h=>by simp at h
 |x::l,p,h0,n,h=>by
  rw[qgF]at h0
  by_cases h1:qcb x=0
  ·rw[if_neg (by simp[h1])]at h0
   by_cases h2:qnO p x=true
   ·rw[if_pos h2]at h0;cases h0
   ·rw[if_neg h2]at h0
    rcases List.mem_cons.1 h with rfl|h
    ·exact h1
    ·exact qp8 l _ h0 n h
  ·rw[if_pos h1]at h0;exact absurd h0 h1
theorem qtq {l:List qf} (hs:qdV l) (h0:checkN l=0):qq4 l∧l.length≤1000:=by
 unfold checkN at h0
 by_cases hl:l.length>1000
 ·rw[if_pos hl]at h0;cases h0
 ·rw[if_neg hl]at h0
  refine⟨fun n hn=>⟨(hs n hn).2,?_⟩,by omega⟩
  have:=qp8 l none h0 n hn
  unfold qcb at this
  by_cases h1:qd3 n.Desk=false
  ·rw[if_pos h1]at this;cases this
  ·rw[if_neg h1]at this
   by_cases h2:(qbL n.Number 1 1000||qbL n.Clock 1 1000000)=true
   ·rw[if_pos h2]at this;cases this
   ·rw[if_neg h2]at this
    by_cases h3:(!(qbY n.Line).2||(qbY n.Line).1.Kind==qd8)=true
    ·rw[if_pos h3]at this;cases this
    ·simp only[Bool.not_eq_true,Bool.or_eq_false_iff]at h3
     exact h3.2
theorem qqh {l:List qf} (h:qq4 l):qq4 (qi5 l):=fun n hn=>h n (((qfY l).2.2 n).1 hn)
theorem qwP {N:Nat} (hN:2000<N) (hM:N<4611686018427387904) {l:List qf} (hs:qdV l) (hl:l.length≤16∨1000<l.length):qhd N l=some (if checkN l=0 then(qlT N l).1 else[],if checkN l=0 then(qlT N l).2 else[],checkN l):=by
 cases l with
 |nil=>
  show qei N=_
  unfold qei
  obtain⟨K,rfl⟩: ∃K,N=K+1:=⟨N-1,by omega⟩
  have a0:zC (K+1) []=some 0:=qaX hN (fun n h=>by simp at h)
  have a1:qdm []=some []:=by
   simp only[qdm,qcu,qlP]
   rw[qaL (by simp) (by simp)]
   simp
  have a2:yl (K+1) []=some ():=by
   unfold yl qaG zX zW jA zn
   rfl
  have a3:qbf (K+1) [] (K+1) [] [] none 0=some ([],none,[]):=by
   unfold qbf
   rfl
  rw[a0,Option.bind_some,if_neg (by simp),a1,Option.bind_some,a2,Option.bind_some,a3]
  rfl
 |cons x xs=>
  show qem N x xs=_
  unfold qem
  rw[qaX hN hs,Option.bind_some]
  by_cases h0:checkN (x::xs)=0
  ·obtain⟨hg,h1000⟩:=qtq hs h0
   have h16:(x::xs).length≤16:=by omega
   have hc:xO x xs=some (x::xs):=by
    unfold xO
    rw[qaL (by simp at h16⊢;omega) (by simp at h16⊢;omega)]
    rfl
   have hlen:=(qfY (x::xs)).2.1
   rw[if_neg (by simp[h0]),hc,Option.bind_some,qt0 hN (by simp) (by omega),Option.bind_some,if_pos hlen.symm,Option.bind_some,if_pos h0,if_pos h0,h0]
   obtain⟨o',h⟩:=qqv (N:=N) (qqh hg) (by omega) hN N 0 [] [] none (by omega) (by omega) (by simp) (by simp) (qli.nil hN hM)
   rw[List.drop_zero]at h
   rw[show qaN N (qi5 (x::xs)) N [] [] none 0=_ from h]
   rfl
  ·rw[if_pos (by simp[h0]),if_neg h0,if_neg h0]
theorem qjX {N:Nat} (hN:2000<N): ∀(l:List qf) (evs:List qh) (ms:List zo),qq4 l→(∀e∈evs,e.Names.length<N∧e.Values.length<N)→(∀e∈(qgp N l evs ms).1,e.Names.length<N∧e.Values.length<N)∧(qgp N l evs ms).1.length≤evs.length+l.length∧(qgp N l evs ms).2.length≤ms.length+l.length
 |[],evs,ms,_,h=>⟨h,by simp[qgp],by simp[qgp]⟩
 |n::l,evs,ms,hg,h=>by
  rw[qlB,List.length_cons]
  split
  ·obtain⟨h1,h2,h3⟩:=qjX hN l (evs++[evN evs n]) ms (fun x hx=>hg x (List.mem_cons_of_mem _ hx)) (fun e he=>by
    rcases List.mem_append.1 he with he|he
    ·exact h e he
    ·simp at he
     subst he
     have:=qmM (N:=N) hN evs (hg n List.mem_cons_self).1
     exact⟨this.n,this.v⟩)
   simp at h2
   exact⟨h1,by omega,by omega⟩
  ·obtain⟨h1,h2,h3⟩:=qjX hN l evs (ms++[⟨n.Desk,n.Number⟩]) (fun x hx=>hg x (List.mem_cons_of_mem _ hx)) h
   simp at h3
   exact⟨h1,by omega,by omega⟩
theorem qqD {N:Nat} (l:List qf) (hl:l.length≤1003) (hN:2000<N):qde N l l=some true:=by
 have key: ∀(K k:Nat),k≤l.length→l.length<K+k→yF l l K (k:Int)=some (.inl ()):=by
  intro K
  induction K with
  |zero=>intro k h hK;omega
  |succ K ih=>
   intro k h hK
   unfold yF
   by_cases hk:k<l.length
   ·rw[if_pos (by omega),zl,List.getElem?_eq_getElem hk,Option.bind_some,Option.bind_some,zN (by omega),if_neg (by simp)]
    exact ih (k+1) (by omega) (by omega)
   ·rw[if_neg (by omega)]
 unfold qde
 rw[if_neg (by simp),show yF l l N 0=yF l l N ((0:Nat):Int)from rfl,key N 0 (by omega) (by omega)]
 rfl
theorem qqX {N:Nat} (l:List Str) (hl:l.length<4611686018427387904) (hN:l.length<N):qc8 N l l=some true:=by
 have key: ∀(K k:Nat),k≤l.length→l.length<K+k→yN l l K (k:Int)=some (.inl ()):=by
  intro K
  induction K with
  |zero=>intro k h hK;omega
  |succ K ih=>
   intro k h hK
   unfold yN
   by_cases hk:k<l.length
   ·rw[if_pos (by omega),zl,List.getElem?_eq_getElem hk,Option.bind_some,Option.bind_some,zN (by omega),if_neg (by simp)]
    exact ih (k+1) (by omega) (by omega)
   ·rw[if_neg (by omega)]
 unfold qc8
 rw[if_neg (by simp),show yN l l N 0=yN l l N ((0:Nat):Int)from rfl,key N 0 (by omega) (by omega)]
 rfl
theorem qrD {N:Nat} (l:List Int) (hl:l.length<4611686018427387904) (hN:l.length<N):qdB N l l=some true:=by
 have key: ∀(K k:Nat),k≤l.length→l.length<K+k→xu l l K (k:Int)=some (.inl ()):=by
  intro K
  induction K with
  |zero=>intro k h hK;omega
  |succ K ih=>
   intro k h hK
   unfold xu
   by_cases hk:k<l.length
   ·rw[if_pos (by omega),zl,List.getElem?_eq_getElem hk,Option.bind_some,Option.bind_some,zN (by omega),if_neg (by simp)]
    exact ih (k+1) (by omega) (by omega)
   ·rw[if_neg (by omega)]
 unfold qdB
 rw[if_neg (by simp),show xu l l N 0=xu l l N ((0:Nat):Int)from rfl,key N 0 (by omega) (by omega)]
 rfl
theorem qpH {N:Nat} (l:List qh) (hl:l.length≤1003) (hN:2000<N) (hM:N<4611686018427387904) (hs: ∀e∈l,e.Names.length<N∧e.Values.length<N):qcH N l l=some true:=by
 have key: ∀(K k:Nat),k≤l.length→l.length<K+k→vN N l l K (k:Int)=some (.inl ()):=by
  intro K
  induction K with
  |zero=>intro k h hK;omega
  |succ K ih=>
   intro k h hK
   unfold vN
   by_cases hk:k<l.length
   ·obtain⟨h1,h2⟩:=hs _ (List.getElem_mem hk)
    rw[if_pos (by omega),zl,List.getElem?_eq_getElem hk,Option.bind_some,Option.bind_some,if_neg (by simp),if_neg (by simp),qqX _ (by omega) h1,Option.bind_some,if_neg (by simp),qrD _ (by omega) h2,Option.bind_some,if_neg (by simp),Option.bind_some,zN (by omega),if_neg (by simp)]
    exact ih (k+1) (by omega) (by omega)
   ·rw[if_neg (by omega)]
 unfold qcH
 rw[if_neg (by simp),show vN N l l N 0=vN N l l N ((0:Nat):Int)from rfl,key N 0 (by omega) (by omega)]
 rfl
theorem qkV (l:List qf) (hl:l.length≤1003): ∀(K k:Nat),k≤l.length→l.length<K+k→ ∃r,xc l K (k:Int)=some r∧((r= .inl ()∧ ∀n∈l.drop k,n.Desk.length≤60∧n.Line.length≤150)∨r= .inr false)
 |0,k,h,hK=>by omega
 |K+1,k,h,hK=>by
  unfold xc
  by_cases hk:k<l.length
  ·rw[if_pos (by omega),zl,List.getElem?_eq_getElem hk,Option.bind_some,List.drop_eq_getElem_cons hk,zN (by omega)]
   obtain⟨r,h1,h2⟩:=qkV l hl K (k+1) (by omega) (by omega)
   by_cases c1:((l[k]).Desk.length:Int)>60
   ·rw[if_pos c1]
    exact⟨_,rfl,.inr rfl⟩
   ·rw[if_neg c1]
    by_cases c2:((l[k]).Line.length:Int)>150
    ·simp only[Option.bind_some,decide_eq_true c2,if_true]
     exact⟨_,rfl,.inr rfl⟩
    ·simp only[Option.bind_some,decide_eq_false c2,Bool.false_eq_true,if_false]
     refine⟨r,h1,?_⟩
     rcases h2 with⟨g1,g2⟩|g1
     ·refine .inl ⟨g1,fun n hn=>?_⟩
      rcases List.mem_cons.1 hn with rfl|hn
      ·omega
      ·exact g2 n hn
     ·exact .inr g1
  ·rw[if_neg (by omega),List.drop_of_length_le (by omega)]
   exact⟨_,rfl,.inl ⟨rfl,fun n hn=>by simp at hn⟩⟩
theorem qpJ {N:Nat} (hN:2000<N) (l:List qf) (m:Nat) (hm:m≤1000): ∃b,qbQ N l (m:Int)=some b∧(b=true→qdV l∧l.length≤1003∧(l.length≤m∨1000<l.length)):=by
 unfold qbQ
 by_cases h1:l.length>1003
 ·refine⟨false,?_,fun h=>by cases h⟩
  have a1:(l.length:Int)>(m:Int):=by omega
  have a2: ¬(l.length:Int)≤1000:=by omega
  have a3:(l.length:Int)>1003:=by omega
  simp[a1,a2,a3]
 ·obtain⟨r,g1,g2⟩:=qkV l (by omega) N 0 (by omega) (by omega)
  have g1:xc l N 0=some r:=g1
  have a3: ¬(l.length:Int)>1003:=by omega
  rw[g1]
  by_cases a1:(l.length:Int)>(m:Int)
  ·by_cases a2:(l.length:Int)≤1000
   ·exact⟨false,by simp[a1,a2],fun h=>by cases h⟩
   ·rcases g2 with⟨rfl,g2⟩|rfl
    ·exact⟨true,by simp[a1,a2,a3],fun _=>⟨g2,by omega,.inr (by omega)⟩⟩
    ·exact⟨false,by simp[a1,a2,a3],fun h=>by cases h⟩
  ·rcases g2 with⟨rfl,g2⟩|rfl
   ·exact⟨true,by simp[a1,a3],fun _=>⟨g2,by omega,.inl (by omega)⟩⟩
   ·exact⟨false,by simp[a1,a3],fun h=>by cases h⟩
def ltN (a b:qf):Bool:=ltL a.Desk b.Desk||(a.Desk==b.Desk&&decide (a.Number<b.Number))
theorem qp6 {a b c:qf} (h:ltN a b=true) (k:ltN b c=true):ltN a c=true:=qhO (x:=toQ a) (y:=toQ b) (z:=toQ c) h k
theorem qls (a:qf):ltN a a=false:=qiC (toQ a)
theorem qwO {p n:qf} (h:qeX p n=false):ltN p n=true:=by
 unfold qeX at h
 simp only[Bool.or_eq_false_iff,Bool.and_eq_false_iff,beq_eq_false_iff_ne,decide_eq_false_iff_not]at h
 unfold ltN
 by_cases e:p.Desk=n.Desk
 ·have:p.Number<n.Number:=by
   rcases h.2 with h2|h2
   ·exact absurd e.symm h2
   ·have:=h2.1
    omega
  simp[e,this]
 ·have:ltL p.Desk n.Desk=true:=by
   cases h1:ltL p.Desk n.Desk with
   |true=>rfl
   |false=>exact absurd (qhi _ _ h1 h.1) e
  simp[this]
abbrev qfv (l:List qf):Prop:=l.Pairwise fun a b=>ltN a b=true
theorem qqA: ∀(l:List qf) (p:Option qf),qjm p l=0→(∀q,p=some q→ ∀n∈l,ltN q n=true)∧qfv l∧ ∀n∈l,1≤n.Number∧n.Number≤1000
 |[],p,_=>⟨by simp,List.Pairwise.nil,by simp⟩
 |n::l,p,h=>by
  rw[qgF]at h
  by_cases h1:qcb n=0
  ·rw[if_neg (fun x=>x h1)]at h
   by_cases h2:qnO p n=true
   ·rw[if_pos h2]at h;cases h
   ·rw[if_neg h2]at h
    obtain⟨a,b,c⟩:=qqA l (some n) h
    have hn:1≤n.Number∧n.Number≤1000:=by
     unfold qcb at h1
     by_cases e1:qd3 n.Desk=false
     ·rw[if_pos e1]at h1;cases h1
     ·rw[if_neg e1]at h1
      by_cases e2:(qbL n.Number 1 1000||qbL n.Clock 1 1000000)=true
      ·rw[if_pos e2]at h1;cases h1
      ·unfold qbL at e2
       simp at e2
       omega
    refine⟨fun q hq x hx=>?_,List.Pairwise.cons (fun x hx=>a n rfl x hx) b,fun x hx=>?_⟩
    ·subst hq
     have hb:ltN q n=true:=qwO (by simpa[qnO]using h2)
     rcases List.mem_cons.1 hx with rfl|hx
     ·exact hb
     ·exact qp6 hb (a n rfl x hx)
    ·rcases List.mem_cons.1 hx with rfl|hx
     ·exact hn
     ·exact c x hx
  ·rw[if_pos h1]at h;exact absurd h h1
def qgw:List qf→Int→Int
 |[],m=>m
 |n::s,m=>if n.Number=m+1 then qgw s (m+1)else m
def refE:List qf→Int→Int
 |[],m=>m
 |n::s,m=>if n.Number=m+1 then refE s (m+1)else refE s m
def jT (d:Str) (n:qf):Bool:=n.Desk==d
theorem qur {l:List qf} (hl:l.length≤1003) (x:qf): ∀(K i:Nat),i≤l.length→l.length<K+i→qbg l x K (i:Int)=some ((i+((l.drop i).takeWhile (jT x.Desk)).length:Nat):Int)
 |0,i,h1,h2=>by omega
 |K+1,i,h1,h2=>by
  unfold qbg
  by_cases hi:i<l.length
  ·rw[if_pos (by omega),zl,List.getElem?_eq_getElem hi,Option.bind_some,Option.bind_some,List.drop_eq_getElem_cons hi,List.takeWhile_cons,show(l[i].Desk==x.Desk)=jT x.Desk l[i]from rfl]
   by_cases hd:jT x.Desk l[i]=true
   ·rw[if_pos hd,if_pos hd,zN (by omega),qur hl x K (i+1) (by omega) (by omega),List.length_cons]
    congr 2
    omega
   ·rw[if_neg hd,if_neg hd]
    rfl
  ·rw[if_neg (by omega),Option.bind_some,if_neg (by simp),List.drop_of_length_le (by omega)]
   simp
theorem quY {s:List qf} (hs:s.length≤1003): ∀(K i:Nat) (m:Int),i≤s.length→s.length<K+i→0≤m→m≤i→qaQ s K m (i:Int)=some (qgw (s.drop i) m)
 |0,i,m,h1,h2,_,_=>by omega
 |K+1,i,m,h1,h2,h3,h4=>by
  unfold qaQ
  by_cases hi:i<s.length
  ·have e1:w64 (m+1)=m+1:=qcK (by omega) (by omega)
   rw[if_pos (by omega),zl,List.getElem?_eq_getElem hi,Option.bind_some,List.drop_eq_getElem_cons hi,qgw,e1]
   by_cases e:s[i].Number=m+1
   ·rw[if_neg (by simp[e]),if_pos e,zN (by omega),quY hs K (i+1) (m+1) (by omega) (by omega) (by omega) (by omega)]
   ·rw[if_pos (by simp[e]),if_neg e]
  ·rw[if_neg (by omega),List.drop_of_length_le (by omega)]
   rfl
def Begins (l:List qf) (i:Nat):Prop:=i=0∨(0<i∧ ∀x,l[i]? =some x→ ∃p,l[i-1]? =some p∧(p.Desk==x.Desk)=false)
def qek (x n:qf):Bool:=x.Desk==n.Desk&&(decide (x.Number=n.Number)&&true)
def qp5 (x n:qf):Bool:=(x.Desk==n.Desk)&&(decide (x.Number=n.Number)&&(decide (x.Clock=n.Clock)&&((x.Line==n.Line)&&true)))
def qkw (a:List qf) (n:qf):Bool:=a.any fun x=>qek x n
def qgK (a:List qf) (n:qf):Bool:=a.any fun x=>qek x n&&!qp5 x n
theorem qbO {x n:qf}:qek x n=true↔x.Desk=n.Desk∧x.Number=n.Number:=by simp[qek]
theorem qoc {x y:qf} (h:ltN x y=true):qek x y=false:=by
 cases e:qek x y with
 |false=>rfl
 |true=>
  obtain⟨h1,h2⟩:=qbO.1 e
  unfold ltN at h
  rw[h1,h2,qdJ]at h
  simp at h
theorem qmk {a:List qf} (ha:qfv a) {x y n:qf} (hx:x∈a) (hy:y∈a) (h1:qek x n=true) (h2:qek y n=true):x=y:=by
 obtain⟨i,hi⟩:=List.getElem?_of_mem hx
 obtain⟨j,hj⟩:=List.getElem?_of_mem hy
 obtain⟨hil,hi⟩:=List.getElem?_eq_some_iff.1 hi
 obtain⟨hjl,hj⟩:=List.getElem?_eq_some_iff.1 hj
 have hp:=List.pairwise_iff_getElem.1 ha
 obtain⟨m1,m2⟩:=qbO.1 h1
 obtain⟨m3,m4⟩:=qbO.1 h2
 have hs:qek x y=true:=qbO.2 ⟨m1.trans m3.symm,m2.trans m4.symm⟩
 have hs':qek y x=true:=qbO.2 ⟨m3.trans m1.symm,m4.trans m2.symm⟩
 rcases Nat.lt_trichotomy i j with h|h|h
 ·have:=qoc (hp i j hil hjl h)
  rw[hi,hj,hs]at this;cases this
 ·subst h;exact hi.symm.trans hj
 ·have:=qoc (hp j i hjl hil h)
  rw[hi,hj,hs']at this;cases this
theorem qvY {a:List qf} (ha:qfv a) {x n:qf} (hx:x∈a) (h:qek x n=true):qgK a n=!qp5 x n∧qkw a n=true:=by
 refine⟨?_,List.any_eq_true.2 ⟨x,hx,h⟩⟩
 unfold qgK
 cases e:qp5 x n with
 |false=>exact List.any_eq_true.2 ⟨x,hx,by simp[h,e]⟩
 |true=>
  rw[Bool.not_true,List.any_eq_false]
  intro y hy
  cases hm:qek y n with
  |false=>simp
  |true=>rw[qmk ha hy hx hm h];simp[e]
theorem qvU {a:List qf} {n:qf} (h:qkw a n=false):qgK a n=false:=by
 unfold qkw at h
 unfold qgK
 rw[List.any_eq_false]at h⊢
 intro x hx
 have:=h x hx
 simp[this]
theorem qsX {a:List qf} (hl:a.length≤1003) (n:qf): ∀(K k:Nat),k≤a.length→a.length<K+k→ ∃r,zL a n.Desk n.Number n.Clock n.Line K (k:Int)=some r∧((r= .inl ()∧qkw (a.drop k) n=false)∨ ∃j x,r= .inr ((j:Nat):Int)∧a[j]? =some x∧qek x n=true)
 |0,k,h1,h2=>by omega
 |K+1,k,h1,h2=>by
  unfold zL
  by_cases hk:k<a.length
  ·have ec:qcy a[k] n.Desk n.Number n.Clock n.Line=some (qek a[k] n):=rfl
   rw[if_pos (by omega),zl,List.getElem?_eq_getElem hk,Option.bind_some,ec,Option.bind_some]
   by_cases hs:qek a[k] n=true
   ·rw[if_pos hs]
    exact⟨_,rfl,.inr ⟨k,a[k],rfl,List.getElem?_eq_getElem hk,hs⟩⟩
   ·rw[if_neg hs,zN (by omega)]
    obtain⟨r,r1,r2⟩:=qsX hl n K (k+1) (by omega) (by omega)
    refine⟨r,r1,?_⟩
    rcases r2 with⟨r2,r3⟩|r2
    ·refine .inl ⟨r2,?_⟩
     rw[List.drop_eq_getElem_cons hk]
     unfold qkw at r3⊢
     rw[List.any_cons,r3]
     simpa using hs
    ·exact .inr r2
  ·rw[if_neg (by omega),List.drop_of_length_le (by omega)]
   exact⟨_,rfl,.inl ⟨rfl,rfl⟩⟩
theorem qtB {N:Nat} (hN:2000<N) {a:List qf} (hl:a.length≤1003) (n:qf):(jv N a n.Desk n.Number n.Clock n.Line=some (-1)∧qkw a n=false)∨ ∃j x,jv N a n.Desk n.Number n.Clock n.Line=some ((j:Nat):Int)∧a[j]? =some x∧qek x n=true:=by
 obtain⟨r,r1,r2⟩:=qsX hl n N 0 (by omega) (by omega)
 unfold jv
 rw[show zL a n.Desk n.Number n.Clock n.Line N 0=_ from r1]
 rcases r2 with⟨rfl,r2⟩|⟨j,x,rfl,r2,r3⟩
 ·exact .inl ⟨rfl,by simpa using r2⟩
 ·exact .inr ⟨j,x,rfl,r2,r3⟩
theorem qsZ {N:Nat} (hN:2000<N) {a:List qf} (hl:a.length≤1003) (ha:qfv a) (n:qf) {out:List qf} (ho:out.length≤2100):
 ((jv N a n.Desk n.Number n.Clock n.Line).bind fun r17=>if r17<0 then(app 48 out [n]).bind fun l19=>some (.inl l19)else
   (idx a r17).bind fun x20=>if(!((x20.Desk==n.Desk)&&(decide (x20.Number=n.Number)&&(decide (x20.Clock=n.Clock)&&((x20.Line==n.Line)&&true)))))=true then some (.inr ([],29))else some (.inl out):Option ((List qf)⊕((List qf)×Int)))
 =some (if qgK a n=true then .inr ([],29)else .inl (if qkw a n=true then out else out++[n])):=by
 rcases qtB hN hl n with⟨h1,h2⟩|⟨j,x,h1,h2,h3⟩
 ·rw[h1,Option.bind_some,if_pos (by omega),qaL (by simp;omega) (by simp;omega),Option.bind_some,qvU h2,h2]
  rfl
 ·obtain⟨c1,c2⟩:=qvY ha (List.mem_of_getElem? h2) h3
  rw[h1,Option.bind_some,if_neg (by omega),zl,h2,Option.bind_some,show((x.Desk==n.Desk)&&(decide (x.Number=n.Number)&&(decide (x.Clock=n.Clock)&&((x.Line==n.Line)&&true))))=qp5 x n from rfl,c1,c2]
  cases qp5 x n<;>rfl
def qha (a b:List qf):List qf:=b.filter fun n=>!qkw a n
theorem pg_n {N:Nat} (hN:2000<N) {b:List qf} (hb:b.length≤1003): ∀(K k:Nat) (out:List qf),k≤b.length→b.length<K+k→out.length≤1003+k→
 xP N b K out (k:Int)=some (if(b.drop k).any (qgK [])=true then .inr ([],29)else .inl (out++qha [] (b.drop k)))
 |0,k,out,h1,h2,_=>by omega
 |K+1,k,out,h1,h2,h3=>by
  unfold xP
  by_cases hk:k<b.length
  ·rw[if_pos (by omega),zl,List.getElem?_eq_getElem hk,Option.bind_some]
   rw[show _=_ from qsZ hN (a:=[]) (by simp) List.Pairwise.nil b[k] (out:=out) (by omega),Option.bind_some,List.drop_eq_getElem_cons hk,List.any_cons]
   have e1:qgK [] b[k]=false:=rfl
   have e2:qkw [] b[k]=false:=rfl
   rw[e1,e2,if_neg (by simp),if_neg (by simp),Bool.false_or]
   simp only
   rw[zN (by omega),pg_n hN hb K (k+1) (out++[b[k]]) (by omega) (by omega) (by simp;omega)]
   unfold qha
   rw[List.filter_cons,e2]
   simp
  ·rw[if_neg (by omega),List.drop_of_length_le (by omega)]
   simp[qha]
theorem pg_c {N:Nat} (hN:2000<N) {hd:qf} {tl b:List qf} (hl:(hd::tl).length≤1003) (ha:qfv (hd::tl)) (hb:b.length≤1003): ∀(K k:Nat) (out:List qf),k≤b.length→b.length<K+k→out.length≤1003+k→
 xB N hd tl b K out (k:Int)=some (if(b.drop k).any (qgK (hd::tl))=true then .inr ([],29)else .inl (out++qha (hd::tl) (b.drop k)))
 |0,k,out,h1,h2,_=>by omega
 |K+1,k,out,h1,h2,h3=>by
  unfold xB
  by_cases hk:k<b.length
  ·rw[if_pos (by omega),zl,List.getElem?_eq_getElem hk,Option.bind_some]
   rw[show _=_ from qsZ hN hl ha b[k] (out:=out) (by omega),Option.bind_some,List.drop_eq_getElem_cons hk,List.any_cons]
   by_cases e1:qgK (hd::tl) b[k]=true
   ·rw[if_pos e1,e1,Bool.true_or,if_pos rfl]
   ·have e1':qgK (hd::tl) b[k]=false:=by simpa using e1
    rw[if_neg e1,e1',Bool.false_or]
    simp only
    rw[zN (by omega),pg_c hN hl ha hb K (k+1) _ (by omega) (by omega) (by split<;>(try simp only[List.length_append,List.length_singleton])<;>omega)]
    unfold qha
    rw[List.filter_cons]
    cases e2:qkw (hd::tl) b[k]<;>simp
  ·rw[if_neg (by omega),List.drop_of_length_le (by omega)]
   simp[qha]
def befN (y:qf) (x:qf):Bool:=ltN x y
def insN (o:List qf) (y:qf):List qf:=o.takeWhile (befN y)++y::o.dropWhile (befN y)
theorem qwk {x y:qf} (h:ltN x y=false) (hs:qek x y=false):ltN y x=true:=by
 unfold ltN at h⊢
 simp only[Bool.or_eq_false_iff,Bool.and_eq_false_iff,beq_eq_false_iff_ne,decide_eq_false_iff_not]at h
 by_cases e:y.Desk=x.Desk
 ·have: ¬x.Number=y.Number:=fun e2=>by rw[qbO.2 ⟨e.symm,e2⟩]at hs;cases hs
  have h2: ¬x.Number<y.Number:=by
   rcases h.2 with h2|h2
   ·exact absurd e.symm h2
   ·exact h2
  have:y.Number<x.Number:=by omega
  simp[e,this]
 ·have:ltL y.Desk x.Desk=true:=by
   cases h1:ltL y.Desk x.Desk with
   |true=>rfl
   |false=>exact absurd (qhi _ _ h1 h.1) e
  simp[this]
theorem qo5 (x y:qf):qek x y=qek y x:=by
 rw[Bool.eq_iff_iff,qbO,qbO]
 exact⟨fun h=>⟨h.1.symm,h.2.symm⟩,fun h=>⟨h.1.symm,h.2.symm⟩⟩
abbrev Dist (l:List qf):Prop:=l.Pairwise fun x y=>qek x y=false
theorem qm1 (l:List qf):(qcF l).length=l.length:=by
 unfold qcF
 rw[List.length_map,(qeJ _).1,List.length_map]
theorem qk7 (l:List qf):(qcF l).Perm l:=by
 have h:=((qeJ (l.map toQ)).2.1).map ofQ
 rw[List.map_map,show ofQ∘toQ=id from rfl,List.map_id]at h
 exact h
theorem qtD {l:List qf} (h:Dist l):qfv (qcF l):=by
 have hd:Dist (qcF l):=(qk7 l).symm.pairwise h fun {x y} h=>by rw[qo5];exact h
 rw[qfv,List.pairwise_iff_getElem]
 intro i j hi hj hij
 have hdj:=List.pairwise_iff_getElem.1 hd i j hi hj hij
 have hlen:=(qeJ (l.map toQ)).1
 have hl:=qm1 l
 have hs:=(qeJ (l.map toQ)).2.2 i j hij (by rw[List.length_map];omega)
 rw[getElem!_pos (qgr (l.map toQ)) j (by rw[hlen,List.length_map];omega),getElem!_pos (qgr (l.map toQ)) i (by rw[hlen,List.length_map];omega)]at hs
 have e: ∀(k:Nat) (hk:k<(qcF l).length),toQ (qcF l)[k]=(qgr (l.map toQ))[k]'(by rw[hlen,List.length_map];omega):=by
  intro k hk
  simp only[qcF,List.getElem_map]
  rfl
 have h2:ltN (qcF l)[j] (qcF l)[i]=false:=by
  show lt4 (toQ (qcF l)[j]) (toQ (qcF l)[i])=false
  rw[e j hj,e i hi]
  exact hs
 exact qwk h2 (by rw[qo5];exact hdj)
theorem quF {a b:List qf} (ha:qfv a) (hb:qfv b):Dist (a++qha a b):=by
 refine List.pairwise_append.2 ⟨ha.imp fun h=>qoc h,(hb.sublist List.filter_sublist).imp fun h=>qoc h,fun x hx y hy=>?_⟩
 have:=(List.mem_filter.1 hy).2
 have hm:qkw a y=false:=by simpa using this
 unfold qkw at hm
 rw[List.any_eq_false]at hm
 simpa using hm x hx
theorem qxM (a b:Int):zM [a,b]=0↔a=0∧b=0:=by
 by_cases h1:a=0
 ·by_cases h2:b=0<;>simp[zM,h1,h2]
 ·simp[zM,h1]
def endN (L:List qf):List qf×Int:=if checkN L=0 then(L,0)else([],29)
def qta (a b:List qf):List qf×Int:=if b.any (qgK a)=true then([],29)else endN (qcF (a++qha a b))
theorem qsx {a b:List qf} (ha:qdV a) (hb:qdV b):qdV (qcF (a++qha a b)):=by
 intro n hn
 rcases List.mem_append.1 ((qk7 _).subset hn)with h|h
 ·exact ha n h
 ·exact hb n (List.mem_filter.1 h).1
theorem qss {N:Nat} (hN:4000<N) {a b:List qf} (sa:qdV a) (sb:qdV b) (h0:checkN a=0) (k0:checkN b=0) (ha:qfv a) (hb:qfv b) (la:a.length≤16) (lb:b.length≤16):qhG N a b=some (qta a b):=by
 have hN2:2000<N:=by omega
 have hf:zM [(0:Int),0]=0:=rfl
 have hl:(qcF (a++qha a b)).length≤32:=by
  have:=List.length_filter_le (fun n=>!qkw a n) b
  rw[qm1,List.length_append]
  unfold qha
  omega
 have hl2:(a++qha a b).length=(qcF (a++qha a b)).length:=(qm1 _).symm
 have ss:=qsx sa sb
 unfold qta endN
 cases a with
 |nil=>
  show qc7 N b=_
  unfold qc7
  have e1:=pg_n hN2 (b:=b) (by omega) N 0 [] (by omega) (by omega) (by simp)
  rw[List.drop_zero]at e1
  rw[qaX hN2 sa,Option.bind_some,qaX hN2 sb,Option.bind_some,h0,k0,qbX (by simp) (by simp;omega),Option.bind_some,hf,if_neg (by simp),show qsj=some ()from rfl,Option.bind_some,show xP N b N [] 0=_ from e1,Option.bind_some]
  by_cases hc:b.any (qgK [])=true
  ·rw[if_pos hc,if_pos hc]
  ·rw[if_neg hc,if_neg hc]
   simp only
   unfold qtg
   rw[if_pos (by omega),Option.bind_some,if_pos hl2,Option.bind_some,qdy,Option.bind_some,if_pos (by omega),qaX hN2 ss,Option.bind_some,qdy,Option.bind_some,qbX (by simp) (by simp;omega),Option.bind_some,Option.bind_some]
   have hw: ¬((qcF ([]++qha [] b)).length:Int)>1000:=by omega
   simp only[hw,decide_false,Bool.false_eq_true,if_false]
   by_cases hz:checkN (qcF ([]++qha [] b))=0
   ·rw[if_pos hz,hz]
    rfl
   ·rw[if_neg hz]
    revert hz
    generalize checkN (qcF ([]++qha [] b))=z
    intro hz
    simp[hz,zM]
 |cons hd tl=>
  show qdf N hd tl b=_
  unfold qdf xO
  have e1:=pg_c hN2 (hd:=hd) (tl:=tl) (b:=b) (by omega) ha (by omega) N 0 (hd::tl) (by omega) (by omega) (by omega)
  rw[List.drop_zero]at e1
  rw[qaX hN2 sa,Option.bind_some,qaX hN2 sb,Option.bind_some,h0,k0,qbX (by simp) (by simp;omega),Option.bind_some,hf,if_neg (by simp),qaL (by simp at la⊢;omega) (by simp at la⊢;omega),Option.bind_some,Option.bind_some,List.nil_append,show xB N hd tl b N (hd::tl) 0=_ from e1,Option.bind_some]
  by_cases hc:b.any (qgK (hd::tl))=true
  ·rw[if_pos hc,if_pos hc]
  ·rw[if_neg hc,if_neg hc]
   simp only
   unfold qtn
   rw[if_pos (by omega),Option.bind_some,if_pos hl2,Option.bind_some,qdy,Option.bind_some,if_pos (by omega),qaX hN2 ss,Option.bind_some,qdy,Option.bind_some,qbX (by simp) (by simp;omega),Option.bind_some,Option.bind_some]
   have hw: ¬((qcF ((hd::tl)++qha (hd::tl) b)).length:Int)>1000:=by omega
   simp only[hw,decide_false,Bool.false_eq_true,if_false]
   by_cases hz:checkN (qcF ((hd::tl)++qha (hd::tl) b))=0
   ·rw[if_pos hz,hz]
    rfl
   ·rw[if_neg hz]
    revert hz
    generalize checkN (qcF ((hd::tl)++qha (hd::tl) b))=z
    intro hz
    simp[hz,zM]
theorem qmD (N:Nat): ∀(l:List qf) (evs:List qh) (ms:List zo),(qgp N l evs ms).1.length+(qgp N l evs ms).2.length=evs.length+ms.length+l.length
 |[],evs,ms=>by simp[qgp]
 |n::l,evs,ms=>by
  rw[qlB]
  split
  ·rw[qmD N l]
   simp only[List.length_append,List.length_cons,List.length_nil]
   omega
  ·rw[qmD N l]
   simp only[List.length_append,List.length_cons,List.length_nil]
   omega
theorem qt6 (N:Nat) (l:List qf):(qlT N l).1.length+(qlT N l).2.length=l.length:=by
 unfold qlT
 rw[qmD,(qfY l).2.1]
 simp
theorem qtb: ∀(s:List qf) (m t:Int),(s.Pairwise fun a b=>a.Number<b.Number)→(∀n∈s,m<n.Number)→m≤t→(∀q,m<q→q≤t→ ∃n∈s,n.Number=q)→t≤qgw s m
 |[],m,t,_,_,h1,h2=>by
  rw[qgw]
  rcases Int.lt_or_le m t with h|h
  ·obtain⟨n,hn,_⟩:=h2 (m+1) (by omega) (by omega)
   cases hn
  ·exact h
 |n::s,m,t,hp,hm,h1,h2=>by
  obtain⟨p1,p2⟩:=List.pairwise_cons.1 hp
  have hn:=hm n (List.mem_cons_self ..)
  rw[qgw]
  rcases Int.lt_or_le m t with h|h
  ·obtain⟨x,hx,hxn⟩:=h2 (m+1) (by omega) (by omega)
   have e:n.Number=m+1:=by
    rcases List.mem_cons.1 hx with rfl|hx
    ·exact hxn
    ·have:=p1 x hx;omega
   rw[if_pos e]
   refine qtb s (m+1) t p2 (fun x hx=>by have:=p1 x hx;omega) (by omega) fun q hq1 hq2=>?_
   obtain⟨y,hy,hyq⟩:=h2 q (by omega) hq2
   rcases List.mem_cons.1 hy with rfl|hy
   ·omega
   ·exact⟨y,hy,hyq⟩
  ·split
   ·have:=(show m+1≤qgw s (m+1)from cnt_le s (m+1))
    omega
   ·exact h
where
 cnt_le: ∀(s:List qf) (m:Int),m≤qgw s m
  |[],m=>Int.le_refl _
  |n::s,m=>by
   rw[qgw]
   split
   ·have:=cnt_le s (m+1);omega
   ·exact Int.le_refl _
theorem qo3: ∀(s:List qf) (m q:Int),m<q→q≤qgw s m→ ∃n∈s,n.Number=q
 |[],m,q,h1,h2=>by rw[qgw]at h2;omega
 |n::s,m,q,h1,h2=>by
  rw[qgw]at h2
  split at h2
  ·rename_i e
   rcases Int.lt_or_le (m+1) q with h|h
   ·obtain⟨x,hx,hxq⟩:=qo3 s (m+1) q h h2
    exact⟨x,List.mem_cons_of_mem _ hx,hxq⟩
   ·exact⟨n,List.mem_cons_self ..,by omega⟩
  ·omega
theorem qvH {p n:qf}:qeX p n=false↔ltL n.Desk p.Desk=false∧(n.Desk=p.Desk→p.Number<n.Number∧p.Clock<n.Clock):=by
 unfold qeX
 simp only[Bool.or_eq_false_iff,Bool.and_eq_false_iff,beq_eq_false_iff_ne,decide_eq_false_iff_not]
 constructor
 ·rintro⟨h1,h2⟩
  refine⟨h1,fun e=>?_⟩
  rcases h2 with h2|h2
  ·exact absurd e h2
  ·omega
 ·rintro⟨h1,h2⟩
  refine⟨h1,?_⟩
  by_cases e:n.Desk=p.Desk
  ·have:=h2 e
   exact .inr (by omega)
  ·exact .inl e
theorem qsQ {a b c:qf} (h:qeX a b=false) (k:qeX b c=false):qeX a c=false:=by
 rw[qvH]at h k⊢
 obtain⟨h1,h2⟩:=h
 obtain⟨k1,k2⟩:=k
 have hab:a.Desk=b.Desk∨ltL a.Desk b.Desk=true:=by
  cases e:ltL a.Desk b.Desk with
  |true=>exact .inr rfl
  |false=>exact .inl (qhi _ _ e h1)
 have hca:ltL c.Desk a.Desk=false:=by
  cases e:ltL c.Desk a.Desk with
  |false=>rfl
  |true=>
   rcases hab with e2|e2
   ·rw[e2,k1]at e;cases e
   ·rw[qfz e e2]at k1;cases k1
 refine⟨hca,fun e=>?_⟩
 have eb:b.Desk=a.Desk:=by
  rcases hab with e2|e2
  ·exact e2.symm
  ·rw[←e,k1]at e2;cases e2
 have q1:=h2 eb
 have q2:=k2 (e.trans eb.symm)
 omega
theorem qoF: ∀(l:List qf) (p:Option qf),qjm p l=0→(∀q,p=some q→ ∀n∈l,qeX q n=false)∧(l.Pairwise fun a b=>qeX a b=false)∧ ∀n∈l,qcb n=0
 |[],p,_=>⟨by simp,List.Pairwise.nil,by simp⟩
 |n::l,p,h=>by
  rw[qgF]at h
  by_cases h1:qcb n=0
  ·rw[if_neg (fun x=>x h1)]at h
   by_cases h2:qnO p n=true
   ·rw[if_pos h2]at h;cases h
   ·rw[if_neg h2]at h
    obtain⟨a,b,c⟩:=qoF l (some n) h
    refine⟨fun q hq x hx=>?_,List.Pairwise.cons (fun x hx=>a n rfl x hx) b,fun x hx=>?_⟩
    ·subst hq
     have hb:qeX q n=false:=by simpa[qnO]using h2
     rcases List.mem_cons.1 hx with rfl|hx
     ·exact hb
     ·exact qsQ hb (a n rfl x hx)
    ·rcases List.mem_cons.1 hx with rfl|hx
     ·exact h1
     ·exact c x hx
  ·rw[if_pos h1]at h;exact absurd h h1
theorem qrM: ∀(l:List qf) (p:Option qf),(∀q,p=some q→ ∀n∈l,qeX q n=false)→(l.Pairwise fun a b=>qeX a b=false)→(∀n∈l,qcb n=0)→qjm p l=0
 |[],p,_,_,_=>rfl
 |n::l,p,h1,h2,h3=>by
  obtain⟨p1,p2⟩:=List.pairwise_cons.1 h2
  rw[qgF,if_neg (fun x=>x (h3 n (List.mem_cons_self ..)))]
  have hb:qnO p n=false:=by
   cases p with
   |none=>rfl
   |some q=>exact h1 q rfl n (List.mem_cons_self ..)
  rw[if_neg (by simp[hb])]
  exact qrM l (some n) (fun q hq x hx=>by injection hq with hq;subst hq;exact p1 x hx) p2 fun x hx=>h3 x (List.mem_cons_of_mem _ hx)
theorem qkd {l s:List qf} (h:checkN l=0) (hs:s.Sublist l):checkN s=0:=by
 unfold checkN at h⊢
 split at h
 ·cases h
 ·have:=hs.length_le
  rw[if_neg (by omega)]
  obtain⟨_,b,c⟩:=qoF l none h
  exact qrM s none (by simp) (b.sublist hs) fun n hn=>c n (hs.subset hn)
def qks:Nat→List qf→List zo
 |0,_=>[]
 |_+1,[]=>[]
 |t+1,n::l=>⟨n.Desk,qgw ((n::l).takeWhile (jT n.Desk)) 0⟩::qks t ((n::l).dropWhile (jT n.Desk))
theorem qnV: ∀(s:List qf) (m:Int),m≤qgw s m∧qgw s m≤m+s.length
 |[],m=>⟨Int.le_refl _,by simp[qgw]⟩
 |n::s,m=>by
  rw[qgw]
  split
  ·have:=qnV s (m+1)
   simp only[List.length_cons]
   omega
  ·simp only[List.length_cons]
   omega
theorem qth {N:Nat} {l:List qf} (hl:l.length≤1003) (hN:2000<N): ∀(t i K:Nat) (acc:List zo),l.length-i≤t→i≤l.length→l.length<K+i→acc.length≤i→
 qae N l K acc (i:Int)=some (acc++qks t (l.drop i))
 |t,i,0,acc,h1,h2,h3,h5=>by omega
 |t,i,K+1,acc,h1,h2,h3,h5=>by
  by_cases hi:i<l.length
  ·have hx:l[i]? =some l[i]:=List.getElem?_eq_getElem hi
   obtain⟨g',hg'⟩: ∃g',(l.drop i).takeWhile (jT l[i].Desk)=l[i]::g':=by
    rw[List.drop_eq_getElem_cons hi,List.takeWhile_cons,if_pos (by simp[jT])]
    exact⟨_,rfl⟩
   have hsplit:l.drop i=(l[i]::g')++(l.drop i).dropWhile (jT l[i].Desk):=by rw[←hg',List.takeWhile_append_dropWhile]
   have hlen:i+(g'.length+1)≤l.length:=by
    have:=congrArg List.length hsplit
    simp only[List.length_drop,List.length_append,List.length_cons]at this
    omega
   have htake:(l.drop i).take (g'.length+1)=l[i]::g':=by
    rw[hsplit,show g'.length+1=(l[i]::g').length from rfl,List.take_left]
   match t,h1 with
   |0,h1=>omega
   |t+1,h1=>
    have ih:=qth hl hN t (i+(g'.length+1)) K (acc++[⟨l[i].Desk,qgw (l[i]::g') 0⟩]) (by omega) hlen (by omega) (by simp;omega)
    have hglen:(l[i]::g').length=g'.length+1:=rfl
    have hg3:(l[i]::g').length≤1003:=by omega
    have e2:=quY hg3 N 0 0 (by omega) (by omega) (Int.le_refl _) (by omega)
    rw[List.drop_zero]at e2
    rw[qae,if_pos (by omega),zl,hx,Option.bind_some,qur hl _ N i (by omega) (by omega),Option.bind_some,hg',hglen,qmr (by omega) hlen,show i+(g'.length+1)-i=g'.length+1 by omega,htake,Option.bind_some]
    rw[show qaQ (l[i]::g') N 0 0=_ from e2,Option.bind_some,qaL (by simp;omega) (by simp;omega),Option.bind_some]
    rw[ih,List.append_assoc]
    have ed:l.drop (i+(g'.length+1))=(l.drop i).dropWhile (jT l[i].Desk):=by
     rw[←List.drop_drop]
     have:=congrArg (List.drop (g'.length+1)) hsplit
     rw[this,show g'.length+1=(l[i]::g').length from rfl,List.drop_left]
    have ev:qks (t+1) (l.drop i)=⟨l[i].Desk,qgw (l[i]::g') 0⟩::qks t ((l.drop i).dropWhile (jT l[i].Desk)):=by
     rw[←hg']
     rw[List.drop_eq_getElem_cons hi]
     rfl
    rw[ev,ed]
    rfl
  ·rw[qae,if_neg (by omega),List.drop_of_length_le (by omega)]
   cases t<;>simp[qks]
theorem qh7 (d:Str): ∀(l:List qf),qfv l→(∀x∈l,x.Desk=d∨ltL d x.Desk=true)→ ∀z∈l.dropWhile (jT d),ltL d z.Desk=true
 |[],_,_,z,hz=>by simp at hz
 |x::l,ha,hx,z,hz=>by
  obtain⟨h1,h2⟩:=List.pairwise_cons.1 ha
  rw[List.dropWhile_cons]at hz
  by_cases hd:jT d x=true
  ·rw[if_pos hd]at hz
   exact qh7 d l h2 (fun y hy=>hx y (List.mem_cons_of_mem _ hy)) z hz
  ·rw[if_neg hd]at hz
   have h0:ltL d x.Desk=true:=by
    rcases hx x (List.mem_cons_self ..)with e|e
    ·exact absurd (beq_iff_eq.2 e) hd
    ·exact e
   rcases List.mem_cons.1 hz with rfl|hz
   ·exact h0
   ·have:=h1 z hz
    unfold ltN at this
    rcases Bool.or_eq_true _ _▸this with e|e
    ·exact qfz h0 e
    ·simp only[Bool.and_eq_true,beq_iff_eq]at e
     rw[←e.1];exact h0
theorem qko {n:qf} {l:List qf} (ha:qfv (n::l)): ∀x∈n::l,x.Desk=n.Desk∨ltL n.Desk x.Desk=true:=by
 intro x hx
 rcases List.mem_cons.1 hx with rfl|hx
 ·exact .inl rfl
 ·have:=(List.pairwise_cons.1 ha).1 x hx
  unfold ltN at this
  rcases Bool.or_eq_true _ _▸this with e|e
  ·exact .inr e
  ·simp only[Bool.and_eq_true,beq_iff_eq]at e
   exact .inl e.1.symm
theorem qqH {a b:Str} (h:ltL a b=true):(b==a)=false:=by
 cases e:b==a with
 |false=>rfl
 |true=>rw[beq_iff_eq.1 e,qdJ]at h;cases h
theorem qnv {n:qf} {l:List qf} (ha:qfv (n::l)):(n::l).takeWhile (jT n.Desk)=(n::l).filter (jT n.Desk):=by
 have h:=qh7 n.Desk (n::l) ha (qko ha)
 have e:(n::l).filter (jT n.Desk)=((n::l).takeWhile (jT n.Desk)++(n::l).dropWhile (jT n.Desk)).filter (jT n.Desk):=by rw[List.takeWhile_append_dropWhile]
 rw[e,List.filter_append,List.filter_eq_self.2 (fun x hx=>List.all_eq_true.1 List.all_takeWhile x hx),List.filter_eq_nil_iff.2 (fun x hx=>by have:=h x hx;unfold jT;rw[qqH this];simp),List.append_nil]
theorem qno {n:qf} {l:List qf} {d:Str} (hd:(d==n.Desk)=false):((n::l).dropWhile (jT n.Desk)).filter (jT d)=(n::l).filter (jT d):=by
 have e:(n::l).filter (jT d)=((n::l).takeWhile (jT n.Desk)++(n::l).dropWhile (jT n.Desk)).filter (jT d):=by rw[List.takeWhile_append_dropWhile]
 rw[e,List.filter_append]
 have h0:((n::l).takeWhile (jT n.Desk)).filter (jT d)=[]:=by
  rw[List.filter_eq_nil_iff]
  intro x hx
  have:=List.all_eq_true.1 (List.all_takeWhile (l:=n::l) (p:=jT n.Desk)) x hx
  unfold jT at this⊢
  rw[beq_iff_eq.1 this]
  intro e2
  rw[beq_iff_eq.1 e2]at hd
  simp at hd
 rw[h0,List.nil_append]
theorem qmj (n:qf) (l:List qf):((n::l).dropWhile (jT n.Desk)).length≤l.length:=by
 rw[List.dropWhile_cons,if_pos (by simp[jT])]
 exact(List.dropWhile_sublist _).length_le
theorem qoD {n:qf} {l:List qf} (ha:qfv (n::l)):qfv ((n::l).dropWhile (jT n.Desk)):=ha.sublist (List.dropWhile_sublist _)
def qhC (l:List qf) (d:Str):Int:=qgw (l.filter (jT d)) 0
theorem qtU {l:List qf} {d:Str} (h:l.any (jT d)=false):qhC l d=0:=by
 unfold qhC
 rw[List.filter_eq_nil_iff.2 (fun x hx=>by have:=List.any_eq_false.1 h x hx;exact this)]
 rfl
theorem qrn: ∀(t:Nat) (l:List qf) (h:Int) (d:Str),l.length≤t→qfv l→qnM h (qks t l) d=if l.any (jT d)=true then qhC l d else h
 |0,l,h,d,ht,_=>by
  obtain rfl:=List.length_eq_zero_iff.1 (Nat.le_zero.1 ht)
  rfl
 |t+1,[],h,d,_,_=>rfl
 |t+1,n::l,h,d,ht,ha=>by
  have hlen:=qmj n l
  have ih:=fun h=>qrn t ((n::l).dropWhile (jT n.Desk)) h d (by simp only[List.length_cons]at ht;omega) (qoD ha)
  have e:qnM h (qks (t+1) (n::l)) d=qnM (if(n.Desk==d)=true then qgw ((n::l).takeWhile (jT n.Desk)) 0 else h) (qks t ((n::l).dropWhile (jT n.Desk))) d:=rfl
  rw[e,ih]
  have hlt:=qh7 n.Desk (n::l) ha (qko ha)
  by_cases hd:n.Desk=d
  ·subst hd
   rw[if_pos (beq_self_eq_true _)]
   have h1:((n::l).dropWhile (jT n.Desk)).any (jT n.Desk)=false:=List.any_eq_false.2 fun x hx=>by have:=hlt x hx;unfold jT;rw[qqH this];simp
   rw[h1,if_neg (by simp),if_pos (by simp[jT]),qnv ha]
   rfl
  ·have hd1:(n.Desk==d)=false:=beq_eq_false_iff_ne.2 hd
   have hd2:(d==n.Desk)=false:=beq_eq_false_iff_ne.2 (Ne.symm hd)
   simp only[hd1,Bool.false_eq_true,if_false]
   have ef:=qno (n:=n) (l:=l) hd2
   have ea:((n::l).dropWhile (jT n.Desk)).any (jT d)=(n::l).any (jT d):=by
    have: ∀m:List qf,m.any (jT d)=!(m.filter (jT d)).isEmpty:=by
     intro m
     induction m with
     |nil=>rfl
     |cons a m ih=>
      rw[List.any_cons,List.filter_cons,ih]
      cases jT d a<;>simp
    rw[this,this,ef]
   rw[ea]
   unfold qhC
   rw[ef]
theorem qom: ∀(t:Nat) (l:List qf),l.length≤t→qfv l→ ∀m∈qks t l,m.Number=qhC l m.Desk∧ ∃n∈l,n.Desk=m.Desk
 |0,l,ht,_,m,hm=>by cases hm
 |t+1,[],_,_,m,hm=>by cases hm
 |t+1,n::l,ht,ha,m,hm=>by
  have hlen:=qmj n l
  rcases List.mem_cons.1 hm with rfl|hm
  ·refine⟨?_,n,List.mem_cons_self ..,rfl⟩
   show qgw ((n::l).takeWhile (jT n.Desk)) 0=qhC (n::l) n.Desk
   rw[qnv ha]
   rfl
  ·obtain⟨h1,x,hx,h2⟩:=qom t ((n::l).dropWhile (jT n.Desk)) (by simp only[List.length_cons]at ht;omega) (qoD ha) m hm
   have hlt:=qh7 n.Desk (n::l) ha (qko ha) x hx
   refine⟨?_,x,(List.dropWhile_sublist _).subset hx,h2⟩
   rw[h1]
   unfold qhC
   rw[qno (by rw[←h2];exact qqH hlt)]
theorem qrr: ∀(t:Nat) (l:List qf),(qks t l).length≤l.length
 |0,l=>by simp[qks]
 |t+1,[]=>by simp[qks]
 |t+1,n::l=>by
  have:=qrr t ((n::l).dropWhile (jT n.Desk))
  have hlen:=qmj n l
  rw[qks]
  simp only[List.length_cons]
  omega
theorem qrh: ∀(t:Nat) (l:List qf) (p:Option zo),l.length≤t→l.length≤1000→qfv l→(∀n∈l,qcb n=0)→(∀q,p=some q→ ∀n∈l,ltL q.Desk n.Desk=true)→qrG p (qks t l)=0
 |0,l,p,_,_,_,_,_=>rfl
 |t+1,[],p,_,_,_,_,_=>rfl
 |t+1,n::l,p,ht,h1,ha,hn,hp=>by
  have hlen:=qmj n l
  have hlt:=qh7 n.Desk (n::l) ha (qko ha)
  rw[qks,qpP]
  have hnm:qd3 n.Desk=true:=by
   have:=hn n (List.mem_cons_self ..)
   unfold qcb at this
   cases e:qd3 n.Desk with
   |true=>rfl
   |false=>rw[e]at this;simp at this
  have hc:=qnV ((n::l).takeWhile (jT n.Desk)) 0
  have hc2:((n::l).takeWhile (jT n.Desk)).length≤(n::l).length:=(List.takeWhile_sublist _).length_le
  have hme:qiF ⟨n.Desk,qgw ((n::l).takeWhile (jT n.Desk)) 0⟩=0:=by
   unfold qiF
   simp only[hnm]
   unfold qbL
   rw[if_neg (by simp),if_neg]
   simp only[List.length_cons]at*
   simp
   omega
  rw[hme,if_neg (by simp)]
  have hb:qtI p ⟨n.Desk,qgw ((n::l).takeWhile (jT n.Desk)) 0⟩=false:=by
   cases p with
   |none=>rfl
   |some q=>
    show(!(ltL q.Desk n.Desk))=false
    rw[hp q rfl n (List.mem_cons_self ..)]
    rfl
  rw[hb,if_neg (by simp)]
  exact qrh t _ _ (by simp only[List.length_cons]at ht;omega) (by simp only[List.length_cons]at h1;omega) (qoD ha) (fun x hx=>hn x ((List.dropWhile_sublist _).subset hx)) fun q hq x hx=>by
   injection hq with hq
   subst hq
   exact hlt x hx
theorem qtT {N:Nat} (hN:2000<N) {l:List qf} (hs:qdV l) (hl:l.length≤1000) (h0:checkN l=0): ∃v,qed N l=some (v,0)∧v.length≤l.length∧qlb v=0∧qqy v∧(∀m∈v,m.Number=qhC l m.Desk)∧(∀h d,qnM h v d=if l.any (jT d)=true then qhC l d else h):=by
 have hc:qjm none l=0:=by
  unfold checkN at h0
  split at h0
  ·cases h0
  ·exact h0
 obtain⟨_,ha,hr⟩:=qqA l none hc
 obtain⟨_,_,hg⟩:=qoF l none hc
 have hv:=qth (N:=N) (l:=l) (by omega) hN l.length 0 N [] (by omega) (by omega) (by omega) (by simp)
 have hlv:=qrr l.length l
 refine⟨qks l.length l,?_,hlv,?_,?_,?_,fun h d=>qrn _ l h d (Nat.le_refl _) ha⟩
 ·unfold qed
  rw[qaX hN hs,Option.bind_some,h0,if_neg (by simp),show qae N l N [] 0=_ from hv]
  rfl
 ·unfold qlb
  rw[if_neg (by omega)]
  exact qrh _ l none (Nat.le_refl _) hl ha hg (by simp)
 ·intro m hm
  obtain⟨_,n,hn,e⟩:=qom _ l (Nat.le_refl _) ha m hm
  rw[←e]
  exact(hs n hn).1
 ·intro m hm
  exact(qom _ l (Nat.le_refl _) ha m hm).1
theorem qlc: ∀{l r:List qf},qfv l→qfv r→(∀x,x∈l↔x∈r)→l=r
 |[],[],_,_,_=>rfl
 |[],b::r,_,_,h=>by have:=(h b).2 (List.mem_cons_self ..);cases this
 |a::l,[],_,_,h=>by have:=(h a).1 (List.mem_cons_self ..);cases this
 |a::l,b::r,hl,hr,h=>by
  obtain⟨l1,l2⟩:=List.pairwise_cons.1 hl
  obtain⟨r1,r2⟩:=List.pairwise_cons.1 hr
  have e:a=b:=by
   rcases List.mem_cons.1 ((h a).1 (List.mem_cons_self ..))with e|e
   ·exact e
   ·rcases List.mem_cons.1 ((h b).2 (List.mem_cons_self ..))with e2|e2
    ·exact e2.symm
    ·have:=qp6 (r1 a e) (l1 b e2)
     rw[qls]at this;cases this
  subst e
  congr 1
  refine qlc l2 r2 fun x=>⟨fun hx=>?_,fun hx=>?_⟩
  ·rcases List.mem_cons.1 ((h x).1 (List.mem_cons_of_mem _ hx))with e|e
   ·subst e
    have:=l1 x hx
    rw[qls]at this;cases this
   ·exact e
  ·rcases List.mem_cons.1 ((h x).2 (List.mem_cons_of_mem _ hx))with e|e
   ·subst e
    have:=r1 x hx
    rw[qls]at this;cases this
   ·exact e
noncomputable instance decN:DecidableEq qf:=fun _ _=>Classical.propDecidable _
noncomputable def seen (l S:List qf):List qf:=l.filter fun n=>decide (n∈S)
theorem mem_seen {l S:List qf} {x:qf}:x∈seen l S↔x∈l∧x∈S:=by simp[seen]
theorem qdA (l S:List qf):(seen l S).Sublist l:=List.filter_sublist
theorem qvv {l S:List qf} (ha:qfv l) {x:qf} (hx:x∈l):qkw (seen l S) x=true↔x∈S:=by
 unfold qkw
 rw[List.any_eq_true]
 constructor
 ·rintro⟨y,hy,hs⟩
  obtain⟨h1,h2⟩:=mem_seen.1 hy
  have:=qmk ha h1 hx hs (qbO.2 ⟨rfl,rfl⟩)
  rw[←this];exact h2
 ·intro h
  exact⟨x,mem_seen.2 ⟨hx,h⟩,qbO.2 ⟨rfl,rfl⟩⟩
theorem qsT {l S:List qf} (ha:qfv l) {x:qf} (hx:x∈l):qgK (seen l S) x=false:=by
 unfold qgK
 rw[List.any_eq_false]
 intro y hy
 cases hs:qek y x with
 |false=>simp
 |true=>
  have:=qmk ha (mem_seen.1 hy).1 hx hs (qbO.2 ⟨rfl,rfl⟩)
  subst this
  simp[qp5]
theorem qv8 {l S:List qf} (ha:qfv l) (h0:checkN l=0) {x:qf} (hx:x∈l):qta (seen l S) [x]=(seen l (x::S),0):=by
 unfold qta
 rw[List.any_cons,qsT ha hx,List.any_nil,if_neg (by simp)]
 have aS: ∀S,qfv (seen l S):=fun S=>ha.sublist (qdA l S)
 have hd:Dist (seen l S++qha (seen l S) [x]):=quF (aS S) (by simp)
 have e:qcF (seen l S++qha (seen l S) [x])=seen l (x::S):=by
  refine qlc (qtD hd) (aS _) fun y=>?_
  rw[(qk7 _).mem_iff,List.mem_append,mem_seen,mem_seen]
  unfold qha
  rw[List.mem_filter,List.mem_singleton,List.mem_cons]
  constructor
  ·rintro(⟨h1,h2⟩|⟨rfl,h2⟩)
   ·exact⟨h1,.inr h2⟩
   ·exact⟨hx,.inl rfl⟩
  ·rintro⟨h1,rfl|h2⟩
   ·by_cases hm:y∈S
    ·exact .inl ⟨h1,hm⟩
    ·refine .inr ⟨rfl,?_⟩
     cases e:qkw (seen l S) y with
     |false=>rfl
     |true=>exact absurd ((qvv ha hx).1 e) hm
   ·exact .inl ⟨h1,h2⟩
 rw[e]
 unfold endN
 rw[if_pos (qkd h0 (qdA l _))]
theorem qww {s:List qf} (ha:qfv s) (d:Str):(s.filter (jT d)).Pairwise fun a b=>a.Number<b.Number:=by
 refine(ha.sublist List.filter_sublist).imp_of_mem fun {a b} h1 h2 h3=>?_
 have e1:=(List.mem_filter.1 h1).2
 have e2:=(List.mem_filter.1 h2).2
 unfold jT at e1 e2
 unfold ltN at h3
 rw[beq_iff_eq.1 e1,beq_iff_eq.1 e2,qdJ]at h3
 simpa using h3
theorem qqr {l:List qf} (h0:checkN l=0):qfv l∧ ∀n∈l,1≤n.Number∧n.Number≤1000:=by
 unfold checkN at h0
 split at h0
 ·cases h0
 ·exact(qqA l none h0).2
theorem qul {s t:List qf} (h0:checkN t=0) (hst:s.Sublist t) (d:Str):qhC s d≤qhC t d:=by
 obtain⟨ha,hn⟩:=qqr h0
 unfold qhC
 refine qtb _ 0 _ (qww ha d) (fun n h=>by have:=hn n (List.mem_filter.1 h).1;omega) (qnV _ 0).1 fun q h1 h2=>?_
 obtain⟨n,hn1,hn2⟩:=qo3 _ 0 q h1 h2
 obtain⟨m1,m2⟩:=List.mem_filter.1 hn1
 exact⟨n,List.mem_filter.2 ⟨hst.subset m1,m2⟩,hn2⟩
theorem qtw (l:List qf) (d:Str):0≤qhC l d∧qhC l d≤l.length:=by
 have h:=qnV (l.filter (jT d)) 0
 have:=List.length_filter_le (jT d) l
 unfold qhC
 omega
theorem qpk {α:Type} (p:α→Bool): ∀l:List α,(l.filter p).length+(l.filter fun x=>!p x).length=l.length
 |[]=>rfl
 |a::l=>by
  have:=qpk p l
  rw[List.filter_cons,List.filter_cons]
  cases p a<;>simp<;>omega
theorem qnF {α:Type} {p q:α→Bool}: ∀{l:List α},(∀x∈l,p x=true→q x=true)→(l.filter p).length≤(l.filter q).length
 |[],_=>Nat.le_refl _
 |a::l,h=>by
  have ih:=qnF (p:=p) (q:=q) (l:=l) fun x hx=>h x (List.mem_cons_of_mem _ hx)
  have ha:=h a (List.mem_cons_self ..)
  rw[List.filter_cons,List.filter_cons]
  cases hp:p a with
  |false=>cases q a<;>simp<;>omega
  |true=>rw[ha hp];simp;omega
theorem qwM {l S:List qf} (h0:checkN l=0) {v:List zo} (hv: ∀h d,qnM h v d=if(seen l S).any (jT d)=true then qhC (seen l S) d else h):l.length≤(qql l v).length+(seen l S).length:=by
 obtain⟨ha,hn⟩:=qqr h0
 have h2:=qpk (fun n=>decide (n∈S)) l
 have h3:(l.filter fun x=>!decide (x∈S)).length≤(qql l v).length:=by
  refine qnF fun x hx hp=>?_
  have hxS:x∉S:=by simpa using hp
  have hx1:=(hn x hx).1
  refine decide_eq_true ?_
  rw[hv]
  split
  ·rcases Int.lt_or_le (qhC (seen l S) x.Desk) x.Number with h|h
   ·exact h
   ·obtain⟨y,hy1,hy2⟩:=qo3 _ 0 x.Number (by omega) h
    obtain⟨hy3,hy4⟩:=List.mem_filter.1 hy1
    obtain⟨hy5,hy6⟩:=mem_seen.1 hy3
    have:=qmk ha hy5 hx (n:=x) (qbO.2 ⟨beq_iff_eq.1 hy4,hy2⟩) (qbO.2 ⟨rfl,rfl⟩)
    subst this
    exact absurd hy6 hxS
  ·omega
 unfold seen
 omega
theorem qv7 {l S:List qf} (h: ∀x∈l,x∈S):seen l S=l:=List.filter_eq_self.2 fun x hx=>decide_eq_true (h x hx)
def qh1 (x:Int):Int:=(39373*x)%2147483647
def qbm (key:Int):Nat→List Int×Int
 |0=>([],key)
 |i+1=>((qbm key i).1.take (qh1 (qbm key i).2%(i+1:Int)).toNat++[(i:Int)]++(qbm key i).1.drop (qh1 (qbm key i).2%(i+1:Int)).toNat,qh1 (qbm key i).2)
theorem qxm {key:Int} (h:0≤key∧key<2147483647): ∀i,0≤(qbm key i).2∧(qbm key i).2<2147483647
 |0=>h
 |i+1=>⟨Int.emod_nonneg _ (by decide),Int.emod_lt_of_pos _ (by decide)⟩
theorem qu6 (x:Int) (i:Nat):0≤x%(i+1:Int)∧x%(i+1:Int)≤i:=⟨Int.emod_nonneg _ (by omega),by have:=Int.emod_lt_of_pos x (show(0:Int)<i+1 by omega);omega⟩
theorem qoE (key:Int): ∀i,(qbm key i).1.length=i
 |0=>rfl
 |i+1=>by
  have h:=qu6 (qh1 (qbm key i).2) i
  simp only[qbm,List.length_append,List.length_take,List.length_drop,List.length_cons,List.length_nil,qoE key i]
  omega
def oD (key:Int) (i:Nat):Option (List Int):=if i=0 then none else some (qbm key i).1
theorem qxF (key:Int) (n:Nat):hof (oD key n)=(qbm key n).1:=by
 unfold oD
 split
 ·rename_i h;subst h;rfl
 ·rfl
theorem qs5 {key:Int} (h:0≤key∧key<2147483647) (n:Nat) (hn:n≤256): ∀(K i:Nat),i≤n→n<K+i→qaU (n:Int) K (oD key i) (qbm key i).2 (i:Int)=some (oD key n)
 |0,i,h1,h2=>by omega
 |K+1,i,h1,h2=>by
  unfold qaU
  by_cases hi:i=n
  ·subst hi
   rw[if_neg (by omega)]
  ·have hx:=qxm h i
   have e1:w64 (39373*(qbm key i).2)=39373*(qbm key i).2:=qcK (by omega) (by omega)
   have e2:(39373*(qbm key i).2).tmod 2147483647=qh1 (qbm key i).2:=Int.tmod_eq_emod_of_nonneg (by omega)
   have hp:=qu6 (qh1 (qbm key i).2) i
   have hx2:0≤qh1 (qbm key i).2:=Int.emod_nonneg _ (by decide)
   have e3:qu3 .i64 (qh1 (qbm key i).2) ((i:Int)+1)=some (qh1 (qbm key i).2%(i+1:Int)):=by
    unfold qu3
    rw[if_neg (by omega),Int.tmod_eq_emod_of_nonneg hx2]
   rw[if_pos (by omega),e1,e2,qcK (n:=(i:Int)+1) (by omega) (by omega),e3,Option.bind_some,qxF]
   have ih:=qs5 h n hn K (i+1) (by omega) (by omega)
   have eo:oD key (i+1)=some (qbm key (i+1)).1:=rfl
   rw[eo]at ih
   have el:=qoE key i
   have ed:(qbm key (i+1)).1=(qbm key i).1.take (qh1 (qbm key i).2%(i+1:Int)).toNat++[(i:Int)]++(qbm key i).1.drop (qh1 (qbm key i).2%(i+1:Int)).toNat:=rfl
   have ex:(qbm key (i+1)).2=qh1 (qbm key i).2:=rfl
   rw[ed,ex]at ih
   generalize qh1 (qbm key i).2%(i+1:Int)=q at hp ih⊢
   obtain⟨q,rfl⟩:=Int.eq_ofNat_of_zero_le hp.1
   have hq:q≤(qbm key i).1.length:=by omega
   rw[qj4 hq,Option.bind_some,qaL (by simp;omega) (by simp;omega),Option.bind_some,qaL (by simp;omega) (by simp;omega),Option.bind_some,qlK hq,Option.bind_some,qaL (by simp;omega) (by simp;omega),Option.bind_some]
   rw[List.nil_append]
   exact ih
theorem qwh {N:Nat} (hN:300<N) {key:Int} (h:0≤key∧key<2147483647) {n:Nat} (hn:n≤256):qef N key (n:Int)=some (oD key n):=by
 unfold qef
 have:=qs5 h n hn N 0 (by omega) (by omega)
 rw[show qaU (n:Int) N (none:Option (List Int)) key 0=_ from this]
 rfl
theorem qra (key:Int): ∀(i:Nat) (x:Int),x∈(qbm key i).1↔0≤x∧x<i
 |0,x=>⟨fun h=>(by cases h),fun h=>(by omega)⟩
 |i+1,x=>by
  have e:x∈(qbm key (i+1)).1↔x=i∨x∈(qbm key i).1:=by
   show x∈(qbm key i).1.take _++[(i:Int)]++(qbm key i).1.drop _↔_
   rw[List.append_assoc,List.singleton_append]
   rw[List.perm_middle.mem_iff,List.take_append_drop,List.mem_cons]
  rw[e,qra key i x]
  omega
theorem qrw (l:List qf) (hl:l.length*48≤140737488355328): ∀(K k:Nat) (o:List qf),k≤l.length→l.length<K+k→o.length=k→
 zT l K o (k:Int)=some (o++l.drop k)
 |0,k,o,h,hK,_=>by omega
 |K+1,k,o,h,hK,ho=>by
  unfold zT
  by_cases hk:k<l.length
  ·rw[if_pos (by omega),zl,List.getElem?_eq_getElem hk,Option.bind_some,qaL (by simp;omega) (by simp;omega),Option.bind_some,zN (by omega),qrw l hl K (k+1) _ (by omega) (by omega) (by simp;omega),List.drop_eq_getElem_cons hk,List.append_assoc]
   rfl
  ·rw[if_neg (by omega),List.drop_of_length_le (by omega),List.append_nil]
theorem qrK {N:Nat} {l:List qf} (hl:l.length*48≤140737488355328) (hN:l.length<N):qag N l=some l:=by
 unfold qag
 have:=qrw l hl N 0 [] (by omega) (by omega) (by simp)
 rw[show zT l N [] 0=_ from this]
 rfl
theorem qrP {r:(List zo)×Int} (hl:r.1.length≤1003) {c:Str→Int} (hc: ∀m∈r.1,m.Number=c m.Desk∧m.Number≤1000000): ∀(K k:Nat) (m:List (Str×Int)),k≤r.1.length→r.1.length<K+k→(∀d,(qeA m d).getD 0≤c d)→
 ∃m',zi r K m (k:Int)=some (.inl m')∧ ∀d,(qeA m' d).getD 0=qnM ((qeA m d).getD 0) (r.1.drop k) d
 |0,k,m,h,hK,_=>by omega
 |K+1,k,m,h,hK,hm=>by
  unfold zi
  by_cases hk:k<r.1.length
  ·obtain⟨c1,c2⟩:=hc r.1[k] (List.getElem_mem hk)
   rw[if_pos (by omega),zl,List.getElem?_eq_getElem hk,Option.bind_some,if_neg (by have:=hm (r.1[k]).Desk;omega),Option.bind_some,decide_eq_false (by omega),if_neg (by simp),Option.bind_some,zN (by omega)]
   obtain⟨m',h1,h2⟩:=qrP hl hc K (k+1) (qjQ m (r.1[k]).Desk (r.1[k]).Number) (by omega) (by omega) (fun d=>by
    rw[qlM]
    by_cases e:d=(r.1[k]).Desk
    ·subst e
     rw[if_pos (beq_self_eq_true _)]
     show(r.1[k]).Number≤_
     omega
    ·rw[if_neg (by simpa using e)]
     exact hm d)
   refine⟨m',h1,fun d=>?_⟩
   rw[h2,List.drop_eq_getElem_cons hk,qlM]
   unfold qnM
   rw[List.foldl_cons]
   congr 1
   have:(d==(r.1[k]).Desk)=((r.1[k]).Desk==d):=Bool.eq_iff_iff.2 ⟨fun e=>by rw[eq_of_beq e];exact beq_self_eq_true _,fun e=>by rw[eq_of_beq e];exact beq_self_eq_true _⟩
   rw[this]
   split<;>rfl
  ·rw[if_neg (by omega),List.drop_of_length_le (by omega)]
   exact⟨m,rfl,fun _=>rfl⟩
theorem qpw {l S:List qf} (hs:qdV l):qdV (seen l S):=fun n hn=>hs n (mem_seen.1 hn).1
theorem quS {N:Nat} (hN:4000<N) {l:List qf} (hs:qdV l) (hl:l.length≤12) (h0:checkN l=0) {o:List Int} (ho:o.length≤24) (hr: ∀x∈o,0≤x∧x<l.length): ∀(K k:Nat) (S:List qf) (m:List (Str×Int)),k≤o.length→o.length<K+k→
 (∀d,(qeA m d).getD 0=qhC (seen l S) d)→
 ∃S',zh N l o K m (k:Int) (seen l S)=some (.inl (seen l S'))∧(∀x∈S,x∈S')∧ ∀i∈o.drop k,∀x,l[i.toNat]? =some x→x∈S'
 |0,k,S,m,h,hK,_=>by omega
 |K+1,k,S,m,h,hK,hm=>by
  have ha:=(qqr h0).1
  unfold zh
  by_cases hk:k<o.length
  ·obtain⟨r0,r1⟩:=hr o[k] (List.getElem_mem hk)
   obtain⟨i,hi⟩:=Int.eq_ofNat_of_zero_le r0
   have hil:i<l.length:=by omega
   have hx:l[i]∈l:=List.getElem_mem hil
   have e1:(l.drop i).take (i+1-i)=[l[i]]:=by
    rw[List.drop_eq_getElem_cons hil,show i+1-i=1 by omega]
    rfl
   have hc0:checkN (seen l S)=0:=qkd h0 (qdA l S)
   have hc1:checkN [l[i]]=0:=qkd h0 (List.singleton_sublist.2 hx)
   have hln:(seen l S).length≤l.length:=(qdA l S).length_le
   have g:=qss (N:=N) hN (a:=seen l S) (b:=[l[i]]) (qpw hs) (fun n hn=>by rw[List.mem_singleton.1 hn];exact hs _ hx) hc0 hc1 (ha.sublist (qdA l S)) (by simp) (by omega) (by simp)
   rw[qv8 ha h0 hx]at g
   have hc2:checkN (seen l (l[i]::S))=0:=qkd h0 (qdA l _)
   have hln2:(seen l (l[i]::S)).length≤l.length:=(qdA l _).length_le
   obtain⟨v,v1,v2,v3,v4,v5,v6⟩:=qtT (N:=N) (by omega) (qpw (S:=l[i]::S) hs) (by omega) hc2
   rw[if_pos (by omega),zl,List.getElem?_eq_getElem hk,Option.bind_some,hi,zN (by omega),qmr (by omega) (by omega),e1,Option.bind_some,g,Option.bind_some]
   simp only
   rw[v1,Option.bind_some]
   have hmono: ∀d,qhC (seen l S) d≤qhC (seen l (l[i]::S)) d:=fun d=>by
    refine qul hc2 ?_ d
    have:seen l S=seen (seen l (l[i]::S)) S:=by
     refine qlc (ha.sublist (qdA l S)) ((ha.sublist (qdA l _)).sublist (qdA _ _)) fun y=>?_
     rw[mem_seen,mem_seen,mem_seen,List.mem_cons]
     exact⟨fun⟨a,b⟩=>⟨⟨a,.inr b⟩,b⟩,fun⟨⟨a,_⟩,b⟩=>⟨a,b⟩⟩
    rw[this]
    exact qdA _ _
   obtain⟨m',m1,m2⟩:=qrP (r:=(v,0)) (c:=qhC (seen l (l[i]::S))) (by show v.length≤1003;omega) (fun x hx=>⟨v5 x hx,by rw[v5 x hx];have:=qtw (seen l (l[i]::S)) x.Desk;omega⟩) N 0 m (by omega) (by show v.length<N+0;omega) (fun d=>by rw[hm];exact hmono d)
   have m1:zi (v,0) N m 0=some (.inl m'):=m1
   simp only[decide_true,Bool.not_true,Bool.false_eq_true,if_false,Option.bind_some,m1]
   rw[decide_eq_false (by omega),if_neg (by simp),qsR (by omega) hs v4 (by omega) (by omega),Option.bind_some,(qxM _ _).2 ⟨h0,v3⟩]
   simp only[decide_true,Bool.not_true,Bool.false_eq_true,if_false,Option.bind_some,if_true]
   have hlk:=qwM (S:=l[i]::S) h0 v6
   have e5:w64 ((l.length:Int)-((seen l (l[i]::S)).length:Int))=(l.length:Int)-((seen l (l[i]::S)).length:Int):=qcK (by omega) (by omega)
   rw[e5,decide_eq_false (by omega),if_neg (by simp),zN (by omega)]
   obtain⟨S',s1,s2,s3⟩:=quS hN hs hl h0 ho hr K (k+1) (l[i]::S) m' (by omega) (by omega) (fun d=>by
    rw[m2,List.drop_zero,v6]
    split
    ·rfl
    ·rename_i hn
     have hn:(seen l (l[i]::S)).any (jT d)=false:=by simpa using hn
     have z1:=qtU hn
     have z2:=hmono d
     have z3:=(qtw (seen l S) d).1
     rw[hm,z1]
     omega)
   refine⟨S',s1,fun x hx=>s2 x (List.mem_cons_of_mem _ hx),fun j hj x hx=>?_⟩
   rw[List.drop_eq_getElem_cons hk]at hj
   rcases List.mem_cons.1 hj with rfl|hj
   ·rw[hi]at hx
    simp only[Int.toNat_natCast]at hx
    rw[List.getElem?_eq_getElem hil]at hx
    injection hx with hx
    subst hx
    exact s2 _ (List.mem_cons_self ..)
   ·exact s3 j hj x hx
  ·rw[if_neg (by omega)]
   refine⟨S,rfl,fun x hx=>hx,fun j hj=>?_⟩
   rw[List.drop_of_length_le (by omega)]at hj
   cases hj
theorem qhz (l:List qf) (key:Int) (hb:l.length*48≤140737488351232) (hk:0≤key∧key≤65535):qaC (5000+l.length) l key=some true:=by
 have hN:4000<5000+l.length:=by omega
 have hNl:l.length<5000+l.length:=by omega
 have hM:5000+l.length<4611686018427387904:=by omega
 generalize 5000+l.length=N at*
 have hN2:2000<N:=by omega
 unfold qaC
 rw[qrK (by omega) hNl,Option.bind_some]
 obtain⟨c1,s1,t1⟩:=qpJ hN2 l 12 (by omega)
 have s1:qbQ N l 12=some c1:=s1
 rw[s1,Option.bind_some]
 cases c1 with
 |false=>rfl
 |true=>
  obtain⟨hs,hl,hl2⟩:=t1 rfl
  rw[if_neg (by simp)]
  by_cases h12:(l.length:Int)>12
  ·rw[if_pos h12]
   rfl
  rw[if_neg h12,qpt hN2 hs,Option.bind_some,Option.bind_some]
  by_cases h0:checkN l=0
  ·simp only[h0,decide_true,Bool.not_true,Bool.false_eq_true,if_false]
   have hl12:l.length≤12:=by omega
   have e1:w64 (1+(w64 key))=1+key:=by rw[qcK (n:=key) (by omega) (by omega),qcK (by omega) (by omega)]
   rw[e1,qwh (by omega) (by omega) (by omega),Option.bind_some]
   have eo: ∃o:List Int,((match oD (1+key) l.length with
    |none=>some []
    |some l13=>(app 8 l13 l13).bind fun l14=>some l14):Option (List Int))=some o∧o.length≤24∧ ∀x,x∈o↔0≤x∧x<l.length:=by
    unfold oD
    split
    ·rename_i h
     split at h
     ·rename_i h2
      exact⟨[],rfl,by simp,fun x=>⟨fun h=>(by cases h),fun h=>(by omega)⟩⟩
     ·cases h
    ·rename_i l13 h
     split at h
     ·cases h
     ·injection h with h
      have hlen:=qoE (1+key) l.length
      rw[h]at hlen
      refine⟨l13++l13,?_,by simp;omega,fun x=>?_⟩
      ·rw[qaL (by omega) (by omega)];rfl
      ·have:=qra (1+key) l.length x
       rw[h]at this
       rw[List.mem_append,this]
       simp
   obtain⟨o,o1,o2,o3⟩:=eo
   refine Eq.trans (congrArg (fun z=>Option.bind z _) o1) ?_
   rw[Option.bind_some]
   obtain⟨S,r1,r2,r3⟩:=quS hN hs hl12 h0 o2 (fun x hx=>(o3 x).1 hx) N 0 [] [] (by omega) (by omega) (fun d=>by
    show(0:Int)=_
    rw[show seen l []=[]from List.filter_eq_nil_iff.2 (by simp)]
    rfl)
   have e2:seen l ([]:List qf)=[]:=List.filter_eq_nil_iff.2 (by simp)
   rw[e2]at r1
   have e3:seen l S=l:=qv7 fun x hx=>by
    obtain⟨i,hi⟩:=List.getElem?_of_mem hx
    obtain⟨hil,_⟩:=List.getElem?_eq_some_iff.1 hi
    refine r3 (i:Int) ?_ x (by simpa using hi)
    rw[List.drop_zero]
    exact(o3 _).2 (by omega)
   rw[e3]at r1
   have r1:zh N l o N [] 0 []=some (.inl l):=r1
   rw[r1,Option.bind_some]
   simp only
   rw[qwP hN2 hM hs (by omega)]
   obtain⟨hg,_⟩:=qtq hs h0
   obtain⟨f1,f2,f3⟩:=qjX hN2 (qi5 l) [] [] (qqh hg) (by simp)
   have f4:=qt6 N l
   have f2:(qlT N l).1.length≤0+(qi5 l).length:=f2
   have f1: ∀e∈(qlT N l).1,e.Names.length<N∧e.Values.length<N:=f1
   rw[(qfY l).2.1]at f2
   simp only[h0,if_true,Option.bind_some]
   rw[qrK (by omega) hNl,Option.bind_some,qqD l (by omega) hN2,Option.bind_some,if_pos rfl,qpH _ (by omega) hN2 hM f1,Option.bind_some,if_pos rfl]
   have e4:w64 (((qlT N l).1.length:Int)+((qlT N l).2.length:Int))=(l.length:Int):=by
    rw[qcK (by omega) (by omega)]
    omega
   rw[e4,if_pos rfl]
   rfl
  ·simp only[h0,decide_false,Bool.not_false,if_true]
   rfl
end Go.Av
