/-
  Chapter 10: names and events.
-/
import Derived.Test.YtjflombnfhlkaaaGreatDoorAvPl
import Derived.Test.YtjflombnfhlkaaaGreatDoorQGenO
noncomputable section
namespace Go.Av
set_option linter.unusedSimpArgs false
set_option linter.unusedVariables false
theorem qfh {s:Str} {k:Nat} {c:UInt8} (h:s[k]? =some c):((⟨s.toArray⟩:ByteArray).get! k)=c:=by
 have hk:=(List.getElem?_eq_some_iff.1 h).1
 show s.toArray[k]! =c
 rw[getElem!_def]
 simp[h]
theorem qga {s:Str} {k:Nat} {c:UInt8} (h:s[k]? =some c) (hc:c.toNat<128):jb s k=c.toNat∧runeLen s k=1:=by
 have e:=qfh h
 unfold jb runeLen Utf8.decode
 simp only[Nat.add_zero,e,if_pos hc,and_self]
theorem qhj {s:Str} {k:Nat} {c:UInt8} (h:s[k]? =some c) (hc:128≤c.toNat):128≤jb s k:=by
 have e:=qfh h
 unfold jb Utf8.decode
 simp only[Nat.add_zero,e,if_neg (Nat.not_lt.2 hc)]
 have hr:(128:Nat)≤Utf8.runeError:=by decide
 repeat' split
 all_goals first|(simp only[Bool.and_eq_true,decide_eq_true_eq]at*;omega)|(simp;omega)|omega
def qeD (c:Int):Bool:=(decide (97≤c)&&decide (c≤122))||(decide (65≤c)&&decide (c≤90))
theorem qct (c:Int):jg c=some (qeD c):=by
 unfold jg qeD
 by_cases h1:c≥97<;>by_cases h2:c≤122<;>by_cases h3:c≥65<;>by_cases h4:c≤90<;>simp[h1,h2,h3,h4]<;>omega
def qgm (k:Nat) (c:Int):Bool:=!qeD c&&(decide (k=0)||(!decide (c=95)&&(decide (c<48)||decide (c>57))))
def qav (s:Str):Bool:=decide (1≤s.length)&&decide (s.length≤24)&&!((List.range s.length).any fun k=>qgm k (s.getD k 0).toNat)
theorem qhZ {k:Nat} {c:Int} (h:128≤c):qgm k c=true:=by
 unfold qgm qeD
 simp
 omega
def yc (s:Str) (k:Nat):Bool:=(List.range (s.length-k)).any fun j=>qgm (k+j) (s.getD (k+j) 0).toNat
theorem qbU {s:Str} {k:Nat} {c:UInt8} (h:s[k]? =some c):yc s k=(qgm k c.toNat||yc s (k+1)):=by
 have hk:=(List.getElem?_eq_some_iff.1 h).1
 unfold yc
 rw[show s.length-k=(s.length-(k+1))+1 by omega,List.range_succ_eq_map,List.any_cons,List.any_map]
 congr 1
 ·simp[List.getD,h]
 ·congr 1
  funext j
  simp only[Function.comp,Nat.succ_eq_add_one]
  rw[show k+(j+1)=k+1+j by omega]
theorem qcq {s:Str} {k:Nat} (h:s.length≤k):yc s k=false:=by
 unfold yc
 rw[show s.length-k=0 by omega]
 rfl
theorem qd5 (s:Str): ∀(K k:Nat),k≤s.length→s.length<K+k→zJ s K k=some (if yc s k then .inr false else .inl ())
 |0,k,h,hK=>by omega
 |K+1,k,h,hK=>by
  unfold zJ
  by_cases hk:k<s.length
  ·have hc:s[k]? =some s[k]:=List.getElem?_eq_getElem hk
   rw[if_pos hk,qct,qbU hc]
   by_cases ha:(s[k]).toNat<128
   ·obtain⟨e1,e2⟩:=qga hc ha
    rw[e1,e2,qd5 s K (k+1) (by omega) (by omega)]
    have ek:((k:Int)=0)↔k=0:=by omega
    unfold qgm
    generalize ((s[k]).toNat:Int)=c
    cases hl:qeD c<;>by_cases h0:k=0<;>by_cases h1:c=95<;>by_cases h2:c<48<;>by_cases h3:57<c<;>
     simp[hl,h0,h1,h2,h3]
   ·have hw:=qhj hc (by omega)
    rw[qhZ (show(128:Int)≤((s[k]).toNat:Int)by omega)]
    have hl:qeD (jb s k)=false:=by unfold qeD;simp;omega
    have h1: ¬jb s k=95:=by omega
    have h2: ¬jb s k<48:=by omega
    have h3:jb s k>57:=by omega
    have ek:((k:Int)=0)↔k=0:=by omega
    simp only[hl,Option.bind_some,Bool.not_false,if_true,h1,h2,h3,decide_true,decide_false,if_false,Bool.true_or,ek]
    by_cases h0:k=0
    ·simp only[h0,if_true,Option.bind_some]
    ·simp only[h0,if_false,Option.bind_some,if_true]
  ·rw[if_neg hk,qcq (by omega)]
   rfl
theorem qf0 (s:Str):qav s=(decide (1≤s.length)&&decide (s.length≤24)&&!yc s 0):=by
 unfold qav yc
 simp
theorem qhB {N:Nat} {s:Str} (h:s.length<N):vN N s=some (qav s):=by
 unfold vN
 rw[qd5 s N 0 (Nat.zero_le _) (by omega),qf0]
 cases hb:yc s 0
 ·cases s with
  |nil=>simp
  |cons x xs=>
   have e:((x::xs)==([]:Str))=false:=rfl
   simp only[Option.bind_some,Bool.false_eq_true,if_false,e,Bool.not_false,if_true,Bool.and_true,Option.some.injEq]
   have:(1≤(x::xs).length):=by simp
   rw[Bool.eq_iff_iff]
   simp only[decide_eq_true_eq,Bool.and_eq_true,this,true_and]
   omega
 ·simp
theorem qdf (s:Str) (hs:s.length<4611686018427387904): ∀(K k:Nat),k≤s.length→s.length<K+k→zV s K (k:Int)=some (if yc s k then .inr false else .inl ())
 |0,k,h,hK=>by omega
 |K+1,k,h,hK=>by
  unfold zV
  by_cases hk:k<s.length
  ·have hc:s[k]? =some s[k]:=List.getElem?_eq_getElem hk
   rw[if_pos (by omega),qp,hc,qbU hc,zt (by omega),qdf s hs K (k+1) (by omega) (by omega)]
   simp only[Option.bind_some]
   have ek:((k:Int)=0)↔k=0:=by omega
   unfold qgm
   generalize ((s[k]).toNat:Int)=c
   rw[show(if c≥97 then if c≤122 then some true else if c≥65 then some (decide (c≤90))else some false else if c≥65 then some (decide (c≤90))else some false:Option Bool)=some (qeD c)from by
    have:=qct c
    unfold jg at this
    rw[←this]
    cases(if c≥97 then if c≤122 then some true else if c≥65 then some (decide (c≤90))else some false else if c≥65 then some (decide (c≤90))else some false:Option Bool)<;>rfl]
   simp only[Option.bind_some,ek]
   cases qeD c
   ·by_cases h5:k=0
    ·simp[h5]
    ·by_cases h6:c≥48
     ·by_cases h7:c≤57
      ·have a1: ¬c<48:=by omega
       have a2: ¬c>57:=by omega
       simp[h5,h6,h7,a1,a2]
      ·have a1: ¬c<48:=by omega
       have a2:c>57:=by omega
       by_cases h8:c=95<;>simp[h5,h6,h7,h8,a1,a2]
     ·have a1:c<48:=by omega
      by_cases h8:c=95<;>simp[h5,h6,h8,a1]
   ·simp
  ·rw[if_neg (by omega),qcq (by omega)]
   rfl
theorem qgf {N:Nat} {s:Str} (h:s.length<N) (hs:s.length<4611686018427387904):yf N s=some (qav s):=by
 unfold yf
 rw[show(0:Int)=((0:Nat):Int)from rfl,qdf s hs N 0 (Nat.zero_le _) (by omega),qf0]
 by_cases h1:s.length<1
 ·rw[if_pos (by omega)]
  simp[show¬1≤s.length by omega]
 ·by_cases h2:s.length>24
  ·rw[if_neg (by omega)]
   simp only[Option.bind_some,show((s.length:Int)>24)by omega,decide_true,if_true,show¬s.length≤24 by omega,decide_false,Bool.and_false,Bool.false_and]
  ·rw[if_neg (by omega)]
   simp only[Option.bind_some,show¬((s.length:Int)>24)by omega,decide_false,Bool.false_eq_true,if_false,show 1≤s.length by omega,show s.length≤24 by omega,decide_true,Bool.true_and]
   cases hb:yc s 0<;>rfl
def zy:List Int→Int
 |[]=>0
 |x::xs=>if x=0 then zy xs else x
theorem qfJ (l:List Int) (hl:l.length<4611686018427387904): ∀(K k:Nat),k≤l.length→l.length<K+k→zW l K (k:Int)=some (if zy (l.drop k)=0 then .inl ()else .inr (zy (l.drop k)))
 |0,k,h,hK=>by omega
 |K+1,k,h,hK=>by
  unfold zW
  by_cases hk:k<l.length
  ·rw[if_pos (by omega),qp,List.getElem?_eq_getElem hk,List.drop_eq_getElem_cons hk,zt (by omega),qfJ l hl K (k+1) (by omega) (by omega)]
   simp only[Option.bind_some,zy]
   by_cases h0:l[k]=0
   ·simp[h0]
   ·simp[h0]
  ·rw[if_neg (by omega),List.drop_of_length_le (by omega)]
   rfl
theorem yQ {N:Nat} {l:List Int} (hl:l.length<4611686018427387904) (h:l.length<N):kw N l=some (zy l):=by
 unfold kw
 rw[show(0:Int)=((0:Nat):Int)from rfl,qfJ l hl N 0 (Nat.zero_le _) (by omega),List.drop_zero]
 by_cases h0:zy l=0
 ·simp[h0]
 ·simp[h0]
theorem xG (b:Bool) (e:Int):ku b e=some (if b=true then e else 0):=by
 unfold ku;split<;>rfl
def qa7 (n lo hi:Int):Bool:=decide (n<lo)||decide (n>hi)
theorem qhx (n lo hi:Int):jr n lo hi=some (if qa7 n lo hi=true then 3 else 0):=by
 unfold jr qa7
 simp only[xG]
 by_cases h:n<lo<;>simp[h]
theorem qgG (n lo hi:Int):jW n lo hi=some (qa7 n lo hi):=by
 unfold jW qa7
 by_cases h:n<lo<;>simp[h]
theorem qju {N:Nat} {s:Str} (h:s.length<N):ym N s=some (if qav s=true then 0 else 8):=by
 unfold ym
 simp only[qhB h,xG,Option.bind_some]
 cases qav s<;>rfl
def qg6:Str:=[109,97,107,101]
def qgW:Str:=[116,101,115,116]
def kUse:Str:=[117,115,101]
def qg7:Str:=[102,97,105,108]
def qcL:Str:=[114,101,99,97,108,108]
def qbG:Str:=[117,110,100,111]
def j5 (k:Str):Int×Int×Bool:=
 if(k==qg6)=true then(2,3,true)else if(k==qgW)=true then(1,2,true)else if(k==kUse)=true then(1,2,true)else if(k==qg7)=true then(1,1,true)
 else if(k==qcL)=true then(1,1,true)else if(k==qbG)=true then(0,0,true)else(0,0,false)
theorem qjy (k:Str):xu k=some (j5 k):=by
 unfold xu j5 qg6 qgW kUse qg7 qcL qbG
 by_cases h1:(k==[109,97,107,101])=true
 ·simp only[h1,if_true]
 ·by_cases h2:(k==[116,101,115,116])=true
  ·simp only[h1,h2,if_false,if_true,Option.bind_some];rfl
  ·by_cases h3:(k==[117,115,101])=true
   ·simp only[h1,h2,h3,if_false,if_true,Option.bind_some];rfl
   ·by_cases h4:(k==[102,97,105,108])=true
    ·simp only[h1,h2,h3,h4,if_false,if_true,Option.bind_some];rfl
    ·by_cases h5:(k==[114,101,99,97,108,108])=true
     ·simp only[h1,h2,h3,h4,h5,if_false,if_true,Option.bind_some];rfl
     ·simp only[h1,h2,h3,h4,h5,if_false,Option.bind_some,Bool.false_eq_true]
      split<;>rfl
def checkE (e:jo):Int:=
 if qa7 e.Number 1 1000=true then 3
 else if(j5 e.Kind).2.2=false then 13
 else if¬((e.Names.length:Int)=(j5 e.Kind).1∧(e.Values.length:Int)=(j5 e.Kind).2.1)then 2
 else if e.Names.all qav=false then 8
 else if e.Values.all (fun v=>!qa7 v 0 999999999)=false then 3
 else if e.Text=[]then 0 else 1
structure ShortE (N:Nat) (e:jo):Prop where
 n:e.Names.length<N
 v:e.Values.length<N
 s: ∀s∈e.Names,s.length<N
def spl:Str→Str→List Str
 |a,[]=>[a]
 |a,c::s=>if c=32 then a::spl [] s else spl (a++[c]) s
noncomputable def vY (s:Str):Nat:=qfU 32 s
theorem xP (c:UInt8) (s:Str):vY (c::s)=if c=32 then vY s+1 else vY s:=by
 show ze (Nat.beq c.toNat 32) (Nat.succ (vY s)) (vY s)=_
 rw[qC]
 by_cases h:c=32
 ·subst h;rfl
 ·have h2:c.toNat≠32:=fun e=>h (UInt8.toNat_inj.1 (by rw[e];rfl))
  rw[if_neg (by rw[yE h2];simp),if_neg h]
theorem qcB: ∀s:Str,vY s≤s.length
 |[]=>Nat.le_refl _
 |c::s=>by
  have:=qcB s
  rw[xP,List.length_cons]
  split<;>omega
def qb3:Str→Option Nat
 |[]=>none
 |c::s=>if c=32 then some 0 else(qb3 s).map (· +1)
theorem qef: ∀(s:Str) (j:Nat),qdW 32 s j=match qb3 s with|some k=>((j+k:Nat):Int)|none=> -1
 |[],_=>rfl
 |c::s,j=>by
  show ze (Nat.beq c.toNat 32) (Int.ofNat j) (qdW 32 s (j+1))=_
  rw[qC,qef s (j+1),qb3]
  by_cases h:c=32
  ·subst h;rfl
  ·have h2:c.toNat≠32:=fun e=>h (UInt8.toNat_inj.1 (by rw[e];rfl))
   rw[if_neg (by rw[yE h2];simp),if_neg h]
   cases qb3 s with
   |none=>rfl
   |some k=>
    simp only[Option.map_some]
    congr 1
    omega
theorem qce: ∀{s:Str},qb3 s=none→vY s=0∧ ∀a,spl a s=[a++s]
 |[],_=>⟨rfl,fun a=>by simp[spl]⟩
 |c::s,h=>by
  unfold qb3 at h
  by_cases hc:c=32
  ·rw[if_pos hc]at h;cases h
  ·rw[if_neg hc]at h
   cases hp:qb3 s with
   |some k=>rw[hp]at h;cases h
   |none=>
    obtain⟨h1,h2⟩:=qce hp
    refine⟨by rw[xP,if_neg hc,h1],fun a=>?_⟩
    rw[spl,if_neg hc,h2]
    simp
theorem qb9: ∀{s:Str} {k:Nat},qb3 s=some k→k<s.length∧vY s=vY (s.drop (k+1))+1∧ ∀a,spl a s=(a++s.take k)::spl [] (s.drop (k+1))
 |[],_,h=>by cases h
 |c::s,k,h=>by
  unfold qb3 at h
  by_cases hc:c=32
  ·rw[if_pos hc]at h
   obtain rfl:=Option.some.inj h
   refine⟨by simp,?_,fun a=>?_⟩
   ·rw[xP,if_pos hc];rfl
   ·rw[spl,if_pos hc];simp
  ·rw[if_neg hc]at h
   cases hp:qb3 s with
   |none=>rw[hp]at h;cases h
   |some j=>
    rw[hp]at h
    obtain rfl:=Option.some.inj h
    obtain⟨h1,h2,h3⟩:=qb9 hp
    refine⟨by simp;omega,?_,fun a=>?_⟩
    ·rw[xP,if_neg hc,h2,List.drop_succ_cons]
    ·rw[spl,if_neg hc,h3]
     simp
theorem qkr {s:Str} (h:vY s=0):qb3 s=none:=by
 cases hp:qb3 s with
 |none=>rfl
 |some k=>have:=(qb9 hp).2.1;omega
theorem qcG: ∀(a s:Str),(spl a s).length=vY s+1
 |a,[]=>rfl
 |a,c::s=>by
  rw[xP,spl]
  by_cases hc:c=32
  ·rw[if_pos hc,if_pos hc,List.length_cons,qcG]
  ·rw[if_neg hc,if_neg hc,qcG]
theorem qiF {s:Str}:strings_Index s [32]=some (qdW 32 s 0):=by
 unfold strings_Index stringslite_Index stringslite_IndexByte qeH
 have h0: ¬(([32]:Str).length:Int)=0:=by simp
 have h1:(([32]:Str).length:Int)=1:=by simp
 rw[if_neg h0]
 simp only[Option.bind_some]
 by_cases hs:(([32]:Str)==s)=true
 ·have:s=[32]:=(beq_iff_eq.1 hs).symm
  subst this
  rfl
 ·rw[if_neg hs,if_pos h1,qdo,show([32]:Str)[0]? =some 32 from rfl,Option.bind_some,if_pos (by decide)]
  rfl
theorem qi4 {N:Nat} {s:Str}:strings_Count N s [32]=some (vY s:Int):=by
 unfold strings_Count qe2
 have h0: ¬(([32]:Str).length:Int)=0:=by simp
 have h1:(([32]:Str).length:Int)=1:=by simp
 rw[if_neg h0,if_pos h1,qdo,show([32]:Str)[0]? =some 32 from rfl,Option.bind_some,if_pos (by decide)]
 rfl
theorem qco (s0:Str) (n:Int) (c:Nat) (hc:c<4611686018427387904) (hn:w64 ((if(w64 ((s0.length:Int)+1))<n then(w64 ((s0.length:Int)+1))else n)-1)=(c:Int)): ∀(K:Nat) (l:List Str) (s:Str) (i:Nat),i+vY s=c→l.length=c+1→c<K+i→s.length<4611686018427387904→
 ∃l' s',ko s0 [32] 0 n K l s (i:Int)=some (l',s',(c:Int))∧l'.length=c+1∧l'.take c++[s']=l.take i++spl [] s
 |0,l,s,i,h,hl,hK,hs=>by omega
 |K+1,l,s,i,h,hl,hK,hs=>by
  unfold ko
  rw[hn]
  by_cases hi:i<c
  ·rw[if_pos (by omega),qiF,qef]
   cases hp:qb3 s with
   |none=>have:=(qce hp).1;omega
   |some k=>
    obtain⟨h1,h2,h3⟩:=qb9 hp
    simp only[Option.bind_some,Nat.zero_add]
    have w1:w64 ((k:Int)+0)=(k:Int):=by rw[Int.add_zero];exact yx (by omega) (by omega)
    have w2:w64 ((k:Int)+(([32]:Str).length:Int))=((k+1:Nat):Int):=zt (by omega)
    rw[if_neg (by omega),w1,w2,qdm (by omega),Option.bind_some,qp,List.getElem?_eq_getElem (by omega),Option.bind_some,qeU (by omega),Option.bind_some,qdp (by omega),Option.bind_some,zt (by omega)]
    obtain⟨l',s',g1,g2,g3⟩:=qco s0 n c hc hn K (l.set i (s.take k)) (s.drop (k+1)) (i+1) (by omega) (by simpa using hl) (by omega) (by simp;omega)
    refine⟨l',s',g1,g2,?_⟩
    rw[g3,h3,List.nil_append,List.take_add_one,List.getElem?_set_self (by omega)]
    simp only[List.take_set,Option.toList_some,List.append_assoc,List.singleton_append]
    rw[List.set_eq_of_length_le (by rw[List.length_take];exact Nat.min_le_left _ _)]
  ·have hi:i=c:=by omega
   subst hi
   rw[if_neg (by omega)]
   refine⟨l,s,rfl,hl,?_⟩
   have:=(qce (qkr (show vY s=0 by omega))).2 []
   rw[this,List.nil_append]
theorem qia {N:Nat} {s:Str} (hs:s.length<100000) (hN:s.length<N):strings_Split N s [32]=some (spl [] s):=by
 unfold strings_Split strings_genSplit
 have hc:=qcB s
 have w1:w64 ((vY s:Int)+1)=((vY s+1:Nat):Int):=zt (by omega)
 have w2:w64 ((s.length:Int)+1)=((s.length+1:Nat):Int):=zt (by omega)
 have w3:(if((s.length+1:Nat):Int)<((vY s+1:Nat):Int)then((s.length+1:Nat):Int)else((vY s+1:Nat):Int))=((vY s+1:Nat):Int):=if_neg (by omega)
 have w4:w64 (((vY s+1:Nat):Int)-1)=(vY s:Int):=by rw[yx (by omega) (by omega)];omega
 rw[if_neg (by omega),if_neg (by decide),if_pos (by omega),qi4]
 simp only[Option.bind_some,w1,w2,w3]
 have e:mk 16 ((vY s+1:Nat):Int) ([]:Str)=some (List.replicate (vY s+1) []):=by
  unfold mk
  rw[if_pos ⟨by omega,by omega,by omega⟩,Int.toNat_natCast]
 rw[e,Option.bind_some]
 obtain⟨l',s',g1,g2,g3⟩:=qco s ((vY s+1:Nat):Int) (vY s) (by omega) (by rw[w2,w3,w4]) N (List.replicate (vY s+1) []) s 0 (by omega) (by simp) (by omega) (by omega)
 rw[show ko s [32] 0 ((vY s+1:Nat):Int) N (List.replicate (vY s+1) []) s 0=_ from g1]
 have hx:l'[vY s]? =some l'[vY s]:=List.getElem?_eq_getElem (by omega)
 simp only[Option.bind_some]
 rw[qp,hx,Option.bind_some,qeU (by omega),Option.bind_some,w1,qdm (by simp;omega),Option.bind_some,Option.bind_some]
 rw[List.take_zero,List.nil_append]at g3
 rw[←g3,List.take_add_one,List.getElem?_set_self (by omega),List.take_set,List.set_eq_of_length_le (by simp;omega)]
 rfl
theorem qcJ {α:Type} {l:List α} {a b:Nat} (h1:a≤b) (h2:b≤l.length):cut l (a:Int) (b:Int)=some ((l.drop a).take (b-a)):=by
 unfold cut
 rw[if_pos ⟨by omega,by omega,by omega⟩]
 simp only[Int.toNat_natCast,Option.some.injEq]
theorem qcc (s:Str) (hs:s.length<100000): ∀(K:Nat) (l:List Str) (f i:Nat),f≤i→i≤s.length→s.length<K+i→l.length≤i→
 zl s (K+1) l (f:Int) (i:Int)=some (l++spl ((s.drop f).take (i-f)) (s.drop i))
 |K,l,f,i,h1,h2,hK,hl=>by
  unfold zl
  rw[if_pos (by omega)]
  by_cases hi:i=s.length
  ·subst hi
   rw[if_pos rfl]
   simp only[Option.bind_some,if_true]
   rw[qcJ h1 (Nat.le_refl _),Option.bind_some,vz (by simp;omega) (by simp;omega),Option.bind_some,Option.bind_some,zt (by omega)]
   have hd:s.drop s.length=[]:=List.drop_length
   rw[hd,spl]
   cases K with
   |zero=>omega
   |succ K=>
    simp only
    unfold zl
    rw[if_neg (by omega)]
  ·have hx:s[i]? =some s[i]:=List.getElem?_eq_getElem (by omega)
   have hd:s.drop i=s[i]::s.drop (i+1):=List.drop_eq_getElem_cons (by omega)
   rw[if_neg (by omega),qp,hx,Option.bind_some,hd,spl]
   generalize s[i]=c at hx
   cases K with
   |zero=>omega
   |succ K=>
   by_cases hc:c=32
   ·subst hc
    simp only[Option.bind_some,show decide ((((32:UInt8).toNat:Nat):Int)=32)=true by decide,if_true]
    rw[qcJ h1 h2,Option.bind_some,vz (by simp;omega) (by simp;omega),Option.bind_some,Option.bind_some,zt (by omega)]
    simp only
    rw[qcc s hs K _ (i+1) (i+1) (Nat.le_refl _) (by omega) (by omega) (by simp;omega),Nat.sub_self,List.take_zero,List.append_assoc]
    rfl
   ·have hc2: ¬((c.toNat:Int)=32):=fun e=>hc (UInt8.toNat_inj.1 (by have:c.toNat=32:=by omega
                                                                    rw[this];rfl))
    simp only[Option.bind_some,decide_eq_false hc2,Bool.false_eq_true,if_false,if_neg hc]
    rw[zt (by omega),qcc s hs K l f (i+1) (by omega) (by omega) (by omega) (by omega)]
    congr 3
    rw[show i+1-f=(i-f)+1 by omega,List.take_add_one,List.getElem?_drop,show f+(i-f)=i by omega,hx]
    rfl
theorem qhl {N:Nat} {s:Str} (hs:s.length<100000) (hN:s.length+1<N):yG N s=some (spl [] s):=by
 unfold yG
 obtain⟨K,rfl⟩: ∃K,N=K+1:=⟨N-1,by omega⟩
 rw[show zl s (K+1) [] 0 0=zl s (K+1) [] ((0:Nat):Int) ((0:Nat):Int)from rfl,qcc s hs K [] 0 0 (Nat.le_refl _) (Nat.zero_le _) (by omega) (by simp)]
 simp
theorem list1 {α:Type} {l:List α} (h:(l.length:Int)=1): ∃a,l=[a]:=by
 match l,h with
 |[a],_=>exact⟨a,rfl⟩
 |[],h=>simp at h
 |_::_::_,h=>simp at h;omega
def yg (c:UInt8):Bool:=decide (48≤c.toNat)&&decide (c.toNat≤57)
def qb2 (n:Nat) (s:List UInt8):Nat:=s.foldl (fun a c=>a*10+(c.toNat-48)) n
theorem qjp (n:Nat):qb2 n []=n:=List.foldl_nil
theorem qa3 (n:Nat) (c:UInt8) (s:List UInt8):qb2 n (c::s)=qb2 (n*10+(c.toNat-48)) s:=by
 unfold qb2
 rw[List.foldl_cons]
theorem qjJ (s:List UInt8): ∀n:Nat,s.all yg=true→qb2 n s<(n+1)*10^s.length:=by
 induction s with
 |nil=>
  intro n _
  rw[List.length_nil,Nat.pow_zero,Nat.mul_one,qjp]
  exact Nat.lt_succ_self n
 |cons c s ih=>
  intro n h
  rw[List.all_cons,Bool.and_eq_true]at h
  have h1:=ih (n*10+(c.toNat-48)) h.2
  have hd:c.toNat-48≤9:=by
   have:=h.1
   simp[yg]at this
   omega
  have h2:n*10+(c.toNat-48)+1≤(n+1)*10:=by omega
  rw[qa3,List.length_cons,Nat.pow_succ,Nat.mul_comm (10^s.length) 10,←Nat.mul_assoc]
  exact Nat.lt_of_lt_of_le h1 (Nat.mul_le_mul_right _ h2)
theorem ne48 {c:UInt8} (h: ¬c=48): ¬((c.toNat:Int)=48):=fun e=>h (UInt8.toNat_inj.1 (show c.toNat=48 from by omega))
def intB (s:Str):Bool:=decide (1≤s.length)&&(decide (s.length≤9)&&(s.all yg&&(decide (s.length=1)||!(s[0]? ==some 48))))
def qaA (s:Str):Int×Bool:=if intB s=true then((qb2 0 s:Nat),true)else(0,false)
theorem qcn (s:Str) (hs:s.length≤9): ∀(K i n:Nat),i≤s.length→s.length<K+i→(∀j≤s.length,i≤j→qb2 n ((s.drop i).take (j-i))<10^9∨((s.drop i).take (j-i)).all yg=false)→
 zu s K (n:Int) (i:Int)=some (if(s.drop i).all yg=true then .inl ((qb2 n (s.drop i):Nat):Int)else .inr (0,false))
 |0,i,n,h,hK,_=>by omega
 |K+1,i,n,h,hK,hb=>by
  unfold zu
  by_cases hi:i<s.length
  ·have hx:s[i]? =some s[i]:=List.getElem?_eq_getElem hi
   have hd:s.drop i=s[i]::s.drop (i+1):=List.drop_eq_getElem_cons hi
   rw[if_pos (by omega),qp,hx,Option.bind_some,hd,List.all_cons]
   rw[hd]at hb
   generalize s[i]=c at hx hb
   by_cases hc:yg c=true
   ·have h1:48≤c.toNat∧c.toNat≤57:=by simpa[yg]using hc
    have n1: ¬(c.toNat:Int)<48:=by omega
    have n2: ¬(c.toNat:Int)>57:=by omega
    rw[if_neg n1]
    simp only[Option.bind_some,decide_eq_false n2,Bool.false_eq_true,if_false,hc,Bool.true_and]
    have hn:qb2 n [c]<10^9:=by
     rcases hb (i+1) (by omega) (by omega)with h|h
     ·rw[show i+1-i=1 by omega]at h;simpa using h
     ·rw[show i+1-i=1 by omega]at h;simp[hc]at h
    have hn:n*10+(c.toNat-48)<1000000000:=hn
    have w0:IntKind.wrap .u8 ((c.toNat:Int)-48)=((c.toNat-48:Nat):Int):=by
     unfold IntKind.wrap
     have e:(2:Int)^IntKind.u8.bits=256:=by decide
     have e3:IntKind.u8.signed=false:=by decide
     simp only[e,e3,Bool.false_and,if_false,Bool.false_eq_true]
     omega
    have w1:w64 ((c.toNat-48:Nat):Int)=((c.toNat-48:Nat):Int):=yx (by omega) (by omega)
    have w2:w64 (10*(n:Int))=((10*n:Nat):Int):=by rw[yx (by omega) (by omega)];omega
    have w3:w64 (((10*n:Nat):Int)+((c.toNat-48:Nat):Int))=((n*10+(c.toNat-48):Nat):Int):=by rw[yx (by omega) (by omega)];omega
    rw[w0,w1,w2,w3,zt (by omega),qcn s hs K (i+1) (n*10+(c.toNat-48)) (by omega) (by omega) (fun j hj hij=>?_)]
    ·rw[qa3]
    ·have:=hb j hj (by omega)
     rw[show j-i=(j-(i+1))+1 by omega,List.take_succ_cons,qa3,List.all_cons,hc,Bool.true_and]at this
     exact this
   ·have hc2:yg c=false:=by simpa using hc
    rw[hc2,Bool.false_and]
    by_cases n1:(c.toNat:Int)<48
    ·rw[if_pos n1];rfl
    ·rw[if_neg n1]
     have n2:(c.toNat:Int)>57:=by
      simp[yg]at hc2
      omega
     simp only[Option.bind_some,decide_eq_true n2,if_true,Bool.false_eq_true,if_false]
  ·rw[if_neg (by omega),List.drop_of_length_le (by omega)]
   rfl
theorem qfZ {N:Nat} {s:Str} (hN:2000<N):vM N s=some (qaA s):=by
 unfold vM qaA intB
 by_cases h0:s.length=0
 ·have: ¬1≤s.length:=by omega
  rw[if_pos (by omega)]
  simp[this]
 by_cases h9:s.length>9
 ·have: ¬s.length≤9:=by omega
  rw[if_neg (by omega),if_pos (by omega)]
  simp[this]
 rw[if_neg (by omega),if_neg (by omega)]
 have a1:1≤s.length:=by omega
 have a2:s.length≤9:=by omega
 have key:zu s N 0 0=some (if s.all yg=true then .inl ((qb2 0 s:Nat):Int)else .inr (0,false)):=by
  have:=qcn s a2 N 0 0 (Nat.zero_le _) (by omega) (fun j hj _=>by
   by_cases hq:((s.drop 0).take (j-0)).all yg=true
   ·left
    have h1:=qjJ _ 0 hq
    have h2:((s.drop 0).take (j-0)).length≤9:=by simp;omega
    have h3:(10:Nat)^((s.drop 0).take (j-0)).length≤10^9:=Nat.pow_le_pow_right (by omega) h2
    omega
   ·right;simpa using hq)
  rw[List.drop_zero]at this
  exact this
 rw[key]
 by_cases h1:s.length>1
 ·have hne: ¬s.length=1:=by omega
  have hx:s[0]? =some s[0]:=List.getElem?_eq_getElem (by omega)
  rw[if_pos (by omega),qdo,hx]
  generalize s[0]=c
  by_cases hc:c=48
  ·subst hc
   simp[hne]
  ·have hc2: ¬((c.toNat:Int)=48):=ne48 hc
   have hc3:(some c==some (48:UInt8))=false:=by simpa using hc
   simp only[Option.bind_some,decide_eq_false hc2,Bool.false_eq_true,if_false,a1,a2,hne,hc3,decide_true,decide_false,Bool.true_and,Bool.not_false,Bool.or_true,Bool.and_true]
   by_cases hd:s.all yg=true<;>simp[hd]
 ·have h1':s.length=1:=by omega
  rw[if_neg (by omega)]
  simp only[Option.bind_some,Bool.false_eq_true,if_false,a1,a2,h1',decide_true,Bool.true_and,Bool.true_or,Bool.and_true,Nat.le_refl]
  by_cases hd:s.all yg=true<;>simp[hd]
theorem qjo (c:UInt8):([48,49,50,51,52,53,54,55,56,57]:Str).contains c=yg c:=by
 rw[Bool.eq_iff_iff]
 simp only[List.contains_cons,List.contains_nil,Bool.or_eq_true,beq_iff_eq,yg,Bool.and_eq_true,decide_eq_true_eq,←UInt8.toNat_inj,Bool.or_false]
 simp only[show(48:UInt8).toNat=48 from rfl,show(49:UInt8).toNat=49 from rfl,show(50:UInt8).toNat=50 from rfl,show(51:UInt8).toNat=51 from rfl,show(52:UInt8).toNat=52 from rfl,show(53:UInt8).toNat=53 from rfl,show(54:UInt8).toNat=54 from rfl,show(55:UInt8).toNat=55 from rfl,show(56:UInt8).toNat=56 from rfl,show(57:UInt8).toNat=57 from rfl]
 omega
theorem dropWhile_nil {α:Type} {p:α→Bool}: ∀{l:List α},l.dropWhile p=[]↔l.all p=true
 |[]=>by simp
 |x::l=>by
  rw[List.dropWhile_cons,List.all_cons]
  by_cases h:p x=true
  ·rw[if_pos h,h,Bool.true_and];exact dropWhile_nil
  ·rw[if_neg h];simp[h]
theorem qhv {s:Str}:(Lib.trimS s [48,49,50,51,52,53,54,55,56,57]==[])=s.all yg:=by
 have e:(fun c=>([48,49,50,51,52,53,54,55,56,57]:Str).contains c)=yg:=funext qjo
 unfold Lib.trimS Lib.trimLeftS Lib.trimRightS
 rw[e]
 rw[Bool.eq_iff_iff,beq_iff_eq,dropWhile_nil,List.all_reverse]
 constructor
 ·intro h
  have h2: ∀x∈s.reverse.takeWhile yg++s.reverse.dropWhile yg,yg x=true:=by
   intro x hx
   rcases List.mem_append.1 hx with hx|hx
   ·exact List.all_eq_true.1 List.all_takeWhile x hx
   ·exact List.all_eq_true.1 h x hx
  rw[List.takeWhile_append_dropWhile]at h2
  exact List.all_eq_true.2 fun x hx=>h2 x (by simpa using hx)
 ·intro h
  have:s.reverse.dropWhile yg=[]:=dropWhile_nil.2 (by rw[List.all_reverse];exact h)
  rw[this]
  rfl
theorem qfS {s:Str} (hs:s.length≤1000000):jR s=some (decide (1≤s.length)&&s.all yg):=by
 have hT:qfj s [48,49,50,51,52,53,54,55,56,57]=some (Lib.trimS s [48,49,50,51,52,53,54,55,56,57]):=by
  unfold qfj
  rw[if_pos ⟨hs,by decide,by decide⟩]
 unfold jR
 simp only[hT,Option.bind_some,qhv]
 cases s with
 |nil=>rfl
 |cons x xs=>simp
theorem qdn: ∀(s:Str) (n:Nat),s.all yg=true→Lib.decFrom n s=some (qb2 n s)
 |[],n,_=>rfl
 |c::s,n,h=>by
  rw[List.all_cons,Bool.and_eq_true]at h
  unfold Lib.decFrom
  rw[qa3]
  have h1:48≤c.toNat∧c.toNat≤57:=by simpa[yg]using h.1
  have e:Lib.digitVal c=some (c.toNat-48):=by unfold Lib.digitVal;rw[if_pos h1]
  rw[e]
  exact qdn s _ h.2
theorem qfz {s:Str} (h0:1≤s.length) (h:s.all yg=true):Lib.atoi s=some ((qb2 0 s:Nat):Int):=by
 cases s with
 |nil=>simp at h0
 |cons c s=>
  have hc:yg c=true:=by rw[List.all_cons,Bool.and_eq_true]at h;exact h.1
  have h1:48≤c.toNat∧c.toNat≤57:=by simpa[yg]using hc
  unfold Lib.atoi Lib.decNat
  have n1: ¬(c==45)=true:=fun e=>by rw[beq_iff_eq.1 e]at h1;simp at h1
  have n2: ¬(c==43)=true:=fun e=>by rw[beq_iff_eq.1 e]at h1;simp at h1
  simp only
  rw[if_neg n1,if_neg n2,if_neg (by simp),qdn _ _ h]
  rfl
theorem qgp {s:Str} (hs:s.length≤1000000):j4 s=some (qaA s):=by
 unfold j4 qaA intB
 by_cases h9:s.length>9
 ·have: ¬s.length≤9:=by omega
  rw[if_pos (by omega)]
  simp[this]
 rw[if_neg (by omega),qfS hs]
 have a2:s.length≤9:=by omega
 simp only[Option.bind_some]
 by_cases h0:s.length=0
 ·have: ¬1≤s.length:=by omega
  simp[this]
 have a1:1≤s.length:=by omega
 by_cases hd:s.all yg=true
 ·have hx:s[0]? =some s[0]:=List.getElem?_eq_getElem (by omega)
  simp only[a1,a2,hd,decide_true,Bool.and_self,Bool.not_true,Bool.false_eq_true,if_false,Bool.true_and,qdo]
  have hat:qfq s=some (((qb2 0 s:Nat):Int),()):=by
   unfold qfq
   rw[if_pos (by omega),qfz a1 hd]
   rfl
  rw[hx,Option.bind_some]
  by_cases hc:s[0]=48
  ·have hc1:((s[0].toNat:Int)=48):=by rw[hc];rfl
   rw[if_pos hc1]
   simp only[Option.bind_some]
   by_cases h1:s.length=1
   ·obtain⟨c,rfl⟩:=list1 (show(s.length:Int)=1 by omega)
    have hc:c=48:=hc
    subst hc
    rw[hat]
    rfl
   ·have: ¬(s==[48])=true:=fun e=>h1 (by rw[beq_iff_eq.1 e];rfl)
    have h48:(some s[0]==some (48:UInt8))=true:=by simpa using hc
    simp[this,h1,h48]
  ·have hc1: ¬((s[0].toNat:Int)=48):=ne48 hc
   have h48:(some s[0]==some (48:UInt8))=false:=by simpa using hc
   rw[if_neg hc1]
   simp only[Option.bind_some,Bool.false_eq_true,if_false,hat,h48,Bool.not_false,Bool.or_true,if_true]
 ·have hd2:s.all yg=false:=by simpa using hd
  simp[a1,a2,hd2]
def ev0:jo:=⟨0,[],[],[],[]⟩
def qiA (ws:List Str):jo×Bool:=
 if((j5 (ws.headD [])).2.2&&(decide ((ws.length:Int)=1+(j5 (ws.headD [])).1+(j5 (ws.headD [])).2.1)&&(!(ws.any fun w=>([]:Str)==w)&&(ws.drop (1+(j5 (ws.headD [])).1.toNat)).all fun w=>(qaA w).2)))=true then
  (⟨0,ws.headD [],(ws.drop 1).take (j5 (ws.headD [])).1.toNat,(ws.drop (1+(j5 (ws.headD [])).1.toNat)).map fun w=>(qaA w).1,[]⟩,true)
 else(ev0,false)
def xR (s:Str):jo×Bool:=qiA (spl [] s)
theorem qd8 (k:Str): ∃a b:Nat,a≤2∧b≤3∧(j5 k).1=(a:Int)∧(j5 k).2.1=(b:Int)∧((j5 k).2.2=true→k≠[]):=by
 unfold j5
 by_cases h1:(k==qg6)=true
 ·simp only[h1,if_true];exact⟨2,3,by omega,by omega,rfl,rfl,fun _ e=>by rw[e]at h1;cases h1⟩
 by_cases h2:(k==qgW)=true
 ·simp only[h1,h2,if_true,if_false];exact⟨1,2,by omega,by omega,rfl,rfl,fun _ e=>by rw[e]at h2;cases h2⟩
 by_cases h3:(k==kUse)=true
 ·simp only[h1,h2,h3,if_true,if_false];exact⟨1,2,by omega,by omega,rfl,rfl,fun _ e=>by rw[e]at h3;cases h3⟩
 by_cases h4:(k==qg7)=true
 ·simp only[h1,h2,h3,h4,if_true,if_false];exact⟨1,1,by omega,by omega,rfl,rfl,fun _ e=>by rw[e]at h4;cases h4⟩
 by_cases h5:(k==qcL)=true
 ·simp only[h1,h2,h3,h4,h5,if_true,if_false];exact⟨1,1,by omega,by omega,rfl,rfl,fun _ e=>by rw[e]at h5;cases h5⟩
 by_cases h6:(k==qbG)=true
 ·simp only[h1,h2,h3,h4,h5,h6,if_true,if_false];exact⟨0,0,by omega,by omega,rfl,rfl,fun _ e=>by rw[e]at h6;cases h6⟩
 simp only[h1,h2,h3,h4,h5,h6,if_false]
 exact⟨0,0,by omega,by omega,rfl,rfl,fun h=>by simp at h⟩
theorem qfg (x:Str):(if(x==[109,97,107,101])=true then some (2,3,true)else if(x==[116,101,115,116])=true then some (1,2,true)else if(x==[117,115,101])=true then some (1,2,true)else
 if(x==[102,97,105,108])=true then some (1,1,true)else if(x==[114,101,99,97,108,108])=true then some (1,1,true)else if(x==[117,110,100,111])=true then some (0,0,true)else some (0,0,false):Option (Int×Int×Bool))=some (j5 x):=by
 unfold j5 qg6 qgW kUse qg7 qcL qbG
 repeat' split
 all_goals rfl
theorem qd2 (l:List Str) (v:Str) (hl:l.length<4611686018427387904): ∀(K k:Nat),k≤l.length→l.length<K+k→ ∃r,qE l v K (k:Int)=some r∧(((l.drop k).any fun w=>v==w)=true∧(∃j:Nat,r= .inr (j:Int))∨((l.drop k).any fun w=>v==w)=false∧r= .inl ())
 |0,k,h,hK=>by omega
 |K+1,k,h,hK=>by
  unfold qE
  by_cases hk:k<l.length
  ·rw[if_pos (by omega),qp,List.getElem?_eq_getElem hk,Option.bind_some,zt (by omega),List.drop_eq_getElem_cons hk,List.any_cons]
   by_cases hc:(v==l[k])=true
   ·rw[if_pos hc,hc,Bool.true_or]
    exact⟨_,rfl,.inl ⟨rfl,k,rfl⟩⟩
   ·have hc2:(v==l[k])=false:=by simpa using hc
    rw[if_neg hc,hc2,Bool.false_or]
    exact qd2 l v hl K (k+1) (by omega) (by omega)
  ·rw[if_neg (by omega),List.drop_of_length_le (by omega)]
   exact⟨_,rfl,.inr ⟨rfl,rfl⟩⟩
theorem qfR {N:Nat} {l:List Str} {v:Str} (hl:l.length<4611686018427387904) (hN:l.length<N):slices_Contains_string N l v=some (l.any fun w=>v==w):=by
 unfold slices_Contains_string slices_Index_string
 obtain⟨r,h1,h2⟩:=qd2 l v hl N 0 (by omega) (by omega)
 rw[List.drop_zero]at h2
 rw[show qE l v N 0=_ from h1]
 rcases h2 with⟨h2,j,rfl⟩|⟨h2,rfl⟩
 ·rw[h2]
  simp
 ·rw[h2]
  simp
theorem qcr (l:List Str) (hl:l.length≤1000) (hs: ∀w∈l,w.length≤1000000): ∀(K k:Nat) (vs:List Int),k≤l.length→l.length<K+k→vs.length≤k→
 za l K vs (k:Int)=some (if((l.drop k).all fun w=>(qaA w).2)=true then .inl (vs++(l.drop k).map fun w=>(qaA w).1)else .inr (ev0,false))
 |0,k,vs,h,hK,hv=>by omega
 |K+1,k,vs,h,hK,hv=>by
  unfold za
  by_cases hk:k<l.length
  ·have hm:(l[k]).length≤1000000:=hs _ (List.getElem_mem hk)
   rw[if_pos (by omega),qp,List.getElem?_eq_getElem hk,Option.bind_some,qgp hm,Option.bind_some,List.drop_eq_getElem_cons hk,List.all_cons]
   by_cases hc:(qaA l[k]).2=true
   ·rw[hc]
    simp only[Bool.not_true,Bool.false_eq_true,if_false,Bool.true_and]
    rw[vz (by simp;omega) (by simp;omega),Option.bind_some,zt (by omega),qcr l hl hs K (k+1) _ (by omega) (by omega) (by simp;omega)]
    simp only[List.append_assoc,List.singleton_append,List.map_cons]
   ·have hc2:(qaA l[k]).2=false:=by simpa using hc
    rw[hc2]
    rfl
  ·rw[if_neg (by omega),List.drop_of_length_le (by omega)]
   simp
theorem qhE {l:List Str} (h:l.length≤1000):slices_Clone_string l=some l:=by
 cases l with
 |nil=>
  simp only[slices_Clone_string,jf,qfI]
  rw[vz (by simp) (by simp)]
  simp
 |cons x xs=>
  show zF x xs=_
  unfold zF
  simp only[List.length_cons]at h
  rw[vz (by simp;omega) (by simp;omega)]
  rfl
theorem qb4: ∀(a s:Str),∀w∈spl a s,w.length≤a.length+s.length
 |a,[],w,h=>by simp[spl]at h;subst h;simp
 |a,c::s,w,h=>by
  rw[spl]at h
  split at h
  ·rcases List.mem_cons.1 h with rfl|h
   ·simp
   ·have:=qb4 [] s w h
    simp at this⊢;omega
  ·have:=qb4 (a++[c]) s w h
   simp at this⊢;omega
theorem qfN {N:Nat} {s:Str} (hs:s.length≤900) (hN:2000<N):jS N s=some (xR s):=by
 unfold jS xR
 rw[qia (by omega) (by omega),Option.bind_some]
 have hlen:=qcG [] s
 have hc:=qcB s
 have hsh:=qb4 [] s
 generalize spl [] s=ws at hlen hsh
 obtain⟨w0,tl,rfl⟩: ∃w0 tl,ws=w0::tl:=by
  cases ws with
  |nil=>simp at hlen
  |cons x xs=>exact⟨x,xs,rfl⟩
 unfold qiA
 have hh:(w0::tl).headD []=w0:=rfl
 rw[hh]
 obtain⟨a,b,ha,hb,e1,e2,e3⟩:=qd8 w0
 have hlen2:(w0::tl).length≤901:=by omega
 have hlen3:=hlen2
 rw[List.length_cons]at hlen3
 simp only[yY,Option.bind_some,qdo,List.getElem?_cons_zero,qfg]
 rw[show j5 w0=((a:Int),(b:Int),(j5 w0).2.2)from by rw[←e1,←e2]]
 simp only[Option.bind_some]
 cases hk:(j5 w0).2.2 with
 |false=>simp[ev0]
 |true=>
  simp only[Bool.not_true,Bool.false_eq_true,if_false,Bool.true_and]
  have w1:w64 (1+(a:Int))=((1+a:Nat):Int):=by rw[yx (by omega) (by omega)];omega
  have w2:w64 (((1+a:Nat):Int)+(b:Int))=((1+a+b:Nat):Int):=by rw[yx (by omega) (by omega)];omega
  rw[w1,w2]
  by_cases hl:(w0::tl).length=1+a+b
  ·have d1:decide (((w0::tl).length:Int)=((1+a+b:Nat):Int))=true:=decide_eq_true (by omega)
   have d2:decide (((w0::tl).length:Int)=1+(a:Int)+(b:Int))=true:=decide_eq_true (by omega)
   rw[d1,d2]
   simp only[Bool.not_true,Bool.false_eq_true,if_false,Bool.true_and,qfR (N:=N) (l:=w0::tl) (v:=[]) (by omega) (by omega),Option.bind_some]
   cases hany:(w0::tl).any fun w=>([]:Str)==w with
   |true=>simp[ev0]
   |false=>
    simp only[Bool.false_eq_true,if_false,Bool.not_false,Bool.true_and]
    rw[show cut (w0::tl) 1 ((1+a:Nat):Int)=cut (w0::tl) ((1:Nat):Int) ((1+a:Nat):Int)from rfl,qcJ (by omega) (by omega),Option.bind_some,qhE (by simp;omega),Option.bind_some,qdp (by omega),Option.bind_some]
    have hL:=qcr ((w0::tl).drop (1+a)) (by simp;omega) (fun w hw=>by have:=hsh w (List.mem_of_mem_drop hw);simp at this;omega) N 0 [] (by omega) (by simp;omega) (by simp)
    rw[List.drop_zero,List.nil_append]at hL
    rw[show za ((w0::tl).drop (1+a)) N [] 0=_ from hL,show 1+a-1=a by omega,Int.toNat_natCast]
    cases hall:((w0::tl).drop (1+a)).all fun w=>(qaA w).2 with
    |true=>simp only[if_true,Option.bind_some]
    |false=>simp only[Bool.false_eq_true,if_false,Option.bind_some]
  ·have d1:decide (((w0::tl).length:Int)=((1+a+b:Nat):Int))=false:=decide_eq_false (by omega)
   have d2:decide (((w0::tl).length:Int)=1+(a:Int)+(b:Int))=false:=decide_eq_false (by omega)
   rw[d1,d2]
   simp[ev0]
def goP (a:Nat):List Str→Nat→List Str→List Int→Option (List Str×List Int)
 |[],_,l8,l9=>some (l8,l9)
 |w::ws,i,l8,l9=>if(w==[])=true then none else if i≤a then goP a ws (i+1) (l8++[w]) l9 else if(qaA w).2=true then goP a ws (i+1) l8 (l9++[(qaA w).1])else none
theorem qcd {N:Nat} (hN:2000<N) (ws:List Str) (hl:ws.length≤1000) (a:Nat) (F:Int×Int×Bool) (hF:F.1=(a:Int)): ∀(K i:Nat) (l8:List Str) (l9:List Int),i≤ws.length→ws.length<K+i→l8.length≤i→l9.length≤i→
 zD N ws F K l8 l9 (i:Int)=some (match goP a (ws.drop i) i l8 l9 with|some r=> .inl r|none=> .inr (ev0,false))
 |0,i,l8,l9,h,hK,_,_=>by omega
 |K+1,i,l8,l9,h,hK,h8,h9=>by
  unfold zD
  by_cases hi:i<ws.length
  ·rw[if_pos (by omega),qp,List.getElem?_eq_getElem hi,Option.bind_some,List.drop_eq_getElem_cons hi,goP]
   generalize ws[i]=w
   by_cases hw:(w==[])=true
   ·rw[if_pos hw,if_pos hw]
    rfl
   ·rw[if_neg hw,if_neg hw]
    by_cases hia:i≤a
    ·rw[if_pos (show(i:Int)≤F.1 by omega),if_pos hia,vz (by simp;omega) (by simp;omega),Option.bind_some,Option.bind_some]
     simp only
     rw[zt (by omega),qcd hN ws hl a F hF K (i+1) _ _ (by omega) (by omega) (by simp;omega) (by omega)]
    ·rw[if_neg (show¬(i:Int)≤F.1 by omega),if_neg hia,qfZ hN,Option.bind_some]
     cases hc:(qaA w).2 with
     |false=>rfl
     |true=>
      simp only[Bool.not_true,Bool.false_eq_true,if_false,if_true]
      rw[vz (by simp;omega) (by simp;omega),Option.bind_some,Option.bind_some]
      simp only
      rw[zt (by omega),qcd hN ws hl a F hF K (i+1) _ _ (by omega) (by omega) (by omega) (by simp;omega)]
  ·rw[if_neg (by omega),List.drop_of_length_le (by omega)]
   rfl
theorem qgD (a:Nat): ∀(ws:List Str) (i:Nat) (l8:List Str) (l9:List Int),goP a ws i l8 l9=if(!(ws.any fun w=>([]:Str)==w)&&(ws.drop (a+1-i)).all fun w=>(qaA w).2)=true then some (l8++ws.take (a+1-i),l9++(ws.drop (a+1-i)).map fun w=>(qaA w).1)else none
 |[],i,l8,l9=>by simp[goP]
 |w::ws,i,l8,l9=>by
  rw[goP]
  have hcomm:(([]:Str)==w)=(w==[]):=by
   cases w<;>rfl
  by_cases hw:(w==[])=true
  ·rw[if_pos hw,List.any_cons,hcomm,hw]
   simp
  ·have hw2:(w==[])=false:=by simpa using hw
   rw[if_neg hw,List.any_cons,hcomm,hw2,Bool.false_or]
   by_cases hia:i≤a
   ·rw[if_pos hia,qgD a ws (i+1),show a+1-i=(a+1-(i+1))+1 by omega]
    simp only[List.drop_succ_cons,List.take_succ_cons,List.append_assoc,List.singleton_append]
   ·rw[if_neg hia,show a+1-i=0 by omega]
    simp only[List.drop_zero,List.take_zero,List.append_nil,List.all_cons,List.map_cons]
    cases hc:(qaA w).2 with
    |false=>simp
    |true=>
     rw[if_pos rfl,qgD a ws (i+1),show a+1-(i+1)=0 by omega]
     simp
theorem qhI {N:Nat} {s:Str} (hs:s.length≤900) (hN:2000<N):vZ N s=some (xR s):=by
 unfold vZ xR
 rw[qhl (by omega) (by omega),Option.bind_some]
 have hlen:=qcG [] s
 have hc:=qcB s
 generalize spl [] s=ws at hlen
 obtain⟨w0,tl,rfl⟩: ∃w0 tl,ws=w0::tl:=by
  cases ws with
  |nil=>simp at hlen
  |cons x xs=>exact⟨x,xs,rfl⟩
 unfold qiA
 have hh:(w0::tl).headD []=w0:=rfl
 rw[hh]
 obtain⟨a,b,ha,hb,e1,e2,e3⟩:=qd8 w0
 have hlen2:(w0::tl).length≤901:=by omega
 have hlen3:=hlen2
 rw[List.length_cons]at hlen3
 simp only[Option.bind_some,qdo,List.getElem?_cons_zero,qjy]
 cases hk:(j5 w0).2.2 with
 |false=>simp[ev0]
 |true=>
  simp only[Bool.not_true,Bool.false_eq_true,if_false,Bool.true_and,e1,e2]
  have w1:w64 (1+(a:Int))=((1+a:Nat):Int):=by rw[yx (by omega) (by omega)];omega
  have w2:w64 (((1+a:Nat):Int)+(b:Int))=((1+a+b:Nat):Int):=by rw[yx (by omega) (by omega)];omega
  rw[w1,w2]
  by_cases hl:(w0::tl).length=1+a+b
  ·have d1:decide (((w0::tl).length:Int)=((1+a+b:Nat):Int))=true:=decide_eq_true (by omega)
   have d2:decide (((w0::tl).length:Int)=1+(a:Int)+(b:Int))=true:=decide_eq_true (by omega)
   rw[d1,d2]
   simp only[Bool.not_true,Bool.false_eq_true,if_false,Bool.true_and,Option.bind_some]
   have hL:=qcd hN (w0::tl) (by omega) a (j5 w0) e1 N 1 [] [] (by simp) (by omega) (by simp) (by simp)
   rw[show zD N (w0::tl) (j5 w0) N [] [] 1=_ from hL,List.drop_succ_cons,List.drop_zero,qgD,show a+1-1=a by omega,Int.toNat_natCast]
   have hne:(([]:Str)==w0)=false:=by
    have:=e3 hk
    cases w0 with
    |nil=>exact absurd rfl this
    |cons x xs=>rfl
   rw[List.any_cons,hne,Bool.false_or,show 1+a=a+1 by omega,List.drop_succ_cons]
   simp only[List.nil_append]
   cases(!(tl.any fun w=>([]:Str)==w)&&(tl.drop a).all fun w=>(qaA w).2)with
   |true=>simp only[if_true,Option.bind_some]
   |false=>simp only[Bool.false_eq_true,if_false,Option.bind_some]
  ·have d1:decide (((w0::tl).length:Int)=((1+a+b:Nat):Int))=false:=decide_eq_false (by omega)
   have d2:decide (((w0::tl).length:Int)=1+(a:Int)+(b:Int))=false:=decide_eq_false (by omega)
   rw[d1,d2]
   simp[ev0]
theorem qjN (a b:Int):cmp_Compare_int a b=some (if a<b then-1 else if a>b then 1 else 0):=by
 unfold cmp_Compare_int cmp_isNaN_int
 by_cases h1:a<b
 ·simp[h1]
 ·by_cases h2:a>b<;>simp[h1,h2]
theorem qjx (a b:Str):ja a b=some (if ltL a b=true then-1 else if a=b then 0 else 1):=by
 unfold ja cmp_isNaN_string
 by_cases h1:ltL a b=true
 ·simp[h1]
 ·by_cases h2:a=b
  ·subst h2;simp[h1]
  ·simp[h1,h2]
theorem qh4 {N:Nat} (hN:2000<N) (a b:Int):xm N [a,b]=some (if a=0 then b else a):=by
 unfold xm
 obtain⟨K,rfl⟩: ∃K,N=K+3:=⟨N-3,by omega⟩
 have w0:w64 ((0:Int)+1)=1:=by decide
 have w1:w64 ((1:Int)+1)=2:=by decide
 unfold zY
 rw[if_pos (by simp),qdo]
 simp only[List.getElem?_cons_zero,Option.bind_some,w0]
 by_cases h1:a=0
 ·subst h1
  unfold zY
  simp only[decide_true,Bool.not_true,Bool.false_eq_true,if_false]
  rw[if_pos (by simp),idx_1]
  simp only[List.getElem?_cons_succ,List.getElem?_cons_zero,Option.bind_some,w1]
  by_cases h2:b=0
  ·subst h2
   unfold zY
   simp
  ·simp[h2]
 ·simp[h1]
theorem qgn {N:Nat} (hN:2000<N) (m o:qj):zh N m o=some (if ltL m.Desk o.Desk=true then-1 else if m.Desk=o.Desk then(if m.Number<o.Number then-1 else if m.Number>o.Number then 1 else 0)else 1):=by
 unfold zh
 rw[qjx,Option.bind_some,qjN,Option.bind_some,qh4 hN]
 by_cases h1:ltL m.Desk o.Desk=true
 ·simp[h1]
 ·by_cases h2:m.Desk=o.Desk
  ·simp only[if_neg h1,if_pos h2,if_true,Option.bind_some]
  ·simp[h1,h2]
def yF (n:qb):Int:=if qav n.Desk=false then 8 else if(qa7 n.Number 1 1000||qa7 n.Clock 1 1000000)=true then 3 else if(!(xR n.Line).2||(xR n.Line).1.Kind==qbG)=true then 25 else 0
def qbX (p n:qb):Bool:=ltL n.Desk p.Desk||(n.Desk==p.Desk&&(decide (n.Number≤p.Number)||decide (n.Clock≤p.Clock)))
def qfW:Option qb→qb→Bool
 |some q,n=>qbX q n
 |none,_=>false
def qbF:Option qb→List qb→Int
 |_,[]=>0
 |p,n::l=>if yF n≠0 then yF n else if qfW p n=true then 11 else qbF (some n) l
theorem qcb (p:Option qb) (n:qb) (l:List qb):qbF p (n::l)=if yF n≠0 then yF n else if qfW p n=true then 11 else qbF (some n) l:=rfl
def checkN (l:List qb):Int:=if l.length>1000 then 5 else qbF none l
def vV (l:List qb):Prop:= ∀n∈l,n.Desk.length≤60∧n.Line.length≤150
theorem qeA {N:Nat} (hN:2000<N) {n:qb} (h:n.Desk.length≤60∧n.Line.length≤150):jC N n=some (yF n):=by
 unfold jC yF
 rw[qfN (by omega) hN,Option.bind_some]
 simp only[qju (N:=N) (s:=n.Desk) (by omega),qhx,xG,Option.bind_some]
 rw[show([117,110,100,111]:Str)=qbG from rfl]
 have f: ∀a b c d:Int,kw N [a,b,c,d]=some (zy [a,b,c,d]):=fun a b c d=>yQ (by simp) (by simp;omega)
 simp only[f,Option.bind_some]
 by_cases h1:qav n.Desk=true
 ·by_cases h2:qa7 n.Number 1 1000=true
  ·by_cases h5:(xR n.Line).2=true<;>simp[h1,h2,h5,zy]
  ·by_cases h3:qa7 n.Clock 1 1000000=true
   ·by_cases h5:(xR n.Line).2=true<;>simp[h1,h2,h3,h5,zy]
   ·by_cases h5:(xR n.Line).2=true
    ·by_cases h6:((xR n.Line).1.Kind==qbG)=true<;>simp[h1,h2,h3,h5,h6,zy]
    ·simp[h1,h2,h3,h5,zy]
 ·by_cases h5:(xR n.Line).2=true<;>simp[h1,h5,zy]
theorem qiz (p n:qb):(if(if ltL p.Desk n.Desk=true then(-1:Int)else if p.Desk=n.Desk then(if p.Number<n.Number then-1 else if p.Number>n.Number then 1 else 0)else 1)≥0 then some true else if(p.Desk==n.Desk)=true then some (decide (p.Clock≥n.Clock))else some false:Option Bool)=some (qbX p n):=by
 unfold qbX
 by_cases h1:ltL p.Desk n.Desk=true
 ·have h2:=qhA h1
  have h3: ¬(p.Desk==n.Desk)=true:=fun e=>qik h1 (beq_iff_eq.1 e)
  have h4: ¬(n.Desk==p.Desk)=true:=fun e=>qik h1 (beq_iff_eq.1 e).symm
  simp[h1,h2,h3,h4]
 ·by_cases h2:p.Desk=n.Desk
  ·have h3:ltL n.Desk p.Desk=false:=by rw[h2];exact vS _
   by_cases h5:p.Number<n.Number
   ·have: ¬n.Number≤p.Number:=by omega
    have h6:((p.Desk==n.Desk)=true):=by simpa using h2
    have h7:((n.Desk==p.Desk)=true):=by simpa using h2.symm
    simp only[h1,if_pos h2,if_pos h5,h3,h6,h7,this,decide_false,Bool.false_or,Bool.true_and,if_true,if_false]
    simp
   ·have:n.Number≤p.Number:=by omega
    have h7:((n.Desk==p.Desk)=true):=by simpa using h2.symm
    have h6:((p.Desk==n.Desk)=true):=by simpa using h2
    by_cases h8:p.Number>n.Number<;>simp only[if_neg h1,if_pos h2,if_neg h5,h8,if_true,if_false,h3,h7,this,decide_true,Bool.false_or,Bool.true_or,Bool.true_and]<;>rfl
  ·have h3:ltL n.Desk p.Desk=true:=by
    cases hq:ltL n.Desk p.Desk with
    |true=>rfl
    |false=>exact absurd (qbL _ _ (by simpa using h1) hq) h2
   simp[h1,h2,h3]
def yM (l:List qb) (k:Nat):Option qb:=if k=0 then none else l[k-1]?
theorem qcT {l:List qb} {k:Nat} (hk:k<l.length):yM l (k+1)=some l[k]:=by
 unfold yM
 rw[if_neg (by omega),Nat.add_sub_cancel,List.getElem?_eq_getElem hk]
theorem qbk {N:Nat} (hN:2000<N) {l:List qb} (hs:vV l) (hl:l.length≤1000): ∀(K k:Nat),k≤l.length→l.length<K+k→
 qD N l K (k:Int)=some (if qbF (yM l k) (l.drop k)=0 then .inl ()else .inr (qbF (yM l k) (l.drop k)))
 |0,k,h,hK=>by omega
 |K+1,k,h,hK=>by
  unfold qD
  by_cases hk:k<l.length
  ·rw[if_pos (by omega),qp,List.getElem?_eq_getElem hk,Option.bind_some,List.drop_eq_getElem_cons hk,zt (by omega),qbk hN hs hl K (k+1) (by omega) (by omega),qcT hk]
   have hq:=hs l[k] (List.getElem_mem hk)
   generalize l[k]=n at hq⊢
   have e:(if(k:Int)>0 then(idx l (w64 ((k:Int)-1))).bind fun x8=>(qK x8).bind fun r9=>(qK n).bind fun r10=>(zh N r9 r10).bind fun r11=>if r11≥0 then some true else if(x8.Desk==n.Desk)=true then some (decide (x8.Clock≥n.Clock))else some false else some false:Option Bool)=some (qfW (yM l k) n):=by
    by_cases h0:k=0
    ·subst h0
     rfl
    ·rw[if_pos (by omega),qdP (by omega) (by omega),qp,List.getElem?_eq_getElem (by omega)]
     have:yM l k=some l[k-1]:=by unfold yM;rw[if_neg h0,List.getElem?_eq_getElem (by omega)]
     rw[this]
     simp only[Option.bind_some,qK,qgn hN]
     exact qiz l[k-1] n
   rw[e,Option.bind_some,qeA hN hq]
   simp only[Option.bind_some,xG]
   rw[yQ (by simp) (by simp;omega),Option.bind_some,qcb]
   generalize qfW (yM l k) n=b
   by_cases h1:yF n=0
   ·cases b<;>simp[h1,zy]
   ·simp[h1,zy]
  ·rw[if_neg (by omega),List.drop_of_length_le (by omega)]
   rfl
theorem qY {N:Nat} (hN:2000<N) {l:List qb} (hs:vV l):qA N l=some (checkN l):=by
 unfold qA checkN
 by_cases hl:l.length>1000
 ·rw[if_pos (by omega),if_pos hl]
 ·rw[if_neg (by omega),if_neg hl,show qD N l N 0=qD N l N ((0:Nat):Int)from rfl,qbk hN hs (by omega) N 0 (by omega) (by omega),List.drop_zero]
  show(some (if qbF none l=0 then _ else _):Option _).bind _=_
  by_cases h0:qbF none l=0
  ·simp[h0,yM]
  ·simp[h0,yM]
theorem qaM {N:Nat} (hN:2000<N) {l:List qb} (hs:vV l) (hl:l.length≤1000): ∀(K k:Nat),k≤l.length→l.length<K+k→
 qI N l K (k:Int)=some (if qbF (yM l k) (l.drop k)=0 then .inl ()else .inr (qbF (yM l k) (l.drop k)))
 |0,k,h,hK=>by omega
 |K+1,k,h,hK=>by
  unfold qI
  by_cases hk:k<l.length
  ·rw[if_pos (by omega),qp,List.getElem?_eq_getElem hk,Option.bind_some,List.drop_eq_getElem_cons hk,zt (by omega),qaM hN hs hl K (k+1) (by omega) (by omega),qcT hk]
   have hq:=hs l[k] (List.getElem_mem hk)
   generalize l[k]=n at hq⊢
   rw[qcb]
   simp only[qgf (N:=N) (s:=n.Desk) (by omega) (by omega),qgG,qhI (N:=N) (s:=n.Line) (by omega) hN,Option.bind_some]
   rw[show([117,110,100,111]:Str)=qbG from rfl]
   unfold yF
   by_cases h1:qav n.Desk=true
   ·by_cases h2:qa7 n.Number 1 1000=true
    ·simp[h1,h2]
    by_cases h3:qa7 n.Clock 1 1000000=true
    ·simp[h1,h2,h3]
    by_cases h5:(xR n.Line).2=true
    ·by_cases h6:((xR n.Line).1.Kind==qbG)=true
     ·simp[h1,h2,h3,h5,h6]
     ·by_cases h0:k=0
      ·subst h0
       simp[h1,h2,h3,h5,h6,yM,qfW]
      ·have hp:yM l k=some l[k-1]:=by unfold yM;rw[if_neg h0,List.getElem?_eq_getElem (by omega)]
       have hb:(if ltL n.Desk (l[k-1]).Desk=true then some true else if(n.Desk==(l[k-1]).Desk)=true then if n.Number≤(l[k-1]).Number then some true else some (decide (n.Clock≤(l[k-1]).Clock))else some false:Option Bool)=some (qbX l[k-1] n):=by
        unfold qbX
        by_cases g1:ltL n.Desk (l[k-1]).Desk=true
        ·simp[g1]
        ·by_cases g2:(n.Desk==(l[k-1]).Desk)=true
         ·by_cases g3:n.Number≤(l[k-1]).Number<;>simp[g1,g2,g3]
         ·simp[g1,g2]
       rw[hp,show qfW (some l[k-1]) n=qbX l[k-1] n from rfl]
       have hk0:(k:Int)>0:=by omega
       simp only[h1,h2,h3,h5,h6,hk0,if_true,if_false,Bool.not_true,Bool.false_eq_true,Option.bind_some,Bool.or_self,Bool.or_false,qdP (show k<4611686018427387904 by omega) (by omega),qp,List.getElem?_eq_getElem (show k-1<l.length by omega),hb,ne_eq,not_true_eq_false,Bool.true_eq_false]
       by_cases hb2:qbX l[k-1] n=true<;>simp[hb2]
    ·simp[h1,h2,h3,h5]
   ·simp[h1]
  ·rw[if_neg (by omega),List.drop_of_length_le (by omega)]
   rfl
theorem xz {N:Nat} (hN:2000<N) {l:List qb} (hs:vV l):zH N l=some (checkN l):=by
 unfold zH checkN
 by_cases hl:l.length>1000
 ·rw[if_pos (by omega),if_pos hl]
 ·rw[if_neg (by omega),if_neg hl,show qI N l N 0=qI N l N ((0:Nat):Int)from rfl,qaM hN hs (by omega) N 0 (by omega) (by omega),List.drop_zero]
  show(some (if qbF none l=0 then _ else _):Option _).bind _=_
  by_cases h0:qbF none l=0
  ·simp[h0,yM]
  ·simp[h0,yM]
def qhb (m:qj):Int:=if qav m.Desk=false then 8 else if qa7 m.Number 0 1000=true then 3 else 0
def behM:Option qj→qj→Bool
 |some q,m=>!(ltL q.Desk m.Desk)
 |none,_=>false
def chkM:Option qj→List qj→Int
 |_,[]=>0
 |p,m::l=>if qhb m≠0 then qhb m else if behM p m=true then 11 else chkM (some m) l
def checkM (l:List qj):Int:=if l.length>1000 then 5 else chkM none l
def ShortM (l:List qj):Prop:= ∀m∈l,m.Desk.length≤60
def prevM (l:List qj) (k:Nat):Option qj:=if k=0 then none else l[k-1]?
def hasV (h:Int) (v:List qj) (d:Str):Int:=v.foldl (fun h m=>if(m.Desk==d)=true then m.Number else h) h
def lackE (l:List qb) (v:List qj):List qb:=l.filter fun n=>decide (n.Number>hasV 0 v n.Desk)
theorem qea (l:List Int) (hl:l.length<4611686018427387904): ∀(K k:Nat),k≤l.length→l.length<K+k→jd l K (k:Int)=some (if zy (l.drop k)=0 then .inl ()else .inr (zy (l.drop k)))
 |0,k,h,hK=>by omega
 |K+1,k,h,hK=>by
  unfold jd
  by_cases hk:k<l.length
  ·rw[if_pos (by omega),qp,List.getElem?_eq_getElem hk,List.drop_eq_getElem_cons hk,zt (by omega),qea l hl K (k+1) (by omega) (by omega)]
   simp only[Option.bind_some,zy]
   by_cases h0:l[k]=0
   ·simp[h0]
   ·simp[h0]
  ·rw[if_neg (by omega),List.drop_of_length_le (by omega)]
   rfl
theorem qhn {N:Nat} {l:List Int} (hl:l.length<4611686018427387904) (h:l.length<N):yP N l=some (zy l):=by
 unfold yP
 rw[show(0:Int)=((0:Nat):Int)from rfl,qea l hl N 0 (Nat.zero_le _) (by omega),List.drop_zero]
 by_cases h0:zy l=0
 ·simp[h0]
 ·simp[h0]
theorem qfY (l:List qb) (hl:l.length*48≤140737488355328): ∀(K k:Nat) (o:List qb),k≤l.length→l.length<K+k→o.length≤k→zO l K o (k:Int)=some (o++l.drop k)
 |0,k,o,h,hK,_=>by omega
 |K+1,k,o,h,hK,ho=>by
  unfold zO
  by_cases hk:k<l.length
  ·rw[if_pos (by omega),qp,List.getElem?_eq_getElem hk,Option.bind_some,vz (by simp;omega) (by simp;omega),Option.bind_some,zt (by omega),qfY l hl K (k+1) _ (by omega) (by omega) (by simp;omega),List.drop_eq_getElem_cons hk,List.append_assoc]
   rfl
  ·rw[if_neg (by omega),List.drop_of_length_le (by omega),List.append_nil]
theorem qfH (l:List qj) (hl:l.length*24≤140737488355328): ∀(K k:Nat) (o:List qj),k≤l.length→l.length<K+k→o.length≤k→zP l K o (k:Int)=some (o++l.drop k)
 |0,k,o,h,hK,_=>by omega
 |K+1,k,o,h,hK,ho=>by
  unfold zP
  by_cases hk:k<l.length
  ·rw[if_pos (by omega),qp,List.getElem?_eq_getElem hk,Option.bind_some,vz (by simp;omega) (by simp;omega),Option.bind_some,zt (by omega),qfH l hl K (k+1) _ (by omega) (by omega) (by simp;omega),List.drop_eq_getElem_cons hk,List.append_assoc]
   rfl
  ·rw[if_neg (by omega),List.drop_of_length_le (by omega),List.append_nil]
theorem qdO {N:Nat} {l:List qb} (hl:l.length*48≤140737488355328) (hN:l.length<N):vv N l=some l:=by
 unfold vv
 have:=qfY l hl N 0 [] (by omega) (by omega) (by simp)
 rw[show zO l N [] 0=_ from this]
 rfl
theorem qh5 {N:Nat} {l:List qj} (hl:l.length*24≤140737488355328) (hN:l.length<N):yI N l=some l:=by
 unfold yI
 have:=qfH l hl N 0 [] (by omega) (by omega) (by simp)
 rw[show zP l N [] 0=_ from this]
 rfl
theorem qeV {N:Nat} (l:List qb) (hl:l.length≤1003) (hN:2000<N):jP N l l=some true:=by
 have key: ∀(K k:Nat),k≤l.length→l.length<K+k→qQ l l K (k:Int)=some (.inl ()):=by
  intro K
  induction K with
  |zero=>intro k h hK;omega
  |succ K ih=>
   intro k h hK
   unfold qQ
   by_cases hk:k<l.length
   ·rw[if_pos (by omega),qp,List.getElem?_eq_getElem hk,Option.bind_some,Option.bind_some,zt (by omega),if_neg (by simp)]
    exact ih (k+1) (by omega) (by omega)
   ·rw[if_neg (by omega)]
 unfold jP
 rw[if_neg (by simp),show qQ l l N 0=qQ l l N ((0:Nat):Int)from rfl,key N 0 (by omega) (by omega)]
 rfl
theorem qeF {N:Nat} (l:List qj) (hl:l.length≤1003) (hN:2000<N):jQ N l l=some true:=by
 have key: ∀(K k:Nat),k≤l.length→l.length<K+k→qN l l K (k:Int)=some (.inl ()):=by
  intro K
  induction K with
  |zero=>intro k h hK;omega
  |succ K ih=>
   intro k h hK
   unfold qN
   by_cases hk:k<l.length
   ·rw[if_pos (by omega),qp,List.getElem?_eq_getElem hk,Option.bind_some,Option.bind_some,zt (by omega),if_neg (by simp)]
    exact ih (k+1) (by omega) (by omega)
   ·rw[if_neg (by omega)]
 unfold jQ
 rw[if_neg (by simp),show qN l l N 0=qN l l N ((0:Nat):Int)from rfl,key N 0 (by omega) (by omega)]
 rfl
theorem qbb (l:List qb) (hl:l.length≤1003): ∀(K k:Nat),k≤l.length→l.length<K+k→ ∃r,kr l K (k:Int)=some r∧((r= .inl ()∧ ∀n∈l.drop k,n.Desk.length≤60∧n.Line.length≤150)∨r= .inr false)
 |0,k,h,hK=>by omega
 |K+1,k,h,hK=>by
  unfold kr
  by_cases hk:k<l.length
  ·rw[if_pos (by omega),qp,List.getElem?_eq_getElem hk,Option.bind_some,List.drop_eq_getElem_cons hk,zt (by omega)]
   obtain⟨r,h1,h2⟩:=qbb l hl K (k+1) (by omega) (by omega)
   by_cases c1:((l[k]).Desk.length:Int)>60
   ·rw[if_pos c1]
    exact⟨_,rfl,.inr rfl⟩
   ·rw[if_neg c1]
    by_cases c2:((l[k]).Line.length:Int)>150
    ·simp only[Option.bind_some,decide_eq_true c2,if_true]
     exact⟨_,rfl,.inr rfl⟩
    ·simp only[Option.bind_some,decide_eq_false c2,Bool.false_eq_true,if_false]
     refine⟨r,h1,?_⟩
     rcases h2 with⟨g1,g2⟩|g1
     ·refine .inl ⟨g1,fun n hn=>?_⟩
      rcases List.mem_cons.1 hn with rfl|hn
      ·omega
      ·exact g2 n hn
     ·exact .inr g1
  ·rw[if_neg (by omega),List.drop_of_length_le (by omega)]
   exact⟨_,rfl,.inl ⟨rfl,fun n hn=>by simp at hn⟩⟩
theorem qbf {N:Nat} (hN:2000<N) (l:List qb) (m:Nat) (hm:m≤1000): ∃b,zx N l (m:Int)=some b∧(b=true→vV l∧l.length≤1003∧(l.length≤m∨1000<l.length)):=by
 unfold zx
 by_cases h1:l.length>1003
 ·refine⟨false,?_,fun h=>by cases h⟩
  have a1:(l.length:Int)>(m:Int):=by omega
  have a2: ¬(l.length:Int)≤1000:=by omega
  have a3:(l.length:Int)>1003:=by omega
  simp[a1,a2,a3]
 ·obtain⟨r,g1,g2⟩:=qbb l (by omega) N 0 (by omega) (by omega)
  have g1:kr l N 0=some r:=g1
  have a3: ¬(l.length:Int)>1003:=by omega
  rw[g1]
  by_cases a1:(l.length:Int)>(m:Int)
  ·by_cases a2:(l.length:Int)≤1000
   ·exact⟨false,by simp[a1,a2],fun h=>by cases h⟩
   ·rcases g2 with⟨rfl,g2⟩|rfl
    ·exact⟨true,by simp[a1,a2,a3],fun _=>⟨g2,by omega,.inr (by omega)⟩⟩
    ·exact⟨false,by simp[a1,a2,a3],fun h=>by cases h⟩
  ·rcases g2 with⟨rfl,g2⟩|rfl
   ·exact⟨true,by simp[a1,a3],fun _=>⟨g2,by omega,.inl (by omega)⟩⟩
   ·exact⟨false,by simp[a1,a3],fun h=>by cases h⟩
def ltN (a b:qb):Bool:=ltL a.Desk b.Desk||(a.Desk==b.Desk&&decide (a.Number<b.Number))
theorem qck {a b c:qb} (h:ltN a b=true) (k:ltN b c=true):ltN a c=true:=xZ (x:=toQ a) (y:=toQ b) (z:=toQ c) h k
theorem qgo (a:qb):ltN a a=false:=qae (toQ a)
theorem qjB {p n:qb} (h:qbX p n=false):ltN p n=true:=by
 unfold qbX at h
 simp only[Bool.or_eq_false_iff,Bool.and_eq_false_iff,beq_eq_false_iff_ne,decide_eq_false_iff_not]at h
 unfold ltN
 by_cases e:p.Desk=n.Desk
 ·have:p.Number<n.Number:=by
   rcases h.2 with h2|h2
   ·exact absurd e.symm h2
   ·have:=h2.1
    omega
  simp[e,this]
 ·have:ltL p.Desk n.Desk=true:=by
   cases h1:ltL p.Desk n.Desk with
   |true=>rfl
   |false=>exact absurd (qbL _ _ h1 h.1) e
  simp[this]
abbrev yC (l:List qb):Prop:=l.Pairwise fun a b=>ltN a b=true
theorem qeM: ∀(l:List qb) (p:Option qb),qbF p l=0→(∀q,p=some q→ ∀n∈l,ltN q n=true)∧yC l∧ ∀n∈l,1≤n.Number∧n.Number≤1000
 |[],p,_=>⟨by simp,List.Pairwise.nil,by simp⟩
 |n::l,p,h=>by
  rw[qcb]at h
  by_cases h1:yF n=0
  ·rw[if_neg (fun x=>x h1)]at h
   by_cases h2:qfW p n=true
   ·rw[if_pos h2]at h;cases h
   ·rw[if_neg h2]at h
    obtain⟨a,b,c⟩:=qeM l (some n) h
    have hn:1≤n.Number∧n.Number≤1000:=by
     unfold yF at h1
     by_cases e1:qav n.Desk=false
     ·rw[if_pos e1]at h1;cases h1
     ·rw[if_neg e1]at h1
      by_cases e2:(qa7 n.Number 1 1000||qa7 n.Clock 1 1000000)=true
      ·rw[if_pos e2]at h1;cases h1
      ·unfold qa7 at e2
       simp at e2
       omega
    refine⟨fun q hq x hx=>?_,List.Pairwise.cons (fun x hx=>a n rfl x hx) b,fun x hx=>?_⟩
    ·subst hq
     have hb:ltN q n=true:=qjB (by simpa[qfW]using h2)
     rcases List.mem_cons.1 hx with rfl|hx
     ·exact hb
     ·exact qck hb (a n rfl x hx)
    ·rcases List.mem_cons.1 hx with rfl|hx
     ·exact hn
     ·exact c x hx
  ·rw[if_pos h1]at h;exact absurd h h1
def qgt:List qb→Int→Int
 |[],m=>m
 |n::s,m=>if n.Number=m+1 then qgt s (m+1)else m
def qbW:List qb→Int→Int
 |[],m=>m
 |n::s,m=>if n.Number=m+1 then qbW s (m+1)else qbW s m
theorem qer: ∀(s:List qb) (m:Int),(∀n∈s,m+1<n.Number)→qbW s m=m
 |[],_,_=>rfl
 |n::s,m,h=>by
  have:=h n (List.mem_cons_self ..)
  rw[qbW,if_neg (by omega)]
  exact qer s m fun x hx=>h x (List.mem_cons_of_mem _ hx)
theorem qg8: ∀(s:List qb) (m:Int),(s.Pairwise fun a b=>a.Number<b.Number)→(∀n∈s,m<n.Number)→qbW s m=qgt s m
 |[],_,_,_=>rfl
 |n::s,m,hp,hm=>by
  rw[qbW,qgt]
  obtain⟨h1,h2⟩:=List.pairwise_cons.1 hp
  by_cases e:n.Number=m+1
  ·rw[if_pos e,if_pos e]
   exact qg8 s (m+1) h2 fun x hx=>by have:=h1 x hx;omega
  ·rw[if_neg e,if_neg e]
   exact qer s m fun x hx=>by have:=h1 x hx;have:=hm n (List.mem_cons_self ..);omega
def qaS (d:Str) (n:qb):Bool:=n.Desk==d
theorem qh0 {l:List qb} (hl:l.length≤1003) (x:qb): ∀(K i:Nat),i≤l.length→l.length<K+i→zK l x K (i:Int)=some ((i+((l.drop i).takeWhile (qaS x.Desk)).length:Nat):Int)
 |0,i,h1,h2=>by omega
 |K+1,i,h1,h2=>by
  unfold zK
  by_cases hi:i<l.length
  ·rw[if_pos (by omega),qp,List.getElem?_eq_getElem hi,Option.bind_some,Option.bind_some,List.drop_eq_getElem_cons hi,List.takeWhile_cons,show(l[i].Desk==x.Desk)=qaS x.Desk l[i]from rfl]
   by_cases hd:qaS x.Desk l[i]=true
   ·rw[if_pos hd,if_pos hd,zt (by omega),qh0 hl x K (i+1) (by omega) (by omega),List.length_cons]
    congr 2
    omega
   ·rw[if_neg hd,if_neg hd]
    rfl
  ·rw[if_neg (by omega),Option.bind_some,if_neg (by simp),List.drop_of_length_le (by omega)]
   simp
theorem qiq {s:List qb} (hs:s.length≤1003): ∀(K i:Nat) (m:Int),i≤s.length→s.length<K+i→0≤m→m≤i→zw s K m (i:Int)=some (qgt (s.drop i) m)
 |0,i,m,h1,h2,_,_=>by omega
 |K+1,i,m,h1,h2,h3,h4=>by
  unfold zw
  by_cases hi:i<s.length
  ·have e1:w64 (m+1)=m+1:=yx (by omega) (by omega)
   rw[if_pos (by omega),qp,List.getElem?_eq_getElem hi,Option.bind_some,List.drop_eq_getElem_cons hi,qgt,e1]
   by_cases e:s[i].Number=m+1
   ·rw[if_neg (by simp[e]),if_pos e,zt (by omega),qiq hs K (i+1) (m+1) (by omega) (by omega) (by omega) (by omega)]
   ·rw[if_pos (by simp[e]),if_neg e]
  ·rw[if_neg (by omega),List.drop_of_length_le (by omega)]
   rfl
theorem qes {acc:List qj} (ha:acc.length≤1003) {d:Str} {m:Int} (h0:0≤m) (h1:m≤1003) (n:qb):
 ((idx (acc++[(⟨d,m⟩:qj)]) (w64 (((acc++[(⟨d,m⟩:qj)]).length:Int)-1))).bind fun x19=>if n.Number=(w64 (x19.Number+1))then(put (acc++[(⟨d,m⟩:qj)]) (w64 (((acc++[(⟨d,m⟩:qj)]).length:Int)-1)) (⟨x19.Desk,w64 (x19.Number+1)⟩:qj)).bind fun l21=>some l21 else some (acc++[(⟨d,m⟩:qj)]))=some (acc++[⟨d,if n.Number=m+1 then m+1 else m⟩]):=by
 have hl:(acc++[(⟨d,m⟩:qj)]).length=acc.length+1:=by simp
 have e1:w64 (m+1)=m+1:=yx (by omega) (by omega)
 rw[hl,qdP (by omega) (by omega),show acc.length+1-1=acc.length by omega,qp,List.getElem?_append_right (Nat.le_refl _),Nat.sub_self]
 simp only[List.getElem?_cons_zero,Option.bind_some,e1]
 by_cases e:n.Number=m+1
 ·rw[if_pos e,if_pos e,qeU (by simp)]
  simp
 ·rw[if_neg e,if_neg e]
theorem qeE: ∀(s:List qb) (m:Int),m≤qbW s m∧qbW s m≤m+s.length
 |[],m=>⟨Int.le_refl _,by simp[qbW]⟩
 |n::s,m=>by
  rw[qbW]
  split
  ·have:=qeE s (m+1)
   simp only[List.length_cons]
   omega
  ·have:=qeE s m
   simp only[List.length_cons]
   omega
theorem qex {l:List qb} (hl:l.length≤1003) {acc:List qj} (ha:acc.length≤1003) {d:Str} (K:Nat): ∀(g rest:List qb) (k:Nat) (m:Int),l.drop k=g++rest→(∀n∈g,n.Desk=d)→1≤k→(∃p,l[k-1]? =some p∧p.Desk=d)→0≤m→m≤k→
 qz l (K+g.length) (acc++[⟨d,m⟩]) (k:Int)=qz l K (acc++[⟨d,qbW g m⟩]) ((k+g.length:Nat):Int)
 |[],rest,k,m,_,_,_,_,_,_=>rfl
 |n::g,rest,k,m,hd,hg,h1,⟨p,hp,hpd⟩,h0,hm=>by
  have hk:k<l.length:=by
   rcases Nat.lt_or_ge k l.length with h|h
   ·exact h
   ·rw[List.drop_of_length_le h]at hd;simp at hd
  have hn:l[k]? =some n:=by
   have:=congrArg (fun x:List qb=>x[0]?) hd
   simp only[List.getElem?_drop,Nat.add_zero,List.cons_append,List.getElem?_cons_zero]at this
   exact this
  have hnd:=hg n (List.mem_cons_self ..)
  have hdrop:l.drop (k+1)=g++rest:=by
   have:=congrArg (List.drop 1) hd
   rw[List.drop_drop]at this
   exact this
  rw[List.length_cons,show K+(g.length+1)=(K+g.length)+1 by omega]
  rw[qz]
  have eb:((if(k:Int)=0 then some true else(idx l (k:Int)).bind fun x9=>(idx l (w64 ((k:Int)-1))).bind fun x10=>some (!(x9.Desk==x10.Desk)):Option Bool))=some false:=by
   rw[if_neg (by omega),qp,hn,Option.bind_some,qdP (by omega) h1,qp,hp,Option.bind_some,hnd,hpd]
   simp
  rw[if_pos (by omega),eb]
  simp only[Option.bind_some,Bool.false_eq_true,if_false]
  rw[qp,hn,Option.bind_some,qes ha h0 (by omega) n,Option.bind_some,zt (by omega),qbW]
  have ih:=qex hl ha K g rest (k+1) (if n.Number=m+1 then m+1 else m) hdrop (fun x hx=>hg x (List.mem_cons_of_mem _ hx)) (by omega) ⟨n,by rw[Nat.add_sub_cancel];exact hn,hnd⟩ (by split<;>omega) (by split<;>omega)
  rw[ih,show k+1+g.length=k+(g.length+1)by omega]
  split<;>rfl
theorem qb5 {α:Type} {p:α→Bool}: ∀{l:List α} {y:α} {ys:List α},l.dropWhile p=y::ys→p y=false
 |[],_,_,h=>by simp at h
 |a::l,y,ys,h=>by
  rw[List.dropWhile_cons]at h
  by_cases hp:p a=true
  ·rw[if_pos hp]at h
   exact qb5 h
  ·rw[if_neg hp]at h
   injection h with h1 h2
   subst h1
   simpa using hp
def qgl (l:List qb) (i:Nat):Prop:=i=0∨(0<i∧ ∀x,l[i]? =some x→ ∃p,l[i-1]? =some p∧(p.Desk==x.Desk)=false)
theorem qf5 {l:List qb} (hl:l.length≤1003) {acc:List qj} (ha:acc.length≤1003) (K:Nat) {i:Nat} {x:qb} (hx:l[i]? =some x) (hb:qgl l i):
 qz l (K+1) acc (i:Int)=qz l K (acc++[⟨x.Desk,if x.Number=0+1 then 0+1 else 0⟩]) ((i+1:Nat):Int):=by
 have hi:i<l.length:=(List.getElem?_eq_some_iff.1 hx).1
 rw[qz]
 have eb:((if(i:Int)=0 then some true else(idx l (i:Int)).bind fun x9=>(idx l (w64 ((i:Int)-1))).bind fun x10=>some (!(x9.Desk==x10.Desk)):Option Bool))=some true:=by
  rcases hb with rfl|⟨h0,hb⟩
  ·rw[if_pos (by omega)]
  ·obtain⟨p,hp,hpd⟩:=hb x hx
   have hpd2:(x.Desk==p.Desk)=false:=by
    cases e:x.Desk==p.Desk with
    |false=>rfl
    |true=>rw[beq_iff_eq.1 e]at hpd;simp at hpd
   rw[if_neg (by omega),qp,hx,Option.bind_some,qdP (by omega) h0,qp,hp,Option.bind_some,hpd2]
   rfl
 rw[if_pos (by omega),eb]
 simp only[Option.bind_some,if_true]
 rw[qp,hx,Option.bind_some,vz (by simp;omega) (by simp;omega),Option.bind_some,Option.bind_some,Option.bind_some,qes ha (Int.le_refl _) (by omega) x,Option.bind_some,zt (by omega)]
theorem qfx {N:Nat} (hN:2000<N) {l:List qb} (hl:l.length≤1003) (ha:yC l) (hr: ∀n∈l,1≤n.Number∧n.Number≤1000): ∀(t i K1 K2:Nat) (acc:List qj),l.length-i≤t→i≤l.length→qgl l i→l.length<K1+i→l.length<K2+i→acc.length≤i→
 ∃r,zf N l K1 acc (i:Int)=some r∧qz l K2 acc (i:Int)=some r∧r.length≤l.length
 |t,i,0,K2,acc,h1,h2,hb,h3,h4,h5=>by omega
 |t,i,K1+1,0,acc,h1,h2,hb,h3,h4,h5=>by omega
 |t,i,K1+1,K2+1,acc,h1,h2,hb,h3,h4,h5=>by
  by_cases hi:i<l.length
  ·have hx:l[i]? =some l[i]:=List.getElem?_eq_getElem hi
   obtain⟨g',hg'⟩: ∃g',(l.drop i).takeWhile (qaS l[i].Desk)=l[i]::g':=by
    rw[List.drop_eq_getElem_cons hi,List.takeWhile_cons,if_pos (by simp[qaS])]
    exact⟨_,rfl⟩
   have hsplit:l.drop i=(l[i]::g')++(l.drop i).dropWhile (qaS l[i].Desk):=by rw[←hg',List.takeWhile_append_dropWhile]
   have hmem: ∀n∈l[i]::g',n.Desk=l[i].Desk:=by
    intro n hn
    rw[←hg']at hn
    have:=List.all_eq_true.1 (List.all_takeWhile (l:=l.drop i) (p:=qaS l[i].Desk)) n hn
    exact beq_iff_eq.1 this
   have hsub:(l[i]::g').Sublist l:=by
    rw[←hg']
    exact(List.takeWhile_sublist _).trans (List.drop_sublist _ _)
   have hlen:i+(g'.length+1)≤l.length:=by
    have:=congrArg List.length hsplit
    simp only[List.length_drop,List.length_append,List.length_cons]at this
    omega
   have hnum:(l[i]::g').Pairwise fun a b=>a.Number<b.Number:=by
    refine(ha.sublist hsub).imp_of_mem fun {a b} h1 h2 h3=>?_
    unfold ltN at h3
    rw[hmem a h1,hmem b h2,vS]at h3
    simpa using h3
   have hcnt:=qg8 (l[i]::g') 0 hnum fun n hn=>by have:=hr n (hsub.subset hn);omega
   have hle:=qeE (l[i]::g') 0
   have htake:(l.drop i).take (g'.length+1)=l[i]::g':=by
    rw[hsplit,show g'.length+1=(l[i]::g').length from rfl,List.take_left]
   have hb2:qgl l (i+(g'.length+1)):=by
    refine .inr ⟨by omega,fun y hy=>?_⟩
    have hy2:((l.drop i).dropWhile (qaS l[i].Desk))[0]? =some y:=by
     have e:=congrArg (fun z:List qb=>z[g'.length+1]?) hsplit
     simp only[List.getElem?_drop]at e
     rw[hy,List.getElem?_append_right (by simp)]at e
     simpa using e.symm
    have hp:(l[i]::g')[g'.length]? =some ((l[i]::g')[g'.length]'(by simp)):=List.getElem?_eq_getElem _
    refine⟨(l[i]::g')[g'.length]'(by simp),?_,?_⟩
    ·have e:=congrArg (fun z:List qb=>z[g'.length]?) hsplit
     simp only[List.getElem?_drop]at e
     rw[List.getElem?_append_left (by simp),hp]at e
     rw[show i+(g'.length+1)-1=i+g'.length by omega]
     exact e
    ·rw[hmem _ (List.getElem_mem _)]
     cases hdw:(l.drop i).dropWhile (qaS l[i].Desk)with
     |nil=>rw[hdw]at hy2;simp at hy2
     |cons z zs=>
      rw[hdw]at hy2
      simp only[List.getElem?_cons_zero,Option.some.injEq]at hy2
      subst hy2
      have:=qb5 hdw
      unfold qaS at this
      cases e:l[i].Desk==z.Desk with
      |false=>rfl
      |true=>rw[beq_iff_eq.1 e]at this;simp at this
   match t,h1 with
   |0,h1=>omega
   |t+1,h1=>
    obtain⟨r,r1,r2,r3⟩:=qfx hN hl ha hr t (i+(g'.length+1)) K1 (K2-g'.length) (acc++[⟨l[i].Desk,qgt (l[i]::g') 0⟩]) (by omega) hlen hb2 (by omega) (by omega) (by simp;omega)
    refine⟨r,?_,?_,r3⟩
    ·have hglen:(l[i]::g').length=g'.length+1:=rfl
     have hg3:(l[i]::g').length≤1003:=by omega
     rw[zf,if_pos (by omega),qp,hx,Option.bind_some,qh0 hl _ N i (by omega) (by omega),Option.bind_some,hg',hglen,qcJ (by omega) hlen,show i+(g'.length+1)-i=g'.length+1 by omega,htake,Option.bind_some]
     have e2:=qiq hg3 N 0 0 (by omega) (by omega) (Int.le_refl _) (by omega)
     rw[List.drop_zero]at e2
     rw[show zw (l[i]::g') N 0 0=_ from e2,Option.bind_some,vz (by simp;omega) (by simp;omega),Option.bind_some]
     exact r1
    ·rw[qf5 hl (by omega) K2 hx hb]
     have hK:K2=(K2-g'.length)+g'.length:=by omega
     have hd2:l.drop (i+1)=g'++(l.drop i).dropWhile (qaS l[i].Desk):=by
      have:=congrArg (List.drop 1) hsplit
      rw[List.drop_drop]at this
      exact this
     rw[hK,qex hl (by omega) (K2-g'.length) g' _ (i+1) _ hd2 (fun n hn=>hmem n (List.mem_cons_of_mem _ hn)) (by omega) ⟨l[i],by rw[Nat.add_sub_cancel];exact hx,rfl⟩ (by split<;>omega) (by split<;>omega)]
     have e3:qbW g' (if l[i].Number=0+1 then 0+1 else 0)=qgt (l[i]::g') 0:=by
      rw[←hcnt,qbW]
      split<;>rfl
     rw[e3,show i+1+g'.length=i+(g'.length+1)by omega]
     exact r2
  ·refine⟨acc,?_,?_,by omega⟩
   ·rw[zf,if_neg (by omega)]
   ·rw[qz,if_neg (by omega)]
theorem qe6 {N:Nat} (hN:2000<N) {l:List qb} (hs:vV l) (hl:l.length≤1003) (h0:checkN l=0): ∃r,jm N l=some (r,0)∧vE N l=some r∧r.length≤l.length:=by
 have hc:qbF none l=0:=by
  unfold checkN at h0
  split at h0
  ·cases h0
  ·exact h0
 obtain⟨_,ha,hr⟩:=qeM l none hc
 obtain⟨r,r1,r2,r3⟩:=qfx hN hl ha hr l.length 0 N N [] (by omega) (by omega) (.inl rfl) (by omega) (by omega) (by simp)
 refine⟨r,?_,?_,r3⟩
 ·unfold jm
  rw[qY hN hs,Option.bind_some,h0,if_neg (by simp),show zf N l N [] 0=_ from r1]
  rfl
 ·unfold vE
  rw[show qz l N [] 0=_ from r2]
  rfl
def jE (x n:qb):Bool:=x.Desk==n.Desk&&(decide (x.Number=n.Number)&&true)
def qdi (x n:qb):Bool:=(x.Desk==n.Desk)&&(decide (x.Number=n.Number)&&(decide (x.Clock=n.Clock)&&((x.Line==n.Line)&&true)))
def yA (a:List qb) (n:qb):Bool:=a.any fun x=>jE x n
def j6 (a:List qb) (n:qb):Bool:=a.any fun x=>jE x n&&!qdi x n
theorem jU {x n:qb}:jE x n=true↔x.Desk=n.Desk∧x.Number=n.Number:=by simp[jE]
theorem qa2 {x y:qb} (h:ltN x y=true):jE x y=false:=by
 cases e:jE x y with
 |false=>rfl
 |true=>
  obtain⟨h1,h2⟩:=jU.1 e
  unfold ltN at h
  rw[h1,h2,vS]at h
  simp at h
theorem qjb {a:List qb} (ha:yC a) {x y n:qb} (hx:x∈a) (hy:y∈a) (h1:jE x n=true) (h2:jE y n=true):x=y:=by
 obtain⟨i,hi⟩:=List.getElem?_of_mem hx
 obtain⟨j,hj⟩:=List.getElem?_of_mem hy
 obtain⟨hil,hi⟩:=List.getElem?_eq_some_iff.1 hi
 obtain⟨hjl,hj⟩:=List.getElem?_eq_some_iff.1 hj
 have hp:=List.pairwise_iff_getElem.1 ha
 obtain⟨m1,m2⟩:=jU.1 h1
 obtain⟨m3,m4⟩:=jU.1 h2
 have hs:jE x y=true:=jU.2 ⟨m1.trans m3.symm,m2.trans m4.symm⟩
 have hs':jE y x=true:=jU.2 ⟨m3.trans m1.symm,m4.trans m2.symm⟩
 rcases Nat.lt_trichotomy i j with h|h|h
 ·have:=qa2 (hp i j hil hjl h)
  rw[hi,hj,hs]at this;cases this
 ·subst h;exact hi.symm.trans hj
 ·have:=qa2 (hp j i hjl hil h)
  rw[hi,hj,hs']at this;cases this
theorem qfQ {a:List qb} (ha:yC a) {x n:qb} (hx:x∈a) (h:jE x n=true):j6 a n=!qdi x n∧yA a n=true:=by
 refine⟨?_,List.any_eq_true.2 ⟨x,hx,h⟩⟩
 unfold j6
 cases e:qdi x n with
 |false=>exact List.any_eq_true.2 ⟨x,hx,by simp[h,e]⟩
 |true=>
  rw[Bool.not_true,List.any_eq_false]
  intro y hy
  cases hm:jE y n with
  |false=>simp
  |true=>rw[qjb ha hy hx hm h];simp[e]
theorem qfo {a:List qb} {n:qb} (h:yA a n=false):j6 a n=false:=by
 unfold yA at h
 unfold j6
 rw[List.any_eq_false]at h⊢
 intro x hx
 have:=h x hx
 simp[this]
theorem qgX {a:List qb} (hl:a.length≤1003) (n:qb): ∀(K k:Nat),k≤a.length→a.length<K+k→ ∃r,qm a n.Desk n.Number n.Clock n.Line K (k:Int)=some r∧((r= .inl ()∧yA (a.drop k) n=false)∨ ∃j x,r= .inr ((j:Nat):Int)∧a[j]? =some x∧jE x n=true)
 |0,k,h1,h2=>by omega
 |K+1,k,h1,h2=>by
  unfold qm
  by_cases hk:k<a.length
  ·have ec:jw a[k] n.Desk n.Number n.Clock n.Line=some (jE a[k] n):=rfl
   rw[if_pos (by omega),qp,List.getElem?_eq_getElem hk,Option.bind_some,ec,Option.bind_some]
   by_cases hs:jE a[k] n=true
   ·rw[if_pos hs]
    exact⟨_,rfl,.inr ⟨k,a[k],rfl,List.getElem?_eq_getElem hk,hs⟩⟩
   ·rw[if_neg hs,zt (by omega)]
    obtain⟨r,r1,r2⟩:=qgX hl n K (k+1) (by omega) (by omega)
    refine⟨r,r1,?_⟩
    rcases r2 with⟨r2,r3⟩|r2
    ·refine .inl ⟨r2,?_⟩
     rw[List.drop_eq_getElem_cons hk]
     unfold yA at r3⊢
     rw[List.any_cons,r3]
     simpa using hs
    ·exact .inr r2
  ·rw[if_neg (by omega),List.drop_of_length_le (by omega)]
   exact⟨_,rfl,.inl ⟨rfl,rfl⟩⟩
theorem qhK {N:Nat} (hN:2000<N) {a:List qb} (hl:a.length≤1003) (n:qb):(qw N a n.Desk n.Number n.Clock n.Line=some (-1)∧yA a n=false)∨ ∃j x,qw N a n.Desk n.Number n.Clock n.Line=some ((j:Nat):Int)∧a[j]? =some x∧jE x n=true:=by
 obtain⟨r,r1,r2⟩:=qgX hl n N 0 (by omega) (by omega)
 unfold qw
 rw[show qm a n.Desk n.Number n.Clock n.Line N 0=_ from r1]
 rcases r2 with⟨rfl,r2⟩|⟨j,x,rfl,r2,r3⟩
 ·exact .inl ⟨rfl,by simpa using r2⟩
 ·exact .inr ⟨j,x,rfl,r2,r3⟩
theorem qgT {N:Nat} (hN:2000<N) {a:List qb} (hl:a.length≤1003) (ha:yC a) (n:qb) {out:List qb} (ho:out.length≤2100):
 ((qw N a n.Desk n.Number n.Clock n.Line).bind fun r17=>if r17<0 then(app 48 out [n]).bind fun l19=>some (.inl l19)else
   (idx a r17).bind fun x20=>if(!((x20.Desk==n.Desk)&&(decide (x20.Number=n.Number)&&(decide (x20.Clock=n.Clock)&&((x20.Line==n.Line)&&true)))))=true then some (.inr ([],29))else some (.inl out):Option ((List qb)⊕((List qb)×Int)))
 =some (if j6 a n=true then .inr ([],29)else .inl (if yA a n=true then out else out++[n])):=by
 rcases qhK hN hl n with⟨h1,h2⟩|⟨j,x,h1,h2,h3⟩
 ·rw[h1,Option.bind_some,if_pos (by omega),vz (by simp;omega) (by simp;omega),Option.bind_some,qfo h2,h2]
  rfl
 ·obtain⟨c1,c2⟩:=qfQ ha (List.mem_of_getElem? h2) h3
  rw[h1,Option.bind_some,if_neg (by omega),qp,h2,Option.bind_some,show((x.Desk==n.Desk)&&(decide (x.Number=n.Number)&&(decide (x.Clock=n.Clock)&&((x.Line==n.Line)&&true))))=qdi x n from rfl,c1,c2]
  cases qdi x n<;>rfl
def yn (a b:List qb):List qb:=b.filter fun n=>!yA a n
theorem pg_n {N:Nat} (hN:2000<N) {b:List qb} (hb:b.length≤1003): ∀(K k:Nat) (out:List qb),k≤b.length→b.length<K+k→out.length≤1003+k→
 kz N b K out (k:Int)=some (if(b.drop k).any (j6 [])=true then .inr ([],29)else .inl (out++yn [] (b.drop k)))
 |0,k,out,h1,h2,_=>by omega
 |K+1,k,out,h1,h2,h3=>by
  unfold kz
  by_cases hk:k<b.length
  ·rw[if_pos (by omega),qp,List.getElem?_eq_getElem hk,Option.bind_some]
   rw[show _=_ from qgT hN (a:=[]) (by simp) List.Pairwise.nil b[k] (out:=out) (by omega),Option.bind_some,List.drop_eq_getElem_cons hk,List.any_cons]
   have e1:j6 [] b[k]=false:=rfl
   have e2:yA [] b[k]=false:=rfl
   rw[e1,e2,if_neg (by simp),if_neg (by simp),Bool.false_or]
   simp only
   rw[zt (by omega),pg_n hN hb K (k+1) (out++[b[k]]) (by omega) (by omega) (by simp;omega)]
   unfold yn
   rw[List.filter_cons,e2]
   simp
  ·rw[if_neg (by omega),List.drop_of_length_le (by omega)]
   simp[yn]
theorem pg_c {N:Nat} (hN:2000<N) {hd:qb} {tl b:List qb} (hl:(hd::tl).length≤1003) (ha:yC (hd::tl)) (hb:b.length≤1003): ∀(K k:Nat) (out:List qb),k≤b.length→b.length<K+k→out.length≤1003+k→
 zb N hd tl b K out (k:Int)=some (if(b.drop k).any (j6 (hd::tl))=true then .inr ([],29)else .inl (out++yn (hd::tl) (b.drop k)))
 |0,k,out,h1,h2,_=>by omega
 |K+1,k,out,h1,h2,h3=>by
  unfold zb
  by_cases hk:k<b.length
  ·rw[if_pos (by omega),qp,List.getElem?_eq_getElem hk,Option.bind_some]
   rw[show _=_ from qgT hN hl ha b[k] (out:=out) (by omega),Option.bind_some,List.drop_eq_getElem_cons hk,List.any_cons]
   by_cases e1:j6 (hd::tl) b[k]=true
   ·rw[if_pos e1,e1,Bool.true_or,if_pos rfl]
   ·have e1':j6 (hd::tl) b[k]=false:=by simpa using e1
    rw[if_neg e1,e1',Bool.false_or]
    simp only
    rw[zt (by omega),pg_c hN hl ha hb K (k+1) _ (by omega) (by omega) (by split<;>(try simp only[List.length_append,List.length_singleton])<;>omega)]
    unfold yn
    rw[List.filter_cons]
    cases e2:yA (hd::tl) b[k]<;>simp
  ·rw[if_neg (by omega),List.drop_of_length_le (by omega)]
   simp[yn]
def vF (y:qb) (x:qb):Bool:=ltN x y
def qdJ (o:List qb) (y:qb):List qb:=o.takeWhile (vF y)++y::o.dropWhile (vF y)
theorem qkb {b o:List qb} (ho:o.length≤3000) {i:Nat} {y:qb} (hy:b[i]? =some y): ∀(K k:Nat),k≤o.length→o.length<K+k→zn b (i:Int) o K (k:Int)=some ((k+((o.drop k).takeWhile (vF y)).length:Nat):Int)
 |0,k,h1,h2=>by omega
 |K+1,k,h1,h2=>by
  unfold zn
  by_cases hk:k<o.length
  ·have ec:((if(ltL o[k].Desk y.Desk)=true then some true else if(o[k].Desk==y.Desk)=true then some (decide (o[k].Number<y.Number))else some false):Option Bool)=some (vF y o[k]):=by
    unfold vF ltN
    cases ltL o[k].Desk y.Desk<;>cases(o[k].Desk==y.Desk)<;>simp
   rw[if_pos (by omega),qp,List.getElem?_eq_getElem hk,Option.bind_some,qp,hy,Option.bind_some,ec,Option.bind_some,List.drop_eq_getElem_cons hk,List.takeWhile_cons]
   by_cases hb:vF y o[k]=true
   ·rw[if_pos hb,if_pos hb,zt (by omega),qkb ho hy K (k+1) (by omega) (by omega),List.length_cons]
    congr 2
    omega
   ·rw[if_neg hb,if_neg hb]
    rfl
  ·rw[if_neg (by omega),Option.bind_some,if_neg (by simp),List.drop_of_length_le (by omega)]
   simp
theorem qdr (y:qb): ∀o:List qb,o.take (o.takeWhile (vF y)).length=o.takeWhile (vF y)∧o.drop (o.takeWhile (vF y)).length=o.dropWhile (vF y)
 |[]=>⟨rfl,rfl⟩
 |x::o=>by
  obtain⟨h1,h2⟩:=qdr y o
  rw[List.takeWhile_cons,List.dropWhile_cons]
  by_cases h:vF y x=true
  ·rw[if_pos h,if_pos h,List.length_cons,List.take_succ_cons,List.drop_succ_cons,h1,h2]
   exact⟨rfl,rfl⟩
  ·rw[if_neg h,if_neg h]
   exact⟨rfl,rfl⟩
theorem qgV {x y:qb} (h:ltN x y=false) (hs:jE x y=false):ltN y x=true:=by
 unfold ltN at h⊢
 simp only[Bool.or_eq_false_iff,Bool.and_eq_false_iff,beq_eq_false_iff_ne,decide_eq_false_iff_not]at h
 by_cases e:y.Desk=x.Desk
 ·have: ¬x.Number=y.Number:=fun e2=>by rw[jU.2 ⟨e.symm,e2⟩]at hs;cases hs
  have h2: ¬x.Number<y.Number:=by
   rcases h.2 with h2|h2
   ·exact absurd e.symm h2
   ·exact h2
  have:y.Number<x.Number:=by omega
  simp[e,this]
 ·have:ltL y.Desk x.Desk=true:=by
   cases h1:ltL y.Desk x.Desk with
   |true=>rfl
   |false=>exact absurd (qbL _ _ h1 h.1) e
  simp[this]
theorem qd0 {x y:qb} (h:jE x y=true):ltN x y=false:=by
 cases e:ltN x y with
 |false=>rfl
 |true=>rw[qa2 e]at h;cases h
theorem qcX {o:List qb} (ha:yC o) (y:qb):(yA o y=false→ ∀x∈o.dropWhile (vF y),ltN y x=true)∧ ∀x∈o,jE x y=true→(o.dropWhile (vF y))[0]? =some x:=by
 have hpos: ∀{l:List qb},yC l→ ∀z zs,l.dropWhile (vF y)=z::zs→vF y z=false∧ ∀x∈zs,ltN z x=true:=by
  intro l hl z zs h
  refine⟨qb5 h,fun x hx=>?_⟩
  have hsub:(z::zs).Sublist l:=by rw[←h];exact List.dropWhile_sublist _
  exact(List.pairwise_cons.1 (hl.sublist hsub)).1 x hx
 constructor
 ·intro hm x hx
  cases hd:o.dropWhile (vF y)with
  |nil=>rw[hd]at hx;cases hx
  |cons z zs=>
   obtain⟨h1,h2⟩:=hpos ha z zs hd
   have hz:z∈o:=(List.dropWhile_sublist _).subset (by rw[hd];exact List.mem_cons_self ..)
   have hs:jE z y=false:=by
    unfold yA at hm
    rw[List.any_eq_false]at hm
    simpa using hm z hz
   have hlt:ltN y z=true:=qgV h1 hs
   rw[hd]at hx
   rcases List.mem_cons.1 hx with rfl|hx
   ·exact hlt
   ·exact qck hlt (h2 x hx)
 ·intro x hx hs
  have hb:vF y x=false:=qd0 hs
  cases hd:o.dropWhile (vF y)with
  |nil=>
   have:=List.all_eq_true.1 (Go.Av.dropWhile_nil.1 hd) x hx
   rw[hb]at this;cases this
  |cons z zs=>
   obtain⟨h1,h2⟩:=hpos ha z zs hd
   have hx2:x∈z::zs:=by
    rw[←hd]
    have:=List.takeWhile_append_dropWhile (p:=vF y) (l:=o)
    rw[←this]at hx
    rcases List.mem_append.1 hx with h|h
    ·have:=List.all_eq_true.1 (List.all_takeWhile (l:=o) (p:=vF y)) x h
     rw[hb]at this;cases this
    ·exact h
   rcases List.mem_cons.1 hx2 with rfl|hx2
   ·rfl
   ·have h3:=h2 x hx2
    obtain⟨m1,m2⟩:=jU.1 hs
    have:ltN z y=true:=by
     unfold ltN at h3⊢
     rw[←m1,←m2];exact h3
    unfold vF at h1
    rw[this]at h1;cases h1
theorem qbK (o:List qb) (y:qb):(qdJ o y).Perm (y::o):=by
 unfold qdJ
 refine List.perm_middle.trans ?_
 rw[List.takeWhile_append_dropWhile]
theorem qjw {o:List qb} (ha:yC o) {y:qb} (hm:yA o y=false):yC (qdJ o y):=by
 have h1:=(qcX ha y).1 hm
 have h2: ∀x∈o.takeWhile (vF y),ltN x y=true:=fun x hx=>List.all_eq_true.1 (List.all_takeWhile (l:=o) (p:=vF y)) x hx
 have hs:=List.takeWhile_append_dropWhile (p:=vF y) (l:=o)
 rw[yC,←hs]at ha
 obtain⟨p1,p2,p3⟩:=List.pairwise_append.1 ha
 unfold qdJ
 refine List.pairwise_append.2 ⟨p1,List.pairwise_cons.2 ⟨h1,p2⟩,fun x hx z hz=>?_⟩
 rcases List.mem_cons.1 hz with rfl|hz
 ·exact h2 x hx
 ·exact p3 x hx z hz
theorem qjH {o:List qb} {y n:qb} (h:jE y n=false):yA (qdJ o y) n=yA o n∧j6 (qdJ o y) n=j6 o n:=by
 have e: ∀q:qb→Bool,q y=false→(qdJ o y).any q=o.any q:=by
  intro q hq
  rw[Bool.eq_iff_iff,List.any_eq_true,List.any_eq_true]
  constructor
  ·rintro⟨x,hx,hqx⟩
   rcases List.mem_cons.1 ((qbK o y).subset hx)with rfl|hx
   ·rw[hq]at hqx;cases hqx
   ·exact⟨x,hx,hqx⟩
  ·rintro⟨x,hx,hqx⟩
   exact⟨x,(qbK o y).symm.subset (List.mem_cons_of_mem _ hx),hqx⟩
 exact⟨e _ h,e _ (by simp[h])⟩
theorem qjM {N:Nat} (hN:4000<N) {b o:List qb} (ho:o.length≤3000) (ha:yC o) {i:Nat} {y:qb} (hy:b[i]? =some y):
 ((zn b (i:Int) o N 0).bind fun n12=>(if n12<(o.length:Int)then(idx o n12).bind fun x23=>(idx b (i:Int)).bind fun x24=>if(x23.Desk==x24.Desk)=true then some (decide (x23.Number=x24.Number))else some false else some false:Option Bool).bind fun b26=>
   if b26=true then(idx o n12).bind fun x29=>(idx b (i:Int)).bind fun x30=>if(!((x29.Desk==x30.Desk)&&(decide (x29.Number=x30.Number)&&(decide (x29.Clock=x30.Clock)&&((x29.Line==x30.Line)&&true)))))=true then some (.inr ([],29))else some (.inl o)
   else(cut o 0 n12).bind fun s32=>(app 48 ([]:List qb) s32).bind fun l33=>(idx b (i:Int)).bind fun x34=>(app 48 l33 [x34]).bind fun l35=>(cut o n12 (o.length:Int)).bind fun s36=>(app 48 l35 s36).bind fun l37=>some (.inl l37):Option ((List qb)⊕((List qb)×Int)))
 =some (if j6 o y=true then .inr ([],29)else .inl (if yA o y=true then o else qdJ o y)):=by
 have e1:=qkb ho hy N 0 (by omega) (by omega)
 rw[List.drop_zero,Nat.zero_add]at e1
 obtain⟨t1,t2⟩:=qdr y o
 have hle:(o.takeWhile (vF y)).length≤o.length:=(List.takeWhile_sublist _).length_le
 rw[show zn b (i:Int) o N 0=_ from e1,Option.bind_some]
 have hget:o[(o.takeWhile (vF y)).length]? =(o.dropWhile (vF y))[0]? :=by
  rw[←t2,List.getElem?_drop,Nat.add_zero]
 cases hh:yA o y with
 |true=>
  obtain⟨x,hx,hs⟩:=List.any_eq_true.1 hh
  have h0:=(qcX ha y).2 x hx hs
  rw[h0]at hget
  have hlt:=(List.getElem?_eq_some_iff.1 hget).1
  obtain⟨c1,_⟩:=qfQ ha hx hs
  obtain⟨m1,m2⟩:=jU.1 hs
  rw[if_pos (by omega),qp,hget,Option.bind_some,qp,hy,Option.bind_some,if_pos (by simp[m1]),Option.bind_some,if_pos (by simp[m2]),Option.bind_some,Option.bind_some,show((x.Desk==y.Desk)&&(decide (x.Number=y.Number)&&(decide (x.Clock=y.Clock)&&((x.Line==y.Line)&&true))))=qdi x y from rfl,c1]
  cases qdi x y<;>rfl
 |false=>
  have eb:((if(((o.takeWhile (vF y)).length:Nat):Int)<(o.length:Int)then(idx o (((o.takeWhile (vF y)).length:Nat):Int)).bind fun x23=>(idx b (i:Int)).bind fun x24=>if(x23.Desk==x24.Desk)=true then some (decide (x23.Number=x24.Number))else some false else some false:Option Bool))=some false:=by
   by_cases hl:(o.takeWhile (vF y)).length<o.length
   ·rw[if_pos (by omega),qp,List.getElem?_eq_getElem hl,Option.bind_some,qp,hy,Option.bind_some]
    have hs:jE o[(o.takeWhile (vF y)).length] y=false:=by
     unfold yA at hh
     rw[List.any_eq_false]at hh
     simpa using hh _ (List.getElem_mem hl)
    unfold jE at hs
    cases hd:(o[(o.takeWhile (vF y)).length].Desk==y.Desk)with
    |false=>rw[if_neg (by simp)]
    |true=>rw[hd]at hs;rw[if_pos rfl];simpa using hs
   ·rw[if_neg (by omega)]
  rw[eb,Option.bind_some,if_neg (by simp),qdm hle,Option.bind_some,t1,vz (by simp;omega) (by simp;omega),Option.bind_some,qp,hy,Option.bind_some,vz (by simp;omega) (by simp;omega),Option.bind_some,qdp hle,Option.bind_some,t2]
  have hdl:(o.takeWhile (vF y)).length+(o.dropWhile (vF y)).length=o.length:=by
   rw[←List.length_append,List.takeWhile_append_dropWhile]
  rw[vz (by simp;omega) (by simp;omega),Option.bind_some,qfo hh]
  simp[qdJ]
theorem qjn {N:Nat} (hN:4000<N) {a b:List qb} (hb:yC b) (hbl:b.length≤1003): ∀(K k:Nat) (o:List qb),k≤b.length→b.length<K+k→o.length≤1003+k→yC o→(∀n∈b.drop k,yA o n=yA a n∧j6 o n=j6 a n)→
 ∃r,zC N b K o (k:Int)=some (if(b.drop k).any (j6 a)=true then .inr ([],29)else .inl r)∧((b.drop k).any (j6 a)=false→yC r∧r.Perm (o++yn a (b.drop k)))
 |0,k,o,h1,h2,_,_,_=>by omega
 |K+1,k,o,h1,h2,h3,h4,h5=>by
  unfold zC
  by_cases hk:k<b.length
  ·have hy:b[k]? =some b[k]:=List.getElem?_eq_getElem hk
   have hdr:b.drop k=b[k]::b.drop (k+1):=List.drop_eq_getElem_cons hk
   obtain⟨g1,g2⟩:=h5 b[k] (by rw[hdr];exact List.mem_cons_self ..)
   rw[if_pos (by omega)]
   rw[show _=_ from qjM hN (by omega) h4 hy,Option.bind_some,g1,g2,hdr,List.any_cons]
   by_cases e1:j6 a b[k]=true
   ·rw[if_pos e1,e1]
    exact⟨[],rfl,fun h=>by simp at h⟩
   ·have e1':j6 a b[k]=false:=by simpa using e1
    rw[if_neg e1,e1',Bool.false_or]
    simp only
    rw[zt (by omega)]
    by_cases e2:yA a b[k]=true
    ·rw[if_pos e2]
     obtain⟨r,r1,r2⟩:=qjn hN hb hbl K (k+1) o (by omega) (by omega) (by omega) h4 fun n hn=>h5 n (by rw[hdr];exact List.mem_cons_of_mem _ hn)
     refine⟨r,r1,fun h=>?_⟩
     obtain⟨q1,q2⟩:=r2 h
     refine⟨q1,?_⟩
     unfold yn at q2⊢
     rw[List.filter_cons,e2]
     simpa using q2
    ·have e2':yA a b[k]=false:=by simpa using e2
     rw[if_neg e2]
     have hlen:(qdJ o b[k]).length=o.length+1:=by rw[(qbK o b[k]).length_eq];rfl
     obtain⟨r,r1,r2⟩:=qjn hN hb hbl K (k+1) (qdJ o b[k]) (by omega) (by omega) (by omega) (qjw h4 (by rw[g1];exact e2')) fun n hn=>by
      have hlt:ltN b[k] n=true:=by
       have hb2:yC (b[k]::b.drop (k+1)):=by rw[←hdr];exact hb.sublist (List.drop_sublist _ _)
       exact(List.pairwise_cons.1 hb2).1 n hn
      obtain⟨i1,i2⟩:=qjH (o:=o) (qa2 hlt)
      obtain⟨j1,j2⟩:=h5 n (by rw[hdr];exact List.mem_cons_of_mem _ hn)
      exact⟨i1.trans j1,i2.trans j2⟩
     refine⟨r,r1,fun h=>?_⟩
     obtain⟨q1,q2⟩:=r2 h
     refine⟨q1,q2.trans ?_⟩
     unfold yn
     rw[List.filter_cons,e2']
     simp only[Bool.not_false,if_true]
     refine((qbK o b[k]).append_right _).trans ?_
     rw[List.cons_append]
     exact List.perm_middle.symm
  ·rw[if_neg (by omega),List.drop_of_length_le (by omega)]
   exact⟨o,by simp,fun _=>⟨h4,by simp[yn]⟩⟩
theorem qdE (x y:qb):jE x y=jE y x:=by
 rw[Bool.eq_iff_iff,jU,jU]
 exact⟨fun h=>⟨h.1.symm,h.2.symm⟩,fun h=>⟨h.1.symm,h.2.symm⟩⟩
abbrev Dist (l:List qb):Prop:=l.Pairwise fun x y=>jE x y=false
theorem xQ (l:List qb):(jk l).length=l.length:=by
 unfold jk
 rw[List.length_map,(vX _).1,List.length_map]
theorem qbo (l:List qb):(jk l).Perm l:=by
 have h:=((vX (l.map toQ)).2.1).map ofQ
 rw[List.map_map,show ofQ∘toQ=id from rfl,List.map_id]at h
 exact h
theorem qhN {l:List qb} (h:Dist l):yC (jk l):=by
 have hd:Dist (jk l):=(qbo l).symm.pairwise h fun {x y} h=>by rw[qdE];exact h
 rw[yC,List.pairwise_iff_getElem]
 intro i j hi hj hij
 have hdj:=List.pairwise_iff_getElem.1 hd i j hi hj hij
 have hlen:=(vX (l.map toQ)).1
 have hl:=xQ l
 have hs:=(vX (l.map toQ)).2.2 i j hij (by rw[List.length_map];omega)
 rw[getElem!_pos (yU (l.map toQ)) j (by rw[hlen,List.length_map];omega),getElem!_pos (yU (l.map toQ)) i (by rw[hlen,List.length_map];omega)]at hs
 have e: ∀(k:Nat) (hk:k<(jk l).length),toQ (jk l)[k]=(yU (l.map toQ))[k]'(by rw[hlen,List.length_map];omega):=by
  intro k hk
  simp only[jk,List.getElem_map]
  rfl
 have h2:ltN (jk l)[j] (jk l)[i]=false:=by
  show lt4 (toQ (jk l)[j]) (toQ (jk l)[i])=false
  rw[e j hj,e i hi]
  exact hs
 exact qgV h2 (by rw[qdE];exact hdj)
theorem qkk {l r:List qb} (hl:yC l) (hr:yC r) (h:l.Perm r):l=r:=
 List.Perm.eq_of_pairwise (fun a b _ _ h1 h2=>by have:=qck h1 h2;rw[qgo]at this;cases this) hl hr h
theorem qi6 {a b:List qb} (ha:yC a) (hb:yC b):Dist (a++yn a b):=by
 refine List.pairwise_append.2 ⟨ha.imp fun h=>qa2 h,(hb.sublist List.filter_sublist).imp fun h=>qa2 h,fun x hx y hy=>?_⟩
 have:=(List.mem_filter.1 hy).2
 have hm:yA a y=false:=by simpa using this
 unfold yA at hm
 rw[List.any_eq_false]at hm
 simpa using hm x hx
theorem qf1 {l:List qb} (h:checkN l=0) (hl:l.length≤16∨1000<l.length):yC l∧l.length≤16:=by
 unfold checkN at h
 split at h
 ·cases h
 ·exact⟨(qeM l none h).2.1,by omega⟩
theorem qkE (a b:Int):zy [a,b]=0↔a=0∧b=0:=by
 by_cases h1:a=0
 ·by_cases h2:b=0<;>simp[zy,h1,h2]
 ·simp[zy,h1]
def endN (L:List qb):List qb×Int:=if checkN L=0 then(L,0)else([],29)
def qc9 (a b:List qb):List qb×Int:=if b.any (j6 a)=true then([],29)else endN (jk (a++yn a b))
theorem qdL {a b:List qb} (ha:vV a) (hb:vV b):vV (jk (a++yn a b)):=by
 intro n hn
 rcases List.mem_append.1 ((qbo _).subset hn)with h|h
 ·exact ha n h
 ·exact hb n (List.mem_filter.1 h).1
theorem qf4 {N:Nat} (hN:4000<N) {a b:List qb} (sa:vV a) (sb:vV b) (ha:yC a) (hb:yC b) (la:a.length≤16) (lb:b.length≤16):vB N a b=some (qc9 a b):=by
 unfold vB qc9
 rw[vz (by simp;omega) (by simp;omega),Option.bind_some,List.nil_append]
 obtain⟨r,r1,r2⟩:=qjn hN (a:=a) hb (by omega) N 0 a (by omega) (by omega) (by omega) ha (fun n _=>⟨rfl,rfl⟩)
 rw[List.drop_zero]at r1 r2
 rw[show zC N b N a 0=_ from r1,Option.bind_some]
 by_cases hc:b.any (j6 a)=true
 ·rw[if_pos hc,if_pos hc]
 ·rw[if_neg hc,if_neg hc]
  obtain⟨q1,q2⟩:=r2 (by simpa using hc)
  have e:r=jk (a++yn a b):=qkk q1 (qhN (qi6 ha hb)) (q2.trans (qbo _).symm)
  subst e
  have hl:(jk (a++yn a b)).length≤32:=by
   have:=List.length_filter_le (fun n=>!yA a n) b
   rw[xQ,List.length_append]
   unfold yn
   omega
  simp only
  rw[if_neg (by omega),xz (by omega) (qdL sa sb),Option.bind_some]
  unfold endN
  by_cases h0:checkN (jk (a++yn a b))=0
  ·rw[if_neg (by simp[h0]),if_pos h0]
  ·rw[if_pos (by simp[h0]),if_neg h0]
theorem qgu {N:Nat} (hN:4000<N) {a b:List qb} (sa:vV a) (sb:vV b) (h0:checkN a=0) (k0:checkN b=0) (ha:yC a) (hb:yC b) (la:a.length≤16) (lb:b.length≤16):vK N a b=some (qc9 a b):=by
 have hN2:2000<N:=by omega
 have hf:zy [(0:Int),0]=0:=rfl
 have hl:(jk (a++yn a b)).length≤32:=by
  have:=List.length_filter_le (fun n=>!yA a n) b
  rw[xQ,List.length_append]
  unfold yn
  omega
 have hl2:(a++yn a b).length=(jk (a++yn a b)).length:=(xQ _).symm
 have ss:=qdL sa sb
 unfold qc9 endN
 cases a with
 |nil=>
  show zR N b=_
  unfold zR
  have e1:=pg_n hN2 (b:=b) (by omega) N 0 [] (by omega) (by omega) (by simp)
  rw[List.drop_zero]at e1
  rw[qY hN2 sa,Option.bind_some,qY hN2 sb,Option.bind_some,h0,k0,yQ (by simp) (by simp;omega),Option.bind_some,hf,if_neg (by simp),show qgM=some ()from rfl,Option.bind_some,show kz N b N [] 0=_ from e1,Option.bind_some]
  by_cases hc:b.any (j6 [])=true
  ·rw[if_pos hc,if_pos hc]
  ·rw[if_neg hc,if_neg hc]
   simp only
   unfold qg2
   rw[if_pos (by omega),Option.bind_some,if_pos hl2,Option.bind_some,xG,Option.bind_some,if_pos (by omega),qY hN2 ss,Option.bind_some,xG,Option.bind_some,yQ (by simp) (by simp;omega),Option.bind_some,Option.bind_some]
   have hw: ¬((jk ([]++yn [] b)).length:Int)>1000:=by omega
   simp only[hw,decide_false,Bool.false_eq_true,if_false]
   by_cases hz:checkN (jk ([]++yn [] b))=0
   ·rw[if_pos hz,hz]
    rfl
   ·rw[if_neg hz]
    revert hz
    generalize checkN (jk ([]++yn [] b))=z
    intro hz
    simp[hz,zy]
 |cons hd tl=>
  show zU N hd tl b=_
  unfold zU jl
  have e1:=pg_c hN2 (hd:=hd) (tl:=tl) (b:=b) (by omega) ha (by omega) N 0 (hd::tl) (by omega) (by omega) (by omega)
  rw[List.drop_zero]at e1
  rw[qY hN2 sa,Option.bind_some,qY hN2 sb,Option.bind_some,h0,k0,yQ (by simp) (by simp;omega),Option.bind_some,hf,if_neg (by simp),vz (by simp at la⊢;omega) (by simp at la⊢;omega),Option.bind_some,Option.bind_some,List.nil_append,show zb N hd tl b N (hd::tl) 0=_ from e1,Option.bind_some]
  by_cases hc:b.any (j6 (hd::tl))=true
  ·rw[if_pos hc,if_pos hc]
  ·rw[if_neg hc,if_neg hc]
   simp only
   unfold qgU
   rw[if_pos (by omega),Option.bind_some,if_pos hl2,Option.bind_some,xG,Option.bind_some,if_pos (by omega),qY hN2 ss,Option.bind_some,xG,Option.bind_some,yQ (by simp) (by simp;omega),Option.bind_some,Option.bind_some]
   have hw: ¬((jk ((hd::tl)++yn (hd::tl) b)).length:Int)>1000:=by omega
   simp only[hw,decide_false,Bool.false_eq_true,if_false]
   by_cases hz:checkN (jk ((hd::tl)++yn (hd::tl) b))=0
   ·rw[if_pos hz,hz]
    rfl
   ·rw[if_neg hz]
    revert hz
    generalize checkN (jk ((hd::tl)++yn (hd::tl) b))=z
    intro hz
    simp[hz,zy]
theorem qfi {N:Nat} (hN:4000<N) {a b:List qb} (sa:vV a) (sb:vV b) (h:zy [checkN a,checkN b]≠0):vK N a b=some ([],zy [checkN a,checkN b]):=by
 have hN2:2000<N:=by omega
 cases a with
 |nil=>
  show zR N b=_
  unfold zR
  rw[qY hN2 sa,Option.bind_some,qY hN2 sb,Option.bind_some,yQ (by simp) (by simp;omega),Option.bind_some,if_pos (by simp[h])]
 |cons hd tl=>
  show zU N hd tl b=_
  unfold zU
  rw[qY hN2 sa,Option.bind_some,qY hN2 sb,Option.bind_some,yQ (by simp) (by simp;omega),Option.bind_some,if_pos (by simp[h])]
theorem qhT (a b:List qb) (la:a.length≤16) (lb:b.length≤16):(qc9 a b).1.length≤32:=by
 unfold qc9 endN
 split
 ·simp
 ·split
  ·have:=List.length_filter_le (fun n=>!yA a n) b
   simp only
   rw[xQ,List.length_append]
   unfold yn
   omega
  ·simp
theorem qbS (a b:List qb) (b1:a.length*48≤140737488351232) (b2:b.length*48≤140737488351232):j3 (5000+a.length+b.length) a b=some true:=by
 have hN:4000<5000+a.length+b.length:=by omega
 have hNa:a.length<5000+a.length+b.length:=by omega
 have hNb:b.length<5000+a.length+b.length:=by omega
 generalize 5000+a.length+b.length=N at*
 have hN2:2000<N:=by omega
 unfold j3
 rw[qdO (by omega) hNa,Option.bind_some,qdO (by omega) hNb,Option.bind_some]
 obtain⟨c1,s1,t1⟩:=qbf hN2 a 16 (by omega)
 obtain⟨c2,s2,t2⟩:=qbf hN2 b 16 (by omega)
 have s1:zx N a 16=some c1:=s1
 have s2:zx N b 16=some c2:=s2
 rw[s1,Option.bind_some]
 cases c1 with
 |false=>rfl
 |true=>
  rw[if_neg (by simp),s2,Option.bind_some,Option.bind_some]
  cases c2 with
  |false=>rfl
  |true=>
   obtain⟨sa,la,la2⟩:=t1 rfl
   obtain⟨sb,lb,lb2⟩:=t2 rfl
   rw[if_neg (by simp),xz hN2 sa,Option.bind_some,qY hN2 sa,Option.bind_some,if_neg (by simp),xz hN2 sb]
   have hV: ∃v,jm N a=some (v,checkN a)∧(if checkN a=0 then(vE N a).bind fun r25=>some r25 else some []:Option (List qj))=some v∧v.length≤1003:=by
    by_cases h0:checkN a=0
    ·obtain⟨v,v1,v2,v3⟩:=qe6 hN2 sa la h0
     refine⟨v,by rw[v1,h0],?_,by omega⟩
     rw[if_pos h0,v2]
     rfl
    ·refine⟨[],?_,by rw[if_neg h0],by simp⟩
     unfold jm
     rw[qY hN2 sa,Option.bind_some,if_pos (by simp[h0])]
   obtain⟨v,v1,v2,v3⟩:=hV
   have hG: ∃g,vK N a b=some g∧(if zy [checkN a,checkN b]=0 then(vB N a b).bind fun r21=>some (r21.2,r21.1)else some (zy [checkN a,checkN b],[]):Option (Int×(List qb)))=some (g.2,g.1)∧g.1.length≤1003:=by
    by_cases h0:zy [checkN a,checkN b]=0
    ·obtain⟨h1,h2⟩:=(qkE _ _).1 h0
     obtain⟨ha,la3⟩:=qf1 h1 la2
     obtain⟨hb,lb3⟩:=qf1 h2 lb2
     have hl:=qhT a b la3 lb3
     refine⟨qc9 a b,qgu hN sa sb h1 h2 ha hb la3 lb3,?_,by omega⟩
     rw[if_pos h0,qf4 hN sa sb ha hb la3 lb3]
     rfl
    ·exact⟨_,qfi hN sa sb h0,by rw[if_neg h0],by simp⟩
   obtain⟨g,g1,g2,g3⟩:=hG
   rw[g1,Option.bind_some,v1,Option.bind_some,Option.bind_some,qhn (by simp) (by simp;omega),Option.bind_some,g2,Option.bind_some]
   simp only
   rw[v2,Option.bind_some]
   simp only[if_true]
   rw[qdO (by omega) (by omega),Option.bind_some,qeV g.1 (by omega) hN2,Option.bind_some,if_pos rfl,qh5 (by omega) (by omega),Option.bind_some,qeF v (by omega) hN2,Option.bind_some,if_pos rfl]
   rfl
end Go.Av
