/-
  Chapter 10: words of a line, and integers in texts.
-/
import Derived.Test.YtjflombnfhlkaaaGreatDoorPfA
noncomputable section
namespace Go.Av
set_option linter.unusedSimpArgs false
set_option linter.unusedVariables false
def spl:Str→Str→List Str
 |a,[]=>[a]
 |a,c::s=>if c=32 then a::spl [] s else spl (a++[c]) s
noncomputable def qao (s:Str):Nat:=qiQ 32 s
theorem qb9 (c:UInt8) (s:Str):qao (c::s)=if c=32 then qao s+1 else qao s:=by
 show zI (Nat.beq c.toNat 32) (Nat.succ (qao s)) (qao s)=_
 rw[kD]
 by_cases h:c=32
 ·subst h;rfl
 ·have h2:c.toNat≠32:=fun e=>h (UInt8.toNat_inj.1 (by rw[e];rfl))
  rw[if_neg (by rw[qaR h2];simp),if_neg h]
theorem qeP: ∀s:Str,qao s≤s.length
 |[]=>Nat.le_refl _
 |c::s=>by
  have:=qeP s
  rw[qb9,List.length_cons]
  split<;>omega
def qe2:Str→Option Nat
 |[]=>none
 |c::s=>if c=32 then some 0 else(qe2 s).map (· +1)
theorem qhc: ∀(s:Str) (j:Nat),qgY 32 s j=match qe2 s with|some k=>((j+k:Nat):Int)|none=> -1
 |[],_=>rfl
 |c::s,j=>by
  show zI (Nat.beq c.toNat 32) (Int.ofNat j) (qgY 32 s (j+1))=_
  rw[kD,qhc s (j+1),qe2]
  by_cases h:c=32
  ·subst h;rfl
  ·have h2:c.toNat≠32:=fun e=>h (UInt8.toNat_inj.1 (by rw[e];rfl))
   rw[if_neg (by rw[qaR h2];simp),if_neg h]
   cases qe2 s with
   |none=>rfl
   |some k=>
    simp only[Option.map_some]
    congr 1
    omega
theorem qfe: ∀{s:Str},qe2 s=none→qao s=0∧ ∀a,spl a s=[a++s]
 |[],_=>⟨rfl,fun a=>by simp[spl]⟩
 |c::s,h=>by
  unfold qe2 at h
  by_cases hc:c=32
  ·rw[if_pos hc]at h;cases h
  ·rw[if_neg hc]at h
   cases hp:qe2 s with
   |some k=>rw[hp]at h;cases h
   |none=>
    obtain⟨h1,h2⟩:=qfe hp
    refine⟨by rw[qb9,if_neg hc,h1],fun a=>?_⟩
    rw[spl,if_neg hc,h2]
    simp
theorem qe3: ∀{s:Str} {k:Nat},qe2 s=some k→k<s.length∧qao s=qao (s.drop (k+1))+1∧ ∀a,spl a s=(a++s.take k)::spl [] (s.drop (k+1))
 |[],_,h=>by cases h
 |c::s,k,h=>by
  unfold qe2 at h
  by_cases hc:c=32
  ·rw[if_pos hc]at h
   obtain rfl:=Option.some.inj h
   refine⟨by simp,?_,fun a=>?_⟩
   ·rw[qb9,if_pos hc];rfl
   ·rw[spl,if_pos hc];simp
  ·rw[if_neg hc]at h
   cases hp:qe2 s with
   |none=>rw[hp]at h;cases h
   |some j=>
    rw[hp]at h
    obtain rfl:=Option.some.inj h
    obtain⟨h1,h2,h3⟩:=qe3 hp
    refine⟨by simp;omega,?_,fun a=>?_⟩
    ·rw[qb9,if_neg hc,h2,List.drop_succ_cons]
    ·rw[spl,if_neg hc,h3]
     simp
theorem qnn {s:Str} (h:qao s=0):qe2 s=none:=by
 cases hp:qe2 s with
 |none=>rfl
 |some k=>have:=(qe3 hp).2.1;omega
theorem qeI: ∀(a s:Str),(spl a s).length=qao s+1
 |a,[]=>rfl
 |a,c::s=>by
  rw[qb9,spl]
  by_cases hc:c=32
  ·rw[if_pos hc,if_pos hc,List.length_cons,qeI]
  ·rw[if_neg hc,if_neg hc,qeI]
theorem qlv {s:Str}:strings_Index s [32]=some (qgY 32 s 0):=by
 unfold strings_Index stringslite_Index stringslite_IndexByte qhV
 have h0: ¬(([32]:Str).length:Int)=0:=by simp
 have h1:(([32]:Str).length:Int)=1:=by simp
 rw[if_neg h0]
 simp only[Option.bind_some]
 by_cases hs:(([32]:Str)==s)=true
 ·have:s=[32]:=(beq_iff_eq.1 hs).symm
  subst this
  rfl
 ·rw[if_neg hs,if_pos h1,yX,show([32]:Str)[0]? =some 32 from rfl,Option.bind_some,if_pos (by decide)]
  rfl
theorem qlW {N:Nat} {s:Str}:strings_Count N s [32]=some (qao s:Int):=by
 unfold strings_Count qh9
 have h0: ¬(([32]:Str).length:Int)=0:=by simp
 have h1:(([32]:Str).length:Int)=1:=by simp
 rw[if_neg h0,if_pos h1,yX,show([32]:Str)[0]? =some 32 from rfl,Option.bind_some,if_pos (by decide)]
 rfl
theorem qfo (s0:Str) (n:Int) (c:Nat) (hc:c<4611686018427387904) (hn:w64 ((if(w64 ((s0.length:Int)+1))<n then(w64 ((s0.length:Int)+1))else n)-1)=(c:Int)): ∀(K:Nat) (l:List Str) (s:Str) (i:Nat),i+qao s=c→l.length=c+1→c<K+i→s.length<4611686018427387904→
 ∃l' s',zt s0 [32] 0 n K l s (i:Int)=some (l',s',(c:Int))∧l'.length=c+1∧l'.take c++[s']=l.take i++spl [] s
 |0,l,s,i,h,hl,hK,hs=>by omega
 |K+1,l,s,i,h,hl,hK,hs=>by
  unfold zt
  rw[hn]
  by_cases hi:i<c
  ·rw[if_pos (by omega),qlv,qhc]
   cases hp:qe2 s with
   |none=>have:=(qfe hp).1;omega
   |some k=>
    obtain⟨h1,h2,h3⟩:=qe3 hp
    simp only[Option.bind_some,Nat.zero_add]
    have w1:w64 ((k:Int)+0)=(k:Int):=by rw[Int.add_zero];exact qaL (by omega) (by omega)
    have w2:w64 ((k:Int)+(([32]:Str).length:Int))=((k+1:Nat):Int):=qM (by omega)
    rw[if_neg (by omega),w1,w2,qb0 (by omega),Option.bind_some,qE,List.getElem?_eq_getElem (by omega),Option.bind_some,yY (by omega),Option.bind_some,qeu (by omega),Option.bind_some,qM (by omega)]
    obtain⟨l',s',g1,g2,g3⟩:=qfo s0 n c hc hn K (l.set i (s.take k)) (s.drop (k+1)) (i+1) (by omega) (by simpa using hl) (by omega) (by simp;omega)
    refine⟨l',s',g1,g2,?_⟩
    rw[g3,h3,List.nil_append,List.take_add_one,List.getElem?_set_self (by omega)]
    simp only[List.take_set,Option.toList_some,List.append_assoc,List.singleton_append]
    rw[List.set_eq_of_length_le (by rw[List.length_take];exact Nat.min_le_left _ _)]
  ·have hi:i=c:=by omega
   subst hi
   rw[if_neg (by omega)]
   refine⟨l,s,rfl,hl,?_⟩
   have:=(qfe (qnn (show qao s=0 by omega))).2 []
   rw[this,List.nil_append]
theorem qmp {N:Nat} {s:Str} (hs:s.length<100000) (hN:s.length<N):strings_Split N s [32]=some (spl [] s):=by
 unfold strings_Split strings_genSplit
 have hc:=qeP s
 have w1:w64 ((qao s:Int)+1)=((qao s+1:Nat):Int):=qM (by omega)
 have w2:w64 ((s.length:Int)+1)=((s.length+1:Nat):Int):=qM (by omega)
 have w3:(if((s.length+1:Nat):Int)<((qao s+1:Nat):Int)then((s.length+1:Nat):Int)else((qao s+1:Nat):Int))=((qao s+1:Nat):Int):=if_neg (by omega)
 have w4:w64 (((qao s+1:Nat):Int)-1)=(qao s:Int):=by rw[qaL (by omega) (by omega)];omega
 rw[if_neg (by omega),if_neg (by decide),if_pos (by omega),qlW]
 simp only[Option.bind_some,w1,w2,w3]
 have e:mk 16 ((qao s+1:Nat):Int) ([]:Str)=some (List.replicate (qao s+1) []):=by
  unfold mk
  rw[if_pos ⟨by omega,by omega,by omega⟩,Int.toNat_natCast]
 rw[e,Option.bind_some]
 obtain⟨l',s',g1,g2,g3⟩:=qfo s ((qao s+1:Nat):Int) (qao s) (by omega) (by rw[w2,w3,w4]) N (List.replicate (qao s+1) []) s 0 (by omega) (by simp) (by omega) (by omega)
 rw[show zt s [32] 0 ((qao s+1:Nat):Int) N (List.replicate (qao s+1) []) s 0=_ from g1]
 have hx:l'[qao s]? =some l'[qao s]:=List.getElem?_eq_getElem (by omega)
 simp only[Option.bind_some]
 rw[qE,hx,Option.bind_some,yY (by omega),Option.bind_some,w1,qb0 (by simp;omega),Option.bind_some,Option.bind_some]
 rw[List.take_zero,List.nil_append]at g3
 rw[←g3,List.take_add_one,List.getElem?_set_self (by omega),List.take_set,List.set_eq_of_length_le (by simp;omega)]
 rfl
theorem qhL {α:Type} {l:List α} {a b:Nat} (h1:a≤b) (h2:b≤l.length):cut l (a:Int) (b:Int)=some ((l.drop a).take (b-a)):=by
 unfold cut
 rw[if_pos ⟨by omega,by omega,by omega⟩]
 simp only[Int.toNat_natCast,Option.some.injEq]
theorem qeT (s:Str) (hs:s.length<100000): ∀(K:Nat) (l:List Str) (f i:Nat),f≤i→i≤s.length→s.length<K+i→l.length≤i→
 zT s (K+1) l (f:Int) (i:Int)=some (l++spl ((s.drop f).take (i-f)) (s.drop i))
 |K,l,f,i,h1,h2,hK,hl=>by
  unfold zT
  rw[if_pos (by omega)]
  by_cases hi:i=s.length
  ·subst hi
   rw[if_pos rfl]
   simp only[Option.bind_some,if_true]
   rw[qhL h1 (Nat.le_refl _),Option.bind_some,zB (by simp;omega) (by simp;omega),Option.bind_some,Option.bind_some,qM (by omega)]
   have hd:s.drop s.length=[]:=List.drop_length
   rw[hd,spl]
   cases K with
   |zero=>omega
   |succ K=>
    simp only
    unfold zT
    rw[if_neg (by omega)]
  ·have hx:s[i]? =some s[i]:=List.getElem?_eq_getElem (by omega)
   have hd:s.drop i=s[i]::s.drop (i+1):=List.drop_eq_getElem_cons (by omega)
   rw[if_neg (by omega),qE,hx,Option.bind_some,hd,spl]
   generalize s[i]=c at hx
   cases K with
   |zero=>omega
   |succ K=>
   by_cases hc:c=32
   ·subst hc
    simp only[Option.bind_some,show decide ((((32:UInt8).toNat:Nat):Int)=32)=true by decide,if_true]
    rw[qhL h1 h2,Option.bind_some,zB (by simp;omega) (by simp;omega),Option.bind_some,Option.bind_some,qM (by omega)]
    simp only
    rw[qeT s hs K _ (i+1) (i+1) (Nat.le_refl _) (by omega) (by omega) (by simp;omega),Nat.sub_self,List.take_zero,List.append_assoc]
    rfl
   ·have hc2: ¬((c.toNat:Int)=32):=fun e=>hc (UInt8.toNat_inj.1 (by have:c.toNat=32:=by omega
                                                                    rw[this];rfl))
    simp only[Option.bind_some,decide_eq_false hc2,Bool.false_eq_true,if_false,if_neg hc]
    rw[qM (by omega),qeT s hs K l f (i+1) (by omega) (by omega) (by omega) (by omega)]
    congr 3
    rw[show i+1-f=(i-f)+1 by omega,List.take_add_one,List.getElem?_drop,show f+(i-f)=i by omega,hx]
    rfl
theorem qkO {N:Nat} {s:Str} (hs:s.length<100000) (hN:s.length+1<N):qaY N s=some (spl [] s):=by
 unfold qaY
 obtain⟨K,rfl⟩: ∃K,N=K+1:=⟨N-1,by omega⟩
 rw[show zT s (K+1) [] 0 0=zT s (K+1) [] ((0:Nat):Int) ((0:Nat):Int)from rfl,qeT s hs K [] 0 0 (Nat.le_refl _) (Nat.zero_le _) (by omega) (by simp)]
 simp
def qas (c:UInt8):Bool:=decide (48≤c.toNat)&&decide (c.toNat≤57)
def qe1 (n:Nat) (s:List UInt8):Nat:=s.foldl (fun a c=>a*10+(c.toNat-48)) n
theorem qk7 (n:Nat):qe1 n []=n:=List.foldl_nil
theorem qdy (n:Nat) (c:UInt8) (s:List UInt8):qe1 n (c::s)=qe1 (n*10+(c.toNat-48)) s:=by
 unfold qe1
 rw[List.foldl_cons]
theorem qmK (s:List UInt8): ∀n:Nat,s.all qas=true→qe1 n s<(n+1)*10^s.length:=by
 induction s with
 |nil=>
  intro n _
  rw[List.length_nil,Nat.pow_zero,Nat.mul_one,qk7]
  exact Nat.lt_succ_self n
 |cons c s ih=>
  intro n h
  rw[List.all_cons,Bool.and_eq_true]at h
  have h1:=ih (n*10+(c.toNat-48)) h.2
  have hd:c.toNat-48≤9:=by
   have:=h.1
   simp[qas]at this
   omega
  have h2:n*10+(c.toNat-48)+1≤(n+1)*10:=by omega
  rw[qdy,List.length_cons,Nat.pow_succ,Nat.mul_comm (10^s.length) 10,←Nat.mul_assoc]
  exact Nat.lt_of_lt_of_le h1 (Nat.mul_le_mul_right _ h2)
theorem ne48 {c:UInt8} (h: ¬c=48): ¬((c.toNat:Int)=48):=fun e=>h (UInt8.toNat_inj.1 (show c.toNat=48 from by omega))
def intB (s:Str):Bool:=decide (1≤s.length)&&(decide (s.length≤9)&&(s.all qas&&(decide (s.length=1)||!(s[0]? ==some 48))))
def qcM (s:Str):Int×Bool:=if intB s=true then((qe1 0 s:Nat),true)else(0,false)
theorem qfE (s:Str) (hs:s.length≤9): ∀(K i n:Nat),i≤s.length→s.length<K+i→(∀j≤s.length,i≤j→qe1 n ((s.drop i).take (j-i))<10^9∨((s.drop i).take (j-i)).all qas=false)→
 jf s K (n:Int) (i:Int)=some (if(s.drop i).all qas=true then .inl ((qe1 n (s.drop i):Nat):Int)else .inr (0,false))
 |0,i,n,h,hK,_=>by omega
 |K+1,i,n,h,hK,hb=>by
  unfold jf
  by_cases hi:i<s.length
  ·have hx:s[i]? =some s[i]:=List.getElem?_eq_getElem hi
   have hd:s.drop i=s[i]::s.drop (i+1):=List.drop_eq_getElem_cons hi
   rw[if_pos (by omega),qE,hx,Option.bind_some,hd,List.all_cons]
   rw[hd]at hb
   generalize s[i]=c at hx hb
   by_cases hc:qas c=true
   ·have h1:48≤c.toNat∧c.toNat≤57:=by simpa[qas]using hc
    have n1: ¬(c.toNat:Int)<48:=by omega
    have n2: ¬(c.toNat:Int)>57:=by omega
    rw[if_neg n1]
    simp only[Option.bind_some,decide_eq_false n2,Bool.false_eq_true,if_false,hc,Bool.true_and]
    have hn:qe1 n [c]<10^9:=by
     rcases hb (i+1) (by omega) (by omega)with h|h
     ·rw[show i+1-i=1 by omega]at h;simpa using h
     ·rw[show i+1-i=1 by omega]at h;simp[hc]at h
    have hn:n*10+(c.toNat-48)<1000000000:=hn
    have w0:IntKind.wrap .u8 ((c.toNat:Int)-48)=((c.toNat-48:Nat):Int):=by
     unfold IntKind.wrap
     have e:(2:Int)^IntKind.u8.bits=256:=by decide
     have e3:IntKind.u8.signed=false:=by decide
     simp only[e,e3,Bool.false_and,if_false,Bool.false_eq_true]
     omega
    have w1:w64 ((c.toNat-48:Nat):Int)=((c.toNat-48:Nat):Int):=qaL (by omega) (by omega)
    have w2:w64 (10*(n:Int))=((10*n:Nat):Int):=by rw[qaL (by omega) (by omega)];omega
    have w3:w64 (((10*n:Nat):Int)+((c.toNat-48:Nat):Int))=((n*10+(c.toNat-48):Nat):Int):=by rw[qaL (by omega) (by omega)];omega
    rw[w0,w1,w2,w3,qM (by omega),qfE s hs K (i+1) (n*10+(c.toNat-48)) (by omega) (by omega) (fun j hj hij=>?_)]
    ·rw[qdy]
    ·have:=hb j hj (by omega)
     rw[show j-i=(j-(i+1))+1 by omega,List.take_succ_cons,qdy,List.all_cons,hc,Bool.true_and]at this
     exact this
   ·have hc2:qas c=false:=by simpa using hc
    rw[hc2,Bool.false_and]
    by_cases n1:(c.toNat:Int)<48
    ·rw[if_pos n1];rfl
    ·rw[if_neg n1]
     have n2:(c.toNat:Int)>57:=by
      simp[qas]at hc2
      omega
     simp only[Option.bind_some,decide_eq_true n2,if_true,Bool.false_eq_true,if_false]
  ·rw[if_neg (by omega),List.drop_of_length_le (by omega)]
   rfl
theorem qiU {N:Nat} {s:Str} (hN:2000<N):xS N s=some (qcM s):=by
 unfold xS qcM intB
 by_cases h0:s.length=0
 ·have: ¬1≤s.length:=by omega
  rw[if_pos (by omega)]
  simp[this]
 by_cases h9:s.length>9
 ·have: ¬s.length≤9:=by omega
  rw[if_neg (by omega),if_pos (by omega)]
  simp[this]
 rw[if_neg (by omega),if_neg (by omega)]
 have a1:1≤s.length:=by omega
 have a2:s.length≤9:=by omega
 have key:jf s N 0 0=some (if s.all qas=true then .inl ((qe1 0 s:Nat):Int)else .inr (0,false)):=by
  have:=qfE s a2 N 0 0 (Nat.zero_le _) (by omega) (fun j hj _=>by
   by_cases hq:((s.drop 0).take (j-0)).all qas=true
   ·left
    have h1:=qmK _ 0 hq
    have h2:((s.drop 0).take (j-0)).length≤9:=by simp;omega
    have h3:(10:Nat)^((s.drop 0).take (j-0)).length≤10^9:=Nat.pow_le_pow_right (by omega) h2
    omega
   ·right;simpa using hq)
  rw[List.drop_zero]at this
  exact this
 rw[key]
 by_cases h1:s.length>1
 ·have hne: ¬s.length=1:=by omega
  have hx:s[0]? =some s[0]:=List.getElem?_eq_getElem (by omega)
  rw[if_pos (by omega),yX,hx]
  generalize s[0]=c
  by_cases hc:c=48
  ·subst hc
   simp[hne]
  ·have hc2: ¬((c.toNat:Int)=48):=ne48 hc
   have hc3:(some c==some (48:UInt8))=false:=by simpa using hc
   simp only[Option.bind_some,decide_eq_false hc2,Bool.false_eq_true,if_false,a1,a2,hne,hc3,decide_true,decide_false,Bool.true_and,Bool.not_false,Bool.or_true,Bool.and_true]
   by_cases hd:s.all qas=true<;>simp[hd]
 ·have h1':s.length=1:=by omega
  rw[if_neg (by omega)]
  simp only[Option.bind_some,Bool.false_eq_true,if_false,a1,a2,h1',decide_true,Bool.true_and,Bool.true_or,Bool.and_true,Nat.le_refl]
  by_cases hd:s.all qas=true<;>simp[hd]
theorem qlA (c:UInt8):([48,49,50,51,52,53,54,55,56,57]:Str).contains c=qas c:=by
 rw[Bool.eq_iff_iff]
 simp only[List.contains_cons,List.contains_nil,Bool.or_eq_true,beq_iff_eq,qas,Bool.and_eq_true,decide_eq_true_eq,←UInt8.toNat_inj,Bool.or_false]
 simp only[show(48:UInt8).toNat=48 from rfl,show(49:UInt8).toNat=49 from rfl,show(50:UInt8).toNat=50 from rfl,show(51:UInt8).toNat=51 from rfl,show(52:UInt8).toNat=52 from rfl,show(53:UInt8).toNat=53 from rfl,show(54:UInt8).toNat=54 from rfl,show(55:UInt8).toNat=55 from rfl,show(56:UInt8).toNat=56 from rfl,show(57:UInt8).toNat=57 from rfl]
 omega
theorem qbU {α:Type} {p:α→Bool}: ∀{l:List α},l.dropWhile p=[]↔l.all p=true
 |[]=>by simp
 |x::l=>by
  rw[List.dropWhile_cons,List.all_cons]
  by_cases h:p x=true
  ·rw[if_pos h,h,Bool.true_and];exact qbU
  ·rw[if_neg h];simp[h]
theorem qk5 {s:Str}:(Lib.trimS s [48,49,50,51,52,53,54,55,56,57]==[])=s.all qas:=by
 have e:(fun c=>([48,49,50,51,52,53,54,55,56,57]:Str).contains c)=qas:=funext qlA
 unfold Lib.trimS Lib.trimLeftS Lib.trimRightS
 rw[e]
 rw[Bool.eq_iff_iff,beq_iff_eq,qbU,List.all_reverse]
 constructor
 ·intro h
  have h2: ∀x∈s.reverse.takeWhile qas++s.reverse.dropWhile qas,qas x=true:=by
   intro x hx
   rcases List.mem_append.1 hx with hx|hx
   ·exact List.all_eq_true.1 List.all_takeWhile x hx
   ·exact List.all_eq_true.1 h x hx
  rw[List.takeWhile_append_dropWhile]at h2
  exact List.all_eq_true.2 fun x hx=>h2 x (by simpa using hx)
 ·intro h
  have:s.reverse.dropWhile qas=[]:=qbU.2 (by rw[List.all_reverse];exact h)
  rw[this]
  rfl
theorem qiK {s:Str} (hs:s.length≤1000000):yP s=some (decide (1≤s.length)&&s.all qas):=by
 have hT:qiY s [48,49,50,51,52,53,54,55,56,57]=some (Lib.trimS s [48,49,50,51,52,53,54,55,56,57]):=by
  unfold qiY
  rw[if_pos ⟨hs,by decide,by decide⟩]
 unfold yP
 simp only[hT,Option.bind_some,qk5]
 cases s with
 |nil=>rfl
 |cons x xs=>simp
theorem qgn: ∀(s:Str) (n:Nat),s.all qas=true→Lib.decFrom n s=some (qe1 n s)
 |[],n,_=>rfl
 |c::s,n,h=>by
  rw[List.all_cons,Bool.and_eq_true]at h
  unfold Lib.decFrom
  rw[qdy]
  have h1:48≤c.toNat∧c.toNat≤57:=by simpa[qas]using h.1
  have e:Lib.digitVal c=some (c.toNat-48):=by unfold Lib.digitVal;rw[if_pos h1]
  rw[e]
  exact qgn s _ h.2
theorem qi8 {s:Str} (h0:1≤s.length) (h:s.all qas=true):Lib.atoi s=some ((qe1 0 s:Nat):Int):=by
 cases s with
 |nil=>simp at h0
 |cons c s=>
  have hc:qas c=true:=by rw[List.all_cons,Bool.and_eq_true]at h;exact h.1
  have h1:48≤c.toNat∧c.toNat≤57:=by simpa[qas]using hc
  unfold Lib.atoi Lib.decNat
  have n1: ¬(c==45)=true:=fun e=>by rw[beq_iff_eq.1 e]at h1;simp at h1
  have n2: ¬(c==43)=true:=fun e=>by rw[beq_iff_eq.1 e]at h1;simp at h1
  simp only
  rw[if_neg n1,if_neg n2,if_neg (by simp),qgn _ _ h]
  rfl
theorem qjr {s:Str} (hs:s.length≤1000000):xy s=some (qcM s):=by
 unfold xy qcM intB
 by_cases h9:s.length>9
 ·have: ¬s.length≤9:=by omega
  rw[if_pos (by omega)]
  simp[this]
 rw[if_neg (by omega),qiK hs]
 have a2:s.length≤9:=by omega
 simp only[Option.bind_some]
 by_cases h0:s.length=0
 ·have: ¬1≤s.length:=by omega
  simp[this]
 have a1:1≤s.length:=by omega
 by_cases hd:s.all qas=true
 ·have hx:s[0]? =some s[0]:=List.getElem?_eq_getElem (by omega)
  simp only[a1,a2,hd,decide_true,Bool.and_self,Bool.not_true,Bool.false_eq_true,if_false,Bool.true_and,yX]
  have hat:qiq s=some (((qe1 0 s:Nat):Int),()):=by
   unfold qiq
   rw[if_pos (by omega),qi8 a1 hd]
   rfl
  rw[hx,Option.bind_some]
  by_cases hc:s[0]=48
  ·have hc1:((s[0].toNat:Int)=48):=by rw[hc];rfl
   rw[if_pos hc1]
   simp only[Option.bind_some]
   by_cases h1:s.length=1
   ·obtain⟨c,rfl⟩:=qge (show(s.length:Int)=1 by omega)
    have hc:c=48:=hc
    subst hc
    rw[hat]
    rfl
   ·have: ¬(s==[48])=true:=fun e=>h1 (by rw[beq_iff_eq.1 e];rfl)
    have h48:(some s[0]==some (48:UInt8))=true:=by simpa using hc
    simp[this,h1,h48]
  ·have hc1: ¬((s[0].toNat:Int)=48):=ne48 hc
   have h48:(some s[0]==some (48:UInt8))=false:=by simpa using hc
   rw[if_neg hc1]
   simp only[Option.bind_some,Bool.false_eq_true,if_false,hat,h48,Bool.not_false,Bool.or_true,if_true]
 ·have hd2:s.all qas=false:=by simpa using hd
  simp[a1,a2,hd2]
def ev0:ql:=⟨0,[],[],[],[]⟩
def qkc (ws:List Str):ql×Bool:=
 if((jm (ws.headD [])).2.2&&(decide ((ws.length:Int)=1+(jm (ws.headD [])).1+(jm (ws.headD [])).2.1)&&(!(ws.any fun w=>([]:Str)==w)&&(ws.drop (1+(jm (ws.headD [])).1.toNat)).all fun w=>(qcM w).2)))=true then
  (⟨0,ws.headD [],(ws.drop 1).take (jm (ws.headD [])).1.toNat,(ws.drop (1+(jm (ws.headD [])).1.toNat)).map fun w=>(qcM w).1,[]⟩,true)
 else(ev0,false)
def jS (s:Str):ql×Bool:=qkc (spl [] s)
theorem qeY (k:Str): ∃a b:Nat,a≤2∧b≤3∧(jm k).1=(a:Int)∧(jm k).2.1=(b:Int)∧((jm k).2.2=true→k≠[]):=by
 unfold jm
 by_cases h1:(k==xA)=true
 ·simp only[h1,if_true];exact⟨2,3,by omega,by omega,rfl,rfl,fun _ e=>by rw[e]at h1;cases h1⟩
 by_cases h2:(k==qak)=true
 ·simp only[h1,h2,if_true,if_false];exact⟨1,2,by omega,by omega,rfl,rfl,fun _ e=>by rw[e]at h2;cases h2⟩
 by_cases h3:(k==qbT)=true
 ·simp only[h1,h2,h3,if_true,if_false];exact⟨1,2,by omega,by omega,rfl,rfl,fun _ e=>by rw[e]at h3;cases h3⟩
 by_cases h4:(k==xJ)=true
 ·simp only[h1,h2,h3,h4,if_true,if_false];exact⟨1,1,by omega,by omega,rfl,rfl,fun _ e=>by rw[e]at h4;cases h4⟩
 by_cases h5:(k==zR)=true
 ·simp only[h1,h2,h3,h4,h5,if_true,if_false];exact⟨1,1,by omega,by omega,rfl,rfl,fun _ e=>by rw[e]at h5;cases h5⟩
 by_cases h6:(k==yZ)=true
 ·simp only[h1,h2,h3,h4,h5,h6,if_true,if_false];exact⟨0,0,by omega,by omega,rfl,rfl,fun _ e=>by rw[e]at h6;cases h6⟩
 simp only[h1,h2,h3,h4,h5,h6,if_false]
 exact⟨0,0,by omega,by omega,rfl,rfl,fun h=>by simp at h⟩
theorem qiS (x:Str):(if(x==[109,97,107,101])=true then some (2,3,true)else if(x==[116,101,115,116])=true then some (1,2,true)else if(x==[117,115,101])=true then some (1,2,true)else
 if(x==[102,97,105,108])=true then some (1,1,true)else if(x==[114,101,99,97,108,108])=true then some (1,1,true)else if(x==[117,110,100,111])=true then some (0,0,true)else some (0,0,false):Option (Int×Int×Bool))=some (jm x):=by
 unfold jm xA qak qbT xJ zR yZ
 repeat' split
 all_goals rfl
theorem qhx (l:List Str) (v:Str) (hl:l.length<4611686018427387904): ∀(K k:Nat),k≤l.length→l.length<K+k→ ∃r,kI l v K (k:Int)=some r∧(((l.drop k).any fun w=>v==w)=true∧(∃j:Nat,r= .inr (j:Int))∨((l.drop k).any fun w=>v==w)=false∧r= .inl ())
 |0,k,h,hK=>by omega
 |K+1,k,h,hK=>by
  unfold kI
  by_cases hk:k<l.length
  ·rw[if_pos (by omega),qE,List.getElem?_eq_getElem hk,Option.bind_some,qM (by omega),List.drop_eq_getElem_cons hk,List.any_cons]
   by_cases hc:(v==l[k])=true
   ·rw[if_pos hc,hc,Bool.true_or]
    exact⟨_,rfl,.inl ⟨rfl,k,rfl⟩⟩
   ·have hc2:(v==l[k])=false:=by simpa using hc
    rw[if_neg hc,hc2,Bool.false_or]
    exact qhx l v hl K (k+1) (by omega) (by omega)
  ·rw[if_neg (by omega),List.drop_of_length_le (by omega)]
   exact⟨_,rfl,.inr ⟨rfl,rfl⟩⟩
theorem qi3 {N:Nat} {l:List Str} {v:Str} (hl:l.length<4611686018427387904) (hN:l.length<N):slices_Contains_string N l v=some (l.any fun w=>v==w):=by
 unfold slices_Contains_string slices_Index_string
 obtain⟨r,h1,h2⟩:=qhx l v hl N 0 (by omega) (by omega)
 rw[List.drop_zero]at h2
 rw[show kI l v N 0=_ from h1]
 rcases h2 with⟨h2,j,rfl⟩|⟨h2,rfl⟩
 ·rw[h2]
  simp
 ·rw[h2]
  simp
theorem qfD (l:List Str) (hl:l.length≤1000) (hs: ∀w∈l,w.length≤1000000): ∀(K k:Nat) (vs:List Int),k≤l.length→l.length<K+k→vs.length≤k→
 zF l K vs (k:Int)=some (if((l.drop k).all fun w=>(qcM w).2)=true then .inl (vs++(l.drop k).map fun w=>(qcM w).1)else .inr (ev0,false))
 |0,k,vs,h,hK,hv=>by omega
 |K+1,k,vs,h,hK,hv=>by
  unfold zF
  by_cases hk:k<l.length
  ·have hm:(l[k]).length≤1000000:=hs _ (List.getElem_mem hk)
   rw[if_pos (by omega),qE,List.getElem?_eq_getElem hk,Option.bind_some,qjr hm,Option.bind_some,List.drop_eq_getElem_cons hk,List.all_cons]
   by_cases hc:(qcM l[k]).2=true
   ·rw[hc]
    simp only[Bool.not_true,Bool.false_eq_true,if_false,Bool.true_and]
    rw[zB (by simp;omega) (by simp;omega),Option.bind_some,qM (by omega),qfD l hl hs K (k+1) _ (by omega) (by omega) (by simp;omega)]
    simp only[List.append_assoc,List.singleton_append,List.map_cons]
   ·have hc2:(qcM l[k]).2=false:=by simpa using hc
    rw[hc2]
    rfl
  ·rw[if_neg (by omega),List.drop_of_length_le (by omega)]
   simp
theorem qkH {l:List Str} (h:l.length≤1000):slices_Clone_string l=some l:=by
 cases l with
 |nil=>
  simp only[slices_Clone_string,jG,qew]
  rw[zB (by simp) (by simp)]
  simp
 |cons x xs=>
  show zS x xs=_
  unfold zS
  simp only[List.length_cons]at h
  rw[zB (by simp;omega) (by simp;omega)]
  rfl
theorem qdA: ∀(a s:Str),∀w∈spl a s,w.length≤a.length+s.length
 |a,[],w,h=>by simp[spl]at h;subst h;simp
 |a,c::s,w,h=>by
  rw[spl]at h
  split at h
  ·rcases List.mem_cons.1 h with rfl|h
   ·simp
   ·have:=qdA [] s w h
    simp at this⊢;omega
  ·have:=qdA (a++[c]) s w h
   simp at this⊢;omega
theorem qfv {N:Nat} {s:Str} (hs:s.length≤900) (hN:2000<N):j5 N s=some (jS s):=by
 unfold j5 jS
 rw[qmp (by omega) (by omega),Option.bind_some]
 have hlen:=qeI [] s
 have hc:=qeP s
 have hsh:=qdA [] s
 generalize spl [] s=ws at hlen hsh
 obtain⟨w0,tl,rfl⟩: ∃w0 tl,ws=w0::tl:=by
  cases ws with
  |nil=>simp at hlen
  |cons x xs=>exact⟨x,xs,rfl⟩
 unfold qkc
 have hh:(w0::tl).headD []=w0:=rfl
 rw[hh]
 obtain⟨a,b,ha,hb,e1,e2,e3⟩:=qeY w0
 have hlen2:(w0::tl).length≤901:=by omega
 have hlen3:=hlen2
 rw[List.length_cons]at hlen3
 simp only[zA,Option.bind_some,yX,List.getElem?_cons_zero,qiS]
 rw[show jm w0=((a:Int),(b:Int),(jm w0).2.2)from by rw[←e1,←e2]]
 simp only[Option.bind_some]
 cases hk:(jm w0).2.2 with
 |false=>simp[ev0]
 |true=>
  simp only[Bool.not_true,Bool.false_eq_true,if_false,Bool.true_and]
  have w1:w64 (1+(a:Int))=((1+a:Nat):Int):=by rw[qaL (by omega) (by omega)];omega
  have w2:w64 (((1+a:Nat):Int)+(b:Int))=((1+a+b:Nat):Int):=by rw[qaL (by omega) (by omega)];omega
  rw[w1,w2]
  by_cases hl:(w0::tl).length=1+a+b
  ·have d1:decide (((w0::tl).length:Int)=((1+a+b:Nat):Int))=true:=decide_eq_true (by omega)
   have d2:decide (((w0::tl).length:Int)=1+(a:Int)+(b:Int))=true:=decide_eq_true (by omega)
   rw[d1,d2]
   simp only[Bool.not_true,Bool.false_eq_true,if_false,Bool.true_and,qi3 (N:=N) (l:=w0::tl) (v:=[]) (by omega) (by omega),Option.bind_some]
   cases hany:(w0::tl).any fun w=>([]:Str)==w with
   |true=>simp[ev0]
   |false=>
    simp only[Bool.false_eq_true,if_false,Bool.not_false,Bool.true_and]
    rw[show cut (w0::tl) 1 ((1+a:Nat):Int)=cut (w0::tl) ((1:Nat):Int) ((1+a:Nat):Int)from rfl,qhL (by omega) (by omega),Option.bind_some,qkH (by simp;omega),Option.bind_some,qeu (by omega),Option.bind_some]
    have hL:=qfD ((w0::tl).drop (1+a)) (by simp;omega) (fun w hw=>by have:=hsh w (List.mem_of_mem_drop hw);simp at this;omega) N 0 [] (by omega) (by simp;omega) (by simp)
    rw[List.drop_zero,List.nil_append]at hL
    rw[show zF ((w0::tl).drop (1+a)) N [] 0=_ from hL,show 1+a-1=a by omega,Int.toNat_natCast]
    cases hall:((w0::tl).drop (1+a)).all fun w=>(qcM w).2 with
    |true=>simp only[if_true,Option.bind_some]
    |false=>simp only[Bool.false_eq_true,if_false,Option.bind_some]
  ·have d1:decide (((w0::tl).length:Int)=((1+a+b:Nat):Int))=false:=decide_eq_false (by omega)
   have d2:decide (((w0::tl).length:Int)=1+(a:Int)+(b:Int))=false:=decide_eq_false (by omega)
   rw[d1,d2]
   simp[ev0]
def goP (a:Nat):List Str→Nat→List Str→List Int→Option (List Str×List Int)
 |[],_,l8,l9=>some (l8,l9)
 |w::ws,i,l8,l9=>if(w==[])=true then none else if i≤a then goP a ws (i+1) (l8++[w]) l9 else if(qcM w).2=true then goP a ws (i+1) l8 (l9++[(qcM w).1])else none
theorem qe8 {N:Nat} (hN:2000<N) (ws:List Str) (hl:ws.length≤1000) (a:Nat) (F:Int×Int×Bool) (hF:F.1=(a:Int)): ∀(K i:Nat) (l8:List Str) (l9:List Int),i≤ws.length→ws.length<K+i→l8.length≤i→l9.length≤i→
 jD N ws F K l8 l9 (i:Int)=some (match goP a (ws.drop i) i l8 l9 with|some r=> .inl r|none=> .inr (ev0,false))
 |0,i,l8,l9,h,hK,_,_=>by omega
 |K+1,i,l8,l9,h,hK,h8,h9=>by
  unfold jD
  by_cases hi:i<ws.length
  ·rw[if_pos (by omega),qE,List.getElem?_eq_getElem hi,Option.bind_some,List.drop_eq_getElem_cons hi,goP]
   generalize ws[i]=w
   by_cases hw:(w==[])=true
   ·rw[if_pos hw,if_pos hw]
    rfl
   ·rw[if_neg hw,if_neg hw]
    by_cases hia:i≤a
    ·rw[if_pos (show(i:Int)≤F.1 by omega),if_pos hia,zB (by simp;omega) (by simp;omega),Option.bind_some,Option.bind_some]
     simp only
     rw[qM (by omega),qe8 hN ws hl a F hF K (i+1) _ _ (by omega) (by omega) (by simp;omega) (by omega)]
    ·rw[if_neg (show¬(i:Int)≤F.1 by omega),if_neg hia,qiU hN,Option.bind_some]
     cases hc:(qcM w).2 with
     |false=>rfl
     |true=>
      simp only[Bool.not_true,Bool.false_eq_true,if_false,if_true]
      rw[zB (by simp;omega) (by simp;omega),Option.bind_some,Option.bind_some]
      simp only
      rw[qM (by omega),qe8 hN ws hl a F hF K (i+1) _ _ (by omega) (by omega) (by omega) (by simp;omega)]
  ·rw[if_neg (by omega),List.drop_of_length_le (by omega)]
   rfl
theorem qjU (a:Nat): ∀(ws:List Str) (i:Nat) (l8:List Str) (l9:List Int),goP a ws i l8 l9=if(!(ws.any fun w=>([]:Str)==w)&&(ws.drop (a+1-i)).all fun w=>(qcM w).2)=true then some (l8++ws.take (a+1-i),l9++(ws.drop (a+1-i)).map fun w=>(qcM w).1)else none
 |[],i,l8,l9=>by simp[goP]
 |w::ws,i,l8,l9=>by
  rw[goP]
  have hcomm:(([]:Str)==w)=(w==[]):=by
   cases w<;>rfl
  by_cases hw:(w==[])=true
  ·rw[if_pos hw,List.any_cons,hcomm,hw]
   simp
  ·have hw2:(w==[])=false:=by simpa using hw
   rw[if_neg hw,List.any_cons,hcomm,hw2,Bool.false_or]
   by_cases hia:i≤a
   ·rw[if_pos hia,qjU a ws (i+1),show a+1-i=(a+1-(i+1))+1 by omega]
    simp only[List.drop_succ_cons,List.take_succ_cons,List.append_assoc,List.singleton_append]
   ·rw[if_neg hia,show a+1-i=0 by omega]
    simp only[List.drop_zero,List.take_zero,List.append_nil,List.all_cons,List.map_cons]
    cases hc:(qcM w).2 with
    |false=>simp
    |true=>
     rw[if_pos rfl,qjU a ws (i+1),show a+1-(i+1)=0 by omega]
     simp
theorem qht {N:Nat} {s:Str} (hs:s.length≤900) (hN:2000<N):xI N s=some (jS s):=by
 unfold xI jS
 rw[qkO (by omega) (by omega),Option.bind_some]
 have hlen:=qeI [] s
 have hc:=qeP s
 generalize spl [] s=ws at hlen
 obtain⟨w0,tl,rfl⟩: ∃w0 tl,ws=w0::tl:=by
  cases ws with
  |nil=>simp at hlen
  |cons x xs=>exact⟨x,xs,rfl⟩
 unfold qkc
 have hh:(w0::tl).headD []=w0:=rfl
 rw[hh]
 obtain⟨a,b,ha,hb,e1,e2,e3⟩:=qeY w0
 have hlen2:(w0::tl).length≤901:=by omega
 have hlen3:=hlen2
 rw[List.length_cons]at hlen3
 simp only[Option.bind_some,yX,List.getElem?_cons_zero,qkl]
 cases hk:(jm w0).2.2 with
 |false=>simp[ev0]
 |true=>
  simp only[Bool.not_true,Bool.false_eq_true,if_false,Bool.true_and,e1,e2]
  have w1:w64 (1+(a:Int))=((1+a:Nat):Int):=by rw[qaL (by omega) (by omega)];omega
  have w2:w64 (((1+a:Nat):Int)+(b:Int))=((1+a+b:Nat):Int):=by rw[qaL (by omega) (by omega)];omega
  rw[w1,w2]
  by_cases hl:(w0::tl).length=1+a+b
  ·have d1:decide (((w0::tl).length:Int)=((1+a+b:Nat):Int))=true:=decide_eq_true (by omega)
   have d2:decide (((w0::tl).length:Int)=1+(a:Int)+(b:Int))=true:=decide_eq_true (by omega)
   rw[d1,d2]
   simp only[Bool.not_true,Bool.false_eq_true,if_false,Bool.true_and,Option.bind_some]
   have hL:=qe8 hN (w0::tl) (by omega) a (jm w0) e1 N 1 [] [] (by simp) (by omega) (by simp) (by simp)
   rw[show jD N (w0::tl) (jm w0) N [] [] 1=_ from hL,List.drop_succ_cons,List.drop_zero,qjU,show a+1-1=a by omega,Int.toNat_natCast]
   have hne:(([]:Str)==w0)=false:=by
    have:=e3 hk
    cases w0 with
    |nil=>exact absurd rfl this
    |cons x xs=>rfl
   rw[List.any_cons,hne,Bool.false_or,show 1+a=a+1 by omega,List.drop_succ_cons]
   simp only[List.nil_append]
   cases(!(tl.any fun w=>([]:Str)==w)&&(tl.drop a).all fun w=>(qcM w).2)with
   |true=>simp only[if_true,Option.bind_some]
   |false=>simp only[Bool.false_eq_true,if_false,Option.bind_some]
  ·have d1:decide (((w0::tl).length:Int)=((1+a+b:Nat):Int))=false:=decide_eq_false (by omega)
   have d2:decide (((w0::tl).length:Int)=1+(a:Int)+(b:Int))=false:=decide_eq_false (by omega)
   rw[d1,d2]
   simp[ev0]
theorem qkd (a b:Int):cmp_Compare_int a b=some (if a<b then-1 else if a>b then 1 else 0):=by
 unfold cmp_Compare_int cmp_isNaN_int
 by_cases h1:a<b
 ·simp[h1]
 ·by_cases h2:a>b<;>simp[h1,h2]
theorem qmI (a b:Str):vF a b=some (if ltL a b=true then-1 else if a=b then 0 else 1):=by
 unfold vF cmp_isNaN_string
 by_cases h1:ltL a b=true
 ·simp[h1]
 ·by_cases h2:a=b
  ·subst h2;simp[h1]
  ·simp[h1,h2]
theorem qlO {N:Nat} (hN:2000<N) (a b:Int):qbp N [a,b]=some (if a=0 then b else a):=by
 unfold qbp
 obtain⟨K,rfl⟩: ∃K,N=K+3:=⟨N-3,by omega⟩
 have w0:w64 ((0:Int)+1)=1:=by decide
 have w1:w64 ((1:Int)+1)=2:=by decide
 unfold vo
 rw[if_pos (by simp),yX]
 simp only[List.getElem?_cons_zero,Option.bind_some,w0]
 by_cases h1:a=0
 ·subst h1
  unfold vo
  simp only[decide_true,Bool.not_true,Bool.false_eq_true,if_false]
  rw[if_pos (by simp),qd5]
  simp only[List.getElem?_cons_succ,List.getElem?_cons_zero,Option.bind_some,w1]
  by_cases h2:b=0
  ·subst h2
   unfold vo
   simp
  ·simp[h2]
 ·simp[h1]
theorem qji {N:Nat} (hN:2000<N) (m o:qB):jB N m o=some (if ltL m.Desk o.Desk=true then-1 else if m.Desk=o.Desk then(if m.Number<o.Number then-1 else if m.Number>o.Number then 1 else 0)else 1):=by
 unfold jB
 rw[qmI,Option.bind_some,qkd,Option.bind_some,qlO hN]
 by_cases h1:ltL m.Desk o.Desk=true
 ·simp[h1]
 ·by_cases h2:m.Desk=o.Desk
  ·simp only[if_neg h1,if_pos h2,if_true,Option.bind_some]
  ·simp[h1,h2]
def qaq (n:qm):Int:=if xD n.Desk=false then 8 else if(j3 n.Number 1 1000||j3 n.Clock 1 1000000)=true then 3 else if(!(jS n.Line).2||(jS n.Line).1.Kind==yZ)=true then 25 else 0
def qgK (p n:qm):Bool:=ltL n.Desk p.Desk||(n.Desk==p.Desk&&(decide (n.Number≤p.Number)||decide (n.Clock≤p.Clock)))
def qjX:Option qm→qm→Bool
 |some q,n=>qgK q n
 |none,_=>false
def qfi:Option qm→List qm→Int
 |_,[]=>0
 |p,n::l=>if qaq n≠0 then qaq n else if qjX p n=true then 11 else qfi (some n) l
theorem qff (p:Option qm) (n:qm) (l:List qm):qfi p (n::l)=if qaq n≠0 then qaq n else if qjX p n=true then 11 else qfi (some n) l:=rfl
def checkN (l:List qm):Int:=if l.length>1000 then 5 else qfi none l
def qc8 (l:List qm):Prop:= ∀n∈l,n.Desk.length≤60∧n.Line.length≤150
theorem qid {N:Nat} (hN:2000<N) {n:qm} (h:n.Desk.length≤60∧n.Line.length≤150):yl N n=some (qaq n):=by
 unfold yl qaq
 rw[qfv (by omega) hN,Option.bind_some]
 simp only[qf8 (N:=N) (s:=n.Desk) (by omega),qaG,qaQ,Option.bind_some]
 rw[show([117,110,100,111]:Str)=yZ from rfl]
 have f: ∀a b c d:Int,qV N [a,b,c,d]=some (qR [a,b,c,d]):=fun a b c d=>xG (by simp) (by simp;omega)
 simp only[f,Option.bind_some]
 by_cases h1:xD n.Desk=true
 ·by_cases h2:j3 n.Number 1 1000=true
  ·by_cases h5:(jS n.Line).2=true<;>simp[h1,h2,h5,qR]
  ·by_cases h3:j3 n.Clock 1 1000000=true
   ·by_cases h5:(jS n.Line).2=true<;>simp[h1,h2,h3,h5,qR]
   ·by_cases h5:(jS n.Line).2=true
    ·by_cases h6:((jS n.Line).1.Kind==yZ)=true<;>simp[h1,h2,h3,h5,h6,qR]
    ·simp[h1,h2,h3,h5,qR]
 ·by_cases h5:(jS n.Line).2=true<;>simp[h1,h5,qR]
theorem qmq (p n:qm):(if(if ltL p.Desk n.Desk=true then(-1:Int)else if p.Desk=n.Desk then(if p.Number<n.Number then-1 else if p.Number>n.Number then 1 else 0)else 1)≥0 then some true else if(p.Desk==n.Desk)=true then some (decide (p.Clock≥n.Clock))else some false:Option Bool)=some (qgK p n):=by
 unfold qgK
 by_cases h1:ltL p.Desk n.Desk=true
 ·have h2:=qhf h1
  have h3: ¬(p.Desk==n.Desk)=true:=fun e=>qel h1 (beq_iff_eq.1 e)
  have h4: ¬(n.Desk==p.Desk)=true:=fun e=>qel h1 (beq_iff_eq.1 e).symm
  simp[h1,h2,h3,h4]
 ·by_cases h2:p.Desk=n.Desk
  ·have h3:ltL n.Desk p.Desk=false:=by rw[h2];exact qby _
   by_cases h5:p.Number<n.Number
   ·have: ¬n.Number≤p.Number:=by omega
    have h6:((p.Desk==n.Desk)=true):=by simpa using h2
    have h7:((n.Desk==p.Desk)=true):=by simpa using h2.symm
    simp only[h1,if_pos h2,if_pos h5,h3,h6,h7,this,decide_false,Bool.false_or,Bool.true_and,if_true,if_false]
    simp
   ·have:n.Number≤p.Number:=by omega
    have h7:((n.Desk==p.Desk)=true):=by simpa using h2.symm
    have h6:((p.Desk==n.Desk)=true):=by simpa using h2
    by_cases h8:p.Number>n.Number<;>simp only[if_neg h1,if_pos h2,if_neg h5,h8,if_true,if_false,h3,h7,this,decide_true,Bool.false_or,Bool.true_or,Bool.true_and]<;>rfl
  ·have h3:ltL n.Desk p.Desk=true:=by
    cases hq:ltL n.Desk p.Desk with
    |true=>rfl
    |false=>exact absurd (qev _ _ (by simpa using h1) hq) h2
   simp[h1,h2,h3]
def qa1 (l:List qm) (k:Nat):Option qm:=if k=0 then none else l[k-1]?
theorem qf1 {l:List qm} {k:Nat} (hk:k<l.length):qa1 l (k+1)=some l[k]:=by
 unfold qa1
 rw[if_neg (by omega),Nat.add_sub_cancel,List.getElem?_eq_getElem hk]
theorem qdX {N:Nat} (hN:2000<N) {l:List qm} (hs:qc8 l) (hl:l.length≤1000): ∀(K k:Nat),k≤l.length→l.length<K+k→
 kL N l K (k:Int)=some (if qfi (qa1 l k) (l.drop k)=0 then .inl ()else .inr (qfi (qa1 l k) (l.drop k)))
 |0,k,h,hK=>by omega
 |K+1,k,h,hK=>by
  unfold kL
  by_cases hk:k<l.length
  ·rw[if_pos (by omega),qE,List.getElem?_eq_getElem hk,Option.bind_some,List.drop_eq_getElem_cons hk,qM (by omega),qdX hN hs hl K (k+1) (by omega) (by omega),qf1 hk]
   have hq:=hs l[k] (List.getElem_mem hk)
   generalize l[k]=n at hq⊢
   have e:(if(k:Int)>0 then(idx l (w64 ((k:Int)-1))).bind fun x8=>(zm x8).bind fun r9=>(zm n).bind fun r10=>(jB N r9 r10).bind fun r11=>if r11≥0 then some true else if(x8.Desk==n.Desk)=true then some (decide (x8.Clock≥n.Clock))else some false else some false:Option Bool)=some (qjX (qa1 l k) n):=by
    by_cases h0:k=0
    ·subst h0
     rfl
    ·rw[if_pos (by omega),qdm (by omega) (by omega),qE,List.getElem?_eq_getElem (by omega)]
     have:qa1 l k=some l[k-1]:=by unfold qa1;rw[if_neg h0,List.getElem?_eq_getElem (by omega)]
     rw[this]
     simp only[Option.bind_some,zm,qji hN]
     exact qmq l[k-1] n
   rw[e,Option.bind_some,qid hN hq]
   simp only[Option.bind_some,qaQ]
   rw[xG (by simp) (by simp;omega),Option.bind_some,qff]
   generalize qjX (qa1 l k) n=b
   by_cases h1:qaq n=0
   ·cases b<;>simp[h1,qR]
   ·simp[h1,qR]
  ·rw[if_neg (by omega),List.drop_of_length_le (by omega)]
   rfl
theorem qbX {N:Nat} (hN:2000<N) {l:List qm} (hs:qc8 l):zP N l=some (checkN l):=by
 unfold zP checkN
 by_cases hl:l.length>1000
 ·rw[if_pos (by omega),if_pos hl]
 ·rw[if_neg (by omega),if_neg hl,show kL N l N 0=kL N l N ((0:Nat):Int)from rfl,qdX hN hs (by omega) N 0 (by omega) (by omega),List.drop_zero]
  show(some (if qfi none l=0 then _ else _):Option _).bind _=_
  by_cases h0:qfi none l=0
  ·simp[h0,qa1]
  ·simp[h0,qa1]
theorem qdd {N:Nat} (hN:2000<N) {l:List qm} (hs:qc8 l) (hl:l.length≤1000): ∀(K k:Nat),k≤l.length→l.length<K+k→
 kQ N l K (k:Int)=some (if qfi (qa1 l k) (l.drop k)=0 then .inl ()else .inr (qfi (qa1 l k) (l.drop k)))
 |0,k,h,hK=>by omega
 |K+1,k,h,hK=>by
  unfold kQ
  by_cases hk:k<l.length
  ·rw[if_pos (by omega),qE,List.getElem?_eq_getElem hk,Option.bind_some,List.drop_eq_getElem_cons hk,qM (by omega),qdd hN hs hl K (k+1) (by omega) (by omega),qf1 hk]
   have hq:=hs l[k] (List.getElem_mem hk)
   generalize l[k]=n at hq⊢
   rw[qff]
   simp only[qed (N:=N) (s:=n.Desk) (by omega) (by omega),qaM,qht (N:=N) (s:=n.Line) (by omega) hN,Option.bind_some]
   rw[show([117,110,100,111]:Str)=yZ from rfl]
   unfold qaq
   by_cases h1:xD n.Desk=true
   ·by_cases h2:j3 n.Number 1 1000=true
    ·simp[h1,h2]
    by_cases h3:j3 n.Clock 1 1000000=true
    ·simp[h1,h2,h3]
    by_cases h5:(jS n.Line).2=true
    ·by_cases h6:((jS n.Line).1.Kind==yZ)=true
     ·simp[h1,h2,h3,h5,h6]
     ·by_cases h0:k=0
      ·subst h0
       simp[h1,h2,h3,h5,h6,qa1,qjX]
      ·have hp:qa1 l k=some l[k-1]:=by unfold qa1;rw[if_neg h0,List.getElem?_eq_getElem (by omega)]
       have hb:(if ltL n.Desk (l[k-1]).Desk=true then some true else if(n.Desk==(l[k-1]).Desk)=true then if n.Number≤(l[k-1]).Number then some true else some (decide (n.Clock≤(l[k-1]).Clock))else some false:Option Bool)=some (qgK l[k-1] n):=by
        unfold qgK
        by_cases g1:ltL n.Desk (l[k-1]).Desk=true
        ·simp[g1]
        ·by_cases g2:(n.Desk==(l[k-1]).Desk)=true
         ·by_cases g3:n.Number≤(l[k-1]).Number<;>simp[g1,g2,g3]
         ·simp[g1,g2]
       rw[hp,show qjX (some l[k-1]) n=qgK l[k-1] n from rfl]
       have hk0:(k:Int)>0:=by omega
       simp only[h1,h2,h3,h5,h6,hk0,if_true,if_false,Bool.not_true,Bool.false_eq_true,Option.bind_some,Bool.or_self,Bool.or_false,qdm (show k<4611686018427387904 by omega) (by omega),qE,List.getElem?_eq_getElem (show k-1<l.length by omega),hb,ne_eq,not_true_eq_false,Bool.true_eq_false]
       by_cases hb2:qgK l[k-1] n=true<;>simp[hb2]
    ·simp[h1,h2,h3,h5]
   ·simp[h1]
  ·rw[if_neg (by omega),List.drop_of_length_le (by omega)]
   rfl
theorem qgc {N:Nat} (hN:2000<N) {l:List qm} (hs:qc8 l):yh N l=some (checkN l):=by
 unfold yh checkN
 by_cases hl:l.length>1000
 ·rw[if_pos (by omega),if_pos hl]
 ·rw[if_neg (by omega),if_neg hl,show kQ N l N 0=kQ N l N ((0:Nat):Int)from rfl,qdd hN hs (by omega) N 0 (by omega) (by omega),List.drop_zero]
  show(some (if qfi none l=0 then _ else _):Option _).bind _=_
  by_cases h0:qfi none l=0
  ·simp[h0,qa1]
  ·simp[h0,qa1]
def qdC (m:qB):Int:=if xD m.Desk=false then 8 else if j3 m.Number 0 1000=true then 3 else 0
def qjy:Option qB→qB→Bool
 |some q,m=>!(ltL q.Desk m.Desk)
 |none,_=>false
def qg2:Option qB→List qB→Int
 |_,[]=>0
 |p,m::l=>if qdC m≠0 then qdC m else if qjy p m=true then 11 else qg2 (some m) l
theorem qha (p:Option qB) (m:qB) (l:List qB):qg2 p (m::l)=if qdC m≠0 then qdC m else if qjy p m=true then 11 else qg2 (some m) l:=rfl
def qbn (l:List qB):Int:=if l.length>1000 then 5 else qg2 none l
def qfl (l:List qB):Prop:= ∀m∈l,m.Desk.length≤60
def qap (l:List qB) (k:Nat):Option qB:=if k=0 then none else l[k-1]?
theorem qgj {l:List qB} {k:Nat} (hk:k<l.length):qap l (k+1)=some l[k]:=by
 unfold qap
 rw[if_neg (by omega),Nat.add_sub_cancel,List.getElem?_eq_getElem hk]
theorem qdu {N:Nat} (hN:2000<N) {l:List qB} (hs:qfl l) (hl:l.length≤1000): ∀(K k:Nat),k≤l.length→l.length<K+k→
 ky N l K (k:Int)=some (if qg2 (qap l k) (l.drop k)=0 then .inl ()else .inr (qg2 (qap l k) (l.drop k)))
 |0,k,h,hK=>by omega
 |K+1,k,h,hK=>by
  unfold ky
  by_cases hk:k<l.length
  ·rw[if_pos (by omega),qE,List.getElem?_eq_getElem hk,Option.bind_some,List.drop_eq_getElem_cons hk,qM (by omega),qdu hN hs hl K (k+1) (by omega) (by omega),qgj hk,qha]
   have hq:=hs l[k] (List.getElem_mem hk)
   generalize l[k]=m at hq⊢
   have f: ∀a b c:Int,qV N [a,b,c]=some (qR [a,b,c]):=fun a b c=>xG (by simp) (by simp;omega)
   have e:((vW N m.Desk).bind fun r7=>(kV m.Number 0 1000).bind fun r8=>if(k:Int)>0 then(idx l (w64 ((k:Int)-1))).bind fun x10=>(qU (!(ltL x10.Desk m.Desk)) 11).bind fun r11=>(qV N ([r7,r8,r11]:List Int)).bind fun r12=>some (r7,r8,r11,r12)
    else(qU false 11).bind fun r13=>(qV N ([r7,r8,r13]:List Int)).bind fun r14=>some (r7,r8,r13,r14):Option (Int×Int×Int×Int))=
    some (if xD m.Desk=true then 0 else 8,if j3 m.Number 0 1000=true then 3 else 0,if qjy (qap l k) m=true then 11 else 0,qR [if xD m.Desk=true then 0 else 8,if j3 m.Number 0 1000=true then 3 else 0,if qjy (qap l k) m=true then 11 else 0]):=by
    simp only[qf8 (N:=N) (s:=m.Desk) (by omega),qaG,qaQ,f,Option.bind_some]
    by_cases h0:k=0
    ·subst h0
     rfl
    ·have hp:qap l k=some l[k-1]:=by unfold qap;rw[if_neg h0,List.getElem?_eq_getElem (by omega)]
     rw[if_pos (by omega),qdm (by omega) (by omega),qE,List.getElem?_eq_getElem (by omega),hp]
     rfl
   rw[e,Option.bind_some]
   simp only
   unfold qdC
   by_cases h1:xD m.Desk=true
   ·by_cases h2:j3 m.Number 0 1000=true
    ·simp[h1,h2,qR]
    ·by_cases h3:qjy (qap l k) m=true<;>simp[h1,h2,h3,qR]
   ·simp[h1,qR]
  ·rw[if_neg (by omega),List.drop_of_length_le (by omega)]
   rfl
theorem qgd {N:Nat} (hN:2000<N) {l:List qB} (hs:qfl l):vD N l=some (qbn l):=by
 unfold vD qbn
 by_cases hl:l.length>1000
 ·rw[if_pos (by omega),if_pos hl]
 ·rw[if_neg (by omega),if_neg hl,show ky N l N 0=ky N l N ((0:Nat):Int)from rfl,qdu hN hs (by omega) N 0 (by omega) (by omega),List.drop_zero]
  by_cases h0:qg2 none l=0
  ·simp[h0,qap]
  ·simp[h0,qap]
theorem qcH {N:Nat} (hN:2000<N) {l:List qB} (hs:qfl l) (hl:l.length≤1000): ∀(K k:Nat),k≤l.length→l.length<K+k→
 kK N l K (k:Int)=some (if qg2 (qap l k) (l.drop k)=0 then .inl ()else .inr (qg2 (qap l k) (l.drop k)))
 |0,k,h,hK=>by omega
 |K+1,k,h,hK=>by
  unfold kK
  by_cases hk:k<l.length
  ·rw[if_pos (by omega),qE,List.getElem?_eq_getElem hk,Option.bind_some,List.drop_eq_getElem_cons hk,qM (by omega),qcH hN hs hl K (k+1) (by omega) (by omega),qgj hk,qha]
   have hq:=hs l[k] (List.getElem_mem hk)
   generalize l[k]=m at hq⊢
   have e:(if(k:Int)>0 then(idx l (w64 ((k:Int)-1))).bind fun x12=>some (ltL m.Desk x12.Desk||m.Desk==x12.Desk)else some false:Option Bool)=some (qjy (qap l k) m):=by
    by_cases h0:k=0
    ·subst h0
     rfl
    ·have hp:qap l k=some l[k-1]:=by unfold qap;rw[if_neg h0,List.getElem?_eq_getElem (by omega)]
     rw[if_pos (by omega),qdm (by omega) (by omega),qE,List.getElem?_eq_getElem (by omega),hp,Option.bind_some]
     show some (ltL m.Desk (l[k-1]).Desk||m.Desk==(l[k-1]).Desk)=some (!(ltL (l[k-1]).Desk m.Desk))
     generalize (l[k-1]).Desk=a
     congr 1
     by_cases h1:ltL a m.Desk=true
     ·have h2:=qhf h1
      have h3:(m.Desk==a)=false:=by simpa using fun e=>qel h1 e.symm
      simp[h1,h2,h3]
     ·by_cases h2:ltL m.Desk a=true
      ·simp[h1,h2]
      ·have:=qev _ _ (by simpa using h1) (by simpa using h2)
       rw[this]
       simp[qby]
   simp only[qed (N:=N) (s:=m.Desk) (by omega) (by omega),qaM,Option.bind_some,e]
   unfold qdC
   by_cases h1:xD m.Desk=true
   ·by_cases h2:j3 m.Number 0 1000=true
    ·simp[h1,h2]
    ·by_cases h3:qjy (qap l k) m=true<;>simp[h1,h2,h3]
   ·simp[h1]
  ·rw[if_neg (by omega),List.drop_of_length_le (by omega)]
   rfl
theorem qfK {N:Nat} (hN:2000<N) {l:List qB} (hs:qfl l):vQ N l=some (qbn l):=by
 unfold vQ qbn
 by_cases hl:l.length>1000
 ·rw[if_pos (by omega),if_pos hl]
 ·rw[if_neg (by omega),if_neg hl,show kK N l N 0=kK N l N ((0:Nat):Int)from rfl,qcH hN hs (by omega) N 0 (by omega) (by omega),List.drop_zero]
  by_cases h0:qg2 none l=0
  ·simp[h0,qap]
  ·simp[h0,qap]
theorem qb3 {α κ:Type} [BEq κ] (p:κ×α) (m:List (κ×α)) (k:κ):qa2 (p::m) k=if(k==p.1)=true then some p.2 else qa2 m k:=by
 unfold qa2
 rw[List.find?_cons]
 cases h:k==p.1<;>simp
theorem qij {α κ:Type} [BEq κ] [LawfulBEq κ] (v:α) (k k':κ): ∀m:List (κ×α),qa2 (qd7 m k v) k'=if(k'==k)=true then some v else qa2 m k'
 |[]=>by
  show qa2 [(k,v)] k'=_
  rw[qb3]
 |p::m=>by
  unfold qd7
  by_cases h:(k==p.1)=true
  ·rw[if_pos h,qb3,qb3]
   have e:k=p.1:=eq_of_beq h
   by_cases h2:(k'==p.1)=true
   ·have:(k'==k)=true:=by rw[e];exact h2
    rw[if_pos h2,if_pos this]
   ·have: ¬(k'==k)=true:=by rw[e];exact h2
    rw[if_neg h2,if_neg this,if_neg h2]
  ·rw[if_neg h,qb3,qij v k k' m,qb3]
   by_cases h2:(k'==p.1)=true
   ·have e:k'=p.1:=eq_of_beq h2
    have: ¬(k'==k)=true:=fun h3=>h (by rw[←eq_of_beq h3,e];exact beq_self_eq_true _)
    rw[if_pos h2,if_neg this,if_pos h2]
   ·rw[if_neg h2,if_neg h2]
def qiJ (h:Int) (v:List qB) (d:Str):Int:=v.foldl (fun h m=>if(m.Desk==d)=true then m.Number else h) h
def qcE (l:List qm) (v:List qB):List qm:=l.filter fun n=>decide (n.Number>qiJ 0 v n.Desk)
theorem qf7 (v:List qB) (hl:v.length≤1003): ∀(K k:Nat) (m:List (Str×Int)),k≤v.length→v.length<K+k→ ∃m',zQ v K m (k:Int)=some m'∧ ∀d,(qa2 m' d).getD 0=qiJ ((qa2 m d).getD 0) (v.drop k) d
 |0,k,m,h,hK=>by omega
 |K+1,k,m,h,hK=>by
  unfold zQ
  by_cases hk:k<v.length
  ·rw[if_pos (by omega),qE,List.getElem?_eq_getElem hk,Option.bind_some,Option.bind_some,qM (by omega)]
   obtain⟨m',h1,h2⟩:=qf7 v hl K (k+1) (qd7 m (v[k]).Desk (v[k]).Number) (by omega) (by omega)
   refine⟨m',h1,fun d=>?_⟩
   rw[h2,List.drop_eq_getElem_cons hk,qij]
   unfold qiJ
   rw[List.foldl_cons]
   congr 1
   have:(d==(v[k]).Desk)=((v[k]).Desk==d):=Bool.eq_iff_iff.2 ⟨fun e=>by rw[eq_of_beq e];exact beq_self_eq_true _,fun e=>by rw[eq_of_beq e];exact beq_self_eq_true _⟩
   rw[this]
   split<;>rfl
  ·rw[if_neg (by omega),List.drop_of_length_le (by omega)]
   exact⟨m,rfl,fun _=>rfl⟩
theorem qe0 (l:List qm) (m:List (Str×Int)) (v:List qB) (hm: ∀d,(qa2 m d).getD 0=qiJ 0 v d) (hl:l.length≤1003): ∀(K k:Nat) (o:List qm),k≤l.length→l.length<K+k→o.length≤k→
 kg l m K o (k:Int)=some (o++qcE (l.drop k) v)
 |0,k,o,h,hK,_=>by omega
 |K+1,k,o,h,hK,ho=>by
  unfold kg
  by_cases hk:k<l.length
  ·rw[if_pos (by omega),qE,List.getElem?_eq_getElem hk,Option.bind_some,List.drop_eq_getElem_cons hk,qM (by omega)]
   unfold qcE
   rw[List.filter_cons,hm]
   simp only[vV,yV,Option.bind_some]
   by_cases hc:(l[k]).Number>qiJ 0 v (l[k]).Desk
   ·simp only[decide_eq_true hc,if_true]
    rw[zB (by simp;omega) (by simp;omega)]
    simp only[Option.bind_some]
    rw[qe0 l m v hm hl K (k+1) _ (by omega) (by omega) (by simp;omega),List.append_assoc]
    rfl
   ·simp only[decide_eq_false hc,if_false,Bool.false_eq_true,Option.bind_some]
    exact qe0 l m v hm hl K (k+1) _ (by omega) (by omega) (by omega)
  ·rw[if_neg (by omega),List.drop_of_length_le (by omega)]
   simp[qcE]
theorem qjg {N:Nat} (hN:2000<N) {l:List qm} {v:List qB} (hs:qc8 l) (hv:qfl v) (h1:l.length≤1003) (h2:v.length≤1003):xn N l v=some (if qR [checkN l,qbn v]=0 then qcE l v else[],qR [checkN l,qbn v]):=by
 unfold xn
 rw[qbX hN hs,qgd hN hv]
 simp only[Option.bind_some]
 rw[xG (by simp) (by simp;omega),Option.bind_some]
 by_cases h0:qR [checkN l,qbn v]=0
 ·rw[if_neg (by simp[h0]),if_pos h0,h0]
  obtain⟨m',g1,g2⟩:=qf7 v h2 N 0 [] (by omega) (by omega)
  rw[show zQ v N [] 0=_ from g1,Option.bind_some]
  unfold vL
  rw[List.drop_zero]at g2
  have:=qe0 l m' v g2 h1 N 0 [] (by omega) (by omega) (by simp)
  rw[show kg l m' N [] 0=_ from this]
  rfl
 ·rw[if_pos (by simp[h0]),if_neg h0]
theorem qdb (l:List qm) (v:List qB) (hl:v.length≤1003) (i:Nat) {n:qm} (hi:l[i]? =some n): ∀(K k:Nat) (h:Int),k≤v.length→v.length<K+k→jh l v (i:Int) K h (k:Int)=some (qiJ h (v.drop k) n.Desk)
 |0,k,h,h1,hK=>by omega
 |K+1,k,h,h1,hK=>by
  unfold jh
  by_cases hk:k<v.length
  ·rw[if_pos (by omega),qE,List.getElem?_eq_getElem hk,Option.bind_some,qE,hi,Option.bind_some,List.drop_eq_getElem_cons hk,qM (by omega)]
   unfold qiJ
   rw[List.foldl_cons]
   by_cases hc:((v[k]).Desk==n.Desk)=true
   ·rw[if_pos hc,if_pos hc,Option.bind_some]
    exact qdb l v hl i hi K (k+1) _ (by omega) (by omega)
   ·rw[if_neg hc,if_neg hc,Option.bind_some]
    exact qdb l v hl i hi K (k+1) _ (by omega) (by omega)
  ·rw[if_neg (by omega),List.drop_of_length_le (by omega)]
   rfl
theorem qdq {N:Nat} (hN:2000<N) (l:List qm) (v:List qB) (hv:v.length≤1003) (hl:l.length≤1003): ∀(K k:Nat) (o:List qm),k≤l.length→l.length<K+k→o.length≤k→
 je N l v K o (k:Int)=some (o++qcE (l.drop k) v)
 |0,k,o,h,hK,_=>by omega
 |K+1,k,o,h,hK,ho=>by
  unfold je
  by_cases hk:k<l.length
  ·have hx:l[k]? =some l[k]:=List.getElem?_eq_getElem hk
   have:=qdb l v hv k hx N 0 0 (by omega) (by omega)
   rw[List.drop_zero]at this
   rw[if_pos (by omega),show jh l v (k:Int) N 0 0=_ from this,Option.bind_some,qE,hx,Option.bind_some,List.drop_eq_getElem_cons hk,qM (by omega)]
   unfold qcE
   rw[List.filter_cons]
   by_cases hc:(l[k]).Number>qiJ 0 v (l[k]).Desk
   ·rw[if_pos hc,if_pos (decide_eq_true hc),zB (by simp;omega) (by simp;omega)]
    simp only[Option.bind_some]
    rw[qdq hN l v hv hl K (k+1) _ (by omega) (by omega) (by simp;omega),List.append_assoc]
    rfl
   ·rw[if_neg hc,if_neg (by simpa using hc),Option.bind_some]
    exact qdq hN l v hv hl K (k+1) _ (by omega) (by omega) (by omega)
  ·rw[if_neg (by omega),List.drop_of_length_le (by omega)]
   simp[qcE]
theorem qiu {N:Nat} (hN:2000<N) {l:List qm} {v:List qB} (h1:l.length≤1003) (h2:v.length≤1003):yQ N l v=some (qcE l v):=by
 unfold yQ
 have:=qdq hN l v h2 h1 N 0 [] (by omega) (by omega) (by simp)
 rw[show je N l v N [] 0=_ from this]
 rfl
def qck (o:List qm) (n:qm):List qm:=o.takeWhile (fun x=>decide (x.Clock≤n.Clock))++n::o.dropWhile fun x=>decide (x.Clock≤n.Clock)
def qbl (l:List qm):List qm:=l.foldl qck []
def qlH:List qm→qm→List qm
 |[],n=>[n]
 |x::xs,n=>if n.Clock<x.Clock then qlH xs n++[x]else(x::xs).reverse++[n]
def qhP (l:List qm):Prop:=l.Pairwise fun a b=>a.Clock≤b.Clock
theorem qdn {α:Type} {p:α→Bool} {x:α} (hx:p x=false): ∀l:List α,(l++[x]).takeWhile p=l.takeWhile p∧(l++[x]).dropWhile p=l.dropWhile p++[x]
 |[]=>by simp[hx]
 |y::l=>by
  obtain⟨h1,h2⟩:=qdn hx l
  rw[List.cons_append,List.takeWhile_cons,List.takeWhile_cons,List.dropWhile_cons,List.dropWhile_cons]
  cases h:p y with
  |true=>simp[h1,h2]
  |false=>simp
theorem qhd {α:Type} {p:α→Bool}: ∀{l:List α},(∀x∈l,p x=true)→l.takeWhile p=l∧l.dropWhile p=[]
 |[],_=>⟨rfl,rfl⟩
 |y::l,h=>by
  obtain⟨h1,h2⟩:=qhd (fun x hx=>h x (List.mem_cons_of_mem _ hx))
  rw[List.takeWhile_cons,List.dropWhile_cons,if_pos (h y List.mem_cons_self),if_pos (h y List.mem_cons_self),h1,h2]
  exact⟨rfl,rfl⟩
theorem qj1 (n:qm): ∀r:List qm,qhP r.reverse→qlH r n=qck r.reverse n
 |[],_=>rfl
 |x::xs,h=>by
  rw[List.reverse_cons]at h⊢
  obtain⟨h1,h2,h3⟩:=List.pairwise_append.1 h
  unfold qlH
  by_cases hc:n.Clock<x.Clock
  ·rw[if_pos hc,qj1 n xs h1]
   obtain⟨g1,g2⟩:=qdn (p:=fun y:qm=>decide (y.Clock≤n.Clock)) (x:=x) (by simp;omega) xs.reverse
   unfold qck
   rw[g1,g2]
   simp
  ·rw[if_neg hc]
   obtain⟨g1,g2⟩:=qhd (p:=fun y:qm=>decide (y.Clock≤n.Clock)) (l:=xs.reverse++[x]) (fun y hy=>by
    rcases List.mem_append.1 hy with hy|hy
    ·have:=h3 y hy x (by simp)
     simp;omega
    ·simp at hy;subst hy;simp;omega)
   unfold qck
   rw[g1,g2,List.reverse_cons]
theorem qlR {o:List qm} {n x:qm}:x∈qck o n↔x=n∨x∈o:=by
 unfold qck
 have h:=List.takeWhile_append_dropWhile (p:=fun x:qm=>decide (x.Clock≤n.Clock)) (l:=o)
 conv=>rhs;rw[←h]
 simp only[List.mem_append,List.mem_cons]
 constructor
 ·rintro(h|h|h)
  ·exact .inr (.inl h)
  ·exact .inl h
  ·exact .inr (.inr h)
 ·rintro(h|h|h)
  ·exact .inr (.inl h)
  ·exact .inl h
  ·exact .inr (.inr h)
theorem qca (o:List qm) (n:qm):(qck o n).length=o.length+1:=by
 unfold qck
 have h:=congrArg List.length (List.takeWhile_append_dropWhile (p:=fun x:qm=>decide (x.Clock≤n.Clock)) (l:=o))
 rw[List.length_append]at h
 rw[List.length_append,List.length_cons]
 omega
theorem qkg {n:qm}: ∀{o:List qm},qhP o→ ∀x∈o.dropWhile (fun x=>decide (x.Clock≤n.Clock)),n.Clock<x.Clock
 |[],_,x,hx=>by simp at hx
 |y::o,h,x,hx=>by
  obtain⟨h1,h2⟩:=List.pairwise_cons.1 h
  rw[List.dropWhile_cons]at hx
  by_cases hc:y.Clock≤n.Clock
  ·rw[if_pos (decide_eq_true hc)]at hx
   exact qkg h2 x hx
  ·rw[if_neg (by simpa using hc)]at hx
   rcases List.mem_cons.1 hx with rfl|hx
   ·omega
   ·have:=h1 x hx
    omega
theorem qiP {o:List qm} (h:qhP o) (n:qm):qhP (qck o n):=by
 have hs:=List.takeWhile_append_dropWhile (p:=fun x:qm=>decide (x.Clock≤n.Clock)) (l:=o)
 have hg:=qkg (n:=n) h
 unfold qhP at h
 rw[←hs]at h
 obtain⟨h1,h2,h3⟩:=List.pairwise_append.1 h
 refine List.pairwise_append.2 ⟨h1,List.pairwise_cons.2 ⟨fun x hx=>by have:=hg x hx;omega,h2⟩,fun a ha b hb=>?_⟩
 have hle:a.Clock≤n.Clock:=by
  have:=List.all_eq_true.1 (List.all_takeWhile (p:=fun x:qm=>decide (x.Clock≤n.Clock)) (l:=o)) a ha
  simpa using this
 rcases List.mem_cons.1 hb with rfl|hb
 ·exact hle
 ·exact h3 a ha b hb
theorem qa0 (l:List qm):qhP (qbl l)∧(qbl l).length=l.length∧ ∀x,x∈qbl l↔x∈l:=by
 have key: ∀(l o:List qm),qhP o→qhP (l.foldl qck o)∧(l.foldl qck o).length=o.length+l.length∧ ∀x,x∈l.foldl qck o↔x∈o∨x∈l:=by
  intro l
  induction l with
  |nil=>intro o h;exact⟨h,by simp,by simp⟩
  |cons n l ih=>
   intro o h
   obtain⟨h1,h2,h3⟩:=ih (qck o n) (qiP h n)
   refine⟨h1,?_,fun x=>?_⟩
   ·rw[List.foldl_cons,h2,qca,List.length_cons];omega
   ·rw[List.foldl_cons,h3,qlR,List.mem_cons]
    constructor
    ·rintro((h|h)|h)
     ·exact .inr (.inl h)
     ·exact .inl h
     ·exact .inr (.inr h)
    ·rintro(h|h|h)
     ·exact .inl (.inr h)
     ·exact .inl (.inl h)
     ·exact .inr h
 obtain⟨h1,h2,h3⟩:=key l [] List.Pairwise.nil
 exact⟨h1,by rw[qbl,h2];simp,fun x=>by rw[qbl,h3];simp⟩
theorem qmH {α:Type} (r:List α) (x n:α) (rest:List α):((r++x::n::rest).set (r.length+1) x).set r.length n=r++n::x::rest:=by
 rw[List.set_append_right _ _ (by omega),List.set_append_right _ _ (by omega)]
 simp
theorem qlo: ∀(r:List qm) (K:Nat) (n:qm) (rest:List qm),r.length<K→(r.length+rest.length<1000)→qD 0 K (r.reverse++n::rest) (r.length:Int)=some (qlH r n++rest)
 |r,0,n,rest,h,_=>by omega
 |[],K+1,n,rest,h,_=>by
  unfold qD
  rw[if_neg (by simp)]
  rfl
 |x::xs,K+1,n,rest,h,hl=>by
  unfold qD
  have hlen:(xs.reverse).length=xs.length:=List.length_reverse
  simp only[List.length_cons]at h hl
  rw[List.length_cons,List.reverse_cons,List.append_assoc,List.singleton_append,if_pos (by omega),qdm (by omega) (by omega),Nat.add_sub_cancel]
  have g1:(xs.reverse++x::n::rest)[xs.length+1]? =some n:=by rw[List.getElem?_append_right (by omega),hlen,Nat.add_sub_cancel_left];rfl
  have g2:(xs.reverse++x::n::rest)[xs.length]? =some x:=by rw[List.getElem?_append_right (by omega),hlen,Nat.sub_self];rfl
  have l1:xs.length+1<(xs.reverse++x::n::rest).length:=by rw[List.length_append,hlen,List.length_cons,List.length_cons];omega
  simp only[qE,g1,g2,Option.bind_some,xE,qkd]
  unfold qlH
  by_cases hc:n.Clock<x.Clock
  ·have hsw:=qmH xs.reverse x n rest
   rw[hlen]at hsw
   have g3:((xs.reverse++x::n::rest).set (xs.length+1) x)[xs.length]? =some x:=by rw[List.getElem?_set_ne (by omega),g2]
   simp only[if_pos hc,show decide ((-1:Int)<0)=true by decide,if_true,yY l1,Option.bind_some,g3]
   rw[yY (by rw[List.length_set];omega),Option.bind_some,hsw,qlo xs K n (x::rest) (by omega) (by simp;omega),List.append_assoc]
   rfl
  ·have: ¬((if n.Clock>x.Clock then(1:Int)else 0)<0):=by split<;>omega
   simp only[if_neg hc,decide_eq_false this,Bool.false_eq_true,if_false]
   simp
theorem qmo {N:Nat} (hN:2000<N) (b:Nat) (hb:b<1000): ∀(K:Nat) (s rest:List qm),1≤s.length→s.length+rest.length=b→b<K+s.length→qhP s→
 qA N 0 (b:Int) K (s++rest) (s.length:Int)=some (rest.foldl qck s)
 |0,s,rest,h1,h2,hK,_=>by omega
 |K+1,s,[],h1,h2,hK,_=>by
  simp at h2
  unfold qA
  rw[if_neg (by omega)]
  simp
 |K+1,s,n::rest,h1,h2,hK,hs=>by
  simp at h2
  unfold qA
  have h:=qlo s.reverse N n rest (by simp;omega) (by simp;omega)
  rw[List.reverse_reverse,List.length_reverse,qj1 n s.reverse (by rw[List.reverse_reverse];exact hs),List.reverse_reverse]at h
  rw[if_pos (by omega),h,Option.bind_some,qM (by omega),←qca s n,qmo hN b hb K (qck s n) rest (by rw[qca];omega) (by rw[qca];omega) (by rw[qca];omega) (qiP hs n)]
  rfl
theorem qnW {N:Nat} (hN:2000<N) {l:List qm} (h1:1≤l.length) (h2:l.length<1000):qP N l 0 (l.length:Int)=some (qbl l):=by
 cases l with
 |nil=>simp at h1
 |cons x xs=>
  unfold qP
  have:=qmo hN (x::xs).length h2 N [x] xs (by simp) (by simp;omega) (by simp at h2⊢;omega) (List.pairwise_singleton _ _)
  rw[show w64 ((0:Int)+1)=(([x]:List qm).length:Int)from(by decide:w64 ((0:Int)+1)=1)]
  rw[show qA N 0 ((x::xs).length:Int) N (x::xs) _=_ from this]
  rfl
theorem qkv {N:Nat} (hN:2000<N) {l:List qm} (h1:1≤l.length) (h2:l.length<20):kX N l=some (qbl l):=by
 have hs:=(qa0 l).2.1
 unfold kX zX
 obtain⟨K,rfl⟩: ∃K,N=K+1:=⟨N-1,by omega⟩
 have e0:qO (K+1) (l.length:Int) (K+1) l 0 20=some (l,0):=by
  unfold qO
  rw[if_neg (by omega)]
 have e1:qN (K+1) (l.length:Int) (K+1) 20=some ():=by
  unfold qN
  rw[if_neg (by omega)]
 rw[e0,Option.bind_some]
 simp only
 rw[qnW hN h1 (by omega),Option.bind_some,if_pos hs.symm,Option.bind_some,e1]
 simp only[Option.bind_some]
 rw[if_pos hs.symm]
 rfl
theorem qiE {l o:List qm} {i:Nat} {n:qm} (hi:l[i]? =some n) (ho:o.length≤1003): ∀(K k:Nat),k≤o.length→o.length<K+k→
 vg l o (i:Int) K (k:Int)=some ((k+((o.drop k).takeWhile fun x=>decide (x.Clock≤n.Clock)).length:Nat):Int)
 |0,k,h,hK=>by omega
 |K+1,k,h,hK=>by
  unfold vg
  by_cases hk:k<o.length
  ·rw[if_pos (by omega),qE,List.getElem?_eq_getElem hk,Option.bind_some,qE,hi,Option.bind_some,Option.bind_some,List.drop_eq_getElem_cons hk,List.takeWhile_cons]
   by_cases hc:(o[k]).Clock≤n.Clock
   ·rw[if_pos (decide_eq_true hc),if_pos (decide_eq_true hc),qM (by omega),qiE hi ho K (k+1) (by omega) (by omega),List.length_cons]
    congr 2
    omega
   ·rw[if_neg (by simpa using hc),if_neg (by simpa using hc)]
    simp
  ·rw[if_neg (by omega),List.drop_of_length_le (by omega)]
   simp
theorem qgB {α:Type} (p:α→Bool): ∀l:List α,l.take (l.takeWhile p).length=l.takeWhile p∧l.drop (l.takeWhile p).length=l.dropWhile p
 |[]=>⟨rfl,rfl⟩
 |x::l=>by
  obtain⟨h1,h2⟩:=qgB p l
  rw[List.takeWhile_cons,List.dropWhile_cons]
  cases p x with
  |true=>simp[h1,h2]
  |false=>simp
theorem qii {N:Nat} (hN:2000<N) (l:List qm) (hl:l.length≤1003): ∀(K k:Nat) (o:List qm),k≤l.length→l.length<K+k→o.length=k→
 vv N l K o (k:Int)=some ((l.drop k).foldl qck o)
 |0,k,o,h,hK,_=>by omega
 |K+1,k,o,h,hK,ho=>by
  unfold vv
  by_cases hk:k<l.length
  ·have hx:l[k]? =some l[k]:=List.getElem?_eq_getElem hk
   have h1:=qiE hx (o:=o) (by omega) N 0 (by omega) (by omega)
   rw[List.drop_zero,Nat.zero_add]at h1
   rw[if_pos (by omega),show vg l o (k:Int) N 0=_ from h1,Option.bind_some,List.drop_eq_getElem_cons hk,List.foldl_cons]
   generalize l[k]=n at hx⊢
   obtain⟨t1,t2⟩:=qgB (fun x:qm=>decide (x.Clock≤n.Clock)) o
   have hle:(o.takeWhile fun x=>decide (x.Clock≤n.Clock)).length≤o.length:=by
    have:=congrArg List.length (List.takeWhile_append_dropWhile (p:=fun x:qm=>decide (x.Clock≤n.Clock)) (l:=o))
    rw[List.length_append]at this
    omega
   have hd:(o.dropWhile fun x=>decide (x.Clock≤n.Clock)).length≤o.length:=by
    have:=congrArg List.length (List.takeWhile_append_dropWhile (p:=fun x:qm=>decide (x.Clock≤n.Clock)) (l:=o))
    rw[List.length_append]at this
    omega
   rw[qb0 hle,Option.bind_some,t1,zB (by simp;omega) (by simp;omega),Option.bind_some,List.nil_append,qE,hx,Option.bind_some,zB (by simp;omega) (by simp;omega),Option.bind_some,qeu hle,Option.bind_some,t2,zB (by simp;omega) (by simp;omega),Option.bind_some,qM (by omega)]
   have e:(o.takeWhile fun x=>decide (x.Clock≤n.Clock))++[n]++(o.dropWhile fun x=>decide (x.Clock≤n.Clock))=qck o n:=by unfold qck;simp
   rw[e,qii hN l hl K (k+1) (qck o n) (by omega) (by omega) (by rw[qca];omega)]
  ·rw[if_neg (by omega),List.drop_of_length_le (by omega)]
   rfl
theorem ql7 {N:Nat} (hN:2000<N) {l:List qm} (hl:l.length≤1003):vv N l N [] 0=some (qbl l):=by
 have:=qii hN l hl N 0 [] (by omega) (by omega) rfl
 rw[List.drop_zero]at this
 exact this
theorem qjF {s:Str} (hs:s.length≤900):(jS s).1.Names.length≤2∧(jS s).1.Values.length≤901∧ ∀w∈(jS s).1.Names,w.length≤900:=by
 unfold jS
 have hlen:=qeI [] s
 have hc:=qeP s
 have hsh:=qdA [] s
 generalize spl [] s=ws at hlen hsh
 unfold qkc
 obtain⟨a,b,ha,hb,e1,e2,e3⟩:=qeY (ws.headD [])
 rw[e1,Int.toNat_natCast]
 split
 ·refine⟨?_,?_,fun w hw=>?_⟩
  ·simp only[List.length_take];omega
  ·simp only[List.length_map,List.length_drop];omega
  ·have:=hsh w (List.mem_of_mem_drop (List.mem_of_mem_take hw))
   simp at this;omega
 ·exact⟨by simp[ev0],by simp[ev0],fun w hw=>by simp[ev0]at hw⟩
def evN (evs:List ql) (n:qm):ql:=⟨((evs.length+1:Nat):Int),(jS n.Line).1.Kind,(jS n.Line).1.Names,(jS n.Line).1.Values,(jS n.Line).1.Text⟩
theorem qb6 {N:Nat} (hN:2000<N) (evs:List ql) {n:qm} (h:n.Line.length≤150):qef N (evN evs n):=by
 obtain⟨h1,h2,h3⟩:=qjF (s:=n.Line) (by omega)
 exact⟨by show(jS n.Line).1.Names.length<N;omega,by show(jS n.Line).1.Values.length<N;omega,fun w hw=>by have:=h3 w hw;omega⟩
def qaT (N:Nat):List qm→List ql→List qB→List ql×List qB
 |[],evs,ms=>(evs,ms)
 |n::l,evs,ms=>if xQ N evs evs.length (evN evs n)=0 then qaT N l (evs++[evN evs n]) ms else qaT N l evs (ms++[⟨n.Desk,n.Number⟩])
theorem qeg (N:Nat) (n:qm) (l:List qm) (evs:List ql) (ms:List qB):qaT N (n::l) evs ms=if xQ N evs evs.length (evN evs n)=0 then qaT N l (evs++[evN evs n]) ms else qaT N l evs (ms++[⟨n.Desk,n.Number⟩]):=rfl
def qgr (l:List qm):Prop:= ∀n∈l,n.Line.length≤150∧((jS n.Line).1.Kind==yZ)=false
structure qcw (N:Nat) (evs:List ql) (o:Option (List StateT)):Prop where
 ev:Evs N evs
 run:yu N evs 0 []=(0,0,evs)
 rel:Rel N evs (hof o)
theorem qcw.next {N:Nat} {evs:List ql} {o o':Option (List StateT)} (h:qcw N evs o) (hl:evs.length<1000) {n:qm} (hn:n.Line.length≤150∧((jS n.Line).1.Kind==yZ)=false) (h0:xQ N evs evs.length (evN evs n)=0) (hr:Rel N (qdw evs (evN evs n)) (hof o')):qcw N (evs++[evN evs n]) o':=by
 have hu:((evN evs n).Kind==yZ)=false:=hn.2
 have hc:qdw evs (evN evs n)=evs++[evN evs n]:=by unfold qdw;rw[hu];rfl
 refine⟨⟨by simp;omega,fun x hx=>?_,h.ev.big,h.ev.max⟩,?_,hc▸hr⟩
 ·rcases List.mem_append.1 hx with hx|hx
  ·exact h.ev.short x hx
  ·simp at hx;subst hx;exact qb6 h.ev.big evs hn.1
 ·rw[qdx,h.run,if_pos rfl,Nat.zero_add,qdL,if_pos h0,hc]
  rfl
theorem qhN {N:Nat} {l:List qm} (hg:qgr l) (hl:l.length≤900) (hN:2000<N): ∀(K k:Nat) (evs:List ql) (ms:List qB) (o:Option (List StateT)),k≤l.length→l.length<K+k→evs.length≤k→ms.length≤k→qcw N evs o→
 ∃o',jg N l K evs ms o (k:Int)=some ((qaT N (l.drop k) evs ms).1,o',(qaT N (l.drop k) evs ms).2)
 |0,k,evs,ms,o,h,hK,_,_,_=>by omega
 |K+1,k,evs,ms,o,h,hK,he,hm,F=>by
  unfold jg
  by_cases hk:k<l.length
  ·have hq:=hg l[k] (List.getElem_mem hk)
   rw[if_pos (by omega),qE,List.getElem?_eq_getElem hk,Option.bind_some,List.drop_eq_getElem_cons hk,qeg,qM (show k<_ by omega)]
   generalize l[k]=n at hq⊢
   rw[qfv (by omega) hN,Option.bind_some,qM (show evs.length<_ by omega)]
   have hP:Pre N evs (hof o) evs.length (evN evs n):=⟨F.rel,Nat.le_refl _,by omega,F.ev.big,F.ev.max,qb6 hN evs hq.1⟩
   obtain⟨evs',o',a1,a2,a3⟩:=qia (evs:=evs) hP rfl
   rw[show zM N evs o ((evs.length+1:Nat):Int) (jS n.Line).1.Kind (jS n.Line).1.Names (jS n.Line).1.Values (jS n.Line).1.Text=_ from a1,Option.bind_some]
   simp only
   by_cases h0:xQ N evs evs.length (evN evs n)=0
   ·obtain⟨rfl,b2,b3⟩:=a2 h0
    rw[if_neg (by simp[h0]),if_pos h0,Option.bind_some]
    simp only
    exact qhN hg hl hN K (k+1) _ ms o' (by omega) (by omega) (by simp;omega) (by omega) (F.next (by omega) hq h0 b2)
   ·obtain⟨rfl,b2⟩:=a3 h0
    rw[if_pos (by simp[h0]),if_neg h0]
    simp only[zm,Option.bind_some]
    rw[zB (by simp;omega) (by simp;omega)]
    simp only[Option.bind_some]
    exact qhN hg hl hN K (k+1) _ _ o' (by omega) (by omega) (by omega) (by simp;omega) ⟨F.ev,F.run,by rw[b2];exact F.rel⟩
  ·rw[if_neg (by omega),List.drop_of_length_le (by omega)]
   exact⟨o,rfl⟩
theorem qf6 {N:Nat} {l:List qm} (hg:qgr l) (hl:l.length≤900) (hN:2000<N): ∀(K k:Nat) (evs:List ql) (ms:List qB) (o:Option (List StateT)),k≤l.length→l.length<K+k→evs.length≤k→ms.length≤k→qcw N evs o→
 vw N l K ms evs (k:Int)=some ((qaT N (l.drop k) evs ms).2,(qaT N (l.drop k) evs ms).1)
 |0,k,evs,ms,o,h,hK,_,_,_=>by omega
 |K+1,k,evs,ms,o,h,hK,he,hm,F=>by
  unfold vw
  by_cases hk:k<l.length
  ·have hq:=hg l[k] (List.getElem_mem hk)
   rw[if_pos (by omega),qE,List.getElem?_eq_getElem hk,Option.bind_some,List.drop_eq_getElem_cons hk,qeg,qM (show k<_ by omega)]
   generalize l[k]=n at hq⊢
   rw[qht (by omega) hN,Option.bind_some,qM (show evs.length<_ by omega)]
   have hP:Pre N evs (hof o) evs.length (evN evs n):=⟨F.rel,Nat.le_refl _,by omega,F.ev.big,F.ev.max,qb6 hN evs hq.1⟩
   obtain⟨evs',o',a1,a2,a3⟩:=qia (evs:=evs) hP rfl
   have hacc:=qjb F.ev (o:=o) (by rw[F.run]) (by rw[F.run];exact F.rel) (by rw[F.run];exact Nat.le_refl _) (show evs.length<1000 by omega) (qb6 hN evs hq.1)
   rw[F.run]at hacc
   rw[show(⟨((evs.length+1:Nat):Int),(jS n.Line).1.Kind,(jS n.Line).1.Names,(jS n.Line).1.Values,(jS n.Line).1.Text⟩:ql)=evN evs n from rfl,hacc,Option.bind_some]
   by_cases h0:xQ N evs evs.length (evN evs n)=0
   ·obtain⟨_,b2,b3⟩:=a2 h0
    rw[if_neg (by simp[h0]),if_pos h0,zB (by simp;omega) (by simp;omega),Option.bind_some,List.nil_append,zB (by simp;omega) (by simp;omega),Option.bind_some,Option.bind_some]
    simp only
    exact qf6 hg hl hN K (k+1) _ ms o' (by omega) (by omega) (by simp;omega) (by omega) (F.next (by omega) hq h0 b2)
   ·rw[if_pos (by simp[h0]),if_neg h0,zB (by simp;omega) (by simp;omega),Option.bind_some,Option.bind_some]
    simp only
    exact qf6 hg hl hN K (k+1) _ _ o (by omega) (by omega) (by omega) (by simp;omega) F
  ·rw[if_neg (by omega),List.drop_of_length_le (by omega)]
   rfl
def qd6 (N:Nat) (l:List qm):List ql×List qB:=qaT N (qbl l) [] []
theorem qcw.nil {N:Nat} (hN:2000<N) (hM:N<4611686018427387904):qcw N [] none:=⟨⟨by simp,fun _ h=>by simp at h,hN,hM⟩,rfl,Rel.nil N⟩
theorem qhm: ∀(l:List qm) (p:Option qm),qfi p l=0→ ∀n∈l,qaq n=0
 |[],_,_,n,h=>by simp at h
 |x::l,p,h0,n,h=>by
  rw[qff]at h0
  by_cases h1:qaq x=0
  ·rw[if_neg (by simp[h1])]at h0
   by_cases h2:qjX p x=true
   ·rw[if_pos h2]at h0;cases h0
   ·rw[if_neg h2]at h0
    rcases List.mem_cons.1 h with rfl|h
    ·exact h1
    ·exact qhm l _ h0 n h
  ·rw[if_pos h1]at h0;exact absurd h0 h1
theorem qh4 {l:List qm} (hs:qc8 l) (h0:checkN l=0):qgr l∧l.length≤1000:=by
 unfold checkN at h0
 by_cases hl:l.length>1000
 ·rw[if_pos hl]at h0;cases h0
 ·rw[if_neg hl]at h0
  refine⟨fun n hn=>⟨(hs n hn).2,?_⟩,by omega⟩
  have:=qhm l none h0 n hn
  unfold qaq at this
  by_cases h1:xD n.Desk=false
  ·rw[if_pos h1]at this;cases this
  ·rw[if_neg h1]at this
   by_cases h2:(j3 n.Number 1 1000||j3 n.Clock 1 1000000)=true
   ·rw[if_pos h2]at this;cases this
   ·rw[if_neg h2]at this
    by_cases h3:(!(jS n.Line).2||(jS n.Line).1.Kind==yZ)=true
    ·rw[if_pos h3]at this;cases this
    ·simp only[Bool.not_eq_true,Bool.or_eq_false_iff]at h3
     exact h3.2
theorem qfn {l:List qm} (h:qgr l):qgr (qbl l):=fun n hn=>h n (((qa0 l).2.2 n).1 hn)
theorem qmG {N:Nat} (hN:2000<N) (hM:N<4611686018427387904) {l:List qm} (hs:qc8 l) (hl:l.length≤16∨1000<l.length):qdc N l=some (if checkN l=0 then(qd6 N l).1 else[],if checkN l=0 then(qd6 N l).2 else[],checkN l):=by
 cases l with
 |nil=>
  show xU N=_
  unfold xU
  obtain⟨K,rfl⟩: ∃K,N=K+1:=⟨N-1,by omega⟩
  have a0:zP (K+1) []=some 0:=qbX hN (fun n h=>by simp at h)
  have a1:xc []=some []:=by
   simp only[xc,vX,qew]
   rw[zB (by simp) (by simp)]
   simp
  have a2:kY (K+1) []=some ():=by
   unfold kY zY qZ qY kr qJ
   rfl
  have a3:jL (K+1) [] (K+1) [] [] none 0=some ([],none,[]):=by
   unfold jL
   rfl
  rw[a0,Option.bind_some,if_neg (by simp),a1,Option.bind_some,a2,Option.bind_some,a3]
  rfl
 |cons x xs=>
  show xV N x xs=_
  unfold xV
  rw[qbX hN hs,Option.bind_some]
  by_cases h0:checkN (x::xs)=0
  ·obtain⟨hg,h1000⟩:=qh4 hs h0
   have h16:(x::xs).length≤16:=by omega
   have hc:jO x xs=some (x::xs):=by
    unfold jO
    rw[zB (by simp at h16⊢;omega) (by simp at h16⊢;omega)]
    rfl
   have hlen:=(qa0 (x::xs)).2.1
   rw[if_neg (by simp[h0]),hc,Option.bind_some,qkv hN (by simp) (by omega),Option.bind_some,if_pos hlen.symm,Option.bind_some,if_pos h0,if_pos h0,h0]
   obtain⟨o',h⟩:=qhN (N:=N) (qfn hg) (by omega) hN N 0 [] [] none (by omega) (by omega) (by simp) (by simp) (qcw.nil hN hM)
   rw[List.drop_zero]at h
   rw[show jg N (qbl (x::xs)) N [] [] none 0=_ from h]
   rfl
  ·rw[if_pos (by simp[h0]),if_neg h0,if_neg h0]
theorem ql8 {N:Nat} (hN:2000<N) (hM:N<4611686018427387904) {l:List qm} (hg:qgr l) (hl:l.length≤900):qaO N l=some (qd6 N l):=by
 unfold qaO
 rw[ql7 hN (by omega),Option.bind_some]
 have hlen:=(qa0 l).2.1
 have h:=qf6 (N:=N) (qfn hg) (by omega) hN N 0 [] [] none (by omega) (by omega) (by simp) (by simp) (qcw.nil hN hM)
 rw[List.drop_zero]at h
 rw[show vw N (qbl l) N [] [] 0=_ from h]
 rfl
theorem qc9 {N:Nat} (hN:2000<N): ∀(l:List qm) (evs:List ql) (ms:List qB),qgr l→(∀e∈evs,e.Names.length<N∧e.Values.length<N)→(∀e∈(qaT N l evs ms).1,e.Names.length<N∧e.Values.length<N)∧(qaT N l evs ms).1.length≤evs.length+l.length∧(qaT N l evs ms).2.length≤ms.length+l.length
 |[],evs,ms,_,h=>⟨h,by simp[qaT],by simp[qaT]⟩
 |n::l,evs,ms,hg,h=>by
  rw[qeg,List.length_cons]
  split
  ·obtain⟨h1,h2,h3⟩:=qc9 hN l (evs++[evN evs n]) ms (fun x hx=>hg x (List.mem_cons_of_mem _ hx)) (fun e he=>by
    rcases List.mem_append.1 he with he|he
    ·exact h e he
    ·simp at he
     subst he
     have:=qb6 (N:=N) hN evs (hg n List.mem_cons_self).1
     exact⟨this.n,this.v⟩)
   simp at h2
   exact⟨h1,by omega,by omega⟩
  ·obtain⟨h1,h2,h3⟩:=qc9 hN l evs (ms++[⟨n.Desk,n.Number⟩]) (fun x hx=>hg x (List.mem_cons_of_mem _ hx)) h
   simp at h3
   exact⟨h1,by omega,by omega⟩
theorem qhs (l:List Int) (hl:l.length<4611686018427387904): ∀(K k:Nat),k≤l.length→l.length<K+k→vJ l K (k:Int)=some (if qR (l.drop k)=0 then .inl ()else .inr (qR (l.drop k)))
 |0,k,h,hK=>by omega
 |K+1,k,h,hK=>by
  unfold vJ
  by_cases hk:k<l.length
  ·rw[if_pos (by omega),qE,List.getElem?_eq_getElem hk,List.drop_eq_getElem_cons hk,qM (by omega),qhs l hl K (k+1) (by omega) (by omega)]
   simp only[Option.bind_some,qR]
   by_cases h0:l[k]=0
   ·simp[h0]
   ·simp[h0]
  ·rw[if_neg (by omega),List.drop_of_length_le (by omega)]
   rfl
theorem qkN {N:Nat} {l:List Int} (hl:l.length<4611686018427387904) (h:l.length<N):qaX N l=some (qR l):=by
 unfold qaX
 rw[show(0:Int)=((0:Nat):Int)from rfl,qhs l hl N 0 (Nat.zero_le _) (by omega),List.drop_zero]
 by_cases h0:qR l=0
 ·simp[h0]
 ·simp[h0]
theorem qip (l:List qm) (hl:l.length*48≤140737488355328): ∀(K k:Nat) (o:List qm),k≤l.length→l.length<K+k→o.length≤k→jU l K o (k:Int)=some (o++l.drop k)
 |0,k,o,h,hK,_=>by omega
 |K+1,k,o,h,hK,ho=>by
  unfold jU
  by_cases hk:k<l.length
  ·rw[if_pos (by omega),qE,List.getElem?_eq_getElem hk,Option.bind_some,zB (by simp;omega) (by simp;omega),Option.bind_some,qM (by omega),qip l hl K (k+1) _ (by omega) (by omega) (by simp;omega),List.drop_eq_getElem_cons hk,List.append_assoc]
   rfl
  ·rw[if_neg (by omega),List.drop_of_length_le (by omega),List.append_nil]
theorem qiZ (l:List qB) (hl:l.length*24≤140737488355328): ∀(K k:Nat) (o:List qB),k≤l.length→l.length<K+k→o.length≤k→jR l K o (k:Int)=some (o++l.drop k)
 |0,k,o,h,hK,_=>by omega
 |K+1,k,o,h,hK,ho=>by
  unfold jR
  by_cases hk:k<l.length
  ·rw[if_pos (by omega),qE,List.getElem?_eq_getElem hk,Option.bind_some,zB (by simp;omega) (by simp;omega),Option.bind_some,qM (by omega),qiZ l hl K (k+1) _ (by omega) (by omega) (by simp;omega),List.drop_eq_getElem_cons hk,List.append_assoc]
   rfl
  ·rw[if_neg (by omega),List.drop_of_length_le (by omega),List.append_nil]
theorem qir {N:Nat} {l:List qm} (hl:l.length*48≤140737488355328) (hN:l.length<N):qan N l=some l:=by
 unfold qan
 have:=qip l hl N 0 [] (by omega) (by omega) (by simp)
 rw[show jU l N [] 0=_ from this]
 rfl
theorem qi0 {N:Nat} {l:List qB} (hl:l.length*24≤140737488355328) (hN:l.length<N):qaj N l=some l:=by
 unfold qaj
 have:=qiZ l hl N 0 [] (by omega) (by omega) (by simp)
 rw[show jR l N [] 0=_ from this]
 rfl
theorem qhH {N:Nat} (l:List qm) (hl:l.length≤1003) (hN:2000<N):yO N l l=some true:=by
 have key: ∀(K k:Nat),k≤l.length→l.length<K+k→zb l l K (k:Int)=some (.inl ()):=by
  intro K
  induction K with
  |zero=>intro k h hK;omega
  |succ K ih=>
   intro k h hK
   unfold zb
   by_cases hk:k<l.length
   ·rw[if_pos (by omega),qE,List.getElem?_eq_getElem hk,Option.bind_some,Option.bind_some,qM (by omega),if_neg (by simp)]
    exact ih (k+1) (by omega) (by omega)
   ·rw[if_neg (by omega)]
 unfold yO
 rw[if_neg (by simp),show zb l l N 0=zb l l N ((0:Nat):Int)from rfl,key N 0 (by omega) (by omega)]
 rfl
theorem qhM {N:Nat} (l:List qB) (hl:l.length≤1003) (hN:2000<N):yK N l l=some true:=by
 have key: ∀(K k:Nat),k≤l.length→l.length<K+k→zf l l K (k:Int)=some (.inl ()):=by
  intro K
  induction K with
  |zero=>intro k h hK;omega
  |succ K ih=>
   intro k h hK
   unfold zf
   by_cases hk:k<l.length
   ·rw[if_pos (by omega),qE,List.getElem?_eq_getElem hk,Option.bind_some,Option.bind_some,qM (by omega),if_neg (by simp)]
    exact ih (k+1) (by omega) (by omega)
   ·rw[if_neg (by omega)]
 unfold yK
 rw[if_neg (by simp),show zf l l N 0=zf l l N ((0:Nat):Int)from rfl,key N 0 (by omega) (by omega)]
 rfl
theorem qhS {N:Nat} (l:List Str) (hl:l.length<4611686018427387904) (hN:l.length<N):yL N l l=some true:=by
 have key: ∀(K k:Nat),k≤l.length→l.length<K+k→ze l l K (k:Int)=some (.inl ()):=by
  intro K
  induction K with
  |zero=>intro k h hK;omega
  |succ K ih=>
   intro k h hK
   unfold ze
   by_cases hk:k<l.length
   ·rw[if_pos (by omega),qE,List.getElem?_eq_getElem hk,Option.bind_some,Option.bind_some,qM (by omega),if_neg (by simp)]
    exact ih (k+1) (by omega) (by omega)
   ·rw[if_neg (by omega)]
 unfold yL
 rw[if_neg (by simp),show ze l l N 0=ze l l N ((0:Nat):Int)from rfl,key N 0 (by omega) (by omega)]
 rfl
theorem qim {N:Nat} (l:List Int) (hl:l.length<4611686018427387904) (hN:l.length<N):xx N l l=some true:=by
 have key: ∀(K k:Nat),k≤l.length→l.length<K+k→zx l l K (k:Int)=some (.inl ()):=by
  intro K
  induction K with
  |zero=>intro k h hK;omega
  |succ K ih=>
   intro k h hK
   unfold zx
   by_cases hk:k<l.length
   ·rw[if_pos (by omega),qE,List.getElem?_eq_getElem hk,Option.bind_some,Option.bind_some,qM (by omega),if_neg (by simp)]
    exact ih (k+1) (by omega) (by omega)
   ·rw[if_neg (by omega)]
 unfold xx
 rw[if_neg (by simp),show zx l l N 0=zx l l N ((0:Nat):Int)from rfl,key N 0 (by omega) (by omega)]
 rfl
theorem qgU {N:Nat} (l:List ql) (hl:l.length≤1003) (hN:2000<N) (hM:N<4611686018427387904) (hs: ∀e∈l,e.Names.length<N∧e.Values.length<N):yf N l l=some true:=by
 have key: ∀(K k:Nat),k≤l.length→l.length<K+k→kR N l l K (k:Int)=some (.inl ()):=by
  intro K
  induction K with
  |zero=>intro k h hK;omega
  |succ K ih=>
   intro k h hK
   unfold kR
   by_cases hk:k<l.length
   ·obtain⟨h1,h2⟩:=hs _ (List.getElem_mem hk)
    rw[if_pos (by omega),qE,List.getElem?_eq_getElem hk,Option.bind_some,Option.bind_some,if_neg (by simp),if_neg (by simp),qhS _ (by omega) h1,Option.bind_some,if_neg (by simp),qim _ (by omega) h2,Option.bind_some,if_neg (by simp),Option.bind_some,qM (by omega),if_neg (by simp)]
    exact ih (k+1) (by omega) (by omega)
   ·rw[if_neg (by omega)]
 unfold yf
 rw[if_neg (by simp),show kR N l l N 0=kR N l l N ((0:Nat):Int)from rfl,key N 0 (by omega) (by omega)]
 rfl
theorem qd0 (l:List qm) (hl:l.length≤1003): ∀(K k:Nat),k≤l.length→l.length<K+k→ ∃r,zu l K (k:Int)=some r∧((r= .inl ()∧ ∀n∈l.drop k,n.Desk.length≤60∧n.Line.length≤150)∨r= .inr false)
 |0,k,h,hK=>by omega
 |K+1,k,h,hK=>by
  unfold zu
  by_cases hk:k<l.length
  ·rw[if_pos (by omega),qE,List.getElem?_eq_getElem hk,Option.bind_some,List.drop_eq_getElem_cons hk,qM (by omega)]
   obtain⟨r,h1,h2⟩:=qd0 l hl K (k+1) (by omega) (by omega)
   by_cases c1:((l[k]).Desk.length:Int)>60
   ·rw[if_pos c1]
    exact⟨_,rfl,.inr rfl⟩
   ·rw[if_neg c1]
    by_cases c2:((l[k]).Line.length:Int)>150
    ·simp only[Option.bind_some,decide_eq_true c2,if_true]
     exact⟨_,rfl,.inr rfl⟩
    ·simp only[Option.bind_some,decide_eq_false c2,Bool.false_eq_true,if_false]
     refine⟨r,h1,?_⟩
     rcases h2 with⟨g1,g2⟩|g1
     ·refine .inl ⟨g1,fun n hn=>?_⟩
      rcases List.mem_cons.1 hn with rfl|hn
      ·omega
      ·exact g2 n hn
     ·exact .inr g1
  ·rw[if_neg (by omega),List.drop_of_length_le (by omega)]
   exact⟨_,rfl,.inl ⟨rfl,fun n hn=>by simp at hn⟩⟩
theorem qg3 {N:Nat} (hN:2000<N) (l:List qm) (m:Nat) (hm:m≤1000): ∃b,vB N l (m:Int)=some b∧(b=true→qc8 l∧l.length≤1003∧(l.length≤m∨1000<l.length)):=by
 unfold vB
 by_cases h1:l.length>1003
 ·refine⟨false,?_,fun h=>by cases h⟩
  have a1:(l.length:Int)>(m:Int):=by omega
  have a2: ¬(l.length:Int)≤1000:=by omega
  have a3:(l.length:Int)>1003:=by omega
  simp[a1,a2,a3]
 ·obtain⟨r,g1,g2⟩:=qd0 l (by omega) N 0 (by omega) (by omega)
  have g1:zu l N 0=some r:=g1
  have a3: ¬(l.length:Int)>1003:=by omega
  rw[g1]
  by_cases a1:(l.length:Int)>(m:Int)
  ·by_cases a2:(l.length:Int)≤1000
   ·exact⟨false,by simp[a1,a2],fun h=>by cases h⟩
   ·rcases g2 with⟨rfl,g2⟩|rfl
    ·exact⟨true,by simp[a1,a2,a3],fun _=>⟨g2,by omega,.inr (by omega)⟩⟩
    ·exact⟨false,by simp[a1,a2,a3],fun h=>by cases h⟩
  ·rcases g2 with⟨rfl,g2⟩|rfl
   ·exact⟨true,by simp[a1,a3],fun _=>⟨g2,by omega,.inl (by omega)⟩⟩
   ·exact⟨false,by simp[a1,a3],fun h=>by cases h⟩
theorem qdV (l:List qB) (hl:l.length≤1003): ∀(K k:Nat),k≤l.length→l.length<K+k→ ∃r,zw l K (k:Int)=some r∧((r= .inl ()∧ ∀n∈l.drop k,n.Desk.length≤60)∨r= .inr false)
 |0,k,h,hK=>by omega
 |K+1,k,h,hK=>by
  unfold zw
  by_cases hk:k<l.length
  ·rw[if_pos (by omega),qE,List.getElem?_eq_getElem hk,Option.bind_some,List.drop_eq_getElem_cons hk,qM (by omega)]
   obtain⟨r,h1,h2⟩:=qdV l hl K (k+1) (by omega) (by omega)
   by_cases c1:((l[k]).Desk.length:Int)>60
   ·rw[if_pos c1]
    exact⟨_,rfl,.inr rfl⟩
   ·rw[if_neg c1]
    refine⟨r,h1,?_⟩
    rcases h2 with⟨g1,g2⟩|g1
    ·refine .inl ⟨g1,fun n hn=>?_⟩
     rcases List.mem_cons.1 hn with rfl|hn
     ·omega
     ·exact g2 n hn
    ·exact .inr g1
  ·rw[if_neg (by omega),List.drop_of_length_le (by omega)]
   exact⟨_,rfl,.inl ⟨rfl,fun n hn=>by simp at hn⟩⟩
theorem qgZ {N:Nat} (hN:2000<N) (l:List qB): ∃b,yj N l=some b∧(b=true→qfl l∧l.length≤1003):=by
 unfold yj
 by_cases h1:l.length>1003
 ·refine⟨false,?_,fun h=>by cases h⟩
  have a1:(l.length:Int)>12:=by omega
  have a2: ¬(l.length:Int)≤1000:=by omega
  have a3:(l.length:Int)>1003:=by omega
  simp[a1,a2,a3]
 ·obtain⟨r,g1,g2⟩:=qdV l (by omega) N 0 (by omega) (by omega)
  have g1:zw l N 0=some r:=g1
  have a3: ¬(l.length:Int)>1003:=by omega
  rw[g1]
  by_cases a1:(l.length:Int)>12
  ·by_cases a2:(l.length:Int)≤1000
   ·exact⟨false,by simp[a1,a2],fun h=>by cases h⟩
   ·rcases g2 with⟨rfl,g2⟩|rfl
    ·exact⟨true,by simp[a1,a2,a3],fun _=>⟨g2,by omega⟩⟩
    ·exact⟨false,by simp[a1,a2,a3],fun h=>by cases h⟩
  ·rcases g2 with⟨rfl,g2⟩|rfl
   ·exact⟨true,by simp[a1,a3],fun _=>⟨g2,by omega⟩⟩
   ·exact⟨false,by simp[a1,a3],fun h=>by cases h⟩
theorem qku (l:List qm) (v:List qB):(qcE l v).length≤l.length:=List.length_filter_le _ _
theorem qep (l:List qm) (v:List qB) (b1:l.length*48≤140737488351232) (b2:v.length*24≤140737488351232):y8 (3000+l.length+v.length) l v=some true:=by
 have hN:2000<3000+l.length+v.length:=by omega
 have hM:3000+l.length+v.length<4611686018427387904:=by omega
 have hNl:l.length<3000+l.length+v.length:=by omega
 have hNv:v.length<3000+l.length+v.length:=by omega
 generalize 3000+l.length+v.length=N at*
 unfold y8
 rw[qir (by omega) hNl,qi0 (by omega) hNv,Option.bind_some,Option.bind_some]
 obtain⟨c1,s1,t1⟩:=qg3 hN l 16 (by omega)
 obtain⟨c2,s2,t2⟩:=qgZ hN v
 have s1:vB N l 16=some c1:=s1
 rw[s1,s2]
 cases c1 with
 |false=>rfl
 |true=>
  cases c2 with
  |false=>rfl
  |true=>
   obtain⟨hs,hl,hl2⟩:=t1 rfl
   obtain⟨hv,hv2⟩:=t2 rfl
   simp only[Option.bind_some,Bool.not_true,Bool.false_eq_true,if_false]
   rw[qjg hN hs hv hl hv2,qmG hN hM hs hl2,qgc hN hs,qfK hN hv]
   simp only[Option.bind_some]
   rw[qkN (by simp) (by simp;omega),Option.bind_some]
   have eL:(if qR [checkN l,qbn v]=0 then(yQ N l v).bind fun r18=>some r18 else some []:Option (List qm))=some (if qR [checkN l,qbn v]=0 then qcE l v else[]):=by
    split
    ·rw[qiu hN hl hv2];rfl
    ·rfl
   have eF:(if checkN l=0 then(qaO N l).bind fun r23=>some (r23.1,r23.2)else some ([],[]):Option ((List ql)×(List qB)))=some (if checkN l=0 then(qd6 N l).1 else[],if checkN l=0 then(qd6 N l).2 else[]):=by
    split
    ·rename_i h0
     obtain⟨hg,h1000⟩:=qh4 hs h0
     rw[ql8 hN hM hg (by omega)]
     rfl
    ·rfl
   rw[eL,Option.bind_some,eF,Option.bind_some]
   simp only[if_true]
   have hlen1:(if qR [checkN l,qbn v]=0 then qcE l v else[]).length≤1003:=by
    split
    ·have:=qku l v;omega
    ·simp
   have hfold:(∀e∈(if checkN l=0 then(qd6 N l).1 else[]),e.Names.length<N∧e.Values.length<N)∧(if checkN l=0 then(qd6 N l).1 else[]).length≤1003∧(if checkN l=0 then(qd6 N l).2 else[]).length≤1003:=by
    split
    ·rename_i h0
     obtain⟨hg,h1000⟩:=qh4 hs h0
     obtain⟨g1,g2,g3⟩:=qc9 hN (qbl l) [] [] (qfn hg) (fun e h=>by simp at h)
     have:=(qa0 l).2.1
     simp at g2 g3
     exact⟨g1,by show(qaT N (qbl l) [] []).1.length≤1003;omega,by show(qaT N (qbl l) [] []).2.length≤1003;omega⟩
    ·simp
   obtain⟨g1,g2,g3⟩:=hfold
   generalize (if qR [checkN l,qbn v]=0 then qcE l v else[])=la at hlen1⊢
   generalize (if checkN l=0 then(qd6 N l).1 else[])=fe at g1 g2⊢
   generalize (if checkN l=0 then(qd6 N l).2 else[])=fm at g3⊢
   rw[qir (by omega) (by omega),Option.bind_some,qhH la hlen1 hN,Option.bind_some,if_pos rfl,qgU fe g2 hN hM g1,Option.bind_some,if_pos rfl,qi0 (by omega) (by omega),Option.bind_some,qhM fm g3 hN,Option.bind_some,if_pos rfl]
   rfl
end Go.Av
