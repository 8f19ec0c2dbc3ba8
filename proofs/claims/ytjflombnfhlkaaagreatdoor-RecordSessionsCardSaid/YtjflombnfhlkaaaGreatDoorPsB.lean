/-
  Chapter 10: words of a line, and integers in texts.
-/
import Derived.Test.YtjflombnfhlkaaaGreatDoorPsA
noncomputable section
namespace Go.Av
set_option linter.unusedSimpArgs false
set_option linter.unusedVariables false
def spl:Str→Str→List Str
 |a,[]=>[a]
 |a,c::s=>if c=32 then a::spl [] s else spl (a++[c]) s
noncomputable def qa1 (s:Str):Nat:=qku 32 s
theorem qdo (c:UInt8) (s:Str):qa1 (c::s)=if c=32 then qa1 s+1 else qa1 s:=by
 show zR (Nat.beq c.toNat 32) (Nat.succ (qa1 s)) (qa1 s)=_
 rw[qV]
 by_cases h:c=32
 ·subst h;rfl
 ·have h2:c.toNat≠32:=fun e=>h (UInt8.toNat_inj.1 (by rw[e];rfl))
  rw[if_neg (by rw[qbd h2];simp),if_neg h]
theorem qgc: ∀s:Str,qa1 s≤s.length
 |[]=>Nat.le_refl _
 |c::s=>by
  have:=qgc s
  rw[qdo,List.length_cons]
  split<;>omega
def qdL:Str→Option Nat
 |[]=>none
 |c::s=>if c=32 then some 0 else(qdL s).map (· +1)
theorem qgo: ∀(s:Str) (j:Nat),qfS 32 s j=match qdL s with|some k=>((j+k:Nat):Int)|none=> -1
 |[],_=>rfl
 |c::s,j=>by
  show zR (Nat.beq c.toNat 32) (Int.ofNat j) (qfS 32 s (j+1))=_
  rw[qV,qgo s (j+1),qdL]
  by_cases h:c=32
  ·subst h;rfl
  ·have h2:c.toNat≠32:=fun e=>h (UInt8.toNat_inj.1 (by rw[e];rfl))
   rw[if_neg (by rw[qbd h2];simp),if_neg h]
   cases qdL s with
   |none=>rfl
   |some k=>
    simp only[Option.map_some]
    congr 1
    omega
theorem qeV: ∀{s:Str},qdL s=none→qa1 s=0∧ ∀a,spl a s=[a++s]
 |[],_=>⟨rfl,fun a=>by simp[spl]⟩
 |c::s,h=>by
  unfold qdL at h
  by_cases hc:c=32
  ·rw[if_pos hc]at h;cases h
  ·rw[if_neg hc]at h
   cases hp:qdL s with
   |some k=>rw[hp]at h;cases h
   |none=>
    obtain⟨h1,h2⟩:=qeV hp
    refine⟨by rw[qdo,if_neg hc,h1],fun a=>?_⟩
    rw[spl,if_neg hc,h2]
    simp
theorem qdp: ∀{s:Str} {k:Nat},qdL s=some k→k<s.length∧qa1 s=qa1 (s.drop (k+1))+1∧ ∀a,spl a s=(a++s.take k)::spl [] (s.drop (k+1))
 |[],_,h=>by cases h
 |c::s,k,h=>by
  unfold qdL at h
  by_cases hc:c=32
  ·rw[if_pos hc]at h
   obtain rfl:=Option.some.inj h
   refine⟨by simp,?_,fun a=>?_⟩
   ·rw[qdo,if_pos hc];rfl
   ·rw[spl,if_pos hc];simp
  ·rw[if_neg hc]at h
   cases hp:qdL s with
   |none=>rw[hp]at h;cases h
   |some j=>
    rw[hp]at h
    obtain rfl:=Option.some.inj h
    obtain⟨h1,h2,h3⟩:=qdp hp
    refine⟨by simp;omega,?_,fun a=>?_⟩
    ·rw[qdo,if_neg hc,h2,List.drop_succ_cons]
    ·rw[spl,if_neg hc,h3]
     simp
theorem qpT {s:Str} (h:qa1 s=0):qdL s=none:=by
 cases hp:qdL s with
 |none=>rfl
 |some k=>have:=(qdp hp).2.1;omega
theorem qdP: ∀(a s:Str),(spl a s).length=qa1 s+1
 |a,[]=>rfl
 |a,c::s=>by
  rw[qdo,spl]
  by_cases hc:c=32
  ·rw[if_pos hc,if_pos hc,List.length_cons,qdP]
  ·rw[if_neg hc,if_neg hc,qdP]
theorem qkt {s:Str}:strings_Index s [32]=some (qfS 32 s 0):=by
 unfold strings_Index stringslite_Index stringslite_IndexByte qii
 have h0: ¬(([32]:Str).length:Int)=0:=by simp
 have h1:(([32]:Str).length:Int)=1:=by simp
 rw[if_neg h0]
 simp only[Option.bind_some]
 by_cases hs:(([32]:Str)==s)=true
 ·have:s=[32]:=(beq_iff_eq.1 hs).symm
  subst this
  rfl
 ·rw[if_neg hs,if_pos h1,y8,show([32]:Str)[0]? =some 32 from rfl,Option.bind_some,if_pos (by decide)]
  rfl
theorem qn8 {N:Nat} {s:Str}:strings_Count N s [32]=some (qa1 s:Int):=by
 unfold strings_Count qjC
 have h0: ¬(([32]:Str).length:Int)=0:=by simp
 have h1:(([32]:Str).length:Int)=1:=by simp
 rw[if_neg h0,if_pos h1,y8,show([32]:Str)[0]? =some 32 from rfl,Option.bind_some,if_pos (by decide)]
 rfl
theorem qg1 (s0:Str) (n:Int) (c:Nat) (hc:c<4611686018427387904) (hn:w64 ((if(w64 ((s0.length:Int)+1))<n then(w64 ((s0.length:Int)+1))else n)-1)=(c:Int)): ∀(K:Nat) (l:List Str) (s:Str) (i:Nat),i+qa1 s=c→l.length=c+1→c<K+i→s.length<4611686018427387904→
 ∃l' s',zK s0 [32] 0 n K l s (i:Int)=some (l',s',(c:Int))∧l'.length=c+1∧l'.take c++[s']=l.take i++spl [] s
 |0,l,s,i,h,hl,hK,hs=>by omega
 |K+1,l,s,i,h,hl,hK,hs=>by
  unfold zK
  rw[hn]
  by_cases hi:i<c
  ·rw[if_pos (by omega),qkt,qgo]
   cases hp:qdL s with
   |none=>have:=(qeV hp).1;omega
   |some k=>
    obtain⟨h1,h2,h3⟩:=qdp hp
    simp only[Option.bind_some,Nat.zero_add]
    have w1:w64 ((k:Int)+0)=(k:Int):=by rw[Int.add_zero];exact ji (by omega) (by omega)
    have w2:w64 ((k:Int)+(([32]:Str).length:Int))=((k+1:Nat):Int):=qA (by omega)
    rw[if_neg (by omega),w1,w2,qbq (by omega),Option.bind_some,qx,List.getElem?_eq_getElem (by omega),Option.bind_some,qaZ (by omega),Option.bind_some,xx (by omega),Option.bind_some,qA (by omega)]
    obtain⟨l',s',g1,g2,g3⟩:=qg1 s0 n c hc hn K (l.set i (s.take k)) (s.drop (k+1)) (i+1) (by omega) (by simpa using hl) (by omega) (by simp;omega)
    refine⟨l',s',g1,g2,?_⟩
    rw[g3,h3,List.nil_append,List.take_add_one,List.getElem?_set_self (by omega)]
    simp only[List.take_set,Option.toList_some,List.append_assoc,List.singleton_append]
    rw[List.set_eq_of_length_le (by rw[List.length_take];exact Nat.min_le_left _ _)]
  ·have hi:i=c:=by omega
   subst hi
   rw[if_neg (by omega)]
   refine⟨l,s,rfl,hl,?_⟩
   have:=(qeV (qpT (show qa1 s=0 by omega))).2 []
   rw[this,List.nil_append]
theorem qf4 {N:Nat} {s:Str} (hs:s.length<100000) (hN:s.length<N):strings_Split N s [32]=some (spl [] s):=by
 unfold strings_Split strings_genSplit
 have hc:=qgc s
 have w1:w64 ((qa1 s:Int)+1)=((qa1 s+1:Nat):Int):=qA (by omega)
 have w2:w64 ((s.length:Int)+1)=((s.length+1:Nat):Int):=qA (by omega)
 have w3:(if((s.length+1:Nat):Int)<((qa1 s+1:Nat):Int)then((s.length+1:Nat):Int)else((qa1 s+1:Nat):Int))=((qa1 s+1:Nat):Int):=if_neg (by omega)
 have w4:w64 (((qa1 s+1:Nat):Int)-1)=(qa1 s:Int):=by rw[ji (by omega) (by omega)];omega
 rw[if_neg (by omega),if_neg (by decide),if_pos (by omega),qn8]
 simp only[Option.bind_some,w1,w2,w3]
 have e:mk 16 ((qa1 s+1:Nat):Int) ([]:Str)=some (List.replicate (qa1 s+1) []):=by
  unfold mk
  rw[if_pos ⟨by omega,by omega,by omega⟩,Int.toNat_natCast]
 rw[e,Option.bind_some]
 obtain⟨l',s',g1,g2,g3⟩:=qg1 s ((qa1 s+1:Nat):Int) (qa1 s) (by omega) (by rw[w2,w3,w4]) N (List.replicate (qa1 s+1) []) s 0 (by omega) (by simp) (by omega) (by omega)
 rw[show zK s [32] 0 ((qa1 s+1:Nat):Int) N (List.replicate (qa1 s+1) []) s 0=_ from g1]
 have hx:l'[qa1 s]? =some l'[qa1 s]:=List.getElem?_eq_getElem (by omega)
 simp only[Option.bind_some]
 rw[qx,hx,Option.bind_some,qaZ (by omega),Option.bind_some,w1,qbq (by simp;omega),Option.bind_some,Option.bind_some]
 rw[List.take_zero,List.nil_append]at g3
 rw[←g3,List.take_add_one,List.getElem?_set_self (by omega),List.take_set,List.set_eq_of_length_le (by simp;omega)]
 rfl
theorem qf2 {α:Type} {l:List α} {a b:Nat} (h1:a≤b) (h2:b≤l.length):cut l (a:Int) (b:Int)=some ((l.drop a).take (b-a)):=by
 unfold cut
 rw[if_pos ⟨by omega,by omega,by omega⟩]
 simp only[Int.toNat_natCast,Option.some.injEq]
theorem qgI (s:Str) (hs:s.length<100000): ∀(K:Nat) (l:List Str) (f i:Nat),f≤i→i≤s.length→s.length<K+i→l.length≤i→
 jA s (K+1) l (f:Int) (i:Int)=some (l++spl ((s.drop f).take (i-f)) (s.drop i))
 |K,l,f,i,h1,h2,hK,hl=>by
  unfold jA
  rw[if_pos (by omega)]
  by_cases hi:i=s.length
  ·subst hi
   rw[if_pos rfl]
   simp only[Option.bind_some,if_true]
   rw[qf2 h1 (Nat.le_refl _),Option.bind_some,zu (by simp;omega) (by simp;omega),Option.bind_some,Option.bind_some,qA (by omega)]
   have hd:s.drop s.length=[]:=List.drop_length
   rw[hd,spl]
   cases K with
   |zero=>omega
   |succ K=>
    simp only
    unfold jA
    rw[if_neg (by omega)]
  ·have hx:s[i]? =some s[i]:=List.getElem?_eq_getElem (by omega)
   have hd:s.drop i=s[i]::s.drop (i+1):=List.drop_eq_getElem_cons (by omega)
   rw[if_neg (by omega),qx,hx,Option.bind_some,hd,spl]
   generalize s[i]=c at hx
   cases K with
   |zero=>omega
   |succ K=>
   by_cases hc:c=32
   ·subst hc
    simp only[Option.bind_some,show decide ((((32:UInt8).toNat:Nat):Int)=32)=true by decide,if_true]
    rw[qf2 h1 h2,Option.bind_some,zu (by simp;omega) (by simp;omega),Option.bind_some,Option.bind_some,qA (by omega)]
    simp only
    rw[qgI s hs K _ (i+1) (i+1) (Nat.le_refl _) (by omega) (by omega) (by simp;omega),Nat.sub_self,List.take_zero,List.append_assoc]
    rfl
   ·have hc2: ¬((c.toNat:Int)=32):=fun e=>hc (UInt8.toNat_inj.1 (by have:c.toNat=32:=by omega
                                                                    rw[this];rfl))
    simp only[Option.bind_some,decide_eq_false hc2,Bool.false_eq_true,if_false,if_neg hc]
    rw[qA (by omega),qgI s hs K l f (i+1) (by omega) (by omega) (by omega) (by omega)]
    congr 3
    rw[show i+1-f=(i-f)+1 by omega,List.take_add_one,List.getElem?_drop,show f+(i-f)=i by omega,hx]
    rfl
theorem qje {N:Nat} {s:Str} (hs:s.length<100000) (hN:s.length+1<N):qa9 N s=some (spl [] s):=by
 unfold qa9
 obtain⟨K,rfl⟩: ∃K,N=K+1:=⟨N-1,by omega⟩
 rw[show jA s (K+1) [] 0 0=jA s (K+1) [] ((0:Nat):Int) ((0:Nat):Int)from rfl,qgI s hs K [] 0 0 (Nat.le_refl _) (Nat.zero_le _) (by omega) (by simp)]
 simp
def y9 (c:UInt8):Bool:=decide (48≤c.toNat)&&decide (c.toNat≤57)
def qgC (n:Nat) (s:List UInt8):Nat:=s.foldl (fun a c=>a*10+(c.toNat-48)) n
theorem qoi (n:Nat):qgC n []=n:=List.foldl_nil
theorem qeM (n:Nat) (c:UInt8) (s:List UInt8):qgC n (c::s)=qgC (n*10+(c.toNat-48)) s:=by
 unfold qgC
 rw[List.foldl_cons]
theorem qoX (s:List UInt8): ∀n:Nat,s.all y9=true→qgC n s<(n+1)*10^s.length:=by
 induction s with
 |nil=>
  intro n _
  rw[List.length_nil,Nat.pow_zero,Nat.mul_one,qoi]
  exact Nat.lt_succ_self n
 |cons c s ih=>
  intro n h
  rw[List.all_cons,Bool.and_eq_true]at h
  have h1:=ih (n*10+(c.toNat-48)) h.2
  have hd:c.toNat-48≤9:=by
   have:=h.1
   simp[y9]at this
   omega
  have h2:n*10+(c.toNat-48)+1≤(n+1)*10:=by omega
  rw[qeM,List.length_cons,Nat.pow_succ,Nat.mul_comm (10^s.length) 10,←Nat.mul_assoc]
  exact Nat.lt_of_lt_of_le h1 (Nat.mul_le_mul_right _ h2)
theorem ne48 {c:UInt8} (h: ¬c=48): ¬((c.toNat:Int)=48):=fun e=>h (UInt8.toNat_inj.1 (show c.toNat=48 from by omega))
def intB (s:Str):Bool:=decide (1≤s.length)&&(decide (s.length≤9)&&(s.all y9&&(decide (s.length=1)||!(s[0]? ==some 48))))
def vP (s:Str):Int×Bool:=if intB s=true then((qgC 0 s:Nat),true)else(0,false)
theorem qg4 (s:Str) (hs:s.length≤9): ∀(K i n:Nat),i≤s.length→s.length<K+i→(∀j≤s.length,i≤j→qgC n ((s.drop i).take (j-i))<10^9∨((s.drop i).take (j-i)).all y9=false)→
 jH s K (n:Int) (i:Int)=some (if(s.drop i).all y9=true then .inl ((qgC n (s.drop i):Nat):Int)else .inr (0,false))
 |0,i,n,h,hK,_=>by omega
 |K+1,i,n,h,hK,hb=>by
  unfold jH
  by_cases hi:i<s.length
  ·have hx:s[i]? =some s[i]:=List.getElem?_eq_getElem hi
   have hd:s.drop i=s[i]::s.drop (i+1):=List.drop_eq_getElem_cons hi
   rw[if_pos (by omega),qx,hx,Option.bind_some,hd,List.all_cons]
   rw[hd]at hb
   generalize s[i]=c at hx hb
   by_cases hc:y9 c=true
   ·have h1:48≤c.toNat∧c.toNat≤57:=by simpa[y9]using hc
    have n1: ¬(c.toNat:Int)<48:=by omega
    have n2: ¬(c.toNat:Int)>57:=by omega
    rw[if_neg n1]
    simp only[Option.bind_some,decide_eq_false n2,Bool.false_eq_true,if_false,hc,Bool.true_and]
    have hn:qgC n [c]<10^9:=by
     rcases hb (i+1) (by omega) (by omega)with h|h
     ·rw[show i+1-i=1 by omega]at h;simpa using h
     ·rw[show i+1-i=1 by omega]at h;simp[hc]at h
    have hn:n*10+(c.toNat-48)<1000000000:=hn
    have w0:IntKind.wrap .u8 ((c.toNat:Int)-48)=((c.toNat-48:Nat):Int):=by
     unfold IntKind.wrap
     have e:(2:Int)^IntKind.u8.bits=256:=by decide
     have e3:IntKind.u8.signed=false:=by decide
     simp only[e,e3,Bool.false_and,if_false,Bool.false_eq_true]
     omega
    have w1:w64 ((c.toNat-48:Nat):Int)=((c.toNat-48:Nat):Int):=ji (by omega) (by omega)
    have w2:w64 (10*(n:Int))=((10*n:Nat):Int):=by rw[ji (by omega) (by omega)];omega
    have w3:w64 (((10*n:Nat):Int)+((c.toNat-48:Nat):Int))=((n*10+(c.toNat-48):Nat):Int):=by rw[ji (by omega) (by omega)];omega
    rw[w0,w1,w2,w3,qA (by omega),qg4 s hs K (i+1) (n*10+(c.toNat-48)) (by omega) (by omega) (fun j hj hij=>?_)]
    ·rw[qeM]
    ·have:=hb j hj (by omega)
     rw[show j-i=(j-(i+1))+1 by omega,List.take_succ_cons,qeM,List.all_cons,hc,Bool.true_and]at this
     exact this
   ·have hc2:y9 c=false:=by simpa using hc
    rw[hc2,Bool.false_and]
    by_cases n1:(c.toNat:Int)<48
    ·rw[if_pos n1];rfl
    ·rw[if_neg n1]
     have n2:(c.toNat:Int)>57:=by
      simp[y9]at hc2
      omega
     simp only[Option.bind_some,decide_eq_true n2,if_true,Bool.false_eq_true,if_false]
  ·rw[if_neg (by omega),List.drop_of_length_le (by omega)]
   rfl
theorem qeG {N:Nat} {s:Str} (hN:2000<N):xc N s=some (vP s):=by
 unfold xc vP intB
 by_cases h0:s.length=0
 ·have: ¬1≤s.length:=by omega
  rw[if_pos (by omega)]
  simp[this]
 by_cases h9:s.length>9
 ·have: ¬s.length≤9:=by omega
  rw[if_neg (by omega),if_pos (by omega)]
  simp[this]
 rw[if_neg (by omega),if_neg (by omega)]
 have a1:1≤s.length:=by omega
 have a2:s.length≤9:=by omega
 have key:jH s N 0 0=some (if s.all y9=true then .inl ((qgC 0 s:Nat):Int)else .inr (0,false)):=by
  have:=qg4 s a2 N 0 0 (Nat.zero_le _) (by omega) (fun j hj _=>by
   by_cases hq:((s.drop 0).take (j-0)).all y9=true
   ·left
    have h1:=qoX _ 0 hq
    have h2:((s.drop 0).take (j-0)).length≤9:=by simp;omega
    have h3:(10:Nat)^((s.drop 0).take (j-0)).length≤10^9:=Nat.pow_le_pow_right (by omega) h2
    omega
   ·right;simpa using hq)
  rw[List.drop_zero]at this
  exact this
 rw[key]
 by_cases h1:s.length>1
 ·have hne: ¬s.length=1:=by omega
  have hx:s[0]? =some s[0]:=List.getElem?_eq_getElem (by omega)
  rw[if_pos (by omega),y8,hx]
  generalize s[0]=c
  by_cases hc:c=48
  ·subst hc
   simp[hne]
  ·have hc2: ¬((c.toNat:Int)=48):=ne48 hc
   have hc3:(some c==some (48:UInt8))=false:=by simpa using hc
   simp only[Option.bind_some,decide_eq_false hc2,Bool.false_eq_true,if_false,a1,a2,hne,hc3,decide_true,decide_false,Bool.true_and,Bool.not_false,Bool.or_true,Bool.and_true]
   by_cases hd:s.all y9=true<;>simp[hd]
 ·have h1':s.length=1:=by omega
  rw[if_neg (by omega)]
  simp only[Option.bind_some,Bool.false_eq_true,if_false,a1,a2,h1',decide_true,Bool.true_and,Bool.true_or,Bool.and_true,Nat.le_refl]
  by_cases hd:s.all y9=true<;>simp[hd]
theorem qn2 (c:UInt8):([48,49,50,51,52,53,54,55,56,57]:Str).contains c=y9 c:=by
 rw[Bool.eq_iff_iff]
 simp only[List.contains_cons,List.contains_nil,Bool.or_eq_true,beq_iff_eq,y9,Bool.and_eq_true,decide_eq_true_eq,←UInt8.toNat_inj,Bool.or_false]
 simp only[show(48:UInt8).toNat=48 from rfl,show(49:UInt8).toNat=49 from rfl,show(50:UInt8).toNat=50 from rfl,show(51:UInt8).toNat=51 from rfl,show(52:UInt8).toNat=52 from rfl,show(53:UInt8).toNat=53 from rfl,show(54:UInt8).toNat=54 from rfl,show(55:UInt8).toNat=55 from rfl,show(56:UInt8).toNat=56 from rfl,show(57:UInt8).toNat=57 from rfl]
 omega
theorem qda {α:Type} {p:α→Bool}: ∀{l:List α},l.dropWhile p=[]↔l.all p=true
 |[]=>by simp
 |x::l=>by
  rw[List.dropWhile_cons,List.all_cons]
  by_cases h:p x=true
  ·rw[if_pos h,h,Bool.true_and];exact qda
  ·rw[if_neg h];simp[h]
theorem qmK {s:Str}:(Lib.trimS s [48,49,50,51,52,53,54,55,56,57]==[])=s.all y9:=by
 have e:(fun c=>([48,49,50,51,52,53,54,55,56,57]:Str).contains c)=y9:=funext qn2
 unfold Lib.trimS Lib.trimLeftS Lib.trimRightS
 rw[e]
 rw[Bool.eq_iff_iff,beq_iff_eq,qda,List.all_reverse]
 constructor
 ·intro h
  have h2: ∀x∈s.reverse.takeWhile y9++s.reverse.dropWhile y9,y9 x=true:=by
   intro x hx
   rcases List.mem_append.1 hx with hx|hx
   ·exact List.all_eq_true.1 List.all_takeWhile x hx
   ·exact List.all_eq_true.1 h x hx
  rw[List.takeWhile_append_dropWhile]at h2
  exact List.all_eq_true.2 fun x hx=>h2 x (by simpa using hx)
 ·intro h
  have:s.reverse.dropWhile y9=[]:=qda.2 (by rw[List.all_reverse];exact h)
  rw[this]
  rfl
theorem qg2 {s:Str} (hs:s.length≤1000000):yU s=some (decide (1≤s.length)&&s.all y9):=by
 have hT:qjZ s [48,49,50,51,52,53,54,55,56,57]=some (Lib.trimS s [48,49,50,51,52,53,54,55,56,57]):=by
  unfold qjZ
  rw[if_pos ⟨hs,by decide,by decide⟩]
 unfold yU
 simp only[hT,Option.bind_some,qmK]
 cases s with
 |nil=>rfl
 |cons x xs=>simp
theorem qic: ∀(s:Str) (n:Nat),s.all y9=true→Lib.decFrom n s=some (qgC n s)
 |[],n,_=>rfl
 |c::s,n,h=>by
  rw[List.all_cons,Bool.and_eq_true]at h
  unfold Lib.decFrom
  rw[qeM]
  have h1:48≤c.toNat∧c.toNat≤57:=by simpa[y9]using h.1
  have e:Lib.digitVal c=some (c.toNat-48):=by unfold Lib.digitVal;rw[if_pos h1]
  rw[e]
  exact qic s _ h.2
theorem qki {s:Str} (h0:1≤s.length) (h:s.all y9=true):Lib.atoi s=some ((qgC 0 s:Nat):Int):=by
 cases s with
 |nil=>simp at h0
 |cons c s=>
  have hc:y9 c=true:=by rw[List.all_cons,Bool.and_eq_true]at h;exact h.1
  have h1:48≤c.toNat∧c.toNat≤57:=by simpa[y9]using hc
  unfold Lib.atoi Lib.decNat
  have n1: ¬(c==45)=true:=fun e=>by rw[beq_iff_eq.1 e]at h1;simp at h1
  have n2: ¬(c==43)=true:=fun e=>by rw[beq_iff_eq.1 e]at h1;simp at h1
  simp only
  rw[if_neg n1,if_neg n2,if_neg (by simp),qic _ _ h]
  rfl
theorem qfF {s:Str} (hs:s.length≤1000000):yK s=some (vP s):=by
 unfold yK vP intB
 by_cases h9:s.length>9
 ·have: ¬s.length≤9:=by omega
  rw[if_pos (by omega)]
  simp[this]
 rw[if_neg (by omega),qg2 hs]
 have a2:s.length≤9:=by omega
 simp only[Option.bind_some]
 by_cases h0:s.length=0
 ·have: ¬1≤s.length:=by omega
  simp[this]
 have a1:1≤s.length:=by omega
 by_cases hd:s.all y9=true
 ·have hx:s[0]? =some s[0]:=List.getElem?_eq_getElem (by omega)
  simp only[a1,a2,hd,decide_true,Bool.and_self,Bool.not_true,Bool.false_eq_true,if_false,Bool.true_and,y8]
  have hat:qkR s=some (((qgC 0 s:Nat):Int),()):=by
   unfold qkR
   rw[if_pos (by omega),qki a1 hd]
   rfl
  rw[hx,Option.bind_some]
  by_cases hc:s[0]=48
  ·have hc1:((s[0].toNat:Int)=48):=by rw[hc];rfl
   rw[if_pos hc1]
   simp only[Option.bind_some]
   by_cases h1:s.length=1
   ·obtain⟨c,rfl⟩:=qh1 (show(s.length:Int)=1 by omega)
    have hc:c=48:=hc
    subst hc
    rw[hat]
    rfl
   ·have: ¬(s==[48])=true:=fun e=>h1 (by rw[beq_iff_eq.1 e];rfl)
    have h48:(some s[0]==some (48:UInt8))=true:=by simpa using hc
    simp[this,h1,h48]
  ·have hc1: ¬((s[0].toNat:Int)=48):=ne48 hc
   have h48:(some s[0]==some (48:UInt8))=false:=by simpa using hc
   rw[if_neg hc1]
   simp only[Option.bind_some,Bool.false_eq_true,if_false,hat,h48,Bool.not_false,Bool.or_true,if_true]
 ·have hd2:s.all y9=false:=by simpa using hd
  simp[a1,a2,hd2]
def ev0:qb:=⟨0,[],[],[],[]⟩
def qmi (ws:List Str):qb×Bool:=
 if((zn (ws.headD [])).2.2&&(decide ((ws.length:Int)=1+(zn (ws.headD [])).1+(zn (ws.headD [])).2.1)&&(!(ws.any fun w=>([]:Str)==w)&&(ws.drop (1+(zn (ws.headD [])).1.toNat)).all fun w=>(vP w).2)))=true then
  (⟨0,ws.headD [],(ws.drop 1).take (zn (ws.headD [])).1.toNat,(ws.drop (1+(zn (ws.headD [])).1.toNat)).map fun w=>(vP w).1,[]⟩,true)
 else(ev0,false)
def yP (s:Str):qb×Bool:=qmi (spl [] s)
theorem qiV (k:Str): ∃a b:Nat,a≤2∧b≤3∧(zn k).1=(a:Int)∧(zn k).2.1=(b:Int)∧((zn k).2.2=true→k≠[]):=by
 unfold zn
 by_cases h1:(k==xY)=true
 ·simp only[h1,if_true];exact⟨2,3,by omega,by omega,rfl,rfl,fun _ e=>by rw[e]at h1;cases h1⟩
 by_cases h2:(k==qaK)=true
 ·simp only[h1,h2,if_true,if_false];exact⟨1,2,by omega,by omega,rfl,rfl,fun _ e=>by rw[e]at h2;cases h2⟩
 by_cases h3:(k==qcu)=true
 ·simp only[h1,h2,h3,if_true,if_false];exact⟨1,2,by omega,by omega,rfl,rfl,fun _ e=>by rw[e]at h3;cases h3⟩
 by_cases h4:(k==qal)=true
 ·simp only[h1,h2,h3,h4,if_true,if_false];exact⟨1,1,by omega,by omega,rfl,rfl,fun _ e=>by rw[e]at h4;cases h4⟩
 by_cases h5:(k==zV)=true
 ·simp only[h1,h2,h3,h4,h5,if_true,if_false];exact⟨1,1,by omega,by omega,rfl,rfl,fun _ e=>by rw[e]at h5;cases h5⟩
 by_cases h6:(k==qbR)=true
 ·simp only[h1,h2,h3,h4,h5,h6,if_true,if_false];exact⟨0,0,by omega,by omega,rfl,rfl,fun _ e=>by rw[e]at h6;cases h6⟩
 simp only[h1,h2,h3,h4,h5,h6,if_false]
 exact⟨0,0,by omega,by omega,rfl,rfl,fun h=>by simp at h⟩
theorem qkN (x:Str):(if(x==[109,97,107,101])=true then some (2,3,true)else if(x==[116,101,115,116])=true then some (1,2,true)else if(x==[117,115,101])=true then some (1,2,true)else
 if(x==[102,97,105,108])=true then some (1,1,true)else if(x==[114,101,99,97,108,108])=true then some (1,1,true)else if(x==[117,110,100,111])=true then some (0,0,true)else some (0,0,false):Option (Int×Int×Bool))=some (zn x):=by
 unfold zn xY qaK qcu qal zV qbR
 repeat' split
 all_goals rfl
theorem qi5 (l:List Str) (v:Str) (hl:l.length<4611686018427387904): ∀(K k:Nat),k≤l.length→l.length<K+k→ ∃r,ze l v K (k:Int)=some r∧(((l.drop k).any fun w=>v==w)=true∧(∃j:Nat,r= .inr (j:Int))∨((l.drop k).any fun w=>v==w)=false∧r= .inl ())
 |0,k,h,hK=>by omega
 |K+1,k,h,hK=>by
  unfold ze
  by_cases hk:k<l.length
  ·rw[if_pos (by omega),qx,List.getElem?_eq_getElem hk,Option.bind_some,qA (by omega),List.drop_eq_getElem_cons hk,List.any_cons]
   by_cases hc:(v==l[k])=true
   ·rw[if_pos hc,hc,Bool.true_or]
    exact⟨_,rfl,.inl ⟨rfl,k,rfl⟩⟩
   ·have hc2:(v==l[k])=false:=by simpa using hc
    rw[if_neg hc,hc2,Bool.false_or]
    exact qi5 l v hl K (k+1) (by omega) (by omega)
  ·rw[if_neg (by omega),List.drop_of_length_le (by omega)]
   exact⟨_,rfl,.inr ⟨rfl,rfl⟩⟩
theorem qgX {N:Nat} {l:List Str} {v:Str} (hl:l.length<4611686018427387904) (hN:l.length<N):slices_Contains_string N l v=some (l.any fun w=>v==w):=by
 unfold slices_Contains_string slices_Index_string
 obtain⟨r,h1,h2⟩:=qi5 l v hl N 0 (by omega) (by omega)
 rw[List.drop_zero]at h2
 rw[show ze l v N 0=_ from h1]
 rcases h2 with⟨h2,j,rfl⟩|⟨h2,rfl⟩
 ·rw[h2]
  simp
 ·rw[h2]
  simp
theorem qg0 (l:List Str) (hl:l.length≤1700) (hs: ∀w∈l,w.length≤1000000): ∀(K k:Nat) (vs:List Int),k≤l.length→l.length<K+k→vs.length≤k→
 zW l K vs (k:Int)=some (if((l.drop k).all fun w=>(vP w).2)=true then .inl (vs++(l.drop k).map fun w=>(vP w).1)else .inr (ev0,false))
 |0,k,vs,h,hK,hv=>by omega
 |K+1,k,vs,h,hK,hv=>by
  unfold zW
  by_cases hk:k<l.length
  ·have hm:(l[k]).length≤1000000:=hs _ (List.getElem_mem hk)
   rw[if_pos (by omega),qx,List.getElem?_eq_getElem hk,Option.bind_some,qfF hm,Option.bind_some,List.drop_eq_getElem_cons hk,List.all_cons]
   by_cases hc:(vP l[k]).2=true
   ·rw[hc]
    simp only[Bool.not_true,Bool.false_eq_true,if_false,Bool.true_and]
    rw[zu (by simp;omega) (by simp;omega),Option.bind_some,qA (by omega),qg0 l hl hs K (k+1) _ (by omega) (by omega) (by simp;omega)]
    simp only[List.append_assoc,List.singleton_append,List.map_cons]
   ·have hc2:(vP l[k]).2=false:=by simpa using hc
    rw[hc2]
    rfl
  ·rw[if_neg (by omega),List.drop_of_length_le (by omega)]
   simp
theorem qmo {l:List Str} (h:l.length≤1700):slices_Clone_string l=some l:=by
 cases l with
 |nil=>
  simp only[slices_Clone_string,j4,qhT]
  rw[zu (by simp) (by simp)]
  simp
 |cons x xs=>
  show jr x xs=_
  unfold jr
  simp only[List.length_cons]at h
  rw[zu (by simp;omega) (by simp;omega)]
  rfl
theorem qci: ∀(a s:Str),∀w∈spl a s,w.length≤a.length+s.length
 |a,[],w,h=>by simp[spl]at h;subst h;simp
 |a,c::s,w,h=>by
  rw[spl]at h
  split at h
  ·rcases List.mem_cons.1 h with rfl|h
   ·simp
   ·have:=qci [] s w h
    simp at this⊢;omega
  ·have:=qci (a++[c]) s w h
   simp at this⊢;omega
theorem qgZ {N:Nat} {s:Str} (hs:s.length≤1600) (hN:2000<N):yS N s=some (yP s):=by
 unfold yS yP
 rw[qf4 (by omega) (by omega),Option.bind_some]
 have hlen:=qdP [] s
 have hc:=qgc s
 have hsh:=qci [] s
 generalize spl [] s=ws at hlen hsh
 obtain⟨w0,tl,rfl⟩: ∃w0 tl,ws=w0::tl:=by
  cases ws with
  |nil=>simp at hlen
  |cons x xs=>exact⟨x,xs,rfl⟩
 unfold qmi
 have hh:(w0::tl).headD []=w0:=rfl
 rw[hh]
 obtain⟨a,b,ha,hb,e1,e2,e3⟩:=qiV w0
 have hlen2:(w0::tl).length≤1601:=by omega
 have hlen3:=hlen2
 rw[List.length_cons]at hlen3
 simp only[zl,Option.bind_some,y8,List.getElem?_cons_zero,qkN]
 rw[show zn w0=((a:Int),(b:Int),(zn w0).2.2)from by rw[←e1,←e2]]
 simp only[Option.bind_some]
 cases hk:(zn w0).2.2 with
 |false=>simp[ev0]
 |true=>
  simp only[Bool.not_true,Bool.false_eq_true,if_false,Bool.true_and]
  have w1:w64 (1+(a:Int))=((1+a:Nat):Int):=by rw[ji (by omega) (by omega)];omega
  have w2:w64 (((1+a:Nat):Int)+(b:Int))=((1+a+b:Nat):Int):=by rw[ji (by omega) (by omega)];omega
  rw[w1,w2]
  by_cases hl:(w0::tl).length=1+a+b
  ·have d1:decide (((w0::tl).length:Int)=((1+a+b:Nat):Int))=true:=decide_eq_true (by omega)
   have d2:decide (((w0::tl).length:Int)=1+(a:Int)+(b:Int))=true:=decide_eq_true (by omega)
   rw[d1,d2]
   simp only[Bool.not_true,Bool.false_eq_true,if_false,Bool.true_and,qgX (N:=N) (l:=w0::tl) (v:=[]) (by omega) (by omega),Option.bind_some]
   cases hany:(w0::tl).any fun w=>([]:Str)==w with
   |true=>simp[ev0]
   |false=>
    simp only[Bool.false_eq_true,if_false,Bool.not_false,Bool.true_and]
    rw[show cut (w0::tl) 1 ((1+a:Nat):Int)=cut (w0::tl) ((1:Nat):Int) ((1+a:Nat):Int)from rfl,qf2 (by omega) (by omega),Option.bind_some,qmo (by simp;omega),Option.bind_some,xx (by omega),Option.bind_some]
    have hL:=qg0 ((w0::tl).drop (1+a)) (by simp;omega) (fun w hw=>by have:=hsh w (List.mem_of_mem_drop hw);simp at this;omega) N 0 [] (by omega) (by simp;omega) (by simp)
    rw[List.drop_zero,List.nil_append]at hL
    rw[show zW ((w0::tl).drop (1+a)) N [] 0=_ from hL,show 1+a-1=a by omega,Int.toNat_natCast]
    cases hall:((w0::tl).drop (1+a)).all fun w=>(vP w).2 with
    |true=>simp only[if_true,Option.bind_some]
    |false=>simp only[Bool.false_eq_true,if_false,Option.bind_some]
  ·have d1:decide (((w0::tl).length:Int)=((1+a+b:Nat):Int))=false:=decide_eq_false (by omega)
   have d2:decide (((w0::tl).length:Int)=1+(a:Int)+(b:Int))=false:=decide_eq_false (by omega)
   rw[d1,d2]
   simp[ev0]
def goP (a:Nat):List Str→Nat→List Str→List Int→Option (List Str×List Int)
 |[],_,l8,l9=>some (l8,l9)
 |w::ws,i,l8,l9=>if(w==[])=true then none else if i≤a then goP a ws (i+1) (l8++[w]) l9 else if(vP w).2=true then goP a ws (i+1) l8 (l9++[(vP w).1])else none
theorem qgt {N:Nat} (hN:2000<N) (ws:List Str) (hl:ws.length≤1700) (a:Nat) (F:Int×Int×Bool) (hF:F.1=(a:Int)): ∀(K i:Nat) (l8:List Str) (l9:List Int),i≤ws.length→ws.length<K+i→l8.length≤i→l9.length≤i→
 jU N ws F K l8 l9 (i:Int)=some (match goP a (ws.drop i) i l8 l9 with|some r=> .inl r|none=> .inr (ev0,false))
 |0,i,l8,l9,h,hK,_,_=>by omega
 |K+1,i,l8,l9,h,hK,h8,h9=>by
  unfold jU
  by_cases hi:i<ws.length
  ·rw[if_pos (by omega),qx,List.getElem?_eq_getElem hi,Option.bind_some,List.drop_eq_getElem_cons hi,goP]
   generalize ws[i]=w
   by_cases hw:(w==[])=true
   ·rw[if_pos hw,if_pos hw]
    rfl
   ·rw[if_neg hw,if_neg hw]
    by_cases hia:i≤a
    ·rw[if_pos (show(i:Int)≤F.1 by omega),if_pos hia,zu (by simp;omega) (by simp;omega),Option.bind_some,Option.bind_some]
     simp only
     rw[qA (by omega),qgt hN ws hl a F hF K (i+1) _ _ (by omega) (by omega) (by simp;omega) (by omega)]
    ·rw[if_neg (show¬(i:Int)≤F.1 by omega),if_neg hia,qeG hN,Option.bind_some]
     cases hc:(vP w).2 with
     |false=>rfl
     |true=>
      simp only[Bool.not_true,Bool.false_eq_true,if_false,if_true]
      rw[zu (by simp;omega) (by simp;omega),Option.bind_some,Option.bind_some]
      simp only
      rw[qA (by omega),qgt hN ws hl a F hF K (i+1) _ _ (by omega) (by omega) (by omega) (by simp;omega)]
  ·rw[if_neg (by omega),List.drop_of_length_le (by omega)]
   rfl
theorem qlI (a:Nat): ∀(ws:List Str) (i:Nat) (l8:List Str) (l9:List Int),goP a ws i l8 l9=if(!(ws.any fun w=>([]:Str)==w)&&(ws.drop (a+1-i)).all fun w=>(vP w).2)=true then some (l8++ws.take (a+1-i),l9++(ws.drop (a+1-i)).map fun w=>(vP w).1)else none
 |[],i,l8,l9=>by simp[goP]
 |w::ws,i,l8,l9=>by
  rw[goP]
  have hcomm:(([]:Str)==w)=(w==[]):=by
   cases w<;>rfl
  by_cases hw:(w==[])=true
  ·rw[if_pos hw,List.any_cons,hcomm,hw]
   simp
  ·have hw2:(w==[])=false:=by simpa using hw
   rw[if_neg hw,List.any_cons,hcomm,hw2,Bool.false_or]
   by_cases hia:i≤a
   ·rw[if_pos hia,qlI a ws (i+1),show a+1-i=(a+1-(i+1))+1 by omega]
    simp only[List.drop_succ_cons,List.take_succ_cons,List.append_assoc,List.singleton_append]
   ·rw[if_neg hia,show a+1-i=0 by omega]
    simp only[List.drop_zero,List.take_zero,List.append_nil,List.all_cons,List.map_cons]
    cases hc:(vP w).2 with
    |false=>simp
    |true=>
     rw[if_pos rfl,qlI a ws (i+1),show a+1-(i+1)=0 by omega]
     simp
theorem qi7 {N:Nat} {s:Str} (hs:s.length≤1600) (hN:2000<N):qaG N s=some (yP s):=by
 unfold qaG yP
 rw[qje (by omega) (by omega),Option.bind_some]
 have hlen:=qdP [] s
 have hc:=qgc s
 generalize spl [] s=ws at hlen
 obtain⟨w0,tl,rfl⟩: ∃w0 tl,ws=w0::tl:=by
  cases ws with
  |nil=>simp at hlen
  |cons x xs=>exact⟨x,xs,rfl⟩
 unfold qmi
 have hh:(w0::tl).headD []=w0:=rfl
 rw[hh]
 obtain⟨a,b,ha,hb,e1,e2,e3⟩:=qiV w0
 have hlen2:(w0::tl).length≤1601:=by omega
 have hlen3:=hlen2
 rw[List.length_cons]at hlen3
 simp only[Option.bind_some,y8,List.getElem?_cons_zero,qjJ]
 cases hk:(zn w0).2.2 with
 |false=>simp[ev0]
 |true=>
  simp only[Bool.not_true,Bool.false_eq_true,if_false,Bool.true_and,e1,e2]
  have w1:w64 (1+(a:Int))=((1+a:Nat):Int):=by rw[ji (by omega) (by omega)];omega
  have w2:w64 (((1+a:Nat):Int)+(b:Int))=((1+a+b:Nat):Int):=by rw[ji (by omega) (by omega)];omega
  rw[w1,w2]
  by_cases hl:(w0::tl).length=1+a+b
  ·have d1:decide (((w0::tl).length:Int)=((1+a+b:Nat):Int))=true:=decide_eq_true (by omega)
   have d2:decide (((w0::tl).length:Int)=1+(a:Int)+(b:Int))=true:=decide_eq_true (by omega)
   rw[d1,d2]
   simp only[Bool.not_true,Bool.false_eq_true,if_false,Bool.true_and,Option.bind_some]
   have hL:=qgt hN (w0::tl) (by omega) a (zn w0) e1 N 1 [] [] (by simp) (by omega) (by simp) (by simp)
   rw[show jU N (w0::tl) (zn w0) N [] [] 1=_ from hL,List.drop_succ_cons,List.drop_zero,qlI,show a+1-1=a by omega,Int.toNat_natCast]
   have hne:(([]:Str)==w0)=false:=by
    have:=e3 hk
    cases w0 with
    |nil=>exact absurd rfl this
    |cons x xs=>rfl
   rw[List.any_cons,hne,Bool.false_or,show 1+a=a+1 by omega,List.drop_succ_cons]
   simp only[List.nil_append]
   cases(!(tl.any fun w=>([]:Str)==w)&&(tl.drop a).all fun w=>(vP w).2)with
   |true=>simp only[if_true,Option.bind_some]
   |false=>simp only[Bool.false_eq_true,if_false,Option.bind_some]
  ·have d1:decide (((w0::tl).length:Int)=((1+a+b:Nat):Int))=false:=decide_eq_false (by omega)
   have d2:decide (((w0::tl).length:Int)=1+(a:Int)+(b:Int))=false:=decide_eq_false (by omega)
   rw[d1,d2]
   simp[ev0]
theorem qoN {d:Nat} (h:d<10):cut ([48,49,50,51,52,53,54,55,56,57]:Str) (d:Int) (w64 ((d:Int)+1))=some [UInt8.ofNat (48+d)]:=by
 rw[qA (by omega)]
 have: ∀k:Fin 10,cut ([48,49,50,51,52,53,54,55,56,57]:Str) ((k.1:Nat):Int) ((k.1+1:Nat):Int)=some [UInt8.ofNat (48+k.1)]:=by decide
 exact this ⟨d,h⟩
theorem qhy: ∀(K n:Nat) (s:Str),n<10^9→s.length+K≤100→(0<n∨1≤s.length)→n<10^K→zm 1 (K+1) (n:Int) s=some (if n=0 then s else Lib.decDigits n++s)
 |K,n,s,hn,hs,h0,hK=>by
  unfold zm
  by_cases hz:n=0
  ·subst hz
   have h1:1≤s.length:=by omega
   rw[if_neg (by omega),decide_eq_false (by omega),Option.bind_some,if_neg (by decide),if_pos rfl]
  ·have e1:((n:Int)).tmod 10=((n%10:Nat):Int):=by rw[Int.tmod_eq_emod_of_nonneg (by omega)];omega
   have e2:((n:Int)).tdiv 10=((n/10:Nat):Int):=by rw[Int.tdiv_eq_ediv_of_nonneg (by omega)];omega
   have e3:cat [UInt8.ofNat (48+n%10)] s=some ([UInt8.ofNat (48+n%10)]++s):=by
    unfold cat
    rw[if_pos (by simp only[List.length_cons,List.length_nil];omega)]
   rw[if_pos (by omega),Option.bind_some,if_pos rfl,e1,qoN (Nat.mod_lt _ (by decide)),Option.bind_some,e3,Option.bind_some,e2,ji (by omega) (by omega),if_neg hz]
   match K,hK with
   |0,hK=>simp at hK;omega
   |K+1,hK=>
    rw[qhy K (n/10) _ (by omega) (by simp only[List.length_append,List.length_cons,List.length_nil];omega) (.inr (by simp)) (by rw[Nat.pow_succ]at hK;omega)]
    by_cases hd:n<10
    ·rw[if_pos (by omega),Lib.decDigits,dif_pos hd,Nat.mod_eq_of_lt hd]
    ·rw[if_neg (by omega)]
     conv=>rhs;rw[Lib.decDigits,dif_neg hd]
     rw[List.append_assoc]
theorem qls {N n:Nat} (hN:100<N) (h0:0<n) (hn:n<10^9):qae N (n:Int) 1=some (Lib.decDigits n):=by
 unfold qae
 obtain⟨K,rfl⟩: ∃K,N=K+1:=⟨N-1,by omega⟩
 have mono: ∀(K n:Nat) (s:Str) (r:Str),n<10^9→zm 1 K (n:Int) s=some r→ ∀j,zm 1 (K+j) (n:Int) s=some r:=by
  intro K
  induction K with
  |zero=>intro n s r _ h;simp[zm]at h
  |succ K ih=>
   intro n s r hn h j
   rw[show K+1+j=(K+j)+1 by omega]
   unfold zm at h⊢
   obtain⟨b,e,h⟩:=bnd h
   rw[e,Option.bind_some]
   by_cases hb:b=true
   ·rw[if_pos hb]at h⊢
    obtain⟨x,e1,h⟩:=bnd h
    obtain⟨y,e2,h⟩:=bnd h
    rw[e1,Option.bind_some,e2,Option.bind_some]
    have e4:((n:Int)).tdiv 10=((n/10:Nat):Int):=by rw[Int.tdiv_eq_ediv_of_nonneg (by omega)];omega
    rw[e4,ji (by omega) (by omega)]at h⊢
    exact ih _ _ _ (by omega) h j
   ·rw[if_neg hb]at h⊢
    exact h
 have h:=qhy 9 n [] hn (by simp) (.inl h0) hn
 have h2:=mono _ _ _ _ hn h (K-9)
 rw[show 9+1+(K-9)=K+1 by omega]at h2
 rw[h2,Option.bind_some,if_neg (by omega),List.append_nil]
theorem qml {N n:Nat} (hN:100<N) (hn:n<10^9):xk N (n:Int)=some (Lib.itoa (n:Int)):=by
 have ei:Lib.itoa (n:Int)=Lib.decDigits n:=by unfold Lib.itoa;rw[if_neg (by omega)];simp
 obtain⟨K,rfl⟩: ∃K,N=K+2:=⟨N-2,by omega⟩
 unfold xk qbH qcP
 by_cases h0:n=0
 ·subst h0
  have e1:ja (K+2) [] ((0:Nat):Int)=some []:=by unfold ja;rw[if_neg (by simp)]
  have e2:vK (K+2) []=some []:=by unfold vK;simp
  rw[e1,Option.bind_some]
  simp only[qbe,qcv,e2,Option.bind_some,show decide (((0:Nat):Int)<0)=false by decide,Bool.false_eq_true,if_false]
  simp only[qcn,List.length_nil,Option.bind_some]
  rw[if_pos (by simp),Option.bind_some,Option.bind_some,ei]
  rw[Lib.decDigits,dif_pos (by decide)]
  rfl
 ·have t1:((n:Int)).tmod 1000000000=(n:Int):=by rw[Int.tmod_eq_emod_of_nonneg (by omega)];omega
  have t2:((n:Int)).tdiv 1000000000=((0:Nat):Int):=by rw[Int.tdiv_eq_ediv_of_nonneg (by omega)];omega
  have e0:ja (K+1) [(n:Int)] ((0:Nat):Int)=some [(n:Int)]:=by unfold ja;rw[if_neg (by simp)]
  have e1:ja (K+2) [] (n:Int)=some [(n:Int)]:=by
   unfold ja
   rw[if_pos (by simp;omega),t1,if_neg (by omega),Option.bind_some,zu (by simp) (by simp),Option.bind_some,t2,ji (by omega) (by omega)]
   exact e0
  have e2:vK (K+2) [(n:Int)]=some [(n:Int)]:=by
   unfold vK
   have:w64 ((([(n:Int)].length:Nat):Int)-1)=((0:Nat):Int):=qev (k:=1) (by omega) (by omega)
   rw[if_pos (by simp),this,qx]
   simp only[List.getElem?_cons_zero,Option.bind_some]
   rw[decide_eq_false (by omega),if_neg (by decide)]
  rw[e1,Option.bind_some]
  simp only[qbe,qcv,e2,Option.bind_some]
  rw[decide_eq_false (by omega),if_neg (by decide)]
  simp only[Option.bind_some,qcn]
  have l1:w64 ((([(n:Int)].length:Nat):Int)-1)=((0:Nat):Int):=qev (k:=1) (by omega) (by omega)
  have l2:w64 ((([(n:Int)].length:Nat):Int)-2)= -1:=by
   rw[ji (by simp) (by simp)];simp
  rw[if_neg (by simp),l1,qx]
  simp only[List.getElem?_cons_zero,Option.bind_some]
  rw[qls (by omega) (by omega) hn,Option.bind_some,l2]
  have e3:xg (K+2) ⟨false,[(n:Int)]⟩ (K+2) (Lib.decDigits n) (-1)=some (Lib.decDigits n):=by unfold xg;rw[if_neg (by omega)]
  rw[e3,Option.bind_some,if_neg (by decide),Option.bind_some,ei]
  rfl
def qg5 (x:Nat) (s:Str):Nat:=s.foldl (fun x c=>(31*x+c.toNat)%9999991) x
theorem qgz (x:Nat) (c:UInt8) (s:Str):qg5 x (c::s)=qg5 ((31*x+c.toNat)%9999991) s:=rfl
theorem qhj: ∀(s:Str) {x:Nat},x<9999991→qg5 x s<9999991
 |[],x,h=>h
 |c::s,x,h=>by rw[qgz];exact qhj s (Nat.mod_lt _ (by decide))
theorem qkP {x:Nat} (hx:x<9999991) (c:UInt8):((w64 ((w64 (31*(x:Int)))+(w64 (c.toNat:Int)))).tmod 9999991)=(((31*x+c.toNat)%9999991:Nat):Int):=by
 have hc:c.toNat<256:=c.toNat_lt
 rw[ji (n:=31*(x:Int)) (by omega) (by omega),ji (n:=(c.toNat:Int)) (by omega) (by omega),ji (by omega) (by omega),Int.tmod_eq_emod_of_nonneg (by omega)]
 omega
theorem qno (s:Str) (hs:s.length<100000): ∀(K i x:Nat),x<9999991→i≤s.length→s.length<K+i→yx s K (x:Int) (i:Int)=some ((qg5 x (s.drop i):Nat):Int)
 |0,i,x,_,h1,h2=>by omega
 |K+1,i,x,hx,h1,h2=>by
  unfold yx
  by_cases hi:i<s.length
  ·rw[if_pos (by omega),qx,List.getElem?_eq_getElem hi,Option.bind_some,qkP hx,qA (by omega),qno s hs K (i+1) _ (Nat.mod_lt _ (by decide)) (by omega) (by omega),List.drop_eq_getElem_cons hi,qgz]
  ·rw[if_neg (by omega),List.drop_eq_nil_of_le (by omega)]
   rfl
theorem qlM (s:Str) (hs:s.length<100000): ∀(K i x:Nat),x<9999991→i≤s.length→s.length<K+i→y7 s K (x:Int) (i:Int)=some ((qg5 x (s.drop i):Nat):Int)
 |0,i,x,_,h1,h2=>by omega
 |K+1,i,x,hx,h1,h2=>by
  unfold y7
  by_cases hi:i<s.length
  ·rw[if_pos (by omega),qx,List.getElem?_eq_getElem hi,Option.bind_some,qkP hx,qA (by omega),qlM s hs K (i+1) _ (Nat.mod_lt _ (by decide)) (by omega) (by omega),List.drop_eq_getElem_cons hi,qgz]
  ·rw[if_neg (by omega),List.drop_eq_nil_of_le (by omega)]
   rfl
theorem qfH: ∀(k n:Nat),n<10^(k+1)→(Lib.decDigits n).length≤k+1
 |0,n,h=>by rw[Lib.decDigits,dif_pos (by simpa using h)];simp
 |k+1,n,h=>by
  rw[Lib.decDigits]
  split
  ·simp
  ·have:=qfH k (n/10) (by rw[Nat.pow_succ]at h;omega)
   simp only[List.length_append,List.length_cons,List.length_nil]
   omega
theorem qh8 (n:Nat):Lib.itoa (n:Int)=Lib.decDigits n:=by unfold Lib.itoa;rw[if_neg (by omega)];simp
def qgi (s:Str):Str:=List.replicate (7-(Lib.decDigits (qg5 7 s)).length) 48++Lib.decDigits (qg5 7 s)
theorem ql6: ∀n:Nat,Lib.repeatL [(48:UInt8)] n=List.replicate n 48
 |0=>rfl
 |n+1=>by
  show 48::Lib.repeatL [48] n=_
  rw[ql6 n];rfl
theorem qoK {N:Nat} {s:Str} (hs:s.length<100000) (hN:s.length<N):qbB N s=some (qgi s):=by
 unfold qbB
 have h0:=qno s hs N 0 7 (by decide) (by omega) (by omega)
 have hx:=qhj s (x:=7) (by decide)
 have hl:=qfH 6 (qg5 7 s) (by omega)
 rw[show yx s N 7 0=_ from h0,List.drop_zero,Option.bind_some]
 unfold qde
 rw[if_pos (by omega),qh8,Option.bind_some]
 have e:w64 (7-((Lib.decDigits (qg5 7 s)).length:Int))=((7-(Lib.decDigits (qg5 7 s)).length:Nat):Int):=by rw[ji (by omega) (by omega)];omega
 rw[e]
 unfold qhf
 rw[if_pos (by simp;omega),Option.bind_some,Int.toNat_natCast,ql6]
 unfold cat qgi
 rw[if_pos (by simp;omega)]
 rfl
theorem qlT: ∀(K:Nat) (t:Str),t.length≤7→7<K+t.length→xW K t=some (List.replicate (7-t.length) 48++t)
 |0,t,h1,h2=>by omega
 |K+1,t,h1,h2=>by
  unfold xW
  by_cases h:t.length<7
  ·rw[if_pos (by omega)]
   unfold cat
   rw[if_pos (by simp;omega),Option.bind_some,qlT K _ (by simp;omega) (by simp;omega)]
   have e:7-t.length=(7-([48]++t:Str).length)+1:=by simp;omega
   rw[e,List.replicate_succ',List.append_assoc]
  ·rw[if_neg (by omega),show 7-t.length=0 by omega]
   rfl
theorem ql3 {N:Nat} {s:Str} (hs:s.length<100000) (hN:s.length<N) (h1:100<N):qch N s=some (qgi s):=by
 unfold qch
 have h0:=qlM s hs N 0 7 (by decide) (by omega) (by omega)
 have hx:=qhj s (x:=7) (by decide)
 have hl:=qfH 6 (qg5 7 s) (by omega)
 rw[show y7 s N 7 0=_ from h0,List.drop_zero,Option.bind_some,qml h1 (by omega),qh8,Option.bind_some,qlT N _ hl (by omega)]
 rfl
theorem qik (s:Str):(qgi s).length=7:=by
 have hx:=qhj s (x:=7) (by decide)
 have hl:=qfH 6 (qg5 7 s) (by omega)
 unfold qgi
 simp;omega
def qax (s:Str):Str×Str:=match qdL s with
 |some k=>(s.take k,s.drop (k+1))
 |none=>(s,[])
theorem qpV {s:Str} (hs:s.length<100000): ∃b,strings_Cut s [32]=some ((qax s).1,(qax s).2,b):=by
 have hi:=qkt (s:=s)
 unfold strings_Index at hi
 have hi2:stringslite_Index s [32]=some (qfS 32 s 0):=by
  cases h:stringslite_Index s [32]with
  |none=>rw[h]at hi;cases hi
  |some r=>rw[h]at hi;exact hi
 unfold strings_Cut stringslite_Cut qax
 rw[hi2,Option.bind_some,qgo]
 cases hp:qdL s with
 |none=>exact⟨false,by simp⟩
 |some k=>
  have hk:=(qdp hp).1
  simp only[Nat.zero_add]
  refine⟨true,?_⟩
  have e:w64 ((k:Int)+(([32]:Str).length:Int))=((k+1:Nat):Int):=qA (by omega)
  rw[if_pos (by omega),qbq (by omega),Option.bind_some,e,xx (by omega)]
  rfl
theorem qnl (s:Str): ∃tl,spl [] s=(qax s).1::tl∧(qdL s=none→tl=[]∧(qax s).2=[])∧(∀k,qdL s=some k→tl=spl [] (qax s).2∧(qax s).1.length=k∧k<s.length):=by
 unfold qax
 cases hp:qdL s with
 |none=>
  have h:=(qeV hp).2 []
  exact⟨[],by rw[h];rfl,fun _=>⟨rfl,rfl⟩,fun k h=>by cases h⟩
 |some k=>
  obtain⟨h1,_,h2⟩:=qdp hp
  refine⟨spl [] (s.drop (k+1)),by rw[h2 []];rfl,(fun h=>by cases h),(fun j h=>by
   injection h with h
   subst h
   exact⟨rfl,by simp;omega,h1⟩)⟩
theorem qnV (s:Str) (hs:s.length<100000): ∀(K i:Nat),i≤s.length→s.length<K+i→yf s K (i:Int)=some (if(s.drop i).all y9=true then .inl ()else .inr (ev0,25))
 |0,i,h1,h2=>by omega
 |K+1,i,h1,h2=>by
  unfold yf
  by_cases hi:i<s.length
  ·have ha:(s.drop i).all y9=(y9 s[i]&&(s.drop (i+1)).all y9):=by rw[List.drop_eq_getElem_cons hi,List.all_cons]
   rw[if_pos (by omega),qx,List.getElem?_eq_getElem hi]
   simp only[Option.bind_some]
   have hd:y9 s[i]=(decide (48≤s[i].toNat)&&decide (s[i].toNat≤57)):=rfl
   by_cases h1:s[i].toNat<48
   ·have h0: ¬((s.drop i).all y9=true):=by rw[ha,hd,decide_eq_false (by omega)];simp
    rw[if_pos (by omega),Option.bind_some,if_pos rfl,if_neg h0]
    rfl
   ·rw[if_neg (by omega),Option.bind_some]
    by_cases h3:s[i].toNat≤57
    ·have h0:(s.drop i).all y9=(s.drop (i+1)).all y9:=by rw[ha,hd,decide_eq_true (by omega),decide_eq_true (by omega)];simp
     rw[decide_eq_false (by omega),if_neg (by decide),qA (by omega),qnV s hs K (i+1) (by omega) (by omega)]
     simp only[h0]
    ·have h0: ¬((s.drop i).all y9=true):=by rw[ha,hd,decide_eq_false (p:=s[i].toNat≤57) (by omega)];simp
     rw[decide_eq_true (by omega),if_pos rfl,if_neg h0]
     rfl
  ·rw[if_neg (by omega),List.drop_eq_nil_of_le (by omega)]
   rfl
def qgw (n:Int) (e:qb):qb:=⟨n,e.Kind,e.Names,e.Values,e.Text⟩
theorem qkl (s:Str):(spl [] s).length≤s.length+1:=by rw[qdP];have:=qgc s;omega
theorem qcL {N:Nat} (hN:2000<N) {s:Str} (hs:s.length≤1600) (n:Int):qdV N (qgw n (yP s).1):=by
 have hl:=qkl s
 unfold yP qmi
 split
 ·refine⟨?_,?_,fun w hw=>?_⟩
  ·simp only[qgw,List.length_take,List.length_drop];omega
  ·simp only[qgw,List.length_map,List.length_drop];omega
  ·have:=qci [] s w (List.mem_of_mem_drop (List.mem_of_mem_take hw))
   simp at this;omega
 ·refine⟨by simp[qgw,ev0];omega,by simp[qgw,ev0];omega,fun w hw=>by simp[qgw,ev0]at hw⟩
def qd2 (b:Str):qb×Bool:=
 (qgw (vP (qax b).1).1 (yP (qax b).2).1,(vP (qax b).1).2&&((yP (qax b).2).2&&decide (zL (qgw (vP (qax b).1).1 (yP (qax b).2).1)=0)))
theorem qm5:(yP []).2=false:=by decide
theorem ql2 (s:Str):(qax s).1.length≤s.length∧(qax s).2.length≤s.length:=by
 unfold qax
 split<;>simp<;>omega
theorem qkM {N:Nat} (hN:2000<N) (hM:N<4611686018427387904) {s:Str} (hs:s.length≤1600):qac N s=some (qd2 s):=by
 obtain⟨b,hc⟩:=qpV (s:=s) (by omega)
 have hl:=ql2 s
 unfold qac qd2
 rw[hc,Option.bind_some]
 simp only
 rw[qfF (by omega),Option.bind_some,qgZ (by omega) hN,Option.bind_some]
 by_cases h1:(vP (qax s).1).2=true
 ·rw[if_pos h1,h1]
  by_cases h2:(yP (qax s).2).2=true
  ·have:=qfi hM (by omega) (qcL hN (s:=(qax s).2) (by omega) (vP (qax s).1).1)
   unfold qgw at this⊢
   rw[if_pos h2,this,h2]
   simp
  ·rw[if_neg h2,Bool.eq_false_iff.2 h2]
   simp[qgw]
 ·rw[if_neg h1,Bool.eq_false_iff.2 h1]
  simp[qgw]
def xG (s:Str):qb×Int:=
 if 8≤s.length∧s[s.length-8]? =some 59∧(s.drop (s.length-7)).all y9=true then
  if s.drop (s.length-7)=qgi (s.take (s.length-8))then
   if(qd2 (s.take (s.length-8))).2=true then((qd2 (s.take (s.length-8))).1,0)else(ev0,25)
  else(ev0,27)
 else(ev0,25)
theorem qjy {c:UInt8}:((c.toNat:Int)=59)↔c=59:=⟨fun h=>UInt8.toNat_inj.1 (show c.toNat=59 by omega),fun h=>by subst h;rfl⟩
theorem qoQ {N:Nat} (hN:2000<N) (hM:N<4611686018427387904) {s:Str} (hs:s.length≤1600) (n:Int):
 ∃e b,zO N s n=some (e,b)∧((xG s).2≠0→b=(xG s).2)∧((xG s).2=0→e=(xG s).1∧b=if e.Number=n then 0 else 11):=by
 unfold zO
 have hno: ¬(8≤s.length∧s[s.length-8]? =some 59∧(s.drop (s.length-7)).all y9=true)→xG s=(ev0,25):=fun h=>by unfold xG;rw[if_neg h]
 by_cases h8:8≤s.length
 ·have e1:w64 ((s.length:Int)-7)=((s.length-7:Nat):Int):=by rw[ji (by omega) (by omega)];omega
  have e2:w64 (((s.length-7:Nat):Int)-1)=((s.length-8:Nat):Int):=by rw[qev (by omega) (by omega)];congr 1
  have hi:s.length-8<s.length:=by omega
  simp only[e1,e2]
  rw[if_neg (by omega),qx,List.getElem?_eq_getElem hi,Option.bind_some]
  by_cases hc:s[s.length-8]=59
  ·rw[if_neg (by simp[qjy,hc]),xx (by omega),Option.bind_some,qg2 (by simp;omega),decide_eq_true (by simp;omega),Bool.true_and,Option.bind_some]
   simp only[Option.bind_some]
   by_cases hd:(s.drop (s.length-7)).all y9=true
   ·have hyes:xG s=if s.drop (s.length-7)=qgi (s.take (s.length-8))then
     if(qd2 (s.take (s.length-8))).2=true then((qd2 (s.take (s.length-8))).1,0)else(ev0,25)
     else(ev0,27):=by
     unfold xG
     rw[if_pos ⟨h8,by rw[List.getElem?_eq_getElem hi,hc],hd⟩]
    rw[hd,if_neg (by decide),e2,qbq (by omega),Option.bind_some,xx (by omega),Option.bind_some,qoK (by simp;omega) (by simp;omega),Option.bind_some]
    by_cases ht:s.drop (s.length-7)=qgi (s.take (s.length-8))
    ·rw[if_pos ht]at hyes
     rw[if_neg (by simp[ht]),qkM hN hM (by simp;omega),Option.bind_some,xq,Option.bind_some,xq,Option.bind_some,xZ (by simp) (by simp;omega),Option.bind_some,hyes]
     refine⟨_,_,rfl,?_⟩
     by_cases hb:(qd2 (s.take (s.length-8))).2=true
     ·rw[if_pos hb]
      refine⟨fun h=>absurd rfl h,fun _=>⟨rfl,?_⟩⟩
      by_cases hn:(qd2 (s.take (s.length-8))).1.Number=n
      ·simp[qQ,hb,hn]
      ·simp[qQ,hb,hn]
     ·rw[if_neg hb]
      refine⟨fun _=>?_,fun h=>absurd h (by decide)⟩
      simp[qQ,hb]
    ·rw[if_neg ht]at hyes
     rw[if_pos (by simp[ht]),hyes]
     exact⟨_,_,rfl,fun _=>rfl,fun h=>absurd h (by decide)⟩
   ·rw[Bool.eq_false_iff.2 hd,if_pos (by decide),hno (fun h=>hd h.2.2)]
    exact⟨_,_,rfl,fun _=>rfl,fun h=>absurd h (by decide)⟩
  ·rw[if_pos (by simp[qjy,hc])]
   simp only[Option.bind_some,if_true]
   rw[hno (fun h=>hc (by have:=h.2.1;rw[List.getElem?_eq_getElem hi]at this;exact Option.some.inj this))]
   exact⟨_,_,rfl,fun _=>rfl,fun h=>absurd h (by decide)⟩
 ·rw[hno (fun h=>h8 h.1)]
  have e1:w64 ((s.length:Int)-7)<1:=by rw[ji (by omega) (by omega)];omega
  rw[if_pos e1]
  simp only[Option.bind_some,if_true]
  exact⟨_,_,rfl,fun _=>rfl,fun h=>absurd h (by decide)⟩
theorem qk2 {N:Nat} (hN:2000<N) (hM:N<4611686018427387904) {s:Str} (hs:s.length≤1600):qbj N s=some (xG s):=by
 unfold qbj
 have hno: ¬(8≤s.length∧s[s.length-8]? =some 59∧(s.drop (s.length-7)).all y9=true)→xG s=(ev0,25):=fun h=>by unfold xG;rw[if_neg h]
 by_cases h8:8≤s.length
 ·have e1:w64 ((s.length:Int)-8)=((s.length-8:Nat):Int):=by rw[ji (by omega) (by omega)];omega
  have e2:w64 (((s.length-8:Nat):Int)+1)=((s.length-7:Nat):Int):=by rw[qA (by omega)];congr 1;omega
  have hi:s.length-8<s.length:=by omega
  simp only[e1]
  rw[if_neg (by omega),qx,List.getElem?_eq_getElem hi,Option.bind_some]
  simp only[Option.bind_some]
  by_cases hc:s[s.length-8]=59
  ·rw[if_neg (by simp[qjy,hc]),e2,qnV s (by omega) N (s.length-7) (by omega) (by omega)]
   by_cases hd:(s.drop (s.length-7)).all y9=true
   ·have hyes:xG s=if s.drop (s.length-7)=qgi (s.take (s.length-8))then
     if(qd2 (s.take (s.length-8))).2=true then((qd2 (s.take (s.length-8))).1,0)else(ev0,25)
     else(ev0,27):=by
     unfold xG
     rw[if_pos ⟨h8,by rw[List.getElem?_eq_getElem hi,hc],hd⟩]
    rw[if_pos hd]
    simp only[Option.bind_some]
    rw[qbq (by omega),Option.bind_some,xx (by omega),Option.bind_some,ql3 (by simp;omega) (by simp;omega) (by omega),Option.bind_some,hyes]
    by_cases ht:s.drop (s.length-7)=qgi (s.take (s.length-8))
    ·rw[if_neg (by simp[ht]),if_pos ht]
     generalize hb:s.take (s.length-8)=b
     have hbl:b.length≤1600:=by rw[←hb];simp;omega
     rw[qje (by omega) (by omega),Option.bind_some]
     obtain⟨tl,g1,g2,g3⟩:=qnl b
     have hl:=ql2 b
     rw[g1,y8]
     simp only[List.getElem?_cons_zero,Option.bind_some]
     rw[qeG hN,Option.bind_some]
     unfold qd2
     by_cases hn:(vP (qax b).1).2=true
     ·rw[if_neg (by simp[hn]),Option.bind_some]
      cases hp:qdL b with
      |none=>
       obtain⟨g4,g5⟩:=g2 hp
       rw[g4,decide_eq_true (by simp),if_pos rfl,g5]
       simp[qm5,ev0]
      |some k=>
       obtain⟨g4,g5,g6⟩:=g3 k hp
       have hc2:(qax b).2=b.drop (k+1):=by unfold qax;rw[hp]
       have h2: ¬(((qax b).1::tl).length:Int)<2:=by
        rw[g4]
        have:(spl [] (qax b).2).length=qa1 (qax b).2+1:=qdP _ _
        simp only[List.length_cons,this];omega
       rw[decide_eq_false h2,if_neg (by decide),g5,qA (by omega),xx (by omega),Option.bind_some,←hc2,qi7 (by omega) hN,Option.bind_some]
       by_cases h3:(yP (qax b).2).2=true
       ·have:=qcE hM (qcL hN (s:=(qax b).2) (by omega) (vP (qax b).1).1)
        unfold qgw at this⊢
        rw[if_neg (by simp[h3]),this,Option.bind_some,Option.bind_some]
        by_cases h4:zL ⟨(vP (qax b).1).1,(yP (qax b).2).1.Kind,(yP (qax b).2).1.Names,(yP (qax b).2).1.Values,(yP (qax b).2).1.Text⟩=0
        ·simp[h4,hn,h3]
        ·simp[h4,hn,h3,ev0]
       ·rw[if_pos (by simp[h3]),Option.bind_some,if_pos rfl]
        simp[hn,h3,ev0]
     ·rw[if_pos (by simp[hn]),Option.bind_some,if_pos rfl]
      simp[hn,ev0]
    ·rw[if_pos (by simp[ht]),if_neg ht]
     rfl
   ·rw[if_neg hd,hno (fun h=>hd h.2.2)]
    rfl
  ·rw[if_pos (by simp[qjy,hc]),hno (fun h=>hc (by have:=h.2.1;rw[List.getElem?_eq_getElem hi]at this;exact Option.some.inj this))]
   rfl
 ·rw[hno (fun h=>h8 h.1)]
  have e1:w64 ((s.length:Int)-8)<0:=by rw[ji (by omega) (by omega)];omega
  rw[if_pos e1]
  rfl
theorem qlH {s:Str} (hs:s.length<100000):strings_CutSuffix (s++[10]) [10]=some (s,true):=by
 have hl:(s++[10]:Str).length=s.length+1:=by simp
 have e1:w64 (((s++[10]:Str).length:Int)-(([10]:Str).length:Int))=(s.length:Int):=by
  rw[hl]
  exact qev (k:=s.length+1) (by omega) (by omega)
 unfold strings_CutSuffix stringslite_CutSuffix stringslite_HasSuffix
 rw[if_pos (by simp;omega),e1,xx (by simp),Option.bind_some,Option.bind_some,Option.bind_some]
 have e2:(s++[10]:Str).drop s.length=[10]:=by simp
 rw[e2,if_neg (by decide),qbq (by simp)]
 simp
theorem qm6 {s:Str} (hs:s.length<100000) (h: ∀t,s≠t++[10]):strings_CutSuffix s [10]=some (s,false):=by
 unfold strings_CutSuffix stringslite_CutSuffix stringslite_HasSuffix
 by_cases h1:1≤s.length
 ·have e1:w64 ((s.length:Int)-(([10]:Str).length:Int))=((s.length-1:Nat):Int):=qev (by omega) (by omega)
  have e2: ¬s.drop (s.length-1)=[10]:=fun e=>h (s.take (s.length-1)) (by rw[←e,List.take_append_drop])
  rw[if_pos (by simp;omega),e1,xx (by omega),Option.bind_some,Option.bind_some,Option.bind_some,if_pos (by simp[e2])]
  rfl
 ·rw[if_neg (by simp;omega),Option.bind_some,Option.bind_some,if_pos (by decide)]
  rfl
def qeJ (s:Str) (out:List qb):Int:=if(xG s).2=0 then(if(xG s).1.Number=((out.length+1:Nat):Int)then 0 else 11)else(xG s).2
def oL (out:List qb):Option (List qb):=if out=[]then none else some out
theorem qp3 (out:List qb):hof (oL out)=out:=by
 unfold oL
 split
 ·rename_i h;subst h;rfl
 ·rfl
theorem qmw {N:Nat} (hN:2000<N) (hM:N<4611686018427387904) {s:Str} (hs:s.length≤1600) (a0 a1 n7 e:Int) (out:List qb) (ho:out.length≤2000):
 zP N a0 a1 (oL out) n7 e (s++[10])=some (if qeJ s out=0 then .inl (out++[(xG s).1])else .inr (qeJ s out,oL out)):=by
 unfold zP
 rw[qlH (by omega),Option.bind_some,if_neg (by simp)]
 obtain⟨ev,b,h1,h2,h3⟩:=qoQ hN hM hs ((out.length+1:Nat):Int)
 have hb:b=qeJ s out:=by
  unfold qeJ
  by_cases h0:(xG s).2=0
  ·rw[if_pos h0];obtain⟨e1,e2⟩:=h3 h0;rw[e2,e1]
  ·rw[if_neg h0];exact h2 h0
 have hev:b=0→ev=(xG s).1:=fun h=>by
  by_cases h0:(xG s).2=0
  ·exact(h3 h0).1
  ·exact absurd ((h2 h0).symm.trans h) h0
 have e0:w64 ((0:Int)+1)=1:=by decide
 by_cases hz:out=[]
 ·subst hz
  have h1':zO N s (w64 (0+1))=some (ev,b):=by rw[e0];exact h1
  simp only[oL,if_true,h1',Option.bind_some]
  rw[←hb]
  by_cases h0:b=0
  ·rw[if_neg (by simp[h0]),if_pos h0,hev h0]
   rfl
  ·rw[if_pos (by simp[h0]),if_neg h0]
 ·have h1':zO N s (w64 ((out.length:Int)+1))=some (ev,b):=by rw[qA (by omega)];exact h1
  simp only[oL,if_neg hz,h1',Option.bind_some]
  rw[←hb]
  by_cases h0:b=0
  ·rw[if_neg (by simp[h0]),zu (by simp;omega) (by simp;omega),Option.bind_some,Option.bind_some,if_pos h0,hev h0]
  ·rw[if_pos (by simp[h0]),if_neg h0]
theorem qn3 {N:Nat} {s:Str} (hs:s.length<100000) (h: ∀t,s≠t++[10]) (a0 a1 n7 e:Int) (out:List qb):zP N a0 a1 (oL out) n7 e s=some (.inr (28,oL out)):=by
 unfold zP
 rw[qm6 hs h,Option.bind_some,if_pos (by simp)]
 unfold oL
 by_cases hz:out=[]
 ·rw[if_pos hz];rfl
 ·rw[if_neg hz];rfl
def qd0:Str→Option Nat
 |[]=>none
 |c::s=>if c=10 then some 0 else(qd0 s).map (· +1)
theorem qiK: ∀(s:Str) (j:Nat),qfS 10 s j=match qd0 s with|some k=>((j+k:Nat):Int)|none=> -1
 |[],_=>rfl
 |c::s,j=>by
  show zR (Nat.beq c.toNat 10) (Int.ofNat j) (qfS 10 s (j+1))=_
  rw[qV,qiK s (j+1),qd0]
  by_cases h:c=10
  ·subst h;rfl
  ·have h2:c.toNat≠10:=fun e=>h (UInt8.toNat_inj.1 (by rw[e];rfl))
   rw[if_neg (by rw[qbd h2];simp),if_neg h]
   cases qd0 s with
   |none=>rfl
   |some k=>
    simp only[Option.map_some]
    congr 1
    omega
theorem qi1: ∀{s:Str} {k:Nat},qd0 s=some k→k<s.length∧s.take (k+1)=s.take k++[10]
 |[],k,h=>by cases h
 |c::s,k,h=>by
  unfold qd0 at h
  by_cases hc:c=10
  ·rw[if_pos hc]at h;injection h with h;subst h;subst hc;exact⟨by simp,rfl⟩
  ·rw[if_neg hc]at h
   cases hp:qd0 s with
   |none=>rw[hp]at h;cases h
   |some j=>
    rw[hp]at h;injection h with h;subst h
    obtain⟨h1,h2⟩:=qi1 hp
    exact⟨by simp;omega,by rw[List.take_succ_cons,h2];rfl⟩
theorem qi2: ∀{s:Str},qd0 s=none→ ∀t,s≠t++[10]
 |[],_,t=>by cases t<;>simp
 |c::s,h,t=>by
  unfold qd0 at h
  by_cases hc:c=10
  ·rw[if_pos hc]at h;cases h
  ·rw[if_neg hc]at h
   have hn:qd0 s=none:=by cases hp:qd0 s with
    |none=>rfl
    |some j=>rw[hp]at h;cases h
   intro e
   cases t with
   |nil=>simp at e;exact hc e.1
   |cons d t=>simp at e;exact qi2 hn t e.2
def scan:Str→Str→List qb→Nat→List qb×Nat×Int
 |[],cur,out,f=>(out,f,if cur=[]then 0 else 28)
 |c::s,cur,out,f=>if c=10 then(if qeJ cur out=0 then scan s [] (out++[(xG cur).1]) (f+cur.length+1)else(out,f,qeJ cur out))else scan s (cur++[c]) out f
theorem qiS: ∀{s:Str} (cur:Str) (out:List qb) (f:Nat),qd0 s=none→scan s cur out f=(out,f,if cur++s=[]then 0 else 28)
 |[],cur,out,f,_=>by rw[List.append_nil];rfl
 |c::s,cur,out,f,h=>by
  unfold qd0 at h
  by_cases hc:c=10
  ·rw[if_pos hc]at h;cases h
  ·rw[if_neg hc]at h
   have hn:qd0 s=none:=by cases hp:qd0 s with
    |none=>rfl
    |some j=>rw[hp]at h;cases h
   unfold scan
   rw[if_neg hc,qiS (cur++[c]) out f hn]
   simp
theorem qiY: ∀{s:Str} {k:Nat} (cur:Str) (out:List qb) (f:Nat),qd0 s=some k→
 scan s cur out f=if qeJ (cur++s.take k) out=0 then scan (s.drop (k+1)) [] (out++[(xG (cur++s.take k)).1]) (f+(cur++s.take k).length+1)else(out,f,qeJ (cur++s.take k) out)
 |[],k,cur,out,f,h=>by cases h
 |c::s,k,cur,out,f,h=>by
  unfold qd0 at h
  by_cases hc:c=10
  ·rw[if_pos hc]at h;injection h with h;subst h
   conv=>lhs;unfold scan
   rw[if_pos hc]
   simp
  ·rw[if_neg hc]at h
   cases hp:qd0 s with
   |none=>rw[hp]at h;cases h
   |some j=>
    rw[hp]at h;injection h with h;subst h
    conv=>lhs;unfold scan
    rw[if_neg hc,qiY (cur++[c]) out f hp]
    simp
theorem qkW {N:Nat} (hN:2000<N) (hM:N<4611686018427387904) (a0 a1:Int) {s:Str} (hs:s.length≤1600): ∀(K f:Nat) (out:List qb),f≤s.length→s.length<K+f→out.length≤f→
 qM N a0 a1 s K (f:Int) (oL out) (f:Int)=some (if(scan (s.drop f) [] out f).2.2=0 then .inl (((scan (s.drop f) [] out f).2.1:Int),oL (scan (s.drop f) [] out f).1)
  else .inr (.inr (((scan (s.drop f) [] out f).2.1:Int),(scan (s.drop f) [] out f).2.2,((scan (s.drop f) [] out f).2.1:Int),oL (scan (s.drop f) [] out f).1)))
 |0,f,out,h1,h2,_=>by omega
 |K+1,f,out,h1,h2,h3=>by
  unfold qM
  by_cases hf:f<s.length
  ·have hi:strings_IndexByte (s.drop f) 10=some (qfS 10 (s.drop f) 0):=by
    unfold strings_IndexByte stringslite_IndexByte qii
    rw[if_pos (by decide)];rfl
   rw[if_pos (by omega),xx (by omega),Option.bind_some,hi,Option.bind_some,qiK]
   cases hp:qd0 (s.drop f)with
   |none=>
    have hne:=qi2 hp
    simp only
    rw[if_neg (by omega),Option.bind_some,xx (by omega),Option.bind_some,qn3 (by simp;omega) hne,Option.bind_some,qiS [] out f hp]
    have: ¬(([]:Str)++s.drop f=[]):=by simp;omega
    rw[if_neg this]
    rfl
   |some k=>
    obtain⟨g1,g2⟩:=qi1 hp
    have hk:k<s.length-f:=by simpa using g1
    simp only[Nat.zero_add]
    have e1:w64 (w64 ((f:Int)+(k:Int))+1)=((f+k+1:Nat):Int):=by rw[ji (n:=(f:Int)+k) (by omega) (by omega),ji (by omega) (by omega)];omega
    rw[if_pos (by omega),Option.bind_some,e1,qf2 (by omega) (by omega),Option.bind_some,show f+k+1-f=k+1 by omega,g2,qmw hN hM (by simp;omega) _ _ _ _ _ (by omega),Option.bind_some,qiY [] out f hp]
    simp only[List.nil_append]
    by_cases hb:qeJ ((s.drop f).take k) out=0
    ·have hl:((s.drop f).take k).length=k:=by simp;omega
     simp only[if_pos hb]
     rw[hl,List.drop_drop]
     have ih:=qkW hN hM a0 a1 hs K (f+k+1) (out++[(xG ((s.drop f).take k)).1]) (by omega) (by omega) (by simp;omega)
     have eo:oL (out++[(xG ((s.drop f).take k)).1])=some (out++[(xG ((s.drop f).take k)).1]):=by unfold oL;rw[if_neg (by simp)]
     rw[eo]at ih
     rw[show f+(k+1)=f+k+1 by omega]
     exact ih
    ·simp only[if_neg hb]
  ·rw[if_neg (by omega),List.drop_eq_nil_of_le (by omega)]
   rfl
def finR (n:Nat):((List qb×Int)⊕(List qb×Int×Int))→List qb×Int×Int
 | .inl (l,f)=>if f<(n:Int)then(l,f,28)else(l,f,0)
 | .inr q=>q
theorem qlo {N:Nat} (hN:2000<N) (hM:N<4611686018427387904) {s:Str} (hs:s.length≤1600): ∀(K i f:Nat) (out:List qb),f≤i→i≤s.length→s.length<K+i→out.length≤f→
 ∃r,jG N s K out (f:Int) (i:Int)=some r∧finR s.length r=((scan (s.drop i) ((s.drop f).take (i-f)) out f).1,((scan (s.drop i) ((s.drop f).take (i-f)) out f).2.1:Int),(scan (s.drop i) ((s.drop f).take (i-f)) out f).2.2)
 |0,i,f,out,h0,h1,h2,_=>by omega
 |K+1,i,f,out,h0,h1,h2,h3=>by
  unfold jG
  by_cases hi:i<s.length
  ·rw[if_pos (by omega),qx,List.getElem?_eq_getElem hi,Option.bind_some,List.drop_eq_getElem_cons hi]
   by_cases hc:s[i]=10
   ·have hcl:((s.drop f).take (i-f)).length=i-f:=by simp;omega
    have hn: ¬(!decide ((s[i].toNat:Int)=10))=true:=by rw[hc];decide
    rw[if_neg hn,qf2 (by omega) (by omega),Option.bind_some,qk2 hN hM (by simp;omega),Option.bind_some,qA (by omega)]
    generalize hcur:(s.drop f).take (i-f)=cur at hcl⊢
    have hb:((if(xG cur).2=0 then some (!decide ((xG cur).1.Number=((out.length+1:Nat):Int)))else some false:Option Bool).bind fun b19=>
     (if b19=true then some 11 else some (xG cur).2:Option Int))=some (qeJ cur out):=by
     unfold qeJ
     by_cases hz:(xG cur).2=0
     ·rw[if_pos hz,if_pos hz,Option.bind_some]
      by_cases hnum:(xG cur).1.Number=((out.length+1:Nat):Int)
      ·rw[if_pos hnum,hnum];simp[hz]
      ·rw[if_neg hnum,decide_eq_false hnum];rfl
     ·rw[if_neg hz,if_neg hz,Option.bind_some,if_neg (by decide)]
    have hsc:scan (s[i]::s.drop (i+1)) cur out f=if qeJ cur out=0 then scan (s.drop (i+1)) [] (out++[(xG cur).1]) (f+cur.length+1)else(out,f,qeJ cur out):=by
     conv=>lhs;unfold scan
     rw[if_pos hc]
    obtain⟨b19,hb1,hb2⟩:=bnd hb
    rw[hb1,Option.bind_some,hb2,Option.bind_some,hsc]
    by_cases hz:qeJ cur out=0
    ·rw[if_neg (by simp[hz]),if_pos hz,zu (by simp;omega) (by simp;omega),Option.bind_some,Option.bind_some]
     simp only
     obtain⟨r,e1,e2⟩:=qlo hN hM hs K (i+1) (i+1) (out++[(xG cur).1]) (by omega) (by omega) (by omega) (by simp;omega)
     rw[qA (by omega)]
     refine⟨r,e1,?_⟩
     rw[Nat.sub_self,List.take_zero]at e2
     rw[hcl,show f+(i-f)+1=i+1 by omega]
     exact e2
    ·rw[if_pos (by simp[hz]),if_neg hz]
     exact⟨_,rfl,rfl⟩
   ·have hn:(!decide ((s[i].toNat:Int)=10))=true:=by
     simp only[Bool.not_eq_true',decide_eq_false_iff_not]
     intro e;exact hc (UInt8.toNat_inj.1 (show s[i].toNat=10 by omega))
    rw[if_pos hn,Option.bind_some]
    simp only
    obtain⟨r,e1,e2⟩:=qlo hN hM hs K (i+1) f out (by omega) (by omega) (by omega) h3
    rw[qA (by omega)]
    refine⟨r,e1,?_⟩
    have hsc:scan (s[i]::s.drop (i+1)) ((s.drop f).take (i-f)) out f=scan (s.drop (i+1)) ((s.drop f).take (i+1-f)) out f:=by
     conv=>lhs;unfold scan
     rw[if_neg hc,show i+1-f=(i-f)+1 by omega,List.take_add_one,List.getElem?_drop,show f+(i-f)=i by omega,List.getElem?_eq_getElem hi]
     rfl
    rw[hsc]
    exact e2
  ·rw[if_neg (by omega)]
   refine⟨_,rfl,?_⟩
   rw[List.drop_eq_nil_of_le (show s.length≤i by omega)]
   have e:(s.drop f).take (i-f)=s.drop f:=List.take_of_length_le (by simp;omega)
   rw[e]
   unfold scan
   by_cases hf:f<s.length
   ·have h5: ¬s.drop f=[]:=by simp;omega
    have h6:(f:Int)<(s.length:Int):=by omega
    simp only[finR,if_pos h6,if_neg h5]
   ·have h5:s.drop f=[]:=List.drop_eq_nil_of_le (by omega)
    have h6: ¬(f:Int)<(s.length:Int):=by omega
    simp only[finR,if_neg h6,if_pos h5]
theorem qkT {N:Nat} (hN:2000<N) (hM:N<4611686018427387904) {s:Str} (hs:s.length≤1600):qaR N s=some ((scan s [] [] 0).1,((scan s [] [] 0).2.1:Int),(scan s [] [] 0).2.2):=by
 obtain⟨r,e1,e2⟩:=qlo hN hM hs N 0 0 [] (by omega) (by omega) (by omega) (by simp)
 unfold qaR
 rw[if_neg (by omega),show jG N s N [] 0 0=_ from e1,Option.bind_some]
 rw[show(scan (s.drop 0) ((s.drop 0).take (0-0)) [] 0)=scan s [] [] 0 by simp]at e2
 rw[←e2]
 unfold finR
 rcases r with⟨l,f⟩|q
 ·simp only
  split<;>rfl
 ·rfl
theorem qlG {N:Nat} (hN:2000<N) (hM:N<4611686018427387904) {s:Str} (hs:s.length≤1600):qay N s=some ((scan s [] [] 0).1,((scan s [] [] 0).2.1:Int),(scan s [] [] 0).2.2):=by
 have h:=qkW hN hM 0 0 hs N 0 [] (by omega) (by omega) (by simp)
 rw[List.drop_zero]at h
 unfold qay qaX vB
 rw[if_neg (by omega),Option.bind_some]
 rw[show qM N 0 0 s N 0 (none:Option (List qb)) 0=_ from h]
 by_cases hb:(scan s [] [] 0).2.2=0
 ·rw[if_pos hb]
  simp only[Option.bind_some]
  generalize scan s [] [] 0=r at hb⊢
  obtain⟨l,f,b⟩:=r
  simp only at hb⊢
  subst hb
  unfold oL
  by_cases hl:l=[]
  ·subst hl;rfl
  ·rw[if_neg hl];rfl
 ·rw[if_neg hb]
  simp only[Option.bind_some,qp3]
def qaU:List Str→Str
 |[]=>[]
 |[x]=>x
 |x::y::r=>x++32::qaU (y::r)
theorem qoI (a s:Str):spl a s≠[]:=by
 have:=qdP a s
 intro h
 rw[h]at this
 simp at this
theorem qlF {x:Str} {l:List Str} (h:l≠[]):qaU (x::l)=x++32::qaU l:=by
 cases l with
 |nil=>exact absurd rfl h
 |cons y r=>rfl
def qfp (e:qb):List Str:=Lib.itoa e.Number::e.Kind::(e.Names++e.Values.map Lib.itoa)
def qaJ (e:qb):Str:=qaU (qfp e)
def qky (e:qb):Str:=qaJ e++[59]++qgi (qaJ e)++[10]
def qea (l:List qb):Str:=l.flatMap qky
def tailW (l:List Str):Str:=l.flatMap fun w=>32::w
theorem qfy (x:Str) (l:List Str):tailW (x::l)=[32]++x++tailW l:=rfl
theorem qby: ∀(x:Str) (l:List Str),qaU (x::l)=x++tailW l
 |x,[]=>by simp[qaU,tailW]
 |x,y::r=>by rw[qlF (by simp),qby y r];simp[tailW]
structure qeO (e:qb):Prop where
 n:0≤e.Number∧e.Number<1000000000
 v: ∀x∈e.Values,0≤x∧x<1000000000
 names:e.Names.length≤100
 vals:e.Values.length≤100
 size:(qaJ e).length≤1000000
theorem qbm {a b:Str} (h:(a++b).length≤1000000000):cat a b=some (a++b):=by
 unfold cat
 rw[if_pos (by simp at h;omega)]
theorem qf8 {N:Nat} (hN:100<N) {x:Int} (h:0≤x∧x<1000000000):xk N x=some (Lib.itoa x):=by
 obtain⟨n,rfl⟩: ∃n:Nat,x=(n:Int):=⟨x.toNat,by omega⟩
 exact qml hN (by omega)
theorem qlW {e:qb} (hn:e.Names.length≤100): ∀(K i:Nat) (s:Str),i≤e.Names.length→e.Names.length<K+i→(s++tailW (e.Names.drop i)).length≤100000000→yA e K s (i:Int)=some (s++tailW (e.Names.drop i))
 |0,i,s,h1,h2,_=>by omega
 |K+1,i,s,h1,h2,h3=>by
  unfold yA
  by_cases hi:i<e.Names.length
  ·have ed:e.Names.drop i=e.Names[i]::e.Names.drop (i+1):=List.drop_eq_getElem_cons hi
   have et:s++tailW (e.Names.drop i)=(s++[32]++e.Names[i])++tailW (e.Names.drop (i+1)):=by rw[ed,qfy,←List.append_assoc,←List.append_assoc]
   rw[et]at h3⊢
   have h4:=h3
   rw[List.length_append]at h4
   rw[if_pos (by omega),qbm (by simp at h4⊢;omega),Option.bind_some,qx,List.getElem?_eq_getElem hi,Option.bind_some,qbm (by omega),Option.bind_some,qA (by omega),qlW hn K (i+1) _ (by omega) (by omega) h3]
  ·rw[if_neg (by omega),List.drop_eq_nil_of_le (by omega)]
   simp[tailW]
theorem qlX {N:Nat} (hN:100<N) {e:qb} (hn:e.Values.length≤100) (hv: ∀x∈e.Values,0≤x∧x<1000000000): ∀(K i:Nat) (s:Str),i≤e.Values.length→e.Values.length<K+i→(s++tailW ((e.Values.drop i).map Lib.itoa)).length≤100000000→yz N e K s (i:Int)=some (s++tailW ((e.Values.drop i).map Lib.itoa))
 |0,i,s,h1,h2,_=>by omega
 |K+1,i,s,h1,h2,h3=>by
  unfold yz
  by_cases hi:i<e.Values.length
  ·have ed:e.Values.drop i=e.Values[i]::e.Values.drop (i+1):=List.drop_eq_getElem_cons hi
   have et:s++tailW ((e.Values.drop i).map Lib.itoa)=(s++[32]++Lib.itoa e.Values[i])++tailW ((e.Values.drop (i+1)).map Lib.itoa):=by rw[ed,List.map_cons,qfy,←List.append_assoc,←List.append_assoc]
   rw[et]at h3⊢
   have h4:=h3
   rw[List.length_append]at h4
   rw[if_pos (by omega),qbm (by simp at h4⊢;omega),Option.bind_some,qx,List.getElem?_eq_getElem hi,Option.bind_some,qf8 hN (hv _ (List.getElem_mem hi)),Option.bind_some,qbm (by omega),Option.bind_some,qA (by omega),qlX hN hn hv K (i+1) _ (by omega) (by omega) h3]
  ·rw[if_neg (by omega),List.drop_eq_nil_of_le (by omega)]
   simp[tailW]
theorem qoW {N:Nat} (hN:2000<N) {e:qb} (h:qeO e):qbD N e=some (qaJ e):=by
 have hsz:=h.size
 have eb:qaJ e=((Lib.itoa e.Number++[32]++e.Kind)++tailW e.Names)++tailW (e.Values.map Lib.itoa):=by
  unfold qaJ qfp
  rw[qby]
  simp[tailW]
 rw[eb]at hsz⊢
 have h1:=hsz
 rw[List.length_append]at h1
 have h2:=h1
 rw[List.length_append]at h2
 have g0:=qlW h.names N 0 (Lib.itoa e.Number++[32]++e.Kind) (by omega) (by have:=h.names;omega) (by rw[List.drop_zero];omega)
 have g1:=qlX (show 100<N by omega) h.vals h.v N 0 ((Lib.itoa e.Number++[32]++e.Kind)++tailW e.Names) (by omega) (by have:=h.vals;omega) (by rw[List.drop_zero];omega)
 rw[List.drop_zero]at g0 g1
 unfold qbD
 rw[qf8 (by omega) h.n,Option.bind_some,qbm (by simp at h2⊢;omega),Option.bind_some,qbm (by omega),Option.bind_some,show yA e N _ 0=_ from g0,Option.bind_some,show yz N e N _ 0=_ from g1]
 rfl
theorem qiD: ∀(r:List Str),Lib.joinTail [32] r=tailW r
 |[]=>rfl
 |x::r=>by
  have:=qiD r
  unfold Lib.joinTail at this⊢
  rw[List.map_cons,List.flatten_cons,this]
  rfl
theorem qon: ∀(l:List Str),Lib.join l [32]=qaU l
 |[]=>rfl
 |x::r=>by rw[Lib.join_cons,qby,qiD]
theorem qiX {a:List Int} (hl:a.length≤100) (hv: ∀x∈a,0≤x∧x<1000000000): ∀(K k:Nat) (o:List Str),k≤a.length→a.length<K+k→o.length≤k→qP a K o (k:Int)=some (o++(a.drop k).map Lib.itoa)
 |0,k,o,h1,h2,_=>by omega
 |K+1,k,o,h1,h2,h3=>by
  unfold qP
  by_cases hk:k<a.length
  ·have hx:=hv _ (List.getElem_mem hk)
   have ht:qde a[k]=some (Lib.itoa a[k]):=by unfold qde;rw[if_pos (by omega)]
   rw[if_pos (by omega),qx,List.getElem?_eq_getElem hk,Option.bind_some,show qbI a[k]=some true from rfl,Option.bind_some,if_pos rfl,ht,Option.bind_some,zu (by simp;omega) (by simp;omega),Option.bind_some,Option.bind_some,qA (by omega),qiX hl hv K (k+1) _ (by omega) (by omega) (by simp;omega),List.drop_eq_getElem_cons hk,List.map_cons,List.append_assoc]
   rfl
  ·rw[if_neg (by omega),List.drop_eq_nil_of_le (by omega)]
   simp
theorem qi0 {N:Nat} (hN:2000<N) {a:List Int} (hl:a.length≤100) (hv: ∀x∈a,0≤x∧x<1000000000):zo N a=some (a.map Lib.itoa):=by
 unfold zo
 have h:=qiX hl hv N 0 [] (by omega) (by omega) (by simp)
 rw[show qP a N [] 0=_ from h]
 simp
theorem qiL {sl:List (List Str)} (hs:sl.length≤100): ∀(K k n:Nat),k≤sl.length→sl.length<K+k→n+(sl.drop k).flatten.length≤100000→ku sl K (k:Int) (n:Int)=some ((n+(sl.drop k).flatten.length:Nat):Int)
 |0,k,n,h1,h2,_=>by omega
 |K+1,k,n,h1,h2,h3=>by
  unfold ku
  by_cases hk:k<sl.length
  ·have hd:sl.drop k=sl[k]::sl.drop (k+1):=List.drop_eq_getElem_cons hk
   rw[hd]at h3⊢
   rw[List.flatten_cons,List.length_append]at h3⊢
   have e1:w64 ((n:Int)+(sl[k].length:Int))=((n+sl[k].length:Nat):Int):=by rw[ji (by omega) (by omega)];omega
   rw[if_pos (by omega),qx,List.getElem?_eq_getElem hk,Option.bind_some,e1,if_neg (by omega),Option.bind_some,qA (by omega),qiL hs K (k+1) _ (by omega) (by omega) (by omega)]
   congr 2
   omega
  ·rw[if_neg (by omega),List.drop_eq_nil_of_le (by omega)]
   simp
theorem qiA {sl:List (List Str)} (hs:sl.length≤100): ∀(K k:Nat) (o:List Str),k≤sl.length→sl.length<K+k→o.length+(sl.drop k).flatten.length≤100000→ky sl K (some o) (k:Int)=some (some (o++(sl.drop k).flatten))
 |0,k,o,h1,h2,_=>by omega
 |K+1,k,o,h1,h2,h3=>by
  unfold ky
  by_cases hk:k<sl.length
  ·have hd:sl.drop k=sl[k]::sl.drop (k+1):=List.drop_eq_getElem_cons hk
   rw[hd]at h3⊢
   rw[List.flatten_cons,List.length_append]at h3
   rw[List.flatten_cons]
   rw[if_pos (by omega),qx,List.getElem?_eq_getElem hk,Option.bind_some]
   simp only
   rw[zu (by omega) (by omega),Option.bind_some,Option.bind_some,qA (by omega),qiA hs K (k+1) _ (by omega) (by omega) (by rw[List.length_append];omega),List.append_assoc]
  ·rw[if_neg (by omega),List.drop_eq_nil_of_le (by omega)]
   simp
theorem qo8 {n:Nat} (h0:0<n) (h1:n≤100000):j5 (n:Int)=some (some []):=by
 unfold j5
 have e1:w64 ((n:Int)-(w64 (0-0)))=(n:Int):=by
  rw[show w64 (0-0)=0 by decide,ji (by omega) (by omega)]
  omega
 rw[e1,if_neg (by omega),Option.bind_some,if_pos (by omega)]
 have e2:qkL 16 (n:Int) ([]:Str)=some (List.replicate n []):=by
  unfold qkL
  rw[if_pos (by omega)]
  simp
 rw[e2]
 rfl
theorem qmL {N:Nat} (hN:2000<N) {sl:List (List Str)} (hs:sl.length≤100) (h0:0<sl.flatten.length) (h1:sl.flatten.length≤100000):vN N sl=some sl.flatten:=by
 have g0:=qiL hs N 0 0 (by omega) (by omega) (by rw[List.drop_zero];omega)
 have g1:=qiA hs N 0 [] (by omega) (by omega) (by rw[List.drop_zero];simp at h1⊢;omega)
 rw[List.drop_zero]at g0 g1
 unfold vN
 rw[show ku sl N 0 0=_ from g0,Option.bind_some,Nat.zero_add,qo8 h0 h1,Option.bind_some,show ky sl N (some []) 0=_ from g1]
 rfl
theorem qoF {N:Nat} (hN:2000<N) {e:qb} (h:qeO e):qa8 N e=some (qaJ e):=by
 unfold qa8 jV
 have ht:qde e.Number=some (Lib.itoa e.Number):=by unfold qde;rw[if_pos (by have:=h.n;omega)]
 have hn:=h.names
 have hv:=h.vals
 have hsz:=h.size
 rw[ht,Option.bind_some,qi0 hN h.vals h.v,Option.bind_some,qmL hN (by simp) (by simp) (by simp;omega),Option.bind_some]
 have e1:([[Lib.itoa e.Number,e.Kind],e.Names,e.Values.map Lib.itoa]:List (List Str)).flatten=qfp e:=by simp[qfp]
 rw[e1]
 unfold qfe
 rw[qon,if_pos ⟨by simp[qfp];omega,by rw[show qaU (qfp e)=qaJ e from rfl];omega⟩]
 rfl
theorem qo6 {N:Nat} (hN:2000<N) {e:qb} (h:qeO e) (hs:(qaJ e).length<2000):qaQ N e=some (qky e):=by
 unfold qaQ
 have e1:=qik (qaJ e)
 rw[qoF hN h,Option.bind_some,qbm (by simp;omega),Option.bind_some,Option.bind_some,qoK (by omega) (by omega),Option.bind_some,qbm (by simp;omega),Option.bind_some,qbm (by simp;omega),Option.bind_some]
 rfl
theorem qmd {N:Nat} (hN:2000<N) {l:List qb} (hl:l.length≤1000) (hw: ∀e∈l,qeO e∧(qaJ e).length<2000): ∀(K k:Nat) (s:Str),k≤l.length→l.length<K+k→(s++qea (l.drop k)).length≤100000000→yV N l K s (k:Int)=some (s++qea (l.drop k))
 |0,k,s,h1,h2,_=>by omega
 |K+1,k,s,h1,h2,h3=>by
  unfold yV
  by_cases hk:k<l.length
  ·have hd:l.drop k=l[k]::l.drop (k+1):=List.drop_eq_getElem_cons hk
   obtain⟨w1,w2⟩:=hw _ (List.getElem_mem hk)
   have e1:=qik (qaJ l[k])
   have et:s++qea (l.drop k)=(s++qaJ l[k]++[59]++qgi (qaJ l[k])++[10])++qea (l.drop (k+1)):=by
    rw[hd,qea,List.flatMap_cons,qky,qea]
    simp
   rw[et]at h3⊢
   have h4:=h3
   rw[List.length_append]at h4
   have h5:(s++qaJ l[k]++[59]++qgi (qaJ l[k])++[10]).length≤100000000:=by omega
   rw[if_pos (by omega),qx,List.getElem?_eq_getElem hk,Option.bind_some,qoW hN w1,Option.bind_some,qbm (by simp at h5⊢;omega),Option.bind_some,qbm (by simp at h5⊢;omega),Option.bind_some,Option.bind_some,ql3 (by omega) (by omega) (by omega),Option.bind_some,qbm (by simp at h5⊢;omega),Option.bind_some,qbm (by simp at h5⊢;omega),Option.bind_some,qA (by omega),qmd hN hl hw K (k+1) _ (by omega) (by omega) h3]
  ·rw[if_neg (by omega),List.drop_eq_nil_of_le (by omega)]
   simp[qea]
theorem qpp {N:Nat} (hN:2000<N) {l:List qb} (hl:l.length≤1000) (hw: ∀e∈l,qeO e∧(qaJ e).length<2000) (hs:(qea l).length≤1000000):qcf N l=some (qea l):=by
 unfold qcf
 have h:=qmd hN hl hw N 0 [] (by omega) (by omega) (by rw[List.drop_zero];simp;omega)
 rw[List.drop_zero]at h
 rw[show yV N l N [] 0=_ from h]
 rfl
theorem qiC (l:List Int) (hl:l.length<4611686018427387904): ∀(K k:Nat),k≤l.length→l.length<K+k→yL l K (k:Int)=some (if qQ (l.drop k)=0 then .inl ()else .inr (qQ (l.drop k)))
 |0,k,h,hK=>by omega
 |K+1,k,h,hK=>by
  unfold yL
  by_cases hk:k<l.length
  ·rw[if_pos (by omega),qx,List.getElem?_eq_getElem hk,List.drop_eq_getElem_cons hk,qA (by omega),qiC l hl K (k+1) (by omega) (by omega)]
   simp only[Option.bind_some,qQ]
   by_cases h0:l[k]=0
   ·simp[h0]
   ·simp[h0]
  ·rw[if_neg (by omega),List.drop_of_length_le (by omega)]
   rfl
theorem qmP {N:Nat} {l:List Int} (hl:l.length<4611686018427387904) (h:l.length<N):qbQ N l=some (qQ l):=by
 unfold qbQ
 rw[show(0:Int)=((0:Nat):Int)from rfl,qiC l hl N 0 (Nat.zero_le _) (by omega),List.drop_zero]
 by_cases h0:qQ l=0
 ·simp[h0]
 ·simp[h0]
theorem qjv {N:Nat} (l:List Str) (hl:l.length<4611686018427387904) (hN:l.length<N):qaa N l l=some true:=by
 have key: ∀(K k:Nat),k≤l.length→l.length<K+k→zx l l K (k:Int)=some (.inl ()):=by
  intro K
  induction K with
  |zero=>intro k h hK;omega
  |succ K ih=>
   intro k h hK
   unfold zx
   by_cases hk:k<l.length
   ·rw[if_pos (by omega),qx,List.getElem?_eq_getElem hk,Option.bind_some,Option.bind_some,qA (by omega),if_neg (by simp)]
    exact ih (k+1) (by omega) (by omega)
   ·rw[if_neg (by omega)]
 unfold qaa
 rw[if_neg (by simp),show zx l l N 0=zx l l N ((0:Nat):Int)from rfl,key N 0 (by omega) (by omega)]
 rfl
theorem qj1 {N:Nat} (l:List Int) (hl:l.length<4611686018427387904) (hN:l.length<N):qap N l l=some true:=by
 have key: ∀(K k:Nat),k≤l.length→l.length<K+k→zQ l l K (k:Int)=some (.inl ()):=by
  intro K
  induction K with
  |zero=>intro k h hK;omega
  |succ K ih=>
   intro k h hK
   unfold zQ
   by_cases hk:k<l.length
   ·rw[if_pos (by omega),qx,List.getElem?_eq_getElem hk,Option.bind_some,Option.bind_some,qA (by omega),if_neg (by simp)]
    exact ih (k+1) (by omega) (by omega)
   ·rw[if_neg (by omega)]
 unfold qap
 rw[if_neg (by simp),show zQ l l N 0=zQ l l N ((0:Nat):Int)from rfl,key N 0 (by omega) (by omega)]
 rfl
theorem qiu {N:Nat} (l:List qb) (hl:l.length≤1003) (hN:2000<N) (hM:N<4611686018427387904) (hs: ∀e∈l,e.Names.length<N∧e.Values.length<N):yC N l l=some true:=by
 have key: ∀(K k:Nat),k≤l.length→l.length<K+k→zk N l l K (k:Int)=some (.inl ()):=by
  intro K
  induction K with
  |zero=>intro k h hK;omega
  |succ K ih=>
   intro k h hK
   unfold zk
   by_cases hk:k<l.length
   ·obtain⟨h1,h2⟩:=hs _ (List.getElem_mem hk)
    rw[if_pos (by omega),qx,List.getElem?_eq_getElem hk,Option.bind_some,Option.bind_some,if_neg (by simp),if_neg (by simp),qjv _ (by omega) h1,Option.bind_some,if_neg (by simp),qj1 _ (by omega) h2,Option.bind_some,if_neg (by simp),Option.bind_some,qA (by omega),if_neg (by simp)]
    exact ih (k+1) (by omega) (by omega)
   ·rw[if_neg (by omega)]
 unfold yC
 rw[if_neg (by simp),show zk N l l N 0=zk N l l N ((0:Nat):Int)from rfl,key N 0 (by omega) (by omega)]
 rfl
theorem qgx {m:Nat}: ∀(l:List Str),(∀w∈l,w.length≤m)→(tailW l).length≤l.length*(m+1)
 |[],_=>by simp[tailW]
 |x::l,h=>by
  have h1:=qgx l fun w hw=>h w (List.mem_cons_of_mem _ hw)
  have h2:=h x (List.mem_cons_self ..)
  have h3:(l.length+1)*(m+1)=l.length*(m+1)+(m+1):=Nat.succ_mul ..
  rw[qfy]
  simp only[List.length_append,List.length_cons,List.length_nil,h3]
  omega
theorem qfO {x:Int} (h:0≤x∧x<1000000000):(Lib.itoa x).length≤9:=by
 obtain⟨n,rfl⟩: ∃n:Nat,x=(n:Int):=⟨x.toNat,by omega⟩
 rw[qh8]
 exact qfH 8 n (by omega)
theorem qa6 {e:qb} (h:zL e=0):qeO e∧(qaJ e).length≤200∧e.Names.length≤5∧e.Values.length≤5:=by
 have hv:=qdJ h
 have hn:=qdG h
 have hk:e.Names.length≤2∧e.Values.length≤3∧e.Kind.length≤6:=by
  have h1:=hv.names
  have h2:=hv.values
  rcases qj9 hv.form with h3|h3|h3|h3|h3|h3
  ·rw[h3,show zn xY=(2,3,true)by decide]at h1 h2;rw[h3];simp only at h1 h2;exact⟨by omega,by omega,by decide⟩
  ·rw[h3,show zn qaK=(1,2,true)by decide]at h1 h2;rw[h3];simp only at h1 h2;exact⟨by omega,by omega,by decide⟩
  ·rw[h3,show zn qcu=(1,2,true)by decide]at h1 h2;rw[h3];simp only at h1 h2;exact⟨by omega,by omega,by decide⟩
  ·rw[h3,show zn qal=(1,1,true)by decide]at h1 h2;rw[h3];simp only at h1 h2;exact⟨by omega,by omega,by decide⟩
  ·rw[h3,show zn zV=(1,1,true)by decide]at h1 h2;rw[h3];simp only at h1 h2;exact⟨by omega,by omega,by decide⟩
  ·rw[h3,show zn qbR=(0,0,true)by decide]at h1 h2;rw[h3];simp only at h1 h2;exact⟨by omega,by omega,by decide⟩
 have hnum:0≤e.Number∧e.Number<1000000000:=by have:=hv.num;omega
 have hval: ∀x∈e.Values,0≤x∧x<1000000000:=fun x hx=>by have:=hv.range x hx;omega
 have hb:(qaJ e).length≤200:=by
  have h1:=qfO hnum
  have h2:=qgx (m:=24) (e.Kind::(e.Names++e.Values.map Lib.itoa)) (fun w hw=>by
   simp only[List.mem_cons,List.mem_append,List.mem_map]at hw
   rcases hw with rfl|hw|⟨x,hx,rfl⟩
   ·omega
   ·exact qeR (List.all_eq_true.1 hn w hw)
   ·have:=qfO (hval x hx);omega)
  unfold qaJ qfp
  rw[qby,List.length_append]
  simp only[List.length_cons,List.length_append,List.length_map]at h2
  omega
 exact⟨⟨hnum,hval,by omega,by omega,by omega⟩,hb,by omega,by omega⟩
theorem qoS {s:Str} {out:List qb} (h:qeJ s out=0):(xG s).2=0∧(xG s).1.Number=((out.length+1:Nat):Int):=by
 unfold qeJ at h
 by_cases h0:(xG s).2=0
 ·rw[if_pos h0]at h
  by_cases h1:(xG s).1.Number=((out.length+1:Nat):Int)
  ·exact⟨h0,h1⟩
  ·rw[if_neg h1]at h;cases h
 ·rw[if_neg h0]at h;exact absurd h h0
theorem qpj {s:Str} (h:(xG s).2=0):8≤s.length∧zL (xG s).1=0:=by
 unfold xG at h⊢
 split at h
 ·rename_i h1
  rw[if_pos h1]
  split at h
  ·rename_i h2
   rw[if_pos h2]
   split at h
   ·rename_i h3
    rw[if_pos h3]
    refine⟨h1.1,?_⟩
    unfold qd2 at h3⊢
    simp only[Bool.and_eq_true,decide_eq_true_eq]at h3
    exact h3.2.2
   ·cases h
  ·cases h
 ·cases h
theorem qjg: ∀(s cur:Str) (out:List qb) (f:Nat),(scan s cur out f).1.length*9≤out.length*9+cur.length+s.length∧((∀e∈out,zL e=0)→ ∀e∈(scan s cur out f).1,zL e=0)
 |[],cur,out,f=>by
  unfold scan
  exact⟨by simp only;omega,fun h=>h⟩
 |c::s,cur,out,f=>by
  unfold scan
  by_cases hc:c=10
  ·rw[if_pos hc]
   by_cases hb:qeJ cur out=0
   ·rw[if_pos hb]
    obtain⟨h1,h2⟩:=qpj (qoS hb).1
    obtain⟨g1,g2⟩:=qjg s [] (out++[(xG cur).1]) (f+cur.length+1)
    refine⟨by simp only[List.length_append,List.length_cons,List.length_nil]at g1⊢;omega,fun h=>g2 fun e he=>?_⟩
    rw[List.mem_append,List.mem_singleton]at he
    rcases he with he|rfl
    ·exact h e he
    ·exact h2
   ·rw[if_neg hb]
    exact⟨by simp only[List.length_cons];omega,fun h=>h⟩
  ·rw[if_neg hc]
   obtain⟨g1,g2⟩:=qjg s (cur++[c]) out f
   exact⟨by simp only[List.length_append,List.length_cons,List.length_nil]at g1⊢;omega,g2⟩
end Go.Av
