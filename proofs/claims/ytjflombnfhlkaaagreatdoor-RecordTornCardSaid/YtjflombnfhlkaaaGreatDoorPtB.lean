/-
  Chapter 10: words of a line, and integers in texts.
-/
import Derived.Test.YtjflombnfhlkaaaGreatDoorPtA
noncomputable section
namespace Go.Av
set_option linter.unusedSimpArgs false
set_option linter.unusedVariables false
def spl:Str→Str→List Str
 |a,[]=>[a]
 |a,c::s=>if c=32 then a::spl [] s else spl (a++[c]) s
noncomputable def qaR (s:Str):Nat:=qjy 32 s
theorem qdc (c:UInt8) (s:Str):qaR (c::s)=if c=32 then qaR s+1 else qaR s:=by
 show zW (Nat.beq c.toNat 32) (Nat.succ (qaR s)) (qaR s)=_
 rw[qU]
 by_cases h:c=32
 ·subst h;rfl
 ·have h2:c.toNat≠32:=fun e=>h (UInt8.toNat_inj.1 (by rw[e];rfl))
  rw[if_neg (by rw[qaZ h2];simp),if_neg h]
theorem qgw: ∀s:Str,qaR s≤s.length
 |[]=>Nat.le_refl _
 |c::s=>by
  have:=qgw s
  rw[qdc,List.length_cons]
  split<;>omega
def qdI:Str→Option Nat
 |[]=>none
 |c::s=>if c=32 then some 0 else(qdI s).map (· +1)
theorem qep: ∀(s:Str) (j:Nat),qfp 32 s j=match qdI s with|some k=>((j+k:Nat):Int)|none=> -1
 |[],_=>rfl
 |c::s,j=>by
  show zW (Nat.beq c.toNat 32) (Int.ofNat j) (qfp 32 s (j+1))=_
  rw[qU,qep s (j+1),qdI]
  by_cases h:c=32
  ·subst h;rfl
  ·have h2:c.toNat≠32:=fun e=>h (UInt8.toNat_inj.1 (by rw[e];rfl))
   rw[if_neg (by rw[qaZ h2];simp),if_neg h]
   cases qdI s with
   |none=>rfl
   |some k=>
    simp only[Option.map_some]
    congr 1
    omega
theorem qfH: ∀{s:Str},qdI s=none→qaR s=0∧ ∀a,spl a s=[a++s]
 |[],_=>⟨rfl,fun a=>by simp[spl]⟩
 |c::s,h=>by
  unfold qdI at h
  by_cases hc:c=32
  ·rw[if_pos hc]at h;cases h
  ·rw[if_neg hc]at h
   cases hp:qdI s with
   |some k=>rw[hp]at h;cases h
   |none=>
    obtain⟨h1,h2⟩:=qfH hp
    refine⟨by rw[qdc,if_neg hc,h1],fun a=>?_⟩
    rw[spl,if_neg hc,h2]
    simp
theorem qer: ∀{s:Str} {k:Nat},qdI s=some k→k<s.length∧qaR s=qaR (s.drop (k+1))+1∧ ∀a,spl a s=(a++s.take k)::spl [] (s.drop (k+1))
 |[],_,h=>by cases h
 |c::s,k,h=>by
  unfold qdI at h
  by_cases hc:c=32
  ·rw[if_pos hc]at h
   obtain rfl:=Option.some.inj h
   refine⟨by simp,?_,fun a=>?_⟩
   ·rw[qdc,if_pos hc];rfl
   ·rw[spl,if_pos hc];simp
  ·rw[if_neg hc]at h
   cases hp:qdI s with
   |none=>rw[hp]at h;cases h
   |some j=>
    rw[hp]at h
    obtain rfl:=Option.some.inj h
    obtain⟨h1,h2,h3⟩:=qer hp
    refine⟨by simp;omega,?_,fun a=>?_⟩
    ·rw[qdc,if_neg hc,h2,List.drop_succ_cons]
    ·rw[spl,if_neg hc,h3]
     simp
theorem qpp {s:Str} (h:qaR s=0):qdI s=none:=by
 cases hp:qdI s with
 |none=>rfl
 |some k=>have:=(qer hp).2.1;omega
theorem qgD: ∀(a s:Str),(spl a s).length=qaR s+1
 |a,[]=>rfl
 |a,c::s=>by
  rw[qdc,spl]
  by_cases hc:c=32
  ·rw[if_pos hc,if_pos hc,List.length_cons,qgD]
  ·rw[if_neg hc,if_neg hc,qgD]
theorem qht {s:Str}:strings_Index s [32]=some (qfp 32 s 0):=by
 unfold strings_Index stringslite_Index stringslite_IndexByte qhG
 have h0: ¬(([32]:Str).length:Int)=0:=by simp
 have h1:(([32]:Str).length:Int)=1:=by simp
 rw[if_neg h0]
 simp only[Option.bind_some]
 by_cases hs:(([32]:Str)==s)=true
 ·have:s=[32]:=(beq_iff_eq.1 hs).symm
  subst this
  rfl
 ·rw[if_neg hs,if_pos h1,qav,show([32]:Str)[0]? =some 32 from rfl,Option.bind_some,if_pos (by decide)]
  rfl
theorem qnP {N:Nat} {s:Str}:strings_Count N s [32]=some (qaR s:Int):=by
 unfold strings_Count qi4
 have h0: ¬(([32]:Str).length:Int)=0:=by simp
 have h1:(([32]:Str).length:Int)=1:=by simp
 rw[if_neg h0,if_pos h1,qav,show([32]:Str)[0]? =some 32 from rfl,Option.bind_some,if_pos (by decide)]
 rfl
theorem qgc (s0:Str) (n:Int) (c:Nat) (hc:c<4611686018427387904) (hn:w64 ((if(w64 ((s0.length:Int)+1))<n then(w64 ((s0.length:Int)+1))else n)-1)=(c:Int)): ∀(K:Nat) (l:List Str) (s:Str) (i:Nat),i+qaR s=c→l.length=c+1→c<K+i→s.length<4611686018427387904→
 ∃l' s',zN s0 [32] 0 n K l s (i:Int)=some (l',s',(c:Int))∧l'.length=c+1∧l'.take c++[s']=l.take i++spl [] s
 |0,l,s,i,h,hl,hK,hs=>by omega
 |K+1,l,s,i,h,hl,hK,hs=>by
  unfold zN
  rw[hn]
  by_cases hi:i<c
  ·rw[if_pos (by omega),qht,qep]
   cases hp:qdI s with
   |none=>have:=(qfH hp).1;omega
   |some k=>
    obtain⟨h1,h2,h3⟩:=qer hp
    simp only[Option.bind_some,Nat.zero_add]
    have w1:w64 ((k:Int)+0)=(k:Int):=by rw[Int.add_zero];exact jY (by omega) (by omega)
    have w2:w64 ((k:Int)+(([32]:Str).length:Int))=((k+1:Nat):Int):=qL (by omega)
    rw[if_neg (by omega),w1,w2,xH (by omega),Option.bind_some,qE,List.getElem?_eq_getElem (by omega),Option.bind_some,qaE (by omega),Option.bind_some,yA (by omega),Option.bind_some,qL (by omega)]
    obtain⟨l',s',g1,g2,g3⟩:=qgc s0 n c hc hn K (l.set i (s.take k)) (s.drop (k+1)) (i+1) (by omega) (by simpa using hl) (by omega) (by simp;omega)
    refine⟨l',s',g1,g2,?_⟩
    rw[g3,h3,List.nil_append,List.take_add_one,List.getElem?_set_self (by omega)]
    simp only[List.take_set,Option.toList_some,List.append_assoc,List.singleton_append]
    rw[List.set_eq_of_length_le (by rw[List.length_take];exact Nat.min_le_left _ _)]
  ·have hi:i=c:=by omega
   subst hi
   rw[if_neg (by omega)]
   refine⟨l,s,rfl,hl,?_⟩
   have:=(qfH (qpp (show qaR s=0 by omega))).2 []
   rw[this,List.nil_append]
theorem qjQ {N:Nat} {s:Str} (hs:s.length<100000) (hN:s.length<N):strings_Split N s [32]=some (spl [] s):=by
 unfold strings_Split strings_genSplit
 have hc:=qgw s
 have w1:w64 ((qaR s:Int)+1)=((qaR s+1:Nat):Int):=qL (by omega)
 have w2:w64 ((s.length:Int)+1)=((s.length+1:Nat):Int):=qL (by omega)
 have w3:(if((s.length+1:Nat):Int)<((qaR s+1:Nat):Int)then((s.length+1:Nat):Int)else((qaR s+1:Nat):Int))=((qaR s+1:Nat):Int):=if_neg (by omega)
 have w4:w64 (((qaR s+1:Nat):Int)-1)=(qaR s:Int):=by rw[jY (by omega) (by omega)];omega
 rw[if_neg (by omega),if_neg (by decide),if_pos (by omega),qnP]
 simp only[Option.bind_some,w1,w2,w3]
 have e:mk 16 ((qaR s+1:Nat):Int) ([]:Str)=some (List.replicate (qaR s+1) []):=by
  unfold mk
  rw[if_pos ⟨by omega,by omega,by omega⟩,Int.toNat_natCast]
 rw[e,Option.bind_some]
 obtain⟨l',s',g1,g2,g3⟩:=qgc s ((qaR s+1:Nat):Int) (qaR s) (by omega) (by rw[w2,w3,w4]) N (List.replicate (qaR s+1) []) s 0 (by omega) (by simp) (by omega) (by omega)
 rw[show zN s [32] 0 ((qaR s+1:Nat):Int) N (List.replicate (qaR s+1) []) s 0=_ from g1]
 have hx:l'[qaR s]? =some l'[qaR s]:=List.getElem?_eq_getElem (by omega)
 simp only[Option.bind_some]
 rw[qE,hx,Option.bind_some,qaE (by omega),Option.bind_some,w1,xH (by simp;omega),Option.bind_some,Option.bind_some]
 rw[List.take_zero,List.nil_append]at g3
 rw[←g3,List.take_add_one,List.getElem?_set_self (by omega),List.take_set,List.set_eq_of_length_le (by simp;omega)]
 rfl
theorem qlk {α:Type} {l:List α} {a b:Nat} (h1:a≤b) (h2:b≤l.length):cut l (a:Int) (b:Int)=some ((l.drop a).take (b-a)):=by
 unfold cut
 rw[if_pos ⟨by omega,by omega,by omega⟩]
 simp only[Int.toNat_natCast,Option.some.injEq]
def qbh (c:UInt8):Bool:=decide (48≤c.toNat)&&decide (c.toNat≤57)
def qfA (n:Nat) (s:List UInt8):Nat:=s.foldl (fun a c=>a*10+(c.toNat-48)) n
theorem qkc (n:Nat):qfA n []=n:=List.foldl_nil
theorem qbW (n:Nat) (c:UInt8) (s:List UInt8):qfA n (c::s)=qfA (n*10+(c.toNat-48)) s:=by
 unfold qfA
 rw[List.foldl_cons]
theorem ne48 {c:UInt8} (h: ¬c=48): ¬((c.toNat:Int)=48):=fun e=>h (UInt8.toNat_inj.1 (show c.toNat=48 from by omega))
def intB (s:Str):Bool:=decide (1≤s.length)&&(decide (s.length≤9)&&(s.all qbh&&(decide (s.length=1)||!(s[0]? ==some 48))))
def qc9 (s:Str):Int×Bool:=if intB s=true then((qfA 0 s:Nat),true)else(0,false)
theorem qnF (c:UInt8):([48,49,50,51,52,53,54,55,56,57]:Str).contains c=qbh c:=by
 rw[Bool.eq_iff_iff]
 simp only[List.contains_cons,List.contains_nil,Bool.or_eq_true,beq_iff_eq,qbh,Bool.and_eq_true,decide_eq_true_eq,←UInt8.toNat_inj,Bool.or_false]
 simp only[show(48:UInt8).toNat=48 from rfl,show(49:UInt8).toNat=49 from rfl,show(50:UInt8).toNat=50 from rfl,show(51:UInt8).toNat=51 from rfl,show(52:UInt8).toNat=52 from rfl,show(53:UInt8).toNat=53 from rfl,show(54:UInt8).toNat=54 from rfl,show(55:UInt8).toNat=55 from rfl,show(56:UInt8).toNat=56 from rfl,show(57:UInt8).toNat=57 from rfl]
 omega
theorem qcC {α:Type} {p:α→Bool}: ∀{l:List α},l.dropWhile p=[]↔l.all p=true
 |[]=>by simp
 |x::l=>by
  rw[List.dropWhile_cons,List.all_cons]
  by_cases h:p x=true
  ·rw[if_pos h,h,Bool.true_and];exact qcC
  ·rw[if_neg h];simp[h]
theorem ql9 {s:Str}:(Lib.trimS s [48,49,50,51,52,53,54,55,56,57]==[])=s.all qbh:=by
 have e:(fun c=>([48,49,50,51,52,53,54,55,56,57]:Str).contains c)=qbh:=funext qnF
 unfold Lib.trimS Lib.trimLeftS Lib.trimRightS
 rw[e]
 rw[Bool.eq_iff_iff,beq_iff_eq,qcC,List.all_reverse]
 constructor
 ·intro h
  have h2: ∀x∈s.reverse.takeWhile qbh++s.reverse.dropWhile qbh,qbh x=true:=by
   intro x hx
   rcases List.mem_append.1 hx with hx|hx
   ·exact List.all_eq_true.1 List.all_takeWhile x hx
   ·exact List.all_eq_true.1 h x hx
  rw[List.takeWhile_append_dropWhile]at h2
  exact List.all_eq_true.2 fun x hx=>h2 x (by simpa using hx)
 ·intro h
  have:s.reverse.dropWhile qbh=[]:=qcC.2 (by rw[List.all_reverse];exact h)
  rw[this]
  rfl
theorem qgd {s:Str} (hs:s.length≤1000000):yH s=some (decide (1≤s.length)&&s.all qbh):=by
 have hT:qjS s [48,49,50,51,52,53,54,55,56,57]=some (Lib.trimS s [48,49,50,51,52,53,54,55,56,57]):=by
  unfold qjS
  rw[if_pos ⟨hs,by decide,by decide⟩]
 unfold yH
 simp only[hT,Option.bind_some,ql9]
 cases s with
 |nil=>rfl
 |cons x xs=>simp
theorem qg2: ∀(s:Str) (n:Nat),s.all qbh=true→Lib.decFrom n s=some (qfA n s)
 |[],n,_=>rfl
 |c::s,n,h=>by
  rw[List.all_cons,Bool.and_eq_true]at h
  unfold Lib.decFrom
  rw[qbW]
  have h1:48≤c.toNat∧c.toNat≤57:=by simpa[qbh]using h.1
  have e:Lib.digitVal c=some (c.toNat-48):=by unfold Lib.digitVal;rw[if_pos h1]
  rw[e]
  exact qg2 s _ h.2
theorem qju {s:Str} (h0:1≤s.length) (h:s.all qbh=true):Lib.atoi s=some ((qfA 0 s:Nat):Int):=by
 cases s with
 |nil=>simp at h0
 |cons c s=>
  have hc:qbh c=true:=by rw[List.all_cons,Bool.and_eq_true]at h;exact h.1
  have h1:48≤c.toNat∧c.toNat≤57:=by simpa[qbh]using hc
  unfold Lib.atoi Lib.decNat
  have n1: ¬(c==45)=true:=fun e=>by rw[beq_iff_eq.1 e]at h1;simp at h1
  have n2: ¬(c==43)=true:=fun e=>by rw[beq_iff_eq.1 e]at h1;simp at h1
  simp only
  rw[if_neg n1,if_neg n2,if_neg (by simp),qg2 _ _ h]
  rfl
theorem qhH {s:Str} (hs:s.length≤1000000):yB s=some (qc9 s):=by
 unfold yB qc9 intB
 by_cases h9:s.length>9
 ·have: ¬s.length≤9:=by omega
  rw[if_pos (by omega)]
  simp[this]
 rw[if_neg (by omega),qgd hs]
 have a2:s.length≤9:=by omega
 simp only[Option.bind_some]
 by_cases h0:s.length=0
 ·have: ¬1≤s.length:=by omega
  simp[this]
 have a1:1≤s.length:=by omega
 by_cases hd:s.all qbh=true
 ·have hx:s[0]? =some s[0]:=List.getElem?_eq_getElem (by omega)
  simp only[a1,a2,hd,decide_true,Bool.and_self,Bool.not_true,Bool.false_eq_true,if_false,Bool.true_and,qav]
  have hat:qjM s=some (((qfA 0 s:Nat):Int),()):=by
   unfold qjM
   rw[if_pos (by omega),qju a1 hd]
   rfl
  rw[hx,Option.bind_some]
  by_cases hc:s[0]=48
  ·have hc1:((s[0].toNat:Int)=48):=by rw[hc];rfl
   rw[if_pos hc1]
   simp only[Option.bind_some]
   by_cases h1:s.length=1
   ·obtain⟨c,rfl⟩:=qhj (show(s.length:Int)=1 by omega)
    have hc:c=48:=hc
    subst hc
    rw[hat]
    rfl
   ·have: ¬(s==[48])=true:=fun e=>h1 (by rw[beq_iff_eq.1 e];rfl)
    have h48:(some s[0]==some (48:UInt8))=true:=by simpa using hc
    simp[this,h1,h48]
  ·have hc1: ¬((s[0].toNat:Int)=48):=ne48 hc
   have h48:(some s[0]==some (48:UInt8))=false:=by simpa using hc
   rw[if_neg hc1]
   simp only[Option.bind_some,Bool.false_eq_true,if_false,hat,h48,Bool.not_false,Bool.or_true,if_true]
 ·have hd2:s.all qbh=false:=by simpa using hd
  simp[a1,a2,hd2]
def ev0:qb:=⟨0,[],[],[],[]⟩
def qjq (ws:List Str):qb×Bool:=
 if((zm (ws.headD [])).2.2&&(decide ((ws.length:Int)=1+(zm (ws.headD [])).1+(zm (ws.headD [])).2.1)&&(!(ws.any fun w=>([]:Str)==w)&&(ws.drop (1+(zm (ws.headD [])).1.toNat)).all fun w=>(qc9 w).2)))=true then
  (⟨0,ws.headD [],(ws.drop 1).take (zm (ws.headD [])).1.toNat,(ws.drop (1+(zm (ws.headD [])).1.toNat)).map fun w=>(qc9 w).1,[]⟩,true)
 else(ev0,false)
def xm (s:Str):qb×Bool:=qjq (spl [] s)
theorem ql0 (k:Str): ∃a b:Nat,a≤2∧b≤3∧(zm k).1=(a:Int)∧(zm k).2.1=(b:Int)∧((zm k).2.2=true→k≠[]):=by
 unfold zm
 by_cases h1:(k==xJ)=true
 ·simp only[h1,if_true];exact⟨2,3,by omega,by omega,rfl,rfl,fun _ e=>by rw[e]at h1;cases h1⟩
 by_cases h2:(k==qaw)=true
 ·simp only[h1,h2,if_true,if_false];exact⟨1,2,by omega,by omega,rfl,rfl,fun _ e=>by rw[e]at h2;cases h2⟩
 by_cases h3:(k==qbX)=true
 ·simp only[h1,h2,h3,if_true,if_false];exact⟨1,2,by omega,by omega,rfl,rfl,fun _ e=>by rw[e]at h3;cases h3⟩
 by_cases h4:(k==xW)=true
 ·simp only[h1,h2,h3,h4,if_true,if_false];exact⟨1,1,by omega,by omega,rfl,rfl,fun _ e=>by rw[e]at h4;cases h4⟩
 by_cases h5:(k==zZ)=true
 ·simp only[h1,h2,h3,h4,h5,if_true,if_false];exact⟨1,1,by omega,by omega,rfl,rfl,fun _ e=>by rw[e]at h5;cases h5⟩
 by_cases h6:(k==vO)=true
 ·simp only[h1,h2,h3,h4,h5,h6,if_true,if_false];exact⟨0,0,by omega,by omega,rfl,rfl,fun _ e=>by rw[e]at h6;cases h6⟩
 simp only[h1,h2,h3,h4,h5,h6,if_false]
 exact⟨0,0,by omega,by omega,rfl,rfl,fun h=>by simp at h⟩
theorem qjV (x:Str):(if(x==[109,97,107,101])=true then some (2,3,true)else if(x==[116,101,115,116])=true then some (1,2,true)else if(x==[117,115,101])=true then some (1,2,true)else
 if(x==[102,97,105,108])=true then some (1,1,true)else if(x==[114,101,99,97,108,108])=true then some (1,1,true)else if(x==[117,110,100,111])=true then some (0,0,true)else some (0,0,false):Option (Int×Int×Bool))=some (zm x):=by
 unfold zm xJ qaw qbX xW zZ vO
 repeat' split
 all_goals rfl
theorem qib (l:List Str) (v:Str) (hl:l.length<4611686018427387904): ∀(K k:Nat),k≤l.length→l.length<K+k→ ∃r,zf l v K (k:Int)=some r∧(((l.drop k).any fun w=>v==w)=true∧(∃j:Nat,r= .inr (j:Int))∨((l.drop k).any fun w=>v==w)=false∧r= .inl ())
 |0,k,h,hK=>by omega
 |K+1,k,h,hK=>by
  unfold zf
  by_cases hk:k<l.length
  ·rw[if_pos (by omega),qE,List.getElem?_eq_getElem hk,Option.bind_some,qL (by omega),List.drop_eq_getElem_cons hk,List.any_cons]
   by_cases hc:(v==l[k])=true
   ·rw[if_pos hc,hc,Bool.true_or]
    exact⟨_,rfl,.inl ⟨rfl,k,rfl⟩⟩
   ·have hc2:(v==l[k])=false:=by simpa using hc
    rw[if_neg hc,hc2,Bool.false_or]
    exact qib l v hl K (k+1) (by omega) (by omega)
  ·rw[if_neg (by omega),List.drop_of_length_le (by omega)]
   exact⟨_,rfl,.inr ⟨rfl,rfl⟩⟩
theorem qf8 {N:Nat} {l:List Str} {v:Str} (hl:l.length<4611686018427387904) (hN:l.length<N):slices_Contains_string N l v=some (l.any fun w=>v==w):=by
 unfold slices_Contains_string slices_Index_string
 obtain⟨r,h1,h2⟩:=qib l v hl N 0 (by omega) (by omega)
 rw[List.drop_zero]at h2
 rw[show zf l v N 0=_ from h1]
 rcases h2 with⟨h2,j,rfl⟩|⟨h2,rfl⟩
 ·rw[h2]
  simp
 ·rw[h2]
  simp
theorem qgm (l:List Str) (hl:l.length≤4700) (hs: ∀w∈l,w.length≤1000000): ∀(K k:Nat) (vs:List Int),k≤l.length→l.length<K+k→vs.length≤k→
 jg l K vs (k:Int)=some (if((l.drop k).all fun w=>(qc9 w).2)=true then .inl (vs++(l.drop k).map fun w=>(qc9 w).1)else .inr (ev0,false))
 |0,k,vs,h,hK,hv=>by omega
 |K+1,k,vs,h,hK,hv=>by
  unfold jg
  by_cases hk:k<l.length
  ·have hm:(l[k]).length≤1000000:=hs _ (List.getElem_mem hk)
   rw[if_pos (by omega),qE,List.getElem?_eq_getElem hk,Option.bind_some,qhH hm,Option.bind_some,List.drop_eq_getElem_cons hk,List.all_cons]
   by_cases hc:(qc9 l[k]).2=true
   ·rw[hc]
    simp only[Bool.not_true,Bool.false_eq_true,if_false,Bool.true_and]
    rw[vX (by simp;omega) (by simp;omega),Option.bind_some,qL (by omega),qgm l hl hs K (k+1) _ (by omega) (by omega) (by simp;omega)]
    simp only[List.append_assoc,List.singleton_append,List.map_cons]
   ·have hc2:(qc9 l[k]).2=false:=by simpa using hc
    rw[hc2]
    rfl
  ·rw[if_neg (by omega),List.drop_of_length_le (by omega)]
   simp
theorem qmm {l:List Str} (h:l.length≤4700):slices_Clone_string l=some l:=by
 cases l with
 |nil=>
  simp only[slices_Clone_string,ve,qhm]
  rw[vX (by simp) (by simp)]
  simp
 |cons x xs=>
  show jB x xs=_
  unfold jB
  simp only[List.length_cons]at h
  rw[vX (by simp;omega) (by simp;omega)]
  rfl
theorem qeq: ∀(a s:Str),∀w∈spl a s,w.length≤a.length+s.length
 |a,[],w,h=>by simp[spl]at h;subst h;simp
 |a,c::s,w,h=>by
  rw[spl]at h
  split at h
  ·rcases List.mem_cons.1 h with rfl|h
   ·simp
   ·have:=qeq [] s w h
    simp at this⊢;omega
  ·have:=qeq (a++[c]) s w h
   simp at this⊢;omega
theorem qgk {N:Nat} {s:Str} (hs:s.length≤4600) (hN:6000<N):yI N s=some (xm s):=by
 unfold yI xm
 rw[qjQ (by omega) (by omega),Option.bind_some]
 have hlen:=qgD [] s
 have hc:=qgw s
 have hsh:=qeq [] s
 generalize spl [] s=ws at hlen hsh
 obtain⟨w0,tl,rfl⟩: ∃w0 tl,ws=w0::tl:=by
  cases ws with
  |nil=>simp at hlen
  |cons x xs=>exact⟨x,xs,rfl⟩
 unfold qjq
 have hh:(w0::tl).headD []=w0:=rfl
 rw[hh]
 obtain⟨a,b,ha,hb,e1,e2,e3⟩:=ql0 w0
 have hlen2:(w0::tl).length≤4601:=by omega
 have hlen3:=hlen2
 rw[List.length_cons]at hlen3
 simp only[zq,Option.bind_some,qav,List.getElem?_cons_zero,qjV]
 rw[show zm w0=((a:Int),(b:Int),(zm w0).2.2)from by rw[←e1,←e2]]
 simp only[Option.bind_some]
 cases hk:(zm w0).2.2 with
 |false=>simp[ev0]
 |true=>
  simp only[Bool.not_true,Bool.false_eq_true,if_false,Bool.true_and]
  have w1:w64 (1+(a:Int))=((1+a:Nat):Int):=by rw[jY (by omega) (by omega)];omega
  have w2:w64 (((1+a:Nat):Int)+(b:Int))=((1+a+b:Nat):Int):=by rw[jY (by omega) (by omega)];omega
  rw[w1,w2]
  by_cases hl:(w0::tl).length=1+a+b
  ·have d1:decide (((w0::tl).length:Int)=((1+a+b:Nat):Int))=true:=decide_eq_true (by omega)
   have d2:decide (((w0::tl).length:Int)=1+(a:Int)+(b:Int))=true:=decide_eq_true (by omega)
   rw[d1,d2]
   simp only[Bool.not_true,Bool.false_eq_true,if_false,Bool.true_and,qf8 (N:=N) (l:=w0::tl) (v:=[]) (by omega) (by omega),Option.bind_some]
   cases hany:(w0::tl).any fun w=>([]:Str)==w with
   |true=>simp[ev0]
   |false=>
    simp only[Bool.false_eq_true,if_false,Bool.not_false,Bool.true_and]
    rw[show cut (w0::tl) 1 ((1+a:Nat):Int)=cut (w0::tl) ((1:Nat):Int) ((1+a:Nat):Int)from rfl,qlk (by omega) (by omega),Option.bind_some,qmm (by simp;omega),Option.bind_some,yA (by omega),Option.bind_some]
    have hL:=qgm ((w0::tl).drop (1+a)) (by simp;omega) (fun w hw=>by have:=hsh w (List.mem_of_mem_drop hw);simp at this;omega) N 0 [] (by omega) (by simp;omega) (by simp)
    rw[List.drop_zero,List.nil_append]at hL
    rw[show jg ((w0::tl).drop (1+a)) N [] 0=_ from hL,show 1+a-1=a by omega,Int.toNat_natCast]
    cases hall:((w0::tl).drop (1+a)).all fun w=>(qc9 w).2 with
    |true=>simp only[if_true,Option.bind_some]
    |false=>simp only[Bool.false_eq_true,if_false,Option.bind_some]
  ·have d1:decide (((w0::tl).length:Int)=((1+a+b:Nat):Int))=false:=decide_eq_false (by omega)
   have d2:decide (((w0::tl).length:Int)=1+(a:Int)+(b:Int))=false:=decide_eq_false (by omega)
   rw[d1,d2]
   simp[ev0]
def goP (a:Nat):List Str→Nat→List Str→List Int→Option (List Str×List Int)
 |[],_,l8,l9=>some (l8,l9)
 |w::ws,i,l8,l9=>if(w==[])=true then none else if i≤a then goP a ws (i+1) (l8++[w]) l9 else if(qc9 w).2=true then goP a ws (i+1) l8 (l9++[(qc9 w).1])else none
theorem qoC {d:Nat} (h:d<10):cut ([48,49,50,51,52,53,54,55,56,57]:Str) (d:Int) (w64 ((d:Int)+1))=some [UInt8.ofNat (48+d)]:=by
 rw[qL (by omega)]
 have: ∀k:Fin 10,cut ([48,49,50,51,52,53,54,55,56,57]:Str) ((k.1:Nat):Int) ((k.1+1:Nat):Int)=some [UInt8.ofNat (48+k.1)]:=by decide
 exact this ⟨d,h⟩
theorem qhs: ∀(K n:Nat) (s:Str),n<10^9→s.length+K≤100→(0<n∨1≤s.length)→n<10^K→zw 1 (K+1) (n:Int) s=some (if n=0 then s else Lib.decDigits n++s)
 |K,n,s,hn,hs,h0,hK=>by
  unfold zw
  by_cases hz:n=0
  ·subst hz
   have h1:1≤s.length:=by omega
   rw[if_neg (by omega),decide_eq_false (by omega),Option.bind_some,if_neg (by decide),if_pos rfl]
  ·have e1:((n:Int)).tmod 10=((n%10:Nat):Int):=by rw[Int.tmod_eq_emod_of_nonneg (by omega)];omega
   have e2:((n:Int)).tdiv 10=((n/10:Nat):Int):=by rw[Int.tdiv_eq_ediv_of_nonneg (by omega)];omega
   have e3:cat [UInt8.ofNat (48+n%10)] s=some ([UInt8.ofNat (48+n%10)]++s):=by
    unfold cat
    rw[if_pos (by simp only[List.length_cons,List.length_nil];omega)]
   rw[if_pos (by omega),Option.bind_some,if_pos rfl,e1,qoC (Nat.mod_lt _ (by decide)),Option.bind_some,e3,Option.bind_some,e2,jY (by omega) (by omega),if_neg hz]
   match K,hK with
   |0,hK=>simp at hK;omega
   |K+1,hK=>
    rw[qhs K (n/10) _ (by omega) (by simp only[List.length_append,List.length_cons,List.length_nil];omega) (.inr (by simp)) (by rw[Nat.pow_succ]at hK;omega)]
    by_cases hd:n<10
    ·rw[if_pos (by omega),Lib.decDigits,dif_pos hd,Nat.mod_eq_of_lt hd]
    ·rw[if_neg (by omega)]
     conv=>rhs;rw[Lib.decDigits,dif_neg hd]
     rw[List.append_assoc]
theorem qkV {N n:Nat} (hN:100<N) (h0:0<n) (hn:n<10^9):xK N (n:Int) 1=some (Lib.decDigits n):=by
 unfold xK
 obtain⟨K,rfl⟩: ∃K,N=K+1:=⟨N-1,by omega⟩
 have mono: ∀(K n:Nat) (s:Str) (r:Str),n<10^9→zw 1 K (n:Int) s=some r→ ∀j,zw 1 (K+j) (n:Int) s=some r:=by
  intro K
  induction K with
  |zero=>intro n s r _ h;simp[zw]at h
  |succ K ih=>
   intro n s r hn h j
   rw[show K+1+j=(K+j)+1 by omega]
   unfold zw at h⊢
   obtain⟨b,e,h⟩:=bnd h
   rw[e,Option.bind_some]
   by_cases hb:b=true
   ·rw[if_pos hb]at h⊢
    obtain⟨x,e1,h⟩:=bnd h
    obtain⟨y,e2,h⟩:=bnd h
    rw[e1,Option.bind_some,e2,Option.bind_some]
    have e4:((n:Int)).tdiv 10=((n/10:Nat):Int):=by rw[Int.tdiv_eq_ediv_of_nonneg (by omega)];omega
    rw[e4,jY (by omega) (by omega)]at h⊢
    exact ih _ _ _ (by omega) h j
   ·rw[if_neg hb]at h⊢
    exact h
 have h:=qhs 9 n [] hn (by simp) (.inl h0) hn
 have h2:=mono _ _ _ _ hn h (K-9)
 rw[show 9+1+(K-9)=K+1 by omega]at h2
 rw[h2,Option.bind_some,if_neg (by omega),List.append_nil]
theorem qo2 {N n:Nat} (hN:100<N) (hn:n<10^9):qaI N (n:Int)=some (Lib.itoa (n:Int)):=by
 have ei:Lib.itoa (n:Int)=Lib.decDigits n:=by unfold Lib.itoa;rw[if_neg (by omega)];simp
 obtain⟨K,rfl⟩: ∃K,N=K+2:=⟨N-2,by omega⟩
 unfold qaI qbp qcr
 by_cases h0:n=0
 ·subst h0
  have e1:je (K+2) [] ((0:Nat):Int)=some []:=by unfold je;rw[if_neg (by simp)]
  have e2:vJ (K+2) []=some []:=by unfold vJ;simp
  rw[e1,Option.bind_some]
  simp only[qa6,qca,e2,Option.bind_some,show decide (((0:Nat):Int)<0)=false by decide,Bool.false_eq_true,if_false]
  simp only[qbY,List.length_nil,Option.bind_some]
  rw[if_pos (by simp),Option.bind_some,Option.bind_some,ei]
  rw[Lib.decDigits,dif_pos (by decide)]
  rfl
 ·have t1:((n:Int)).tmod 1000000000=(n:Int):=by rw[Int.tmod_eq_emod_of_nonneg (by omega)];omega
  have t2:((n:Int)).tdiv 1000000000=((0:Nat):Int):=by rw[Int.tdiv_eq_ediv_of_nonneg (by omega)];omega
  have e0:je (K+1) [(n:Int)] ((0:Nat):Int)=some [(n:Int)]:=by unfold je;rw[if_neg (by simp)]
  have e1:je (K+2) [] (n:Int)=some [(n:Int)]:=by
   unfold je
   rw[if_pos (by simp;omega),t1,if_neg (by omega),Option.bind_some,vX (by simp) (by simp),Option.bind_some,t2,jY (by omega) (by omega)]
   exact e0
  have e2:vJ (K+2) [(n:Int)]=some [(n:Int)]:=by
   unfold vJ
   have:w64 ((([(n:Int)].length:Nat):Int)-1)=((0:Nat):Int):=qcG (k:=1) (by omega) (by omega)
   rw[if_pos (by simp),this,qE]
   simp only[List.getElem?_cons_zero,Option.bind_some]
   rw[decide_eq_false (by omega),if_neg (by decide)]
  rw[e1,Option.bind_some]
  simp only[qa6,qca,e2,Option.bind_some]
  rw[decide_eq_false (by omega),if_neg (by decide)]
  simp only[Option.bind_some,qbY]
  have l1:w64 ((([(n:Int)].length:Nat):Int)-1)=((0:Nat):Int):=qcG (k:=1) (by omega) (by omega)
  have l2:w64 ((([(n:Int)].length:Nat):Int)-2)= -1:=by
   rw[jY (by simp) (by simp)];simp
  rw[if_neg (by simp),l1,qE]
  simp only[List.getElem?_cons_zero,Option.bind_some]
  rw[qkV (by omega) (by omega) hn,Option.bind_some,l2]
  have e3:yQ (K+2) ⟨false,[(n:Int)]⟩ (K+2) (Lib.decDigits n) (-1)=some (Lib.decDigits n):=by unfold yQ;rw[if_neg (by omega)]
  rw[e3,Option.bind_some,if_neg (by decide),Option.bind_some,ei]
  rfl
def qdL (x:Nat) (s:Str):Nat:=s.foldl (fun x c=>(31*x+c.toNat)%9999991) x
theorem qaM (x:Nat) (c:UInt8) (s:Str):qdL x (c::s)=qdL ((31*x+c.toNat)%9999991) s:=rfl
theorem qi1: ∀(s:Str) {x:Nat},x<9999991→qdL x s<9999991
 |[],x,h=>h
 |c::s,x,h=>by rw[qaM];exact qi1 s (Nat.mod_lt _ (by decide))
theorem qnT {x:Nat} (hx:x<9999991) (c:UInt8):((w64 ((w64 (31*(x:Int)))+(w64 (c.toNat:Int)))).tmod 9999991)=(((31*x+c.toNat)%9999991:Nat):Int):=by
 have hc:c.toNat<256:=c.toNat_lt
 rw[jY (n:=31*(x:Int)) (by omega) (by omega),jY (n:=(c.toNat:Int)) (by omega) (by omega),jY (by omega) (by omega),Int.tmod_eq_emod_of_nonneg (by omega)]
 omega
theorem qol (s:Str) (hs:s.length<100000): ∀(K i x:Nat),x<9999991→i≤s.length→s.length<K+i→yn s K (x:Int) (i:Int)=some ((qdL x (s.drop i):Nat):Int)
 |0,i,x,_,h1,h2=>by omega
 |K+1,i,x,hx,h1,h2=>by
  unfold yn
  by_cases hi:i<s.length
  ·rw[if_pos (by omega),qE,List.getElem?_eq_getElem hi,Option.bind_some,qnT hx,qL (by omega),qol s hs K (i+1) _ (Nat.mod_lt _ (by decide)) (by omega) (by omega),List.drop_eq_getElem_cons hi,qaM]
  ·rw[if_neg (by omega),List.drop_eq_nil_of_le (by omega)]
   rfl
theorem qfo: ∀(k n:Nat),n<10^(k+1)→(Lib.decDigits n).length≤k+1
 |0,n,h=>by rw[Lib.decDigits,dif_pos (by simpa using h)];simp
 |k+1,n,h=>by
  rw[Lib.decDigits]
  split
  ·simp
  ·have:=qfo k (n/10) (by rw[Nat.pow_succ]at h;omega)
   simp only[List.length_append,List.length_cons,List.length_nil]
   omega
theorem qhr (n:Nat):Lib.itoa (n:Int)=Lib.decDigits n:=by unfold Lib.itoa;rw[if_neg (by omega)];simp
def qaS (s:Str):Str:=List.replicate (7-(Lib.decDigits (qdL 7 s)).length) 48++Lib.decDigits (qdL 7 s)
theorem qlw: ∀n:Nat,Lib.repeatL [(48:UInt8)] n=List.replicate n 48
 |0=>rfl
 |n+1=>by
  show 48::Lib.repeatL [48] n=_
  rw[qlw n];rfl
theorem qoj {N:Nat} {s:Str} (hs:s.length<100000) (hN:s.length<N):qbg N s=some (qaS s):=by
 unfold qbg
 have h0:=qol s hs N 0 7 (by decide) (by omega) (by omega)
 have hx:=qi1 s (x:=7) (by decide)
 have hl:=qfo 6 (qdL 7 s) (by omega)
 rw[show yn s N 7 0=_ from h0,List.drop_zero,Option.bind_some]
 unfold qct
 rw[if_pos (by omega),qhr,Option.bind_some]
 have e:w64 (7-((Lib.decDigits (qdL 7 s)).length:Int))=((7-(Lib.decDigits (qdL 7 s)).length:Nat):Int):=by rw[jY (by omega) (by omega)];omega
 rw[e]
 unfold qgN
 rw[if_pos (by simp;omega),Option.bind_some,Int.toNat_natCast,qlw]
 unfold cat qaS
 rw[if_pos (by simp;omega)]
 rfl
theorem qdZ (s:Str):(qaS s).length=7:=by
 have hx:=qi1 s (x:=7) (by decide)
 have hl:=qfo 6 (qdL 7 s) (by omega)
 unfold qaS
 simp;omega
def qdH (s:Str):Str×Str:=match qdI s with
 |some k=>(s.take k,s.drop (k+1))
 |none=>(s,[])
theorem qpZ {s:Str} (hs:s.length<100000): ∃b,strings_Cut s [32]=some ((qdH s).1,(qdH s).2,b):=by
 have hi:=qht (s:=s)
 unfold strings_Index at hi
 have hi2:stringslite_Index s [32]=some (qfp 32 s 0):=by
  cases h:stringslite_Index s [32]with
  |none=>rw[h]at hi;cases hi
  |some r=>rw[h]at hi;exact hi
 unfold strings_Cut stringslite_Cut qdH
 rw[hi2,Option.bind_some,qep]
 cases hp:qdI s with
 |none=>exact⟨false,by simp⟩
 |some k=>
  have hk:=(qer hp).1
  simp only[Nat.zero_add]
  refine⟨true,?_⟩
  have e:w64 ((k:Int)+(([32]:Str).length:Int))=((k+1:Nat):Int):=qL (by omega)
  rw[if_pos (by omega),xH (by omega),Option.bind_some,e,yA (by omega)]
  rfl
def qd1 (n:Int) (e:qb):qb:=⟨n,e.Kind,e.Names,e.Values,e.Text⟩
theorem qj3 (s:Str):(spl [] s).length≤s.length+1:=by rw[qgD];have:=qgw s;omega
theorem qgb {N:Nat} (hN:6000<N) {s:Str} (hs:s.length≤4600) (n:Int):qcD N (qd1 n (xm s).1):=by
 have hl:=qj3 s
 unfold xm qjq
 split
 ·refine⟨?_,?_,fun w hw=>?_⟩
  ·simp only[qd1,List.length_take,List.length_drop];omega
  ·simp only[qd1,List.length_map,List.length_drop];omega
  ·have:=qeq [] s w (List.mem_of_mem_drop (List.mem_of_mem_take hw))
   simp at this;omega
 ·refine⟨by simp[qd1,ev0];omega,by simp[qd1,ev0];omega,fun w hw=>by simp[qd1,ev0]at hw⟩
def qdQ (b:Str):qb×Bool:=
 (qd1 (qc9 (qdH b).1).1 (xm (qdH b).2).1,(qc9 (qdH b).1).2&&((xm (qdH b).2).2&&decide (qJ (qd1 (qc9 (qdH b).1).1 (xm (qdH b).2).1)=0)))
theorem qoU (s:Str):(qdH s).1.length≤s.length∧(qdH s).2.length≤s.length:=by
 unfold qdH
 split<;>simp<;>omega
theorem qkt {N:Nat} (hN:6000<N) (hM:N<4611686018427387904) {s:Str} (hs:s.length≤4600):xI N s=some (qdQ s):=by
 obtain⟨b,hc⟩:=qpZ (s:=s) (by omega)
 have hl:=qoU s
 unfold xI qdQ
 rw[hc,Option.bind_some]
 simp only
 rw[qhH (by omega),Option.bind_some,qgk (by omega) hN,Option.bind_some]
 by_cases h1:(qc9 (qdH s).1).2=true
 ·rw[if_pos h1,h1]
  by_cases h2:(xm (qdH s).2).2=true
  ·have:=qcB hM (by omega) (qgb hN (s:=(qdH s).2) (by omega) (qc9 (qdH s).1).1)
   unfold qd1 at this⊢
   rw[if_pos h2,this,h2]
   simp
  ·rw[if_neg h2,Bool.eq_false_iff.2 h2]
   simp[qd1]
 ·rw[if_neg h1,Bool.eq_false_iff.2 h1]
  simp[qd1]
def qaf (s:Str):qb×Int:=
 if 8≤s.length∧s[s.length-8]? =some 59∧(s.drop (s.length-7)).all qbh=true then
  if s.drop (s.length-7)=qaS (s.take (s.length-8))then
   if(qdQ (s.take (s.length-8))).2=true then((qdQ (s.take (s.length-8))).1,0)else(ev0,25)
  else(ev0,27)
 else(ev0,25)
theorem qm0 {c:UInt8}:((c.toNat:Int)=59)↔c=59:=⟨fun h=>UInt8.toNat_inj.1 (show c.toNat=59 by omega),fun h=>by subst h;rfl⟩
theorem qoY {N:Nat} (hN:6000<N) (hM:N<4611686018427387904) {s:Str} (hs:s.length≤4600) (n:Int):
 ∃e b,zS N s n=some (e,b)∧((qaf s).2≠0→b=(qaf s).2)∧((qaf s).2=0→e=(qaf s).1∧b=if e.Number=n then 0 else 11):=by
 unfold zS
 have hno: ¬(8≤s.length∧s[s.length-8]? =some 59∧(s.drop (s.length-7)).all qbh=true)→qaf s=(ev0,25):=fun h=>by unfold qaf;rw[if_neg h]
 by_cases h8:8≤s.length
 ·have e1:w64 ((s.length:Int)-7)=((s.length-7:Nat):Int):=by rw[jY (by omega) (by omega)];omega
  have e2:w64 (((s.length-7:Nat):Int)-1)=((s.length-8:Nat):Int):=by rw[qcG (by omega) (by omega)];congr 1
  have hi:s.length-8<s.length:=by omega
  simp only[e1,e2]
  rw[if_neg (by omega),qE,List.getElem?_eq_getElem hi,Option.bind_some]
  by_cases hc:s[s.length-8]=59
  ·rw[if_neg (by simp[qm0,hc]),yA (by omega),Option.bind_some,qgd (by simp;omega),decide_eq_true (by simp;omega),Bool.true_and,Option.bind_some]
   simp only[Option.bind_some]
   by_cases hd:(s.drop (s.length-7)).all qbh=true
   ·have hyes:qaf s=if s.drop (s.length-7)=qaS (s.take (s.length-8))then
     if(qdQ (s.take (s.length-8))).2=true then((qdQ (s.take (s.length-8))).1,0)else(ev0,25)
     else(ev0,27):=by
     unfold qaf
     rw[if_pos ⟨h8,by rw[List.getElem?_eq_getElem hi,hc],hd⟩]
    rw[hd,if_neg (by decide),e2,xH (by omega),Option.bind_some,yA (by omega),Option.bind_some,qoj (by simp;omega) (by simp;omega),Option.bind_some]
    by_cases ht:s.drop (s.length-7)=qaS (s.take (s.length-8))
    ·rw[if_pos ht]at hyes
     rw[if_neg (by simp[ht]),qkt hN hM (by simp;omega),Option.bind_some,xX,Option.bind_some,xX,Option.bind_some,qap (by simp) (by simp;omega),Option.bind_some,hyes]
     refine⟨_,_,rfl,?_⟩
     by_cases hb:(qdQ (s.take (s.length-8))).2=true
     ·rw[if_pos hb]
      refine⟨fun h=>absurd rfl h,fun _=>⟨rfl,?_⟩⟩
      by_cases hn:(qdQ (s.take (s.length-8))).1.Number=n
      ·simp[zk,hb,hn]
      ·simp[zk,hb,hn]
     ·rw[if_neg hb]
      refine⟨fun _=>?_,fun h=>absurd h (by decide)⟩
      simp[zk,hb]
    ·rw[if_neg ht]at hyes
     rw[if_pos (by simp[ht]),hyes]
     exact⟨_,_,rfl,fun _=>rfl,fun h=>absurd h (by decide)⟩
   ·rw[Bool.eq_false_iff.2 hd,if_pos (by decide),hno (fun h=>hd h.2.2)]
    exact⟨_,_,rfl,fun _=>rfl,fun h=>absurd h (by decide)⟩
  ·rw[if_pos (by simp[qm0,hc])]
   simp only[Option.bind_some,if_true]
   rw[hno (fun h=>hc (by have:=h.2.1;rw[List.getElem?_eq_getElem hi]at this;exact Option.some.inj this))]
   exact⟨_,_,rfl,fun _=>rfl,fun h=>absurd h (by decide)⟩
 ·rw[hno (fun h=>h8 h.1)]
  have e1:w64 ((s.length:Int)-7)<1:=by rw[jY (by omega) (by omega)];omega
  rw[if_pos e1]
  simp only[Option.bind_some,if_true]
  exact⟨_,_,rfl,fun _=>rfl,fun h=>absurd h (by decide)⟩
theorem qkL {s:Str} (hs:s.length<100000):strings_CutSuffix (s++[10]) [10]=some (s,true):=by
 have hl:(s++[10]:Str).length=s.length+1:=by simp
 have e1:w64 (((s++[10]:Str).length:Int)-(([10]:Str).length:Int))=(s.length:Int):=by
  rw[hl]
  exact qcG (k:=s.length+1) (by omega) (by omega)
 unfold strings_CutSuffix stringslite_CutSuffix stringslite_HasSuffix
 rw[if_pos (by simp;omega),e1,yA (by simp),Option.bind_some,Option.bind_some,Option.bind_some]
 have e2:(s++[10]:Str).drop s.length=[10]:=by simp
 rw[e2,if_neg (by decide),xH (by simp)]
 simp
theorem ql6 {s:Str} (hs:s.length<100000) (h: ∀t,s≠t++[10]):strings_CutSuffix s [10]=some (s,false):=by
 unfold strings_CutSuffix stringslite_CutSuffix stringslite_HasSuffix
 by_cases h1:1≤s.length
 ·have e1:w64 ((s.length:Int)-(([10]:Str).length:Int))=((s.length-1:Nat):Int):=qcG (by omega) (by omega)
  have e2: ¬s.drop (s.length-1)=[10]:=fun e=>h (s.take (s.length-1)) (by rw[←e,List.take_append_drop])
  rw[if_pos (by simp;omega),e1,yA (by omega),Option.bind_some,Option.bind_some,Option.bind_some,if_pos (by simp[e2])]
  rfl
 ·rw[if_neg (by simp;omega),Option.bind_some,Option.bind_some,if_pos (by decide)]
  rfl
def qdJ (s:Str) (out:List qb):Int:=if(qaf s).2=0 then(if(qaf s).1.Number=((out.length+1:Nat):Int)then 0 else 11)else(qaf s).2
def oL (out:List qb):Option (List qb):=if out=[]then none else some out
theorem qpC (out:List qb):hof (oL out)=out:=by
 unfold oL
 split
 ·rename_i h;subst h;rfl
 ·rfl
theorem qmp {N:Nat} (hN:6000<N) (hM:N<4611686018427387904) {s:Str} (hs:s.length≤4600) (a0 a1 n7 e:Int) (out:List qb) (ho:out.length≤6000):
 zP N a0 a1 (oL out) n7 e (s++[10])=some (if qdJ s out=0 then .inl (out++[(qaf s).1])else .inr (qdJ s out,oL out)):=by
 unfold zP
 rw[qkL (by omega),Option.bind_some,if_neg (by simp)]
 obtain⟨ev,b,h1,h2,h3⟩:=qoY hN hM hs ((out.length+1:Nat):Int)
 have hb:b=qdJ s out:=by
  unfold qdJ
  by_cases h0:(qaf s).2=0
  ·rw[if_pos h0];obtain⟨e1,e2⟩:=h3 h0;rw[e2,e1]
  ·rw[if_neg h0];exact h2 h0
 have hev:b=0→ev=(qaf s).1:=fun h=>by
  by_cases h0:(qaf s).2=0
  ·exact(h3 h0).1
  ·exact absurd ((h2 h0).symm.trans h) h0
 have e0:w64 ((0:Int)+1)=1:=by decide
 by_cases hz:out=[]
 ·subst hz
  have h1':zS N s (w64 (0+1))=some (ev,b):=by rw[e0];exact h1
  simp only[oL,if_true,h1',Option.bind_some]
  rw[←hb]
  by_cases h0:b=0
  ·rw[if_neg (by simp[h0]),if_pos h0,hev h0]
   rfl
  ·rw[if_pos (by simp[h0]),if_neg h0]
 ·have h1':zS N s (w64 ((out.length:Int)+1))=some (ev,b):=by rw[qL (by omega)];exact h1
  simp only[oL,if_neg hz,h1',Option.bind_some]
  rw[←hb]
  by_cases h0:b=0
  ·rw[if_neg (by simp[h0]),vX (by simp;omega) (by simp;omega),Option.bind_some,Option.bind_some,if_pos h0,hev h0]
  ·rw[if_pos (by simp[h0]),if_neg h0]
theorem qn2 {N:Nat} {s:Str} (hs:s.length<100000) (h: ∀t,s≠t++[10]) (a0 a1 n7 e:Int) (out:List qb):zP N a0 a1 (oL out) n7 e s=some (.inr (28,oL out)):=by
 unfold zP
 rw[ql6 hs h,Option.bind_some,if_pos (by simp)]
 unfold oL
 by_cases hz:out=[]
 ·rw[if_pos hz];rfl
 ·rw[if_neg hz];rfl
def qdq:Str→Option Nat
 |[]=>none
 |c::s=>if c=10 then some 0 else(qdq s).map (· +1)
theorem qiC: ∀(s:Str) (j:Nat),qfp 10 s j=match qdq s with|some k=>((j+k:Nat):Int)|none=> -1
 |[],_=>rfl
 |c::s,j=>by
  show zW (Nat.beq c.toNat 10) (Int.ofNat j) (qfp 10 s (j+1))=_
  rw[qU,qiC s (j+1),qdq]
  by_cases h:c=10
  ·subst h;rfl
  ·have h2:c.toNat≠10:=fun e=>h (UInt8.toNat_inj.1 (by rw[e];rfl))
   rw[if_neg (by rw[qaZ h2];simp),if_neg h]
   cases qdq s with
   |none=>rfl
   |some k=>
    simp only[Option.map_some]
    congr 1
    omega
theorem qim: ∀{s:Str} {k:Nat},qdq s=some k→k<s.length∧s.take (k+1)=s.take k++[10]
 |[],k,h=>by cases h
 |c::s,k,h=>by
  unfold qdq at h
  by_cases hc:c=10
  ·rw[if_pos hc]at h;injection h with h;subst h;subst hc;exact⟨by simp,rfl⟩
  ·rw[if_neg hc]at h
   cases hp:qdq s with
   |none=>rw[hp]at h;cases h
   |some j=>
    rw[hp]at h;injection h with h;subst h
    obtain⟨h1,h2⟩:=qim hp
    exact⟨by simp;omega,by rw[List.take_succ_cons,h2];rfl⟩
theorem qiE: ∀{s:Str},qdq s=none→ ∀t,s≠t++[10]
 |[],_,t=>by cases t<;>simp
 |c::s,h,t=>by
  unfold qdq at h
  by_cases hc:c=10
  ·rw[if_pos hc]at h;cases h
  ·rw[if_neg hc]at h
   have hn:qdq s=none:=by cases hp:qdq s with
    |none=>rfl
    |some j=>rw[hp]at h;cases h
   intro e
   cases t with
   |nil=>simp at e;exact hc e.1
   |cons d t=>simp at e;exact qiE hn t e.2
def scan:Str→Str→List qb→Nat→List qb×Nat×Int
 |[],cur,out,f=>(out,f,if cur=[]then 0 else 28)
 |c::s,cur,out,f=>if c=10 then(if qdJ cur out=0 then scan s [] (out++[(qaf cur).1]) (f+cur.length+1)else(out,f,qdJ cur out))else scan s (cur++[c]) out f
theorem qiD: ∀{s:Str} (cur:Str) (out:List qb) (f:Nat),qdq s=none→scan s cur out f=(out,f,if cur++s=[]then 0 else 28)
 |[],cur,out,f,_=>by rw[List.append_nil];rfl
 |c::s,cur,out,f,h=>by
  unfold qdq at h
  by_cases hc:c=10
  ·rw[if_pos hc]at h;cases h
  ·rw[if_neg hc]at h
   have hn:qdq s=none:=by cases hp:qdq s with
    |none=>rfl
    |some j=>rw[hp]at h;cases h
   unfold scan
   rw[if_neg hc,qiD (cur++[c]) out f hn]
   simp
theorem qii: ∀{s:Str} {k:Nat} (cur:Str) (out:List qb) (f:Nat),qdq s=some k→
 scan s cur out f=if qdJ (cur++s.take k) out=0 then scan (s.drop (k+1)) [] (out++[(qaf (cur++s.take k)).1]) (f+(cur++s.take k).length+1)else(out,f,qdJ (cur++s.take k) out)
 |[],k,cur,out,f,h=>by cases h
 |c::s,k,cur,out,f,h=>by
  unfold qdq at h
  by_cases hc:c=10
  ·rw[if_pos hc]at h;injection h with h;subst h
   conv=>lhs;unfold scan
   rw[if_pos hc]
   simp
  ·rw[if_neg hc]at h
   cases hp:qdq s with
   |none=>rw[hp]at h;cases h
   |some j=>
    rw[hp]at h;injection h with h;subst h
    conv=>lhs;unfold scan
    rw[if_neg hc,qii (cur++[c]) out f hp]
    simp
theorem qj6 {N:Nat} (hN:6000<N) (hM:N<4611686018427387904) (a0 a1:Int) {s:Str} (hs:s.length≤4600): ∀(K f:Nat) (out:List qb),f≤s.length→s.length<K+f→out.length≤f→
 qK N a0 a1 s K (f:Int) (oL out) (f:Int)=some (if(scan (s.drop f) [] out f).2.2=0 then .inl (((scan (s.drop f) [] out f).2.1:Int),oL (scan (s.drop f) [] out f).1)
  else .inr (.inr (((scan (s.drop f) [] out f).2.1:Int),(scan (s.drop f) [] out f).2.2,((scan (s.drop f) [] out f).2.1:Int),oL (scan (s.drop f) [] out f).1)))
 |0,f,out,h1,h2,_=>by omega
 |K+1,f,out,h1,h2,h3=>by
  unfold qK
  by_cases hf:f<s.length
  ·have hi:strings_IndexByte (s.drop f) 10=some (qfp 10 (s.drop f) 0):=by
    unfold strings_IndexByte stringslite_IndexByte qhG
    rw[if_pos (by decide)];rfl
   rw[if_pos (by omega),yA (by omega),Option.bind_some,hi,Option.bind_some,qiC]
   cases hp:qdq (s.drop f)with
   |none=>
    have hne:=qiE hp
    simp only
    rw[if_neg (by omega),Option.bind_some,yA (by omega),Option.bind_some,qn2 (by simp;omega) hne,Option.bind_some,qiD [] out f hp]
    have: ¬(([]:Str)++s.drop f=[]):=by simp;omega
    rw[if_neg this]
    rfl
   |some k=>
    obtain⟨g1,g2⟩:=qim hp
    have hk:k<s.length-f:=by simpa using g1
    simp only[Nat.zero_add]
    have e1:w64 (w64 ((f:Int)+(k:Int))+1)=((f+k+1:Nat):Int):=by rw[jY (n:=(f:Int)+k) (by omega) (by omega),jY (by omega) (by omega)];omega
    rw[if_pos (by omega),Option.bind_some,e1,qlk (by omega) (by omega),Option.bind_some,show f+k+1-f=k+1 by omega,g2,qmp hN hM (by simp;omega) _ _ _ _ _ (by omega),Option.bind_some,qii [] out f hp]
    simp only[List.nil_append]
    by_cases hb:qdJ ((s.drop f).take k) out=0
    ·have hl:((s.drop f).take k).length=k:=by simp;omega
     simp only[if_pos hb]
     rw[hl,List.drop_drop]
     have ih:=qj6 hN hM a0 a1 hs K (f+k+1) (out++[(qaf ((s.drop f).take k)).1]) (by omega) (by omega) (by simp;omega)
     have eo:oL (out++[(qaf ((s.drop f).take k)).1])=some (out++[(qaf ((s.drop f).take k)).1]):=by unfold oL;rw[if_neg (by simp)]
     rw[eo]at ih
     rw[show f+(k+1)=f+k+1 by omega]
     exact ih
    ·simp only[if_neg hb]
  ·rw[if_neg (by omega),List.drop_eq_nil_of_le (by omega)]
   rfl
def finR (n:Nat):((List qb×Int)⊕(List qb×Int×Int))→List qb×Int×Int
 | .inl (l,f)=>if f<(n:Int)then(l,f,28)else(l,f,0)
 | .inr q=>q
theorem qce {N:Nat} (hN:6000<N) (hM:N<4611686018427387904) {s:Str} (hs:s.length≤4600):jf N s=some ((scan s [] [] 0).1,((scan s [] [] 0).2.1:Int),(scan s [] [] 0).2.2):=by
 have h:=qj6 hN hM 0 0 hs N 0 [] (by omega) (by omega) (by simp)
 rw[List.drop_zero]at h
 unfold jf qaF vv
 rw[if_neg (by omega),Option.bind_some]
 rw[show qK N 0 0 s N 0 (none:Option (List qb)) 0=_ from h]
 by_cases hb:(scan s [] [] 0).2.2=0
 ·rw[if_pos hb]
  simp only[Option.bind_some]
  generalize scan s [] [] 0=r at hb⊢
  obtain⟨l,f,b⟩:=r
  simp only at hb⊢
  subst hb
  unfold oL
  by_cases hl:l=[]
  ·subst hl;rfl
  ·rw[if_neg hl];rfl
 ·rw[if_neg hb]
  simp only[Option.bind_some,qpC]
def qa7:List Str→Str
 |[]=>[]
 |[x]=>x
 |x::y::r=>x++32::qa7 (y::r)
theorem qdk {x:Str} {l:List Str} (h:l≠[]):qa7 (x::l)=x++32::qa7 l:=by
 cases l with
 |nil=>exact absurd rfl h
 |cons y r=>rfl
theorem qj8: ∀(s:Str) (n:Nat) (c:UInt8),qfA n (s++[c])=qfA n s*10+(c.toNat-48)
 |[],n,c=>by simp[qbW,qkc]
 |d::s,n,c=>by rw[List.cons_append,qbW,qbW,qj8 s]
def qdl (e:qb):List Str:=Lib.itoa e.Number::e.Kind::(e.Names++e.Values.map Lib.itoa)
def qV (e:qb):Str:=qa7 (qdl e)
def qeD (e:qb):Str:=qV e++[59]++qaS (qV e)++[10]
def qH (l:List qb):Str:=l.flatMap qeD
def tailW (l:List Str):Str:=l.flatMap fun w=>32::w
theorem qeZ (x:Str) (l:List Str):tailW (x::l)=[32]++x++tailW l:=rfl
theorem qbf: ∀(x:Str) (l:List Str),qa7 (x::l)=x++tailW l
 |x,[]=>by simp[qa7,tailW]
 |x,y::r=>by rw[qdk (by simp),qbf y r];simp[tailW]
structure qgB (e:qb):Prop where
 n:0≤e.Number∧e.Number<1000000000
 v: ∀x∈e.Values,0≤x∧x<1000000000
 names:e.Names.length≤100
 vals:e.Values.length≤100
 size:(qV e).length≤1000000
theorem qbl {a b:Str} (h:(a++b).length≤1000000000):cat a b=some (a++b):=by
 unfold cat
 rw[if_pos (by simp at h;omega)]
theorem qkh {N:Nat} (hN:100<N) {x:Int} (h:0≤x∧x<1000000000):qaI N x=some (Lib.itoa x):=by
 obtain⟨n,rfl⟩: ∃n:Nat,x=(n:Int):=⟨x.toNat,by omega⟩
 exact qo2 hN (by omega)
theorem qlX {e:qb} (hn:e.Names.length≤100): ∀(K i:Nat) (s:Str),i≤e.Names.length→e.Names.length<K+i→(s++tailW (e.Names.drop i)).length≤100000000→ym e K s (i:Int)=some (s++tailW (e.Names.drop i))
 |0,i,s,h1,h2,_=>by omega
 |K+1,i,s,h1,h2,h3=>by
  unfold ym
  by_cases hi:i<e.Names.length
  ·have ed:e.Names.drop i=e.Names[i]::e.Names.drop (i+1):=List.drop_eq_getElem_cons hi
   have et:s++tailW (e.Names.drop i)=(s++[32]++e.Names[i])++tailW (e.Names.drop (i+1)):=by rw[ed,qeZ,←List.append_assoc,←List.append_assoc]
   rw[et]at h3⊢
   have h4:=h3
   rw[List.length_append]at h4
   rw[if_pos (by omega),qbl (by simp at h4⊢;omega),Option.bind_some,qE,List.getElem?_eq_getElem hi,Option.bind_some,qbl (by omega),Option.bind_some,qL (by omega),qlX hn K (i+1) _ (by omega) (by omega) h3]
  ·rw[if_neg (by omega),List.drop_eq_nil_of_le (by omega)]
   simp[tailW]
theorem qlQ {N:Nat} (hN:100<N) {e:qb} (hn:e.Values.length≤100) (hv: ∀x∈e.Values,0≤x∧x<1000000000): ∀(K i:Nat) (s:Str),i≤e.Values.length→e.Values.length<K+i→(s++tailW ((e.Values.drop i).map Lib.itoa)).length≤100000000→yl N e K s (i:Int)=some (s++tailW ((e.Values.drop i).map Lib.itoa))
 |0,i,s,h1,h2,_=>by omega
 |K+1,i,s,h1,h2,h3=>by
  unfold yl
  by_cases hi:i<e.Values.length
  ·have ed:e.Values.drop i=e.Values[i]::e.Values.drop (i+1):=List.drop_eq_getElem_cons hi
   have et:s++tailW ((e.Values.drop i).map Lib.itoa)=(s++[32]++Lib.itoa e.Values[i])++tailW ((e.Values.drop (i+1)).map Lib.itoa):=by rw[ed,List.map_cons,qeZ,←List.append_assoc,←List.append_assoc]
   rw[et]at h3⊢
   have h4:=h3
   rw[List.length_append]at h4
   rw[if_pos (by omega),qbl (by simp at h4⊢;omega),Option.bind_some,qE,List.getElem?_eq_getElem hi,Option.bind_some,qkh hN (hv _ (List.getElem_mem hi)),Option.bind_some,qbl (by omega),Option.bind_some,qL (by omega),qlQ hN hn hv K (i+1) _ (by omega) (by omega) h3]
  ·rw[if_neg (by omega),List.drop_eq_nil_of_le (by omega)]
   simp[tailW]
theorem qo6 {N:Nat} (hN:6000<N) {e:qb} (h:qgB e):qb2 N e=some (qV e):=by
 have hsz:=h.size
 have eb:qV e=((Lib.itoa e.Number++[32]++e.Kind)++tailW e.Names)++tailW (e.Values.map Lib.itoa):=by
  unfold qV qdl
  rw[qbf]
  simp[tailW]
 rw[eb]at hsz⊢
 have h1:=hsz
 rw[List.length_append]at h1
 have h2:=h1
 rw[List.length_append]at h2
 have g0:=qlX h.names N 0 (Lib.itoa e.Number++[32]++e.Kind) (by omega) (by have:=h.names;omega) (by rw[List.drop_zero];omega)
 have g1:=qlQ (show 100<N by omega) h.vals h.v N 0 ((Lib.itoa e.Number++[32]++e.Kind)++tailW e.Names) (by omega) (by have:=h.vals;omega) (by rw[List.drop_zero];omega)
 rw[List.drop_zero]at g0 g1
 unfold qb2
 rw[qkh (by omega) h.n,Option.bind_some,qbl (by simp at h2⊢;omega),Option.bind_some,qbl (by omega),Option.bind_some,show ym e N _ 0=_ from g0,Option.bind_some,show yl N e N _ 0=_ from g1]
 rfl
theorem qia: ∀(r:List Str),Lib.joinTail [32] r=tailW r
 |[]=>rfl
 |x::r=>by
  have:=qia r
  unfold Lib.joinTail at this⊢
  rw[List.map_cons,List.flatten_cons,this]
  rfl
theorem qnJ: ∀(l:List Str),Lib.join l [32]=qa7 l
 |[]=>rfl
 |x::r=>by rw[Lib.join_cons,qbf,qia]
theorem qie {a:List Int} (hl:a.length≤100) (hv: ∀x∈a,0≤x∧x<1000000000): ∀(K k:Nat) (o:List Str),k≤a.length→a.length<K+k→o.length≤k→qO a K o (k:Int)=some (o++(a.drop k).map Lib.itoa)
 |0,k,o,h1,h2,_=>by omega
 |K+1,k,o,h1,h2,h3=>by
  unfold qO
  by_cases hk:k<a.length
  ·have hx:=hv _ (List.getElem_mem hk)
   have ht:qct a[k]=some (Lib.itoa a[k]):=by unfold qct;rw[if_pos (by omega)]
   rw[if_pos (by omega),qE,List.getElem?_eq_getElem hk,Option.bind_some,show qbo a[k]=some true from rfl,Option.bind_some,if_pos rfl,ht,Option.bind_some,vX (by simp;omega) (by simp;omega),Option.bind_some,Option.bind_some,qL (by omega),qie hl hv K (k+1) _ (by omega) (by omega) (by simp;omega),List.drop_eq_getElem_cons hk,List.map_cons,List.append_assoc]
   rfl
  ·rw[if_neg (by omega),List.drop_eq_nil_of_le (by omega)]
   simp
theorem qmD {N:Nat} (hN:6000<N) {a:List Int} (hl:a.length≤100) (hv: ∀x∈a,0≤x∧x<1000000000):zX N a=some (a.map Lib.itoa):=by
 unfold zX
 have h:=qie hl hv N 0 [] (by omega) (by omega) (by simp)
 rw[show qO a N [] 0=_ from h]
 simp
theorem qiB {sl:List (List Str)} (hs:sl.length≤100): ∀(K k n:Nat),k≤sl.length→sl.length<K+k→n+(sl.drop k).flatten.length≤100000→kw sl K (k:Int) (n:Int)=some ((n+(sl.drop k).flatten.length:Nat):Int)
 |0,k,n,h1,h2,_=>by omega
 |K+1,k,n,h1,h2,h3=>by
  unfold kw
  by_cases hk:k<sl.length
  ·have hd:sl.drop k=sl[k]::sl.drop (k+1):=List.drop_eq_getElem_cons hk
   rw[hd]at h3⊢
   rw[List.flatten_cons,List.length_append]at h3⊢
   have e1:w64 ((n:Int)+(sl[k].length:Int))=((n+sl[k].length:Nat):Int):=by rw[jY (by omega) (by omega)];omega
   rw[if_pos (by omega),qE,List.getElem?_eq_getElem hk,Option.bind_some,e1,if_neg (by omega),Option.bind_some,qL (by omega),qiB hs K (k+1) _ (by omega) (by omega) (by omega)]
   congr 2
   omega
  ·rw[if_neg (by omega),List.drop_eq_nil_of_le (by omega)]
   simp
theorem qiH {sl:List (List Str)} (hs:sl.length≤100): ∀(K k:Nat) (o:List Str),k≤sl.length→sl.length<K+k→o.length+(sl.drop k).flatten.length≤100000→ku sl K (some o) (k:Int)=some (some (o++(sl.drop k).flatten))
 |0,k,o,h1,h2,_=>by omega
 |K+1,k,o,h1,h2,h3=>by
  unfold ku
  by_cases hk:k<sl.length
  ·have hd:sl.drop k=sl[k]::sl.drop (k+1):=List.drop_eq_getElem_cons hk
   rw[hd]at h3⊢
   rw[List.flatten_cons,List.length_append]at h3
   rw[List.flatten_cons]
   rw[if_pos (by omega),qE,List.getElem?_eq_getElem hk,Option.bind_some]
   simp only
   rw[vX (by omega) (by omega),Option.bind_some,Option.bind_some,qL (by omega),qiH hs K (k+1) _ (by omega) (by omega) (by rw[List.length_append];omega),List.append_assoc]
  ·rw[if_neg (by omega),List.drop_eq_nil_of_le (by omega)]
   simp
theorem qo3 {n:Nat} (h0:0<n) (h1:n≤100000):j5 (n:Int)=some (some []):=by
 unfold j5
 have e1:w64 ((n:Int)-(w64 (0-0)))=(n:Int):=by
  rw[show w64 (0-0)=0 by decide,jY (by omega) (by omega)]
  omega
 rw[e1,if_neg (by omega),Option.bind_some,if_pos (by omega)]
 have e2:qjo 16 (n:Int) ([]:Str)=some (List.replicate n []):=by
  unfold qjo
  rw[if_pos (by omega)]
  simp
 rw[e2]
 rfl
theorem qmd {N:Nat} (hN:6000<N) {sl:List (List Str)} (hs:sl.length≤100) (h0:0<sl.flatten.length) (h1:sl.flatten.length≤100000):vK N sl=some sl.flatten:=by
 have g0:=qiB hs N 0 0 (by omega) (by omega) (by rw[List.drop_zero];omega)
 have g1:=qiH hs N 0 [] (by omega) (by omega) (by rw[List.drop_zero];simp at h1⊢;omega)
 rw[List.drop_zero]at g0 g1
 unfold vK
 rw[show kw sl N 0 0=_ from g0,Option.bind_some,Nat.zero_add,qo3 h0 h1,Option.bind_some,show ku sl N (some []) 0=_ from g1]
 rfl
theorem qou {N:Nat} (hN:6000<N) {e:qb} (h:qgB e):qaO N e=some (qV e):=by
 unfold qaO vP
 have ht:qct e.Number=some (Lib.itoa e.Number):=by unfold qct;rw[if_pos (by have:=h.n;omega)]
 have hn:=h.names
 have hv:=h.vals
 have hsz:=h.size
 rw[ht,Option.bind_some,qmD hN h.vals h.v,Option.bind_some,qmd hN (by simp) (by simp) (by simp;omega),Option.bind_some]
 have e1:([[Lib.itoa e.Number,e.Kind],e.Names,e.Values.map Lib.itoa]:List (List Str)).flatten=qdl e:=by simp[qdl]
 rw[e1]
 unfold qgf
 rw[qnJ,if_pos ⟨by simp[qdl];omega,by rw[show qa7 (qdl e)=qV e from rfl];omega⟩]
 rfl
theorem qlu {N:Nat} (hN:6000<N) {e:qb} (h:qgB e) (hs:(qV e).length<6000):xO N e=some (qeD e):=by
 unfold xO
 have e1:=qdZ (qV e)
 rw[qou hN h,Option.bind_some,qbl (by simp;omega),Option.bind_some,Option.bind_some,qoj (by omega) (by omega),Option.bind_some,qbl (by simp;omega),Option.bind_some,qbl (by simp;omega),Option.bind_some]
 rfl
theorem qiZ {N:Nat} (l:List Str) (hl:l.length<4611686018427387904) (hN:l.length<N):xE N l l=some true:=by
 have key: ∀(K k:Nat),k≤l.length→l.length<K+k→zA l l K (k:Int)=some (.inl ()):=by
  intro K
  induction K with
  |zero=>intro k h hK;omega
  |succ K ih=>
   intro k h hK
   unfold zA
   by_cases hk:k<l.length
   ·rw[if_pos (by omega),qE,List.getElem?_eq_getElem hk,Option.bind_some,Option.bind_some,qL (by omega),if_neg (by simp)]
    exact ih (k+1) (by omega) (by omega)
   ·rw[if_neg (by omega)]
 unfold xE
 rw[if_neg (by simp),show zA l l N 0=zA l l N ((0:Nat):Int)from rfl,key N 0 (by omega) (by omega)]
 rfl
theorem qjK {N:Nat} (l:List Int) (hl:l.length<4611686018427387904) (hN:l.length<N):qah N l l=some true:=by
 have key: ∀(K k:Nat),k≤l.length→l.length<K+k→zU l l K (k:Int)=some (.inl ()):=by
  intro K
  induction K with
  |zero=>intro k h hK;omega
  |succ K ih=>
   intro k h hK
   unfold zU
   by_cases hk:k<l.length
   ·rw[if_pos (by omega),qE,List.getElem?_eq_getElem hk,Option.bind_some,Option.bind_some,qL (by omega),if_neg (by simp)]
    exact ih (k+1) (by omega) (by omega)
   ·rw[if_neg (by omega)]
 unfold qah
 rw[if_neg (by simp),show zU l l N 0=zU l l N ((0:Nat):Int)from rfl,key N 0 (by omega) (by omega)]
 rfl
theorem qh0 {N:Nat} (l:List qb) (hl:l.length≤1003) (hN:6000<N) (hM:N<4611686018427387904) (hs: ∀e∈l,e.Names.length<N∧e.Values.length<N):jk N l l=some true:=by
 have key: ∀(K k:Nat),k≤l.length→l.length<K+k→zt N l l K (k:Int)=some (.inl ()):=by
  intro K
  induction K with
  |zero=>intro k h hK;omega
  |succ K ih=>
   intro k h hK
   unfold zt
   by_cases hk:k<l.length
   ·obtain⟨h1,h2⟩:=hs _ (List.getElem_mem hk)
    rw[if_pos (by omega),qE,List.getElem?_eq_getElem hk,Option.bind_some,Option.bind_some,if_neg (by simp),if_neg (by simp),qiZ _ (by omega) h1,Option.bind_some,if_neg (by simp),qjK _ (by omega) h2,Option.bind_some,if_neg (by simp),Option.bind_some,qL (by omega),if_neg (by simp)]
    exact ih (k+1) (by omega) (by omega)
   ·rw[if_neg (by omega)]
 unfold jk
 rw[if_neg (by simp),show zt N l l N 0=zt N l l N ((0:Nat):Int)from rfl,key N 0 (by omega) (by omega)]
 rfl
theorem qf1 {m:Nat}: ∀(l:List Str),(∀w∈l,w.length≤m)→(tailW l).length≤l.length*(m+1)
 |[],_=>by simp[tailW]
 |x::l,h=>by
  have h1:=qf1 l fun w hw=>h w (List.mem_cons_of_mem _ hw)
  have h2:=h x (List.mem_cons_self ..)
  have h3:(l.length+1)*(m+1)=l.length*(m+1)+(m+1):=Nat.succ_mul ..
  rw[qeZ]
  simp only[List.length_append,List.length_cons,List.length_nil,h3]
  omega
theorem qho {x:Int} (h:0≤x∧x<1000000000):(Lib.itoa x).length≤9:=by
 obtain⟨n,rfl⟩: ∃n:Nat,x=(n:Int):=⟨x.toNat,by omega⟩
 rw[qhr]
 exact qfo 8 n (by omega)
theorem xu {e:qb} (h:qJ e=0):qgB e∧(qV e).length≤200∧e.Names.length≤5∧e.Values.length≤5:=by
 have hv:=jo h
 have hn:=qbM h
 have hk:e.Names.length≤2∧e.Values.length≤3∧e.Kind.length≤6:=by
  have h1:=hv.names
  have h2:=hv.values
  rcases qhI hv.form with h3|h3|h3|h3|h3|h3
  ·rw[h3,show zm xJ=(2,3,true)by decide]at h1 h2;rw[h3];simp only at h1 h2;exact⟨by omega,by omega,by decide⟩
  ·rw[h3,show zm qaw=(1,2,true)by decide]at h1 h2;rw[h3];simp only at h1 h2;exact⟨by omega,by omega,by decide⟩
  ·rw[h3,show zm qbX=(1,2,true)by decide]at h1 h2;rw[h3];simp only at h1 h2;exact⟨by omega,by omega,by decide⟩
  ·rw[h3,show zm xW=(1,1,true)by decide]at h1 h2;rw[h3];simp only at h1 h2;exact⟨by omega,by omega,by decide⟩
  ·rw[h3,show zm zZ=(1,1,true)by decide]at h1 h2;rw[h3];simp only at h1 h2;exact⟨by omega,by omega,by decide⟩
  ·rw[h3,show zm vO=(0,0,true)by decide]at h1 h2;rw[h3];simp only at h1 h2;exact⟨by omega,by omega,by decide⟩
 have hnum:0≤e.Number∧e.Number<1000000000:=by have:=hv.num;omega
 have hval: ∀x∈e.Values,0≤x∧x<1000000000:=fun x hx=>by have:=hv.range x hx;omega
 have hb:(qV e).length≤200:=by
  have h1:=qho hnum
  have h2:=qf1 (m:=24) (e.Kind::(e.Names++e.Values.map Lib.itoa)) (fun w hw=>by
   simp only[List.mem_cons,List.mem_append,List.mem_map]at hw
   rcases hw with rfl|hw|⟨x,hx,rfl⟩
   ·omega
   ·exact qfR (List.all_eq_true.1 hn w hw)
   ·have:=qho (hval x hx);omega)
  unfold qV qdl
  rw[qbf,List.length_append]
  simp only[List.length_cons,List.length_append,List.length_map]at h2
  omega
 exact⟨⟨hnum,hval,by omega,by omega,by omega⟩,hb,by omega,by omega⟩
theorem qoK {s:Str} {out:List qb} (h:qdJ s out=0):(qaf s).2=0∧(qaf s).1.Number=((out.length+1:Nat):Int):=by
 unfold qdJ at h
 by_cases h0:(qaf s).2=0
 ·rw[if_pos h0]at h
  by_cases h1:(qaf s).1.Number=((out.length+1:Nat):Int)
  ·exact⟨h0,h1⟩
  ·rw[if_neg h1]at h;cases h
 ·rw[if_neg h0]at h;exact absurd h h0
theorem qoZ {s:Str} (h:(qaf s).2=0):8≤s.length∧qJ (qaf s).1=0:=by
 unfold qaf at h⊢
 split at h
 ·rename_i h1
  rw[if_pos h1]
  split at h
  ·rename_i h2
   rw[if_pos h2]
   split at h
   ·rename_i h3
    rw[if_pos h3]
    refine⟨h1.1,?_⟩
    unfold qdQ at h3⊢
    simp only[Bool.and_eq_true,decide_eq_true_eq]at h3
    exact h3.2.2
   ·cases h
  ·cases h
 ·cases h
theorem qiX: ∀(s cur:Str) (out:List qb) (f:Nat),(scan s cur out f).1.length*9≤out.length*9+cur.length+s.length∧((∀e∈out,qJ e=0)→ ∀e∈(scan s cur out f).1,qJ e=0)
 |[],cur,out,f=>by
  unfold scan
  exact⟨by simp only;omega,fun h=>h⟩
 |c::s,cur,out,f=>by
  unfold scan
  by_cases hc:c=10
  ·rw[if_pos hc]
   by_cases hb:qdJ cur out=0
   ·rw[if_pos hb]
    obtain⟨h1,h2⟩:=qoZ (qoK hb).1
    obtain⟨g1,g2⟩:=qiX s [] (out++[(qaf cur).1]) (f+cur.length+1)
    refine⟨by simp only[List.length_append,List.length_cons,List.length_nil]at g1⊢;omega,fun h=>g2 fun e he=>?_⟩
    rw[List.mem_append,List.mem_singleton]at he
    rcases he with he|rfl
    ·exact h e he
    ·exact h2
   ·rw[if_neg hb]
    exact⟨by simp only[List.length_cons];omega,fun h=>h⟩
  ·rw[if_neg hc]
   obtain⟨g1,g2⟩:=qiX s (cur++[c]) out f
   exact⟨by simp only[List.length_append,List.length_cons,List.length_nil]at g1⊢;omega,g2⟩
def cl (s:Str):Prop:= ∀c∈s,33≤c.toNat
theorem qi9 {c:UInt8} {s:Str} (h:cl (c::s)):33≤c.toNat∧cl s:=⟨h c (List.mem_cons_self ..),fun d hd=>h d (List.mem_cons_of_mem _ hd)⟩
theorem ne32 {c:UInt8} (h:33≤c.toNat):c≠32:=fun e=>by subst e;revert h;decide
theorem ne10 {c:UInt8} (h:33≤c.toNat):c≠10:=fun e=>by subst e;revert h;decide
theorem qki: ∀(x a s:Str),cl x→spl a (x++32::s)=(a++x)::spl [] s
 |[],a,s,_=>by simp[spl]
 |c::x,a,s,h=>by
  obtain⟨h1,h2⟩:=qi9 h
  rw[List.cons_append,spl,if_neg (ne32 h1),qki x (a++[c]) s h2]
  simp
theorem qlh: ∀(x a:Str),cl x→spl a x=[a++x]
 |[],a,_=>by simp[spl]
 |c::x,a,h=>by
  obtain⟨h1,h2⟩:=qi9 h
  rw[spl,if_neg (ne32 h1),qlh x (a++[c]) h2]
  simp
theorem qg5: ∀(x:Str) (l:List Str),cl x→(∀w∈l,cl w)→spl [] (qa7 (x::l))=x::l
 |x,[],h,_=>by rw[show qa7 [x]=x from rfl,qlh x [] h];rfl
 |x,y::l,h,hl=>by
  rw[qdk (by simp),qki x [] _ h,qg5 y l (hl y (List.mem_cons_self ..)) fun w hw=>hl w (List.mem_cons_of_mem _ hw)]
  rfl
theorem qfT: ∀(x s:Str),cl x→qdI (x++32::s)=some x.length
 |[],s,_=>by simp[qdI]
 |c::x,s,h=>by
  obtain⟨h1,h2⟩:=qi9 h
  rw[List.cons_append,qdI,if_neg (ne32 h1),qfT x s h2]
  rfl
theorem qmG {x:Str} (s:Str) (h:cl x):qdH (x++32::s)=(x,s):=by
 unfold qdH
 rw[qfT x s h]
 simp
theorem qjU {n:Nat} (h:n<10):(UInt8.ofNat (48+n)).toNat=48+n:=by
 rw[UInt8.toNat_ofNat']
 omega
theorem qgG (n:Nat):(Lib.decDigits n).all qbh=true∧qfA 0 (Lib.decDigits n)=n∧1≤(Lib.decDigits n).length∧(0<n→(Lib.decDigits n)[0]? ≠some 48):=by
 induction n using Nat.strongRecOn with
 |_ n ih=>
  rw[Lib.decDigits]
  by_cases h:n<10
  ·have hb:=qjU h
   rw[dif_pos h]
   refine⟨?_,?_,by simp,fun h0 he=>?_⟩
   ·simp only[List.all_cons,List.all_nil,Bool.and_true,qbh,hb]
    simp
    omega
   ·rw[qbW,qkc,hb]
    omega
   ·simp only[List.getElem?_cons_zero,Option.some.injEq]at he
    have:=congrArg UInt8.toNat he
    rw[hb]at this
    have h2:(48:UInt8).toNat=48:=rfl
    omega
  ·obtain⟨h1,h2,h3,h4⟩:=ih (n/10) (by omega)
   have hb:=qjU (show n%10<10 by omega)
   rw[dif_neg h]
   refine⟨?_,?_,by simp,fun h0 he=>?_⟩
   ·rw[List.all_append,h1]
    simp only[List.all_cons,List.all_nil,Bool.and_true,Bool.true_and,qbh,hb]
    simp
    omega
   ·rw[qj8,h2,hb]
    omega
   ·rw[List.getElem?_append_left (by omega)]at he
    exact h4 (by omega) he
theorem qnz {s:Str} (h:s.all qbh=true):cl s:=by
 intro c hc
 have:=List.all_eq_true.1 h c hc
 unfold qbh at this
 simp only[Bool.and_eq_true,decide_eq_true_eq]at this
 omega
theorem qfn {x:Int} (h:0≤x∧x<1000000000):qc9 (Lib.itoa x)=(x,true)∧cl (Lib.itoa x)∧Lib.itoa x≠[]:=by
 obtain⟨n,rfl⟩: ∃n:Nat,x=(n:Int):=⟨x.toNat,by omega⟩
 obtain⟨h1,h2,h3,h4⟩:=qgG n
 have hl:=qfo 8 n (by omega)
 rw[qhr]
 refine⟨?_,qnz h1,fun e=>by rw[e]at h3;simp at h3⟩
 have hb:intB (Lib.decDigits n)=true:=by
  unfold intB
  have h5:(decide ((Lib.decDigits n).length=1)||!((Lib.decDigits n)[0]? ==some 48))=true:=by
   rcases Nat.eq_zero_or_pos n with h0|h0
   ·subst h0
    rw[Lib.decDigits]
    simp
   ·have:=h4 h0
    simp[this]
  rw[h5,h1]
  simp
  omega
 unfold qc9
 rw[if_pos hb,h2]
theorem qo0 {s:Str} (h:xG s=true):cl s:=by
 intro c hc
 unfold xG at h
 simp only[Bool.and_eq_true,Bool.not_eq_true',List.any_eq_false]at h
 obtain⟨k,hk,e⟩:=List.mem_iff_getElem.1 hc
 have h2:=h.2 k (List.mem_range.2 hk)
 rw[List.getD_eq_getElem?_getD,List.getElem?_eq_getElem hk,Option.getD_some,e]at h2
 unfold qjs qh5 at h2
 simp at h2
 omega
theorem qgR {k:Str} (h:(zm k).2.2=true):cl k∧k≠[]:=by
 rcases qhI h with rfl|rfl|rfl|rfl|rfl|rfl<;>exact⟨by unfold cl;decide,by decide⟩
def qd8 (e:qb):List Str:=e.Names++e.Values.map Lib.itoa
theorem qgy {e:qb} (h:qJ e=0): ∀w∈qd8 e,cl w∧w≠[]:=by
 intro w hw
 have hv:=jo h
 unfold qd8 at hw
 rw[List.mem_append,List.mem_map]at hw
 rcases hw with hw|⟨x,hx,rfl⟩
 ·have:=List.all_eq_true.1 (qbM h) w hw
  refine⟨qo0 this,fun e=>?_⟩
  subst e
  revert this
  decide
 ·have:=hv.range x hx
  exact(qfn (by omega)).2
theorem ql4 {e:qb} (h:qJ e=0):qjq (e.Kind::qd8 e)=(⟨0,e.Kind,e.Names,e.Values,[]⟩,true):=by
 have hv:=jo h
 have hr:=qgy h
 obtain⟨_,hk⟩:=qgR hv.form
 have hn:=hv.names
 have hs:=hv.values
 unfold qjq
 rw[List.headD_cons]
 have hnat:(zm e.Kind).1.toNat=e.Names.length:=by omega
 have hvals: ∀l:List Int,(∀v∈l,0≤v∧v≤999999999)→((l.map Lib.itoa).all fun w=>(qc9 w).2)=true∧(l.map Lib.itoa).map (fun w=>(qc9 w).1)=l:=by
  intro l
  induction l with
  |nil=>intro _;exact⟨rfl,rfl⟩
  |cons x l ih=>
   intro hl
   obtain⟨a1,a2⟩:=ih fun v hv=>hl v (List.mem_cons_of_mem _ hv)
   have hx:=(qfn (x:=x) (by have:=hl x (List.mem_cons_self ..);omega)).1
   refine⟨?_,?_⟩
   ·rw[List.map_cons,List.all_cons,hx,a1];rfl
   ·rw[List.map_cons,List.map_cons,hx,a2]
 obtain⟨v1,v2⟩:=hvals e.Values hv.range
 have e1:(e.Kind::qd8 e).drop (1+e.Names.length)=e.Values.map Lib.itoa:=by
  rw[Nat.add_comm,List.drop_succ_cons]
  exact List.drop_left
 have e2:((e.Kind::qd8 e).drop 1).take e.Names.length=e.Names:=by
  rw[List.drop_succ_cons,List.drop_zero]
  exact List.take_left
 have e3:((e.Kind::qd8 e).any fun w=>([]:Str)==w)=false:=by
  rw[List.any_eq_false]
  intro w hw
  have:w≠[]:=by
   rcases List.mem_cons.1 hw with rfl|hw
   ·exact hk
   ·exact(hr w hw).2
  cases w with
  |nil=>exact absurd rfl this
  |cons=>simp
 have e4:((e.Kind::qd8 e).length:Int)=1+(zm e.Kind).1+(zm e.Kind).2.1:=by
  unfold qd8
  simp only[List.length_cons,List.length_append,List.length_map]
  omega
 rw[hnat,e1,e2,e3,v1,v2,if_pos (by rw[hv.form,e4];simp)]
def qcq (e:qb):Str:=qa7 (e.Kind::qd8 e)
theorem qcZ (e:qb):qV e=Lib.itoa e.Number++32::qcq e:=by
 unfold qV qdl qcq qd8
 rw[qdk (by simp)]
theorem qeS {e:qb} (h:qJ e=0):xm (qcq e)=(⟨0,e.Kind,e.Names,e.Values,[]⟩,true):=by
 unfold xm qcq
 rw[qg5 _ _ (qgR (jo h).form).1 fun w hw=>(qgy h w hw).1]
 exact ql4 h
theorem qix {e:qb} (h:qJ e=0):qd1 e.Number ⟨0,e.Kind,e.Names,e.Values,[]⟩=e:=by
 have:=(jo h).text
 obtain⟨a,b,c,d,t⟩:=e
 simp only at this
 subst this
 rfl
theorem qmn {e:qb} (h:qJ e=0):qdQ (qV e)=(e,true):=by
 have hn:=(jo h).num
 obtain⟨i1,i2,_⟩:=qfn (x:=e.Number) (by omega)
 unfold qdQ
 rw[qcZ,qmG _ i2]
 simp only[i1,qeS h,qix h,h]
 rfl
theorem qeQ: ∀n:Nat,(List.replicate n (48:UInt8)).all qbh=true
 |0=>rfl
 |n+1=>by
  rw[List.replicate_succ,List.all_cons,qeQ n]
  decide
theorem qiR (s:Str):(qaS s).all qbh=true:=by
 unfold qaS
 rw[List.all_append,(qgG _).1,qeQ]
 rfl
def yT (e:qb):Str:=qV e++[59]++qaS (qV e)
theorem qfL (e:qb):qeD e=yT e++[10]:=by simp[qeD,yT]
theorem qm2 (e:qb):(yT e).length=(qV e).length+8:=by
 have:=qdZ (qV e)
 unfold yT
 simp;omega
theorem qdu (b t:Str) (c:UInt8) (ht:t.length=7):8≤(b++[c]++t).length∧(b++[c]++t)[(b++[c]++t).length-8]? =some c∧(b++[c]++t).drop ((b++[c]++t).length-7)=t∧(b++[c]++t).take ((b++[c]++t).length-8)=b:=by
 have hl:(b++[c]++t).length=b.length+8:=by simp;omega
 rw[hl]
 refine⟨by omega,?_,?_,?_⟩
 ·rw[show b.length+8-8=b.length by omega,List.append_assoc,List.getElem?_append_right (Nat.le_refl _)]
  simp
 ·rw[show b.length+8-7=(b++[c]).length by simp]
  exact List.drop_left
 ·rw[show b.length+8-8=b.length by omega,List.append_assoc]
  exact List.take_left
theorem qhF {e:qb} (h:qJ e=0):qaf (yT e)=(e,0):=by
 obtain⟨h1,h2,h3,h4⟩:=qdu (qV e) (qaS (qV e)) 59 (qdZ _)
 unfold qaf yT
 rw[h3,h4,if_pos ⟨h1,h2,qiR _⟩,if_pos rfl,qmn h,if_pos rfl]
def qgu (s:Str):Prop:= ∀c∈s,c≠10
theorem qnL {s:Str} (h:cl s):qgu s:=fun c hc=>ne10 (h c hc)
theorem qk8 {a b:Str} (ha:qgu a) (hb:qgu b):qgu (a++b):=fun c hc=>by
 rcases List.mem_append.1 hc with h|h
 ·exact ha c h
 ·exact hb c h
theorem qlG: ∀(l:List Str),(∀w∈l,cl w)→qgu (qa7 l)
 |[],_=>fun c hc=>by cases hc
 |[x],h=>qnL (h x (List.mem_cons_self ..))
 |x::y::l,h=>by
  rw[qdk (by simp)]
  refine qk8 (qnL (h x (List.mem_cons_self ..))) fun c hc=>?_
  rcases List.mem_cons.1 hc with rfl|hc
  ·decide
  ·exact qlG (y::l) (fun w hw=>h w (List.mem_cons_of_mem _ hw)) c hc
theorem qoT {e:qb} (h:qJ e=0):qgu (qV e):=by
 have hn:=(jo h).num
 unfold qV qdl
 refine qlG _ fun w hw=>?_
 rcases List.mem_cons.1 hw with rfl|hw
 ·exact(qfn (x:=e.Number) (by omega)).2.1
 ·rcases List.mem_cons.1 hw with rfl|hw
  ·exact(qgR (jo h).form).1
  ·exact(qgy h w hw).1
theorem qgM {e:qb} (h:qJ e=0):qgu (yT e):=by
 unfold yT
 refine qk8 (qk8 (qoT h) ?_) (qnL (qnz (qiR _)))
 intro c hc
 rw[List.mem_singleton]at hc
 subst hc
 decide
theorem qc8: ∀(x cur s:Str) (out:List qb) (f:Nat),qgu x→scan (x++10::s) cur out f=if qdJ (cur++x) out=0 then scan s [] (out++[(qaf (cur++x)).1]) (f+(cur++x).length+1)else(out,f,qdJ (cur++x) out)
 |[],cur,s,out,f,_=>by
  rw[List.nil_append,scan,if_pos rfl,List.append_nil]
 |c::x,cur,s,out,f,h=>by
  have h1:=h c (List.mem_cons_self ..)
  rw[List.cons_append,scan,if_neg h1,qc8 x (cur++[c]) s out f fun d hd=>h d (List.mem_cons_of_mem _ hd),List.append_assoc]
  rfl
theorem qet: ∀(x cur:Str) (out:List qb) (f:Nat),qgu x→scan x cur out f=(out,f,if cur++x=[]then 0 else 28)
 |[],cur,out,f,_=>by rw[scan,List.append_nil]
 |c::x,cur,out,f,h=>by
  have h1:=h c (List.mem_cons_self ..)
  rw[scan,if_neg h1,qet x (cur++[c]) out f fun d hd=>h d (List.mem_cons_of_mem _ hd),List.append_assoc]
  rfl
theorem qat (e:qb) (l:List qb):qH (e::l)=qeD e++qH l:=by simp[qH]
theorem qfr (a b:List qb):qH (a++b)=qH a++qH b:=by simp[qH]
def qdM (n:Nat) (l:List qb):Prop:= ∀(i:Nat) (e:qb),l[i]? =some e→e.Number=((n+i+1:Nat):Int)∧qJ e=0
theorem qdM.tail {n:Nat} {e:qb} {l:List qb} (h:qdM n (e::l)):(e.Number=((n+1:Nat):Int)∧qJ e=0)∧qdM (n+1) l:=by
 refine⟨h 0 e rfl,fun i x hx=>?_⟩
 obtain⟨h1,h2⟩:=h (i+1) x (by simpa using hx)
 exact⟨by rw[h1];congr 1;omega,h2⟩
theorem qdM.take {n:Nat} {l:List qb} (h:qdM n l) (m:Nat):qdM n (l.take m):=fun i e he=>by
 rw[List.getElem?_take]at he
 split at he
 ·exact h i e he
 ·cases he
theorem qdM.drop {n:Nat} {l:List qb} (h:qdM n l) (m:Nat):qdM (n+m) (l.drop m):=fun i e he=>by
 rw[List.getElem?_drop]at he
 obtain⟨h1,h2⟩:=h (m+i) e he
 exact⟨by rw[h1];congr 1;omega,h2⟩
theorem qdM.chk {n:Nat} {l:List qb} (h:qdM n l): ∀e∈l,qJ e=0:=fun e he=>by
 obtain⟨i,hi⟩:=List.getElem?_of_mem he
 exact(h i e hi).2
theorem qg8 {e:qb} {out:List qb} (h:qJ e=0):qdJ (yT e) out=if e.Number=((out.length+1:Nat):Int)then 0 else 11:=by
 unfold qdJ
 rw[qhF h,if_pos rfl]
theorem qeb: ∀(l out:List qb) (f:Nat) (s:Str),qdM out.length l→scan (qH l++s) [] out f=scan s [] (out++l) (f+(qH l).length)
 |[],out,f,s,_=>by simp[qH]
 |e::l,out,f,s,h=>by
  obtain⟨⟨h1,h2⟩,h3⟩:=h.tail
  have hb:=qg8 (out:=out) h2
  rw[if_pos h1]at hb
  rw[qat,qfL,List.append_assoc,List.append_assoc,show[10]++(qH l++s)=10::(qH l++s)from rfl,qc8 _ _ _ _ _ (qgM h2),List.nil_append,if_pos hb,qhF h2,qeb l (out++[e]) _ s (by simpa using h3)]
  congr 1
  ·simp
  ·simp;omega
theorem qlr: ∀(s:Str) {x y:Nat},x<9999991→y<9999991→qdL x s=qdL y s→x=y
 |[],x,y,_,_,h=>h
 |c::s,x,y,hx,hy,h=>by
  rw[qaM,qaM]at h
  have:=qlr s (Nat.mod_lt _ (by decide)) (Nat.mod_lt _ (by decide)) h
  omega
theorem qlL: ∀(s:Str) (k:Nat) (c:UInt8) {x:Nat},x<9999991→(hk:k<s.length)→s[k]≠c→qdL x (s.set k c)≠qdL x s
 |[],k,c,x,_,hk,_=>by simp at hk
 |d::s,0,c,x,hx,_,hne=>by
  intro h
  rw[List.set_cons_zero,qaM,qaM]at h
  have h1:=qlr s (Nat.mod_lt _ (by decide)) (Nat.mod_lt _ (by decide)) h
  have hc:c.toNat<256:=c.toNat_lt
  have hd:d.toNat<256:=d.toNat_lt
  have h2:c.toNat=d.toNat:=by omega
  exact hne (UInt8.toNat_inj.1 h2.symm)
 |d::s,k+1,c,x,hx,hk,hne=>by
  intro h
  rw[List.set_cons_succ,qaM,qaM]at h
  exact qlL s k c (Nat.mod_lt _ (by decide)) (by simpa using hk) (by simpa using hne) h
theorem qnV {a b:Str} (h:qaS a=qaS b):qdL 7 a=qdL 7 b:=by
 have h1:=qgG (qdL 7 a)
 have h2:=qgG (qdL 7 b)
 have z: ∀n:Nat,∀t:Str,qfA 0 (List.replicate n 48++t)=qfA 0 t:=by
  intro n
  induction n with
  |zero=>intro t;rfl
  |succ n ih=>
   intro t
   rw[List.replicate_succ,List.cons_append,qbW,show 0*10+((48:UInt8).toNat-48)=0 from rfl,ih]
 have:=congrArg (qfA 0) h
 unfold qaS at this
 rw[z,z,h1.2.1,h2.2.1]at this
 exact this
theorem qjB (e:qb) (k:Nat) (c:UInt8) (hk:k<(yT e).length) (hne:(yT e)[k]≠c):(qaf ((yT e).set k c)).2≠0:=by
 have hs:=qdZ (qV e)
 have hl:=qm2 e
 by_cases h1:k<(qV e).length
 ·have e1:(yT e).set k c=(qV e).set k c++[59]++qaS (qV e):=by
   unfold yT
   rw[List.append_assoc,List.set_append_left _ _ h1,List.append_assoc]
  have hb:(qV e)[k]≠c:=by
   have:(yT e)[k]=(qV e)[k]:=by
    simp only[yT,List.append_assoc]
    exact List.getElem_append_left h1
   rw[←this];exact hne
  obtain⟨p1,p2,p3,p4⟩:=qdu ((qV e).set k c) (qaS (qV e)) 59 hs
  rw[e1]
  unfold qaf
  rw[p3,p4,if_pos ⟨p1,p2,qiR _⟩]
  have:qaS (qV e)≠qaS ((qV e).set k c):=fun h=>qlL (qV e) k c (x:=7) (by decide) h1 hb (qnV h).symm
  rw[if_neg this]
  decide
 ·by_cases h2:k=(qV e).length
  ·have e1:(yT e).set k c=qV e++[c]++qaS (qV e):=by
    unfold yT
    rw[List.append_assoc,List.set_append_right _ _ (by omega),h2,Nat.sub_self,List.append_assoc]
    rfl
   have hb:c≠59:=by
    have:(yT e)[k]=59:=by
     subst h2
     simp only[yT,List.append_assoc]
     rw[List.getElem_append_right (Nat.le_refl _)]
     simp
    rw[this]at hne
    exact fun h=>hne h.symm
   obtain⟨p1,p2,p3,p4⟩:=qdu (qV e) (qaS (qV e)) c hs
   rw[e1]
   unfold qaf
   rw[p2,if_neg (by simp[hb])]
   decide
  ·have h3:(qV e).length+1≤k:=by omega
   have e1:(yT e).set k c=qV e++[59]++(qaS (qV e)).set (k-((qV e).length+1)) c:=by
    unfold yT
    rw[List.set_append_right _ _ (by simp;omega)]
    simp
   have hlt:k-((qV e).length+1)<(qaS (qV e)).length:=by omega
   have hb:(qaS (qV e))[k-((qV e).length+1)]≠c:=by
    have:(yT e)[k]=(qaS (qV e))[k-((qV e).length+1)]:=by
     simp only[yT]
     rw[List.getElem_append_right (by simp;omega)]
     simp
    rw[←this];exact hne
   obtain⟨p1,p2,p3,p4⟩:=qdu (qV e) ((qaS (qV e)).set (k-((qV e).length+1)) c) 59 (by rw[List.length_set];exact hs)
   rw[e1]
   unfold qaf
   rw[p3,p4]
   split
   ·have:(qaS (qV e)).set (k-((qV e).length+1)) c≠qaS (qV e):=fun h=>by
     have h4:((qaS (qV e)).set (k-((qV e).length+1)) c)[k-((qV e).length+1)]? =(qaS (qV e))[k-((qV e).length+1)]? :=by rw[h]
     rw[List.getElem?_set_self hlt,List.getElem?_eq_getElem hlt,Option.some.injEq]at h4
     exact hb h4.symm
    rw[if_neg this]
    decide
   ·decide
theorem qpD {s:Str} (h:qgu s) (k:Nat) {c:UInt8} (hc:c≠10):qgu (s.set k c):=fun d hd=>by
 rcases List.mem_or_eq_of_mem_set hd with hd|rfl
 ·exact h d hd
 ·exact hc
theorem qfB: ∀(l out:List qb) (f k:Nat) (c:UInt8),qdM out.length l→(hk:k<(qH l).length)→(qH l)[k]≠10→c≠10→(qH l)[k]≠c→
 (scan ((qH l).set k c) [] out f).2.2≠0∧(scan ((qH l).set k c) [] out f).2.1<f+(qH l).length
 |[],out,f,k,c,_,hk,_,_,_=>by simp[qH]at hk
 |e::l,out,f,k,c,h,hk,h10,hc,hne=>by
  obtain⟨⟨h1,h2⟩,h3⟩:=h.tail
  have hb:=qg8 (out:=out) h2
  rw[if_pos h1]at hb
  have hnl:=qgM h2
  have eL:qH (e::l)=yT e++10::qH l:=by rw[qat,qfL,List.append_assoc];rfl
  simp only[eL]at hk h10 hne⊢
  by_cases h4:k<(yT e).length
  ·rw[List.set_append_left _ _ h4,qc8 _ _ _ _ _ (qpD hnl k hc),List.nil_append]
   have hq:(yT e)[k]≠c:=by
    rw[List.getElem_append_left h4]at hne;exact hne
   have hz:=qjB e k c h4 hq
   have hbz:qdJ ((yT e).set k c) out≠0:=by
    unfold qdJ
    rw[if_neg hz]
    exact hz
   rw[if_neg hbz]
   refine⟨hbz,?_⟩
   simp only[List.length_append,List.length_cons]
   omega
  ·by_cases h5:k=(yT e).length
   ·exfalso
    apply h10
    subst h5
    rw[List.getElem_append_right (Nat.le_refl _)]
    simp
   ·have h6:(yT e).length+1≤k:=by omega
    obtain⟨j,rfl⟩: ∃j,k=(yT e).length+1+j:=⟨k-((yT e).length+1),by omega⟩
    have hj:j<(qH l).length:=by simp only[List.length_append,List.length_cons]at hk;omega
    have eg:(yT e++10::qH l)[(yT e).length+1+j]=(qH l)[j]:=by
     rw[List.getElem_append_right (by omega)]
     simp only[show(yT e).length+1+j-(yT e).length=j+1 by omega,List.getElem_cons_succ]
    rw[eg]at h10 hne
    rw[List.set_append_right _ _ (by omega),show(yT e).length+1+j-(yT e).length=j+1 by omega,List.set_cons_succ,qc8 _ _ _ _ _ hnl,List.nil_append,if_pos hb,qhF h2]
    obtain⟨g1,g2⟩:=qfB l (out++[e]) (f+(yT e).length+1) j c (by simpa using h3) hj h10 hc hne
    refine⟨g1,?_⟩
    simp only[List.length_append,List.length_cons]
    omega
def qbd (p:qc→Bool) (s:List qc):List Str:=(s.filter p).map (·.Name)
theorem qmB (p:qc→Bool) (s:List qc):(qbd p s).length≤s.length:=by
 unfold qbd;rw[List.length_map];exact List.length_filter_le _ _
theorem qjO (p:qc→Bool) (x:qc) (s:List qc):qbd p (x::s)=if p x=true then x.Name::qbd p s else qbd p s:=by
 unfold qbd;rw[List.filter_cons];split<;>simp
def qkp (_:qc):Bool:=true
theorem qlA (s:List qc) (hs:s.length≤1000): ∀(K k:Nat) (acc:List Str),k≤s.length→s.length<K+k→acc.length≤k→qG s K acc (k:Int)=some (acc++qbd qkp (s.drop k))
 |0,k,_,h,hK,_=>by omega
 |K+1,k,acc,h,hK,ha=>by
  unfold qG
  by_cases hk:k<s.length
  ·rw[if_pos (by omega),qE,List.getElem?_eq_getElem hk,Option.bind_some,qL (by omega),List.drop_eq_getElem_cons hk,qjO]
   simp only[vI,yK,Option.bind_some]
   rw[if_pos trivial,if_pos (show qkp s[k]=true from rfl),vX (by simp;omega) (by simp;omega),Option.bind_some,Option.bind_some,qlA s hs K (k+1) _ (by omega) (by omega) (by simp;omega)]
   simp
  ·rw[if_neg (by omega),List.drop_of_length_le (by omega)]
   simp[qbd]
theorem qoI {N:Nat} (hN:6000<N) {s:List qc} (hs:s.length≤1000):jL N s=some (qbd qkp s):=by
 unfold jL
 rw[show qG s N [] 0=qG s N [] ((0:Nat):Int)from rfl,qlA s hs N 0 [] (by omega) (by omega) (by simp),List.drop_zero]
 rfl
def qo9:Str:=[115,108,105,110,103]
def qbZ:Str:=[115,108,105,110,103,115]
def kDueQ:Str:=[100,117,101]
def ansE (l:List Str):Str:=if l=[]then[110,111,110,101]else qa7 l
theorem qlo {l:List Str} {m:Nat} (h1:l.length≤1000) (h2: ∀w∈l,w.length≤m) (hm:m≤1000):qgf l [32]=some (qa7 l):=by
 unfold qgf
 rw[qnJ,if_pos]
 refine⟨by omega,?_⟩
 match l,h1,h2 with
 |[],_,_=>simp[qa7]
 |x::r,h1,h2=>
  have h3:=qf1 (m:=m) r fun w hw=>h2 w (List.mem_cons_of_mem _ hw)
  have h4:=h2 x (List.mem_cons_self ..)
  have h5:r.length*(m+1)≤1000*1001:=Nat.mul_le_mul (by simp at h1;omega) (by omega)
  rw[qbf,List.length_append]
  omega
theorem qjj {x:Str} {l:List Str} (h:x≠[]):qa7 (x::l)≠[]:=by
 rw[qbf]
 cases x with
 |nil=>exact absurd rfl h
 |cons c x=>simp
theorem qm3 {s:Str} (h:xG s=true):s≠[]:=by
 rw[qfh]at h
 simp only[Bool.and_eq_true,decide_eq_true_eq]at h
 intro e
 rw[e]at h
 simp at h
theorem qjI {l:List qc} (h:qdU l) (p:qc→Bool): ∀w∈qbd p l,w.length≤24∧w≠[]:=by
 intro w hw
 unfold qbd at hw
 obtain⟨s,hs,rfl⟩:=List.mem_map.1 hw
 have:=(h s (List.mem_filter.1 hs).1).name
 exact⟨qfR this,qm3 this⟩
theorem qod {l:List Str} (h: ∀w∈l,w≠[]):(if(qa7 l==[])=true then some [110,111,110,101]else some (qa7 l):Option Str)=some (ansE l):=by
 unfold ansE
 cases l with
 |nil=>rfl
 |cons x r=>
  have:=qjj (l:=r) (h x (List.mem_cons_self ..))
  rw[if_neg (by simp[this]),if_neg (by simp)]
structure qnS (N:Nat) (ev:List qb) (o o':Option (List StateT)) (d:Int) (l:List qc):Prop where
 reg:qy ev o=some (o',d,l)
 rep:yN N ev=some (⟨d,l⟩,0,0)
 same:hof o'=hof o
 asc:Asc l
 len:l.length≤1000
 ok:qdU l
 big:6000<N
 max:N<4611686018427387904
theorem qoo {N:Nat} {ev:List qb} {o o':Option (List StateT)} {d:Int} {l:List qc} (h:qnS N ev o o' d l) (ws:List Str):
 zI N ev o ws=some (o',qa7 (qbd qkp l)):=by
 have hl:=h.len
 have hn:=qjI h.ok qkp
 have hle:=qmB qkp l
 unfold zI vP
 rw[h.reg,Option.bind_some]
 simp only
 rw[qoI h.big hl,Option.bind_some,qlo (m:=24) (by omega) (fun w hw=>(hn w hw).1) (by omega)]
 rfl
theorem qm5 (x:Str):(if(x==[109,97,107,101])=true then some true else if(x==[116,101,115,116])=true then some true else if(x==[117,115,101])=true then some true else if(x==[102,97,105,108])=true then some true else if(x==[114,101,99,97,108,108])=true then some true else if(x==[117,110,100,111])=true then some true else some false:Option Bool)=some (zm x).2.2:=by
 unfold zm xJ qaw qbX xW zZ vO
 repeat' split
 all_goals first|rfl|simp_all
theorem qlp {N:Nat} (hN:6000<N) {ev:List qb} {o:Option (List StateT)} {line:Str} (hl:line.length≤1000) (hne:line≠[]) {w0:Str} {r:List Str} (hw:spl [] line=w0::r):
 qB N ev o line=if(zm w0).2.2=true then zY N ev o line else
  (if(w0==qo9)=true then
   (if(!decide (((w0::r).length:Int)=2))=true then some true else some ((w0::r).any fun w=>[]==w):Option Bool).bind fun b33=>
   if b33=true then some (ev,o,[],25)else(vS N ev o r).bind fun(o38,s_39,words__40)=>
   if(!decide (words__40=0))=true then some (ev,o38,[],words__40)else
   ((if(s_39==[])=true then some [110,111,110,101]else some s_39:Option Str)).bind fun out_42=>some (ev,o38,out_42,0)
  else if(w0==qbZ)=true then
   (if(!decide (((w0::r).length:Int)=1))=true then some true else some ((w0::r).any fun w=>[]==w):Option Bool).bind fun b47=>
   if b47=true then some (ev,o,[],25)else(zI N ev o r).bind fun(o52,s_53)=>
   ((if(s_53==[])=true then some [110,111,110,101]else some s_53:Option Str)).bind fun out_55=>some (ev,o52,out_55,0)
  else if(w0==kDueQ)=true then
   (if(!decide (((w0::r).length:Int)=2))=true then some true else some ((w0::r).any fun w=>[]==w):Option Bool).bind fun b60=>
   if b60=true then some (ev,o,[],25)else(yE N ev o r).bind fun(o65,s_66,words__67)=>
   if(!decide (words__67=0))=true then some (ev,o65,[],words__67)else
   ((if(s_66==[])=true then some [110,111,110,101]else some s_66:Option Str)).bind fun out_69=>some (ev,o65,out_69,0)
  else some (ev,o,[],13)):=by
 have hlen:(w0::r).length≤1001:=by rw[←hw];have:=qj3 line;omega
 unfold qB
 rw[xX,Option.bind_some,xX,Option.bind_some,qap (by simp) (by simp;omega),Option.bind_some]
 have e0:zk [if decide ((line.length:Int)>4096)=true then(26:Int)else 0,if(line==[])=true then(25:Int)else 0]=0:=by
  have: ¬((line.length:Int)>4096):=by omega
  simp[zk,this,hne]
 rw[e0,if_neg (by simp),qjQ (by omega) (by omega),Option.bind_some,hw]
 simp only[zq,qas,Option.bind_some,qav,List.getElem?_cons_zero]
 rw[qm5,Option.bind_some]
 by_cases hf:(zm w0).2.2=true
 ·rw[if_pos hf,if_pos hf]
  cases zY N ev o line<;>rfl
 ·rw[if_neg hf,if_neg hf]
  have ec:cut (w0::r) 1 (((w0::r).length:Nat):Int)=some r:=yA (l:=w0::r) (k:=1) (by simp)
  have e2:w64 (1+1)=2:=by decide
  have e1:w64 (0+1)=1:=by decide
  have ek:slices_Contains_string N (w0::r) []=some ((w0::r).any fun w=>[]==w):=qf8 (by omega) (by omega)
  simp only[ec,e1,e2,ek,Option.bind_some]
  rfl
theorem qeh {N:Nat} (hN:6000<N) {e:qb} (h:qJ e=0):qcD N e:=by
 obtain⟨_,_,h1,h2⟩:=xu h
 have hn:=qbM h
 exact⟨by omega,by omega,fun s hs=>by have:=qfR (List.all_eq_true.1 hn s hs);omega⟩
structure qae (N:Nat) (ev:List qb) (o:Option (List StateT)):Prop where
 big:6000<N
 max:N<4611686018427387904
 run:(zJ N ev 0 []).2.1=0
 rel:Rel N (zJ N ev 0 []).2.2 (hof o)
 cl:(zJ N ev 0 []).2.2.length≤ev.length
 chk: ∀e∈ev,qJ e=0
theorem qae.evs {N:Nat} {ev:List qb} {o:Option (List StateT)} (h:qae N ev o) (hl:ev.length≤1000):Evs N ev:=⟨hl,fun e he=>qeh h.big (h.chk e he),h.big,h.max⟩
theorem qae.same {N:Nat} {ev:List qb} {o o2:Option (List StateT)} (h:qae N ev o) (he:hof o2=hof o):qae N ev o2:=⟨h.big,h.max,h.run,by rw[he];exact h.rel,h.cl,h.chk⟩
theorem qae.reg {N:Nat} {ev:List qb} {o:Option (List StateT)} (h:qae N ev o) (hl:ev.length≤1000): ∃o' d l,qnS N ev o o' d l:=by
 have hcl:=h.cl
 obtain⟨o',d,l,h1,h2,h3,h4,h5,h6⟩:=qad (evs:=ev) h.rel (by omega) h.big
 rcases qb5 (h.evs hl)with⟨e0,_⟩|⟨_,d',s',e1,_,e3⟩
 ·exact absurd h.run e0
 ·rw[h3]at e1
  injection e1 with e1
  injection e1 with ed es
  subst ed es
  exact⟨o',d,l,h1,e3,h2,h4,by omega,h6,h.big,h.max⟩
def yZ (n:Nat) (line:Str):qb:=qd1 (n:Int) (xm line).1
def doneT (n:Nat):Str:=[100,111,110,101,32]++Lib.itoa (n:Int)
theorem qae.step {N:Nat} {ev:List qb} {o:Option (List StateT)} (h:qae N ev o) (hl:ev.length<900) {line:Str} (hs:line.length≤1000):
 (xD N (zJ N ev 0 []).2.2 ev.length (yZ (ev.length+1) line)=0→ ∃o2,zn N ev o ((ev.length+1:Nat):Int) (xm line).1.Kind (xm line).1.Names (xm line).1.Values (xm line).1.Text=some (ev++[yZ (ev.length+1) line],o2,0)∧qae N (ev++[yZ (ev.length+1) line]) o2)∧
 (xD N (zJ N ev 0 []).2.2 ev.length (yZ (ev.length+1) line)≠0→ ∃o2,zn N ev o ((ev.length+1:Nat):Int) (xm line).1.Kind (xm line).1.Names (xm line).1.Values (xm line).1.Text=some (ev,o2,xD N (zJ N ev 0 []).2.2 ev.length (yZ (ev.length+1) line))∧qae N ev o2):=by
 have hN:=h.big
 have hcl:=h.cl
 have pre:Pre N (zJ N ev 0 []).2.2 (hof o) ev.length (yZ (ev.length+1) line):=⟨h.rel,by omega,by omega,hN,h.max,qgb hN (by omega) _⟩
 obtain⟨evs',o2,a1,a2,a3⟩:=qkR pre rfl
 refine⟨fun hz=>?_,fun hz=>?_⟩
 ·obtain⟨rfl,b2,b3⟩:=a2 hz
  rw[hz]at a1
  have ca:zJ N (ev++[yZ (ev.length+1) line]) 0 []=(0,0,qdX (zJ N ev 0 []).2.2 (yZ (ev.length+1) line)):=by
   rw[qcw,if_pos h.run,Nat.zero_add,qaQ,if_pos hz]
   rfl
  refine⟨o2,a1,hN,h.max,by rw[ca],by rw[ca];exact b2,by rw[ca,List.length_append];exact b3,fun e he=>?_⟩
  rcases List.mem_append.1 he with he|he
  ·exact h.chk e he
  ·rw[List.mem_singleton]at he
   subst he
   unfold xD at hz
   by_cases hc:qJ (yZ (ev.length+1) line)=0
   ·exact hc
   ·rw[if_pos hc]at hz;exact absurd hz hc
 ·obtain⟨rfl,b2⟩:=a3 hz
  exact⟨o2,a1,h.same b2⟩
theorem qhB (e:qb):(qeD e).length=(qV e).length+9:=by
 have:=qdZ (qV e)
 unfold qeD
 simp;omega
def apE (out:List qb) (no:Int) (e:qb):Int:=zk [no,qJ e,if e.Number=((out.length+1:Nat):Int)then 0 else 11]
theorem qmX {out:List qb} {no:Int} {e:qb} (h:apE out no e=0):no=0∧qJ e=0∧e.Number=((out.length+1:Nat):Int):=by
 unfold apE at h
 by_cases h1:no=0
 ·by_cases h2:qJ e=0
  ·by_cases h3:e.Number=((out.length+1:Nat):Int)
   ·exact⟨h1,h2,h3⟩
   ·rw[if_neg h3]at h
    simp[zk,h1,h2]at h
  ·simp[zk,h1,h2]at h
 ·simp[zk,h1]at h
theorem qmg {N:Nat} (hN:6000<N) (hM:N<4611686018427387904) {log:Str} (hl:log.length≤4600) {e:qb} (he:qcD N e):
 qax N log e=some (if apE (scan log [] [] 0).1 (scan log [] [] 0).2.2 e=0 then(log++qeD e,0)else([],apE (scan log [] [] 0).1 (scan log [] [] 0).2.2 e)):=by
 obtain⟨g1,g2⟩:=qiX log [] [] 0
 unfold qax
 rw[qce hN hM hl,Option.bind_some,qcB hM (by omega) he,Option.bind_some,xX,Option.bind_some,qap (by simp) (by simp;omega),Option.bind_some]
 generalize scan log [] [] 0=r at g1 g2⊢
 obtain⟨out,f,no⟩:=r
 simp only[List.length_nil]at g1 g2⊢
 have e1:(if(!decide (e.Number=(w64 ((out.length:Int)+1))))=true then(11:Int)else 0)=if e.Number=((out.length+1:Nat):Int)then 0 else 11:=by
  rw[qL (by omega)]
  by_cases h:e.Number=((out.length+1:Nat):Int)<;>simp[h]
 rw[e1,show zk [no,qJ e,if e.Number=((out.length+1:Nat):Int)then 0 else 11]=apE out no e from rfl]
 by_cases hz:apE out no e=0
 ·obtain⟨_,h2,_⟩:=qmX hz
  obtain⟨w1,w2,_⟩:=xu h2
  have:=qhB e
  rw[if_neg (by simp[hz]),if_pos hz,qlu hN w1 (by omega),Option.bind_some,qbl (by simp;omega),Option.bind_some,if_neg (by simp;omega)]
 ·rw[if_pos (by simp[hz]),if_neg hz]
theorem qiu {ev:List qb} (hl:ev.length≤1000) (hc: ∀e∈ev,qJ e=0): ∀(K k:Nat) (acc:List qb),k≤ev.length→ev.length<K+k→acc.length≤k→qR ev K acc (k:Int)=some (acc++ev.drop k)
 |0,k,_,h,hK,_=>by omega
 |K+1,k,acc,h,hK,ha=>by
  unfold qR
  by_cases hk:k<ev.length
  ·obtain⟨_,_,h1,h2⟩:=xu (hc _ (List.getElem_mem hk))
   rw[if_pos (by omega),qE,List.getElem?_eq_getElem hk,Option.bind_some,show vF ev[k]=some true from rfl,Option.bind_some,if_pos rfl,qd0 (by omega) (by omega),Option.bind_some,vX (by simp;omega) (by simp;omega),Option.bind_some,Option.bind_some,qL (by omega),qiu hl hc K (k+1) _ (by omega) (by omega) (by simp;omega),List.drop_eq_getElem_cons hk,List.append_assoc]
   rfl
  ·rw[if_neg (by omega),List.drop_of_length_le (by omega)]
   simp
theorem qmN {N:Nat} (hN:6000<N) {ev:List qb} (hl:ev.length≤1000) (hc: ∀e∈ev,qJ e=0) (o:Option (List StateT)):jF N ev o=some ev:=by
 unfold jF yg
 have h:=qiu hl hc N 0 [] (by omega) (by omega) (by simp)
 rw[List.drop_zero,List.nil_append]at h
 rw[show qR ev N [] 0=_ from h]
 rfl
theorem qlT {N:Nat} (hN:6000<N) {ev:List qb} (hl:ev.length≤1000) (hc: ∀e∈ev,qJ e=0): ∀(K k:Nat) (acc:List Str),k≤ev.length→ev.length<K+k→acc.length≤k→qN N ev K acc (k:Int)=some (acc++(ev.drop k).map qeD)
 |0,k,_,h,hK,_=>by omega
 |K+1,k,acc,h,hK,ha=>by
  unfold qN
  by_cases hk:k<ev.length
  ·obtain⟨w1,w2,h1,h2⟩:=xu (hc _ (List.getElem_mem hk))
   rw[if_pos (by omega),qE,List.getElem?_eq_getElem hk,Option.bind_some,show yD ev[k]=some true from rfl,Option.bind_some,if_pos rfl,qlu hN w1 (by omega),Option.bind_some,vX (by simp;omega) (by simp;omega),Option.bind_some,Option.bind_some,qL (by omega),qlT hN hl hc K (k+1) _ (by omega) (by omega) (by simp;omega),List.drop_eq_getElem_cons hk,List.map_cons,List.append_assoc]
   rfl
  ·rw[if_neg (by omega),List.drop_of_length_le (by omega)]
   simp
theorem qfw: ∀{l:List qb},(∀e∈l,qJ e=0)→(qH l).length≤l.length*209
 |[],_=>by simp[qH]
 |e::l,h=>by
  have h1:=qfw fun x hx=>h x (List.mem_cons_of_mem _ hx)
  have h2:=(xu (h e (List.mem_cons_self ..))).2.1
  have h3:=qhB e
  rw[qat,List.length_append,List.length_cons]
  omega
theorem qmf: ∀(l:List Str),Lib.join l []=l.flatten
 |[]=>rfl
 |x::r=>by
  rw[Lib.join_cons]
  unfold Lib.joinTail
  simp
theorem qoA {N:Nat} (hN:6000<N) {ev:List qb} (hl:ev.length≤1000) (hc: ∀e∈ev,qJ e=0) (o:Option (List StateT)):vg N ev o=some (qH ev):=by
 unfold vg vV
 have h:=qlT hN hl hc N 0 [] (by omega) (by omega) (by simp)
 rw[List.drop_zero,List.nil_append]at h
 have hL:=qfw hc
 have e1:(ev.map qeD).flatten=qH ev:=by simp[qH,List.flatMap]
 rw[show qN N ev N [] 0=_ from h,Option.bind_some,Option.bind_some]
 unfold qgf
 rw[qmf,e1,if_pos ⟨by simp;omega,by omega⟩]
 rfl
theorem qlJ {N:Nat} {ev:List qb} {o:Option (List StateT)} (h:qae N ev o) (hl:ev.length<900) {line:Str} (hs:line.length≤1000) (hne:line≠[]) {w0:Str} {r:List Str} (hw:spl [] line=w0::r) (hf:(zm w0).2.2=true) (hok:(xm line).2=true):
 (xD N (zJ N ev 0 []).2.2 ev.length (yZ (ev.length+1) line)=0→ ∃o2 a,qB N ev o line=some (ev++[yZ (ev.length+1) line],o2,a,0)∧qae N (ev++[yZ (ev.length+1) line]) o2)∧
 (xD N (zJ N ev 0 []).2.2 ev.length (yZ (ev.length+1) line)≠0→ ∃o2,qB N ev o line=some (ev,o2,[],xD N (zJ N ev 0 []).2.2 ev.length (yZ (ev.length+1) line))∧qae N ev o2):=by
 have hN:=h.big
 have hw1:w64 ((ev.length:Int)+1)=((ev.length+1:Nat):Int):=qL (by omega)
 have h9: ¬((ev.length:Int)≥1000):=by omega
 have e0:zk [if(!true)=true then(25:Int)else 0,if decide ((ev.length:Int)≥1000)=true then(5:Int)else 0]=0:=by simp[zk,h9]
 obtain⟨s1,s2⟩:=h.step hl hs
 have hD:qB N ev o line=(zn N ev o ((ev.length+1:Nat):Int) (xm line).1.Kind (xm line).1.Names (xm line).1.Values (xm line).1.Text).bind fun(l11,o12,h_13)=>
  if(!decide (h_13=0))=true then some (l11,o12,[],h_13)else(qct ((ev.length+1:Nat):Int)).bind fun r15=>(vP ([[100,111,110,101],r15]:List Str)).bind fun r16=>some (l11,o12,r16,0):=by
  rw[qlp hN hs hne hw,if_pos hf]
  unfold zY
  rw[qgk (by omega) hN,Option.bind_some,xX,Option.bind_some,xX,Option.bind_some,qap (by simp) (by simp;omega),Option.bind_some,hw1,hok,e0,if_neg (by simp)]
 rw[hD]
 refine⟨fun hz=>?_,fun hz=>?_⟩
 ·obtain⟨o2,b1,b2⟩:=s1 hz
  have hi:qct ((ev.length+1:Nat):Int)=some (Lib.itoa ((ev.length+1:Nat):Int)):=by unfold qct;rw[if_pos (by omega)]
  have hlen:=qho (x:=((ev.length+1:Nat):Int)) (by omega)
  rw[b1,Option.bind_some]
  simp only
  rw[if_neg (by simp),hi,Option.bind_some]
  unfold vP
  rw[qlo (m:=24) (by simp) (fun w hw=>by
   rw[List.mem_cons,List.mem_singleton]at hw
   rcases hw with rfl|rfl
   ·decide
   ·omega) (by omega)]
  exact⟨o2,_,rfl,b2⟩
 ·obtain⟨o2,b1,b2⟩:=s2 hz
  rw[b1,Option.bind_some]
  simp only
  rw[if_pos (by simp[hz])]
  exact⟨o2,rfl,b2⟩
theorem qk7:spl [] vO=[vO]:=by decide
theorem qem:xm vO=(⟨0,vO,[],[],[]⟩,true):=by rfl
theorem qla {n:Nat} (h:n<1000):qJ (yZ (n+1) vO)=0:=by
 have h1:yF ((n+1:Nat):Int) 1 1000=false:=by
  unfold yF
  simp
  omega
 have h2:yZ (n+1) vO=⟨((n+1:Nat):Int),vO,[],[],[]⟩:=by unfold yZ qd1;rw[qem]
 rw[h2]
 unfold qJ
 rw[if_neg (by simp only[h1];simp)]
 simp[show zm vO=(0,0,true)by decide]
theorem qkm {N:Nat} {c:List qb} {n:Nat} (h:n<1000):xD N c n (yZ (n+1) vO)=if c=[]then 12 else 0:=by
 have hk:(yZ (n+1) vO).Kind=vO:=by unfold yZ qd1;rw[qem]
 unfold xD
 rw[if_neg (by simp[qla h]),if_neg (by simp[yZ,qd1]),hk,if_pos (by decide)]
theorem qnk {c:List qb} {n:Nat}:qdX c (yZ (n+1) vO)=c.dropLast:=by
 have hk:(yZ (n+1) vO).Kind=vO:=by unfold yZ qd1;rw[qem]
 unfold qdX
 rw[hk,if_pos (by decide)]
theorem qlY {N:Nat} {ev:List qb} {o:Option (List StateT)} (h:qae N ev o) (hl:ev.length<900):
 ∃ev' o2 a,qB N ev o vO=some (ev',o2,a,if(zJ N ev 0 []).2.2=[]then 12 else 0)∧qae N ev' o2∧ev'.length≤ev.length+1∧(zJ N ev' 0 []).2.2=(zJ N ev 0 []).2.2.dropLast:=by
 obtain⟨h1,h2⟩:=qlJ h hl (line:=vO) (by decide) (by decide) qk7 (by decide) (by rw[qem])
 rw[qkm (by omega)]at h1 h2
 by_cases hc:(zJ N ev 0 []).2.2=[]
 ·rw[if_pos hc]at h1 h2⊢
  obtain⟨o2,b1,b2⟩:=h2 (by decide)
  exact⟨ev,o2,[],b1,b2,by omega,by rw[hc];rfl⟩
 ·rw[if_neg hc]at h1 h2⊢
  obtain⟨o2,a,b1,b2⟩:=h1 rfl
  refine⟨_,o2,a,b1,b2,by simp,?_⟩
  rw[qcw,if_pos h.run,Nat.zero_add,qaQ,qkm (by omega),if_neg hc,if_pos rfl,qnk]
  rfl
theorem qlF {N:Nat} {l:List qb} (hl:l.length≤100): ∀(K i:Nat) (ev:List qb) (o:Option (List StateT)),i≤l.length→l.length<K+i→qae N ev o→ev.length≤100+i→(zJ N ev 0 []).2.2.length≤l.length-i→
 ∃ev' o',zM N l K ev o (i:Int)=some (.inl (ev',o'))∧qae N ev' o'∧ev'.length≤300∧(zJ N ev' 0 []).2.2=[]
 |0,i,ev,o,h1,h2,_,_,_=>by omega
 |K+1,i,ev,o,h1,h2,h3,h4,h5=>by
  unfold zM
  by_cases hi:i<l.length
  ·obtain⟨ev',o2,a,b1,b2,b3,b4⟩:=qlY h3 (by omega)
   rw[if_pos (by omega),show([117,110,100,111]:Str)=vO from rfl,b1,Option.bind_some]
   simp only
   have hlen:(zJ N ev' 0 []).2.2.length≤l.length-(i+1):=by
    rw[b4,List.length_dropLast]
    omega
   have e1:(if(!decide ((if(zJ N ev 0 []).2.2=[]then(12:Int)else 0)=0))=true then some (!decide ((if(zJ N ev 0 []).2.2=[]then(12:Int)else 0)=12))else some false:Option Bool)=some false:=by
    by_cases hc:(zJ N ev 0 []).2.2=[]<;>simp[hc]
   rw[e1,Option.bind_some,if_neg (by simp),qL (by omega)]
   exact qlF hl K (i+1) ev' o2 (by omega) (by omega) b2 (by omega) hlen
  ·rw[if_neg (by omega)]
   have:(zJ N ev 0 []).2.2.length=0:=by omega
   exact⟨ev,o,rfl,h3,by omega,List.length_eq_zero_iff.1 this⟩
theorem qif (N:Nat) (b:List qb): ∀(a:List qb) (k:Nat) (c:List qb),zJ N (a++b) k c=if(zJ N a k c).2.1=0 then zJ N b (k+a.length) (zJ N a k c).2.2 else zJ N a k c
 |[],k,c=>by
  show zJ N b k c=if(0:Int)=0 then zJ N b (k+0) c else _
  rw[if_pos rfl]
  rfl
 |x::a,k,c=>by
  rw[List.cons_append,qaQ N x (a++b),qaQ N x a]
  by_cases h:xD N c k x=0
  ·rw[if_pos h,if_pos h,qif N b a (k+1) (qdX c x),List.length_cons,show k+1+a.length=k+(a.length+1)by omega]
  ·rw[if_neg h,if_neg h,if_neg h]
theorem qf2 {N:Nat} {l:List qb} (h:(zJ N l 0 []).2.1=0) (m:Nat):(zJ N (l.take m) 0 []).2.1=0:=by
 have e:=qif N (l.drop m) (l.take m) 0 []
 rw[List.take_append_drop]at e
 by_cases hz:(zJ N (l.take m) 0 []).2.1=0
 ·exact hz
 ·rw[if_neg hz]at e
  rw[e]at h
  exact h
theorem qjl {N:Nat} {c:List qb} {k:Nat} {e:qb} (h:xD N c k e=0):e.Number=((k+1:Nat):Int)∧qJ e=0:=by
 unfold xD at h
 by_cases a1:qJ e=0
 ·rw[if_neg (by simp[a1])]at h
  by_cases a2:e.Number=((k+1:Nat):Int)
  ·exact⟨a2,a1⟩
  ·rw[if_pos a2]at h;cases h
 ·rw[if_pos a1]at h;exact absurd h a1
theorem qin {N:Nat}: ∀(es:List qb) (k:Nat) (c:List qb),(zJ N es k c).2.1=0→qdM k es
 |[],k,c,_=>fun i e he=>by simp at he
 |e::es,k,c,h=>by
  rw[qaQ]at h
  by_cases hz:xD N c k e=0
  ·rw[if_pos hz]at h
   have ih:=qin es (k+1) _ h
   intro i x hx
   cases i with
   |zero=>
    simp at hx
    subst hx
    exact qjl hz
   |succ i=>
    obtain⟨g1,g2⟩:=ih i x (by simpa using hx)
    exact⟨by rw[g1];congr 1;omega,g2⟩
  ·rw[if_neg hz]at h
   exact absurd h hz
theorem qoL {N:Nat} {l:List qb} (h:(zJ N l 0 []).2.1=0) {m:Nat} (hm:m<l.length):xD N (zJ N (l.take m) 0 []).2.2 m l[m]=0:=by
 have h1:=qf2 h (m+1)
 have e1:l.take (m+1)=l.take m++[l[m]]:=by rw[List.take_add_one,List.getElem?_eq_getElem hm];rfl
 rw[e1,qcw,if_pos (qf2 h m),Nat.zero_add,qaQ]at h1
 have e2:(l.take m).length=m:=by rw[List.length_take];omega
 rw[e2]at h1
 by_cases hz:xD N (zJ N (l.take m) 0 []).2.2 m l[m]=0
 ·exact hz
 ·rw[if_neg hz]at h1
  exact absurd h1 hz
theorem qmt {e:qb} (h:qJ e=0) {n:Nat} (hn:e.Number=(n:Int)):yZ n (qcq e)=e:=by
 unfold yZ
 rw[qeS h,←hn]
 exact qix h
theorem qlZ {e:qb} (h:qJ e=0):(qcq e).length≤200∧qcq e≠[]∧spl [] (qcq e)=e.Kind::qd8 e:=by
 have hb:=(xu h).2.1
 rw[qcZ,List.length_append,List.length_cons]at hb
 have hk:=qgR (jo h).form
 exact⟨by omega,qjj hk.2,qg5 _ _ hk.1 fun w hw=>(qgy h w hw).1⟩
theorem qlg {N:Nat} {l:List qb} (hl:l.length≤100) (hrun:(zJ N l 0 []).2.1=0) (m:Nat) (hm:m≤l.length): ∀(K i:Nat) (o:Option (List StateT)),m+i≤l.length→l.length<K+(m+i)→qae N (l.take (m+i)) o→
 ∃o',zO N (l.drop m) K (l.take (m+i)) o (i:Int)=some (.inl (l,o'))∧qae N l o'
 |0,i,o,h1,h2,_=>by omega
 |K+1,i,o,h1,h2,h3=>by
  have hN:=h3.big
  unfold zO
  by_cases hi:m+i<l.length
  ·have hc:i<(l.drop m).length:=by rw[List.length_drop];omega
   have he:(l.drop m)[i]=l[m+i]:=by rw[List.getElem_drop]
   have hz:=qoL hrun hi
   obtain⟨n1,n2⟩:=qjl hz
   obtain⟨w1,w2,_⟩:=xu n2
   have hnum:=(jo n2).num
   obtain⟨_,i2,_⟩:=qfn (x:=l[m+i].Number) (by omega)
   obtain⟨t1,t2,t3⟩:=qlZ n2
   have htake:(l.take (m+i)).length=m+i:=by rw[List.length_take];omega
   have hx:strings_Index (qV l[m+i]) [32]=some ((Lib.itoa l[m+i].Number).length:Int):=by
    rw[qht,qep,qcZ,qfT _ _ i2]
    simp
   have hblen:(qV l[m+i]).length=(Lib.itoa l[m+i].Number).length+1+(qcq l[m+i]).length:=by rw[qcZ,List.length_append,List.length_cons];omega
   have hcut:cut (qV l[m+i]) (((Lib.itoa l[m+i].Number).length+1:Nat):Int) ((qV l[m+i]).length:Int)=some (qcq l[m+i]):=by
    rw[yA (by omega),qcZ,show Lib.itoa l[m+i].Number++32::qcq l[m+i]=(Lib.itoa l[m+i].Number++[32])++qcq l[m+i]by simp,show(Lib.itoa l[m+i].Number).length+1=(Lib.itoa l[m+i].Number++[32]).length by simp,List.drop_left]
   have hread:(xm (qcq l[m+i])).2=true:=by rw[qeS n2]
   obtain⟨d1,_⟩:=qlJ h3 (by omega) (by omega) t2 t3 (jo n2).form hread
   have hle:yZ ((l.take (m+i)).length+1) (qcq l[m+i])=l[m+i]:=by rw[htake];exact qmt n2 n1
   rw[hle,htake]at d1
   obtain⟨o2,a,d2,d3⟩:=d1 hz
   have e1:l.take (m+i)++[l[m+i]]=l.take (m+(i+1)):=by rw[←Nat.add_assoc,List.take_add_one,List.getElem?_eq_getElem hi];rfl
   rw[e1]at d2 d3
   rw[if_pos (by omega),qE,List.getElem?_eq_getElem hc,he,Option.bind_some,qo6 hN w1,Option.bind_some,hx,Option.bind_some,qL (by omega),hcut,Option.bind_some,d2,Option.bind_some]
   simp only
   rw[if_neg (by simp),qL (by omega)]
   exact qlg hl hrun m hm K (i+1) o2 (by omega) (by omega) d3
  ·have hmi:m+i=l.length:=by omega
   rw[if_neg (by rw[List.length_drop];omega)]
   rw[hmi,List.take_length]at h3⊢
   exact⟨o,rfl,h3⟩
def qbG (l:List qb) (i:Nat):List Int:=(List.range i).map fun j=>((qH (l.take (j+1))).length:Int)
theorem qmF {l:List qb} {i:Nat} (h:i<l.length):l.take (i+1)=l.take i++[l[i]]:=by rw[List.take_add_one,List.getElem?_eq_getElem h];rfl
theorem qfU (l:List qb) {a b:Nat} (h:a≤b):(qH (l.take a)).length≤(qH (l.take b)).length:=by
 have:l.take b=l.take a++(l.take b).drop a:=by
  rw[show l.take a=(l.take b).take a by rw[List.take_take,Nat.min_eq_left h],List.take_append_drop]
 rw[this,qfr,List.length_append]
 omega
theorem qlS {N:Nat} (hN:6000<N) (hM:N<4611686018427387904) {l:List qb} (hl:l.length≤20) (hn:qdM 0 l) (a b c:Int): ∀(K i:Nat),i≤l.length→l.length<K+i→
 zK N l K a b c (qbG l i) (i:Int) (qH (l.take i))=some (.inl (a,b,c,qbG l l.length,qH l))
 |0,i,h1,h2=>by omega
 |K+1,i,h1,h2=>by
  unfold zK
  by_cases hi:i<l.length
  ·obtain⟨n1,n2⟩:=hn i _ (List.getElem?_eq_getElem hi)
   have hlen:(qH (l.take i)).length≤4180:=by
    have:=qfw (l:=l.take i) (hn.take i).chk
    rw[List.length_take]at this
    omega
   have htake:(l.take i).length=i:=by rw[List.length_take];omega
   have hsc:scan (qH (l.take i)) [] [] 0=(l.take i,0+(qH (l.take i)).length,0):=by
    have:=qeb (l.take i) [] 0 [] (by simpa using hn.take i)
    rw[List.append_nil,List.nil_append,qet [] [] _ _ (fun c hc=>by cases hc)]at this
    exact this
   have hap:=qmg hN hM (log:=qH (l.take i)) (by omega) (qeh hN n2)
   have hz:apE (l.take i) 0 l[i]=0:=by
    unfold apE
    rw[htake,if_pos (by rw[n1];congr 1;omega),n2]
    rfl
   rw[hsc]at hap
   simp only at hap
   rw[if_pos hz]at hap
   have e1:qH (l.take i)++qeD l[i]=qH (l.take (i+1)):=by rw[qmF hi,qfr,show qH [l[i]]=qeD l[i]by simp[qH]]
   have hr:=qhB l[i]
   rw[e1]at hap
   have hlt: ¬((qH (l.take (i+1))).length:Int)≤((qH (l.take i)).length:Int):=by
    rw[←e1,List.length_append]
    omega
   have e2:qbG l i++[((qH (l.take (i+1))).length:Int)]=qbG l (i+1):=by
    unfold qbG
    rw[List.range_succ,List.map_append]
    rfl
   have hel:(qbG l i).length=i:=by unfold qbG;simp
   rw[if_pos (by omega),qE,List.getElem?_eq_getElem hi,Option.bind_some,hap,Option.bind_some]
   simp only
   rw[if_neg (by simp),Option.bind_some,if_neg (by simp only[hlt,decide_false];simp),vX (by simp;omega) (by simp;omega),Option.bind_some,e2,qL (by omega)]
   exact qlS hN hM hl hn a b c K (i+1) (by omega) (by omega)
  ·rw[if_neg (by omega),show i=l.length by omega,List.take_length]
theorem qgU {l:List qb} {i n:Nat} (h:i<n):(qbG l n)[i]? =some ((qH (l.take (i+1))).length:Int):=by
 unfold qbG
 rw[List.getElem?_map,List.getElem?_range h]
 rfl
structure Whole (l:List qb) (p m:Nat):Prop where
 le:m≤l.length
 here:(qH (l.take m)).length≤p
 next:m<l.length→p<(qH (l.take (m+1))).length
theorem qlm {l:List qb} {p m:Nat} (hl:l.length≤100) (h:Whole l p m): ∀(K i:Nat),i≤l.length→l.length<K+i→zL (qbG l l.length) (p:Int) K (i:Int) ((Nat.min i m:Nat):Int)=some (m:Int)
 |0,i,h1,h2=>by omega
 |K+1,i,h1,h2=>by
  unfold zL
  have hel:(qbG l l.length).length=l.length:=by unfold qbG;simp
  have hle:=h.le
  by_cases hi:i<l.length
  ·rw[if_pos (by omega),qE,qgU hi,Option.bind_some]
   have ih:=qlm hl h K (i+1) (by omega) (by omega)
   by_cases hm:i<m
   ·have h3:=qfU l (show i+1≤m by omega)
    have h4:=h.here
    rw[if_pos (by omega),Option.bind_some,show Nat.min i m=i from Nat.min_eq_left (by omega),qL (by omega)]
    rw[show Nat.min (i+1) m=i+1 from Nat.min_eq_left (by omega)]at ih
    exact ih
   ·have h3:=qfU l (show m+1≤i+1 by omega)
    have h4:=h.next (by omega)
    rw[if_neg (by omega),Option.bind_some,show Nat.min i m=m from Nat.min_eq_right (by omega),qL (by omega)]
    rw[show Nat.min (i+1) m=m from Nat.min_eq_right (by omega)]at ih
    exact ih
  ·rw[if_neg (by omega),show Nat.min i m=m from Nat.min_eq_right (by omega)]
theorem qlv: ∀(l:List qb) (p:Nat),(∀e∈l,qJ e=0)→p≤(qH l).length→ ∃m x,Whole l p m∧(qH l).take p=qH (l.take m)++x∧qgu x
 |[],p,_,hp=>⟨0,[],⟨by simp,by simp[qH],by simp⟩,by simp[qH],fun c hc=>by cases hc⟩
 |e::l,p,hc,hp=>by
  have eL:qH (e::l)=qeD e++qH l:=qat e l
  have h2:=hc e (List.mem_cons_self ..)
  by_cases hlt:p<(qeD e).length
  ·refine⟨0,(yT e).take p,⟨by simp,by simp[qH],fun _=>?_⟩,?_,fun c hx=>qgM h2 c (List.mem_of_mem_take hx)⟩
   ·rw[List.take_succ_cons,List.take_zero,show qH [e]=qeD e by simp[qH]]
    exact hlt
   ·have hle:p≤(yT e).length:=by rw[qfL]at hlt;simp at hlt;omega
    rw[eL,qfL,List.append_assoc,List.take_append_of_le_length hle]
    simp[qH]
  ·rw[eL,List.length_append]at hp
   obtain⟨m,x,hw,g1,g2⟩:=qlv l (p-(qeD e).length) (fun y hy=>hc y (List.mem_cons_of_mem _ hy)) (by omega)
   have w1:=hw.le
   have w2:=hw.here
   refine⟨m+1,x,⟨by simp;omega,?_,fun h=>?_⟩,?_,g2⟩
   ·rw[List.take_succ_cons,qat,List.length_append]
    omega
   ·have w3:=hw.next (by simpa using h)
    rw[List.take_succ_cons,qat,List.length_append]
    omega
   ·rw[eL,List.take_append,List.take_of_length_le (by omega),g1,List.take_succ_cons,qat,List.append_assoc]
theorem wr16 {n:Int} (h1:0≤n) (h2:n<65536):IntKind.wrap .u16 n=n:=by
 unfold IntKind.wrap
 have e:(2:Int)^IntKind.u16.bits=65536:=by decide
 have e3:IntKind.u16.signed=false:=by decide
 simp only[e,e3,Bool.false_and]
 rw[if_neg (by decide)]
 omega
theorem wr8 {n:Int} (h1:0≤n) (h2:n<256):IntKind.wrap .u8 n=n:=by
 unfold IntKind.wrap
 have e:(2:Int)^IntKind.u8.bits=256:=by decide
 have e3:IntKind.u8.signed=false:=by decide
 simp only[e,e3,Bool.false_and]
 rw[if_neg (by decide)]
 omega
theorem qkH {a b:Nat} (h:0<b):qji .i64 (a:Int) (b:Int)=some ((a%b:Nat):Int):=by
 unfold qji
 rw[if_neg (by omega),Int.tmod_eq_emod_of_nonneg (by omega)]
 rfl
theorem qlq {N:Nat} (hN:6000<N) (hM:N<4611686018427387904) {s:Str} (hs:s.length≤4600) {ev:List qb} {f:Nat} {no:Int} (h:scan s [] [] 0=(ev,f,no)) (hno:no=0∨no=28) (hc: ∀e∈ev,qJ e=0) (hl:ev.length≤1000) (hr:(zJ N ev 0 []).2.1=0):
 ∃o,xc N s=some (ev,o,true,0)∧qae N ev o:=by
 have hE:Evs N ev:=⟨hl,fun e he=>qeh hN (hc e he),hN,hM⟩
 rcases qdB hE with⟨z1,_,_⟩|⟨z1,o',z2,_,z4,z5⟩
 ·exact absurd hr z1
 ·refine⟨o',?_,hN,hM,z1,z4,z5,hc⟩
  have c1:(if(!decide (no=0))=true then some (!decide (no=28))else some false:Option Bool)=some false:=by
   rcases hno with rfl|rfl<;>simp
  unfold xc
  rw[qce hN hM hs,Option.bind_some,h]
  simp only
  rw[c1,Option.bind_some,if_neg (by simp),z2,Option.bind_some]
  simp only
  rw[if_neg (by simp),Option.bind_some]
theorem qiL {N:Nat} {ev:List qb} {o o':Option (List StateT)} {d:Int} {l:List qc} (h:qae N ev o) (hr:qnS N ev o o' d l):qB N ev o qbZ=some (ev,o',ansE (qbd qkp l),0):=by
 have hn:=qjI hr.ok qkp
 rw[qlp h.big (line:=qbZ) (by decide) (by decide) (show spl [] qbZ=[qbZ]by decide),if_neg (by decide),if_neg (by decide),if_pos (by decide)]
 have e1:((qbZ::[]).any fun w=>([]:Str)==w)=false:=by decide
 rw[if_neg (by simp),e1,Option.bind_some,if_neg (by simp),qoo hr,Option.bind_some]
 simp only
 rw[qod fun w hw=>(hn w hw).2]
 rfl
theorem qlb {l:List qb} (h:qdM 0 l):scan (qH l) [] [] 0=(l,(qH l).length,0):=by
 have:=qeb l [] 0 [] (by simpa using h)
 rw[List.append_nil,List.nil_append,qet [] [] _ _ (fun c hc=>by cases hc),Nat.zero_add]at this
 exact this
theorem qmH {l:List qb} (h:qdM 0 l) {r:Nat} (hr:r+1<l.length):scan (qH (l.take r)++qH (l.drop (r+1))) [] [] 0=(l.take r,(qH (l.take r)).length,11):=by
 have h1:=qeb (l.take r) [] 0 (qH (l.drop (r+1))) (by simpa using h.take r)
 rw[List.nil_append,Nat.zero_add]at h1
 rw[h1,List.drop_eq_getElem_cons hr]
 obtain⟨n1,n2⟩:=h (r+1) _ (List.getElem?_eq_getElem hr)
 have hb:=qg8 (out:=l.take r) n2
 have hlen:(l.take r).length=r:=by rw[List.length_take];omega
 rw[if_neg (by rw[n1,hlen];omega)]at hb
 rw[qat,qfL,List.append_assoc,show[10]++qH (l.drop (r+1+1))=10::qH (l.drop (r+1+1))from rfl,qc8 _ _ _ _ _ (qgM n2),List.nil_append,if_neg (by rw[hb];decide),hb]
theorem qfM (l:List qb) (at_:Int×Int×Int) (b0:0≤at_.1∧at_.1≤65535) (b1:0≤at_.2.1∧at_.2.1≤65535) (b2:0≤at_.2.2∧at_.2.2≤65535):qar 10000 l at_=some true:=by
 have hN:6000<10000:=by decide
 have hM:10000<4611686018427387904:=by decide
 obtain⟨i0,i1,i2⟩:=at_
 simp only at b0 b1 b2
 obtain⟨a0,rfl⟩: ∃n:Nat,i0=(n:Int):=⟨i0.toNat,by omega⟩
 obtain⟨a1,rfl⟩: ∃n:Nat,i1=(n:Int):=⟨i1.toNat,by omega⟩
 obtain⟨a2,rfl⟩: ∃n:Nat,i2=(n:Int):=⟨i2.toNat,by omega⟩
 unfold qar
 have eS:vT 10000 l 20=some (decide (l.length≤20)&&l.all qdW):=qhn (n:=20) hN (by omega)
 rw[eS,Option.bind_some]
 by_cases a3:(decide (l.length≤20)&&l.all qdW)=true
 ·rw[if_neg (by simp[a3])]
  simp only[Bool.and_eq_true,decide_eq_true_eq]at a3
  have hE:Evs 10000 l:=⟨by omega,fun e he=>qnw hN (List.all_eq_true.1 a3.2 e he),hN,hM⟩
  rcases qb5 hE with⟨y1,y2⟩|⟨hrun,d,s,_,_,y2⟩
  ·rw[y2,Option.bind_some,if_pos (by simp[y1]),Option.bind_some]
   simp[awk]
  ·rw[y2,Option.bind_some,if_neg (by simp),Option.bind_some]
   simp only
   by_cases hl0:l.length=0
   ·rw[if_pos (by simp[hl0])]
    rfl
   ·rw[if_neg (by simp only[decide_eq_true_eq];omega)]
    have hn:qdM 0 l:=qin l 0 [] hrun
    have hlog:=qfw hn.chk
    have hL0:=qlS hN hM a3.1 hn (a0:Int) (a1:Int) (a2:Int) 10000 0 (by omega) (by omega)
    rw[show zK 10000 l 10000 (a0:Int) (a1:Int) (a2:Int) ([]:List Int) 0 []=_ from hL0,Option.bind_some]
    simp only
    have hw0:w64 (a0:Int)=(a0:Int):=jY (by omega) (by omega)
    have hw1:w64 (a1:Int)=(a1:Int):=jY (by omega) (by omega)
    have hw2:w64 (a2:Int)=(a2:Int):=jY (by omega) (by omega)
    rw[hw0,hw1,hw2,qL (by omega),qkH (by omega),Option.bind_some]
    have hp:a0%((qH l).length+1)≤(qH l).length:=by have:=Nat.mod_lt a0 (show 0<(qH l).length+1 by omega);omega
    revert hp
    generalize a0%((qH l).length+1)=p
    intro hp
    obtain⟨m,x,hw,g1,g2⟩:=qlv l p hn.chk hp
    have hm:=hw.le
    have hL1:=qlm (by omega) hw 10000 0 (by omega) (by omega)
    rw[show Nat.min 0 m=0 from Nat.min_eq_left (by omega)]at hL1
    rw[show zL (qbG l l.length) (p:Int) 10000 0 0=_ from hL1,Option.bind_some,xH hp,Option.bind_some]
    have hpl:((qH l).take p).length≤4600:=by rw[List.length_take];omega
    have hsc:scan ((qH l).take p) [] [] 0=(l.take m,(qH (l.take m)).length,if x=[]then 0 else 28):=by
     have h1:=qeb (l.take m) [] 0 x (by simpa using hn.take m)
     rw[List.nil_append,Nat.zero_add]at h1
     rw[g1,h1,qet x [] _ _ g2]
     rfl
    obtain⟨o1,q1,q2⟩:=qlq hN hM hpl hsc (by by_cases hx:x=[]<;>simp[hx]) (hn.take m).chk (by rw[List.length_take];omega) (qf2 hrun m)
    obtain⟨o2,q3,q4⟩:=qlq hN hM (by omega) (qlb hn) (.inl rfl) hn.chk (by omega) hrun
    rw[qce hN hM hpl,Option.bind_some,Option.bind_some,q1,Option.bind_some,q3,Option.bind_some,hsc]
    simp only
    have hsame:jk 10000 (l.take m) (l.take m)=some true:=qh0 _ (by rw[List.length_take];omega) hN hM (fun y hy=>by have:=xu ((hn.take m).chk y hy);omega)
    have hgrp: ∀(no:Int),no=0∨no=28→((if(!decide (no=0))=true then
     if(!decide (no=28))=true then some (.inl ())else
     (cut l 0 (m:Int)).bind fun s59=>(jk 10000 (l.take m) s59).bind fun r60=>if(!r60)=true then some (.inl ())else if(!decide True)=true then some (.inl ())else if(!decide True)=true then some (.inl ())else some (.inr (.inr (.inr ())))
     else(cut l 0 (m:Int)).bind fun s59=>(jk 10000 (l.take m) s59).bind fun r60=>if(!r60)=true then some (.inl ())else if(!decide True)=true then some (.inl ())else if(!decide True)=true then some (.inl ())else some (.inr (.inr (.inr ()))):Option (Unit⊕(Unit⊕(Unit⊕Unit)))))=some (.inr (.inr (.inr ()))):=by
     intro no hno
     rw[xH hm,Option.bind_some,hsame]
     rcases hno with rfl|rfl<;>simp
    rw[show _=_ from hgrp (if x=[]then 0 else 28) (by by_cases hx:x=[]<;>simp[hx]),Option.bind_some]
    simp only
    rw[yA hm,Option.bind_some]
    have hL2:=qlg (by omega) hrun m hm 10000 0 o1 (by omega) (by omega) q2
    obtain⟨o3,q5,q6⟩:=hL2
    rw[show zO 10000 (l.drop m) 10000 (l.take m) o1 0=_ from q5,Option.bind_some]
    simp only
    obtain⟨o4,d4,l4,hr4⟩:=q6.reg (by omega)
    obtain⟨o5,d5,l5,hr5⟩:=q4.reg (by omega)
    have hsl:l4=l5:=by
     have:=hr4.rep.symm.trans hr5.rep
     injection this with this
     injection this with this
     injection this
    subst hsl
    have q7:qae 10000 l o4:=q6.same hr4.same
    rw[show([115,108,105,110,103,115]:Str)=qbZ from rfl,qiL q6 hr4,Option.bind_some]
    simp only
    rw[qiL q4 hr5,Option.bind_some]
    simp only
    rw[qoA hN (by omega) hn.chk,Option.bind_some,if_neg (by simp),if_neg (by simp),if_neg (by simp),Option.bind_some,if_neg (by simp)]
    have hpos:0<(qH l).length:=by
     match l,hl0 with
     |e::r,_=>rw[qat,qfL];simp only[List.length_append,List.length_cons,List.length_nil];omega
    rw[qkH hpos,Option.bind_some]
    have hk:a1%(qH l).length<(qH l).length:=Nat.mod_lt _ hpos
    revert hk
    generalize a1%(qH l).length=k
    intro hk
    rw[qE,List.getElem?_eq_getElem hk,Option.bind_some]
    have hv:IntKind.wrap .u8 (IntKind.wrap .u16 (32+((a2:Int).tmod 200)))=((32+a2%200:Nat):Int):=by
     have e1:(a2:Int).tmod 200=((a2%200:Nat):Int):=by rw[Int.tmod_eq_emod_of_nonneg (by omega)];rfl
     rw[e1,wr16 (by omega) (by omega),wr8 (by omega) (by omega)]
     omega
    rw[hv]
    have hbt:(UInt8.ofNat (((32+a2%200:Nat):Int)).toNat).toNat=32+a2%200:=by
     rw[Int.toNat_natCast,UInt8.toNat_ofNat']
     omega
    have hmid:((if(if(!decide (((qH l)[k].toNat:Int)=10))=true then(!decide (((32+a2%200:Nat):Int)=((qH l)[k].toNat:Int)))else false)=true then
     (cut (qH l) 0 (k:Int)).bind fun s115=>(cat s115 [UInt8.ofNat (((32+a2%200:Nat):Int)).toNat]).bind fun s116=>(cut (qH l) (w64 ((k:Int)+1)) ((qH l).length:Int)).bind fun s117=>(cat s116 s117).bind fun s118=>(jf 10000 s118).bind fun r119=>
     (if r119.2.2=0 then some true else some (decide (r119.2.1=((qH l).length:Int))):Option Bool).bind fun b121=>if b121=true then some (.inr false)else some (.inl ())
     else some (.inl ()):Option (Unit⊕Bool)))=some (.inl ()):=by
     by_cases h10:((qH l)[k].toNat:Int)=10
     ·rw[if_neg (by simp[h10])]
     ·by_cases hne:((32+a2%200:Nat):Int)=((qH l)[k].toNat:Int)
      ·rw[if_neg (by simp only[hne];simp)]
      ·rw[if_pos (by simp only[h10,hne];simp)]
       have hset:(qH l).take k++[UInt8.ofNat (((32+a2%200:Nat):Int)).toNat]++(qH l).drop (k+1)=(qH l).set k (UInt8.ofNat (((32+a2%200:Nat):Int)).toNat):=by
        rw[List.set_eq_take_append_cons_drop,if_pos hk]
        simp
       have hc1:UInt8.ofNat (((32+a2%200:Nat):Int)).toNat≠10:=fun e=>by
        rw[e]at hbt
        have:(10:UInt8).toNat=10:=rfl
        omega
       have hc2:(qH l)[k]≠UInt8.ofNat (((32+a2%200:Nat):Int)).toNat:=fun e=>by
        apply hne
        rw[e,hbt]
       have hc3:(qH l)[k]≠10:=fun e=>by
        apply h10
        rw[e]
        rfl
       obtain⟨z1,z2⟩:=qfB l [] 0 k _ (by simpa using hn) hk hc3 hc1 hc2
       have hslen:((qH l).set k (UInt8.ofNat (((32+a2%200:Nat):Int)).toNat)).length≤4600:=by rw[List.length_set];omega
       rw[xH (by omega),Option.bind_some,qbl (by simp;omega),Option.bind_some,qL (by omega),yA (by omega),Option.bind_some,qbl (by simp;omega),Option.bind_some,hset,qce hN hM hslen,Option.bind_some]
       simp only
       rw[if_neg z1,Option.bind_some,if_neg (by simp only[decide_eq_true_eq];omega)]
    have hmid2:(if(!decide (((qH l)[k].toNat:Int)=10))=true then some (!decide (((32+a2%200:Nat):Int)=((qH l)[k].toNat:Int)))else some false:Option Bool)=some (if(!decide (((qH l)[k].toNat:Int)=10))=true then(!decide (((32+a2%200:Nat):Int)=((qH l)[k].toNat:Int)))else false):=by
     split<;>rfl
    rw[hmid2,Option.bind_some,show _=_ from hmid,Option.bind_some]
    simp only
    have hrem:((if(l.length:Int)>1 then
     (qji .i64 (a2:Int) (w64 ((l.length:Int)-1))).bind fun q127=>((if q127>0 then(idx (qbG l l.length) (w64 (q127-1))).bind fun x131=>some x131 else some 0:Option Int)).bind fun n128=>
     (cut (qH l) 0 n128).bind fun s132=>(idx (qbG l l.length) q127).bind fun x133=>(cut (qH l) x133 ((qH l).length:Int)).bind fun s134=>(cat s132 s134).bind fun s135=>(jf 10000 s135).bind fun r136=>
     if(!decide (r136.2.2=11))=true then some (.inr false)else some (.inl ())
     else some (.inl ()):Option (Unit⊕Bool)))=some (.inl ()):=by
     by_cases h1:l.length≤1
     ·rw[if_neg (by omega)]
     ·rw[if_pos (by omega),qcG (by omega) (by omega),qkH (by omega),Option.bind_some]
      have hr:a2%(l.length-1)<l.length-1:=Nat.mod_lt _ (by omega)
      revert hr
      generalize a2%(l.length-1)=r
      intro hr
      have hfrom:((if((r:Nat):Int)>0 then(idx (qbG l l.length) (w64 ((r:Int)-1))).bind fun x131=>some x131 else some 0:Option Int))=some ((qH (l.take r)).length:Int):=by
       by_cases hr0:r=0
       ·subst hr0
        rw[if_neg (by omega),List.take_zero]
        rfl
       ·rw[if_pos (by omega),qcG (by omega) (by omega),qE,qgU (by omega),Option.bind_some,show r-1+1=r by omega]
      have hsplit:qH l=qH (l.take r)++qH (l.drop r):=by rw[←qfr,List.take_append_drop]
      have hsplit2:qH l=qH (l.take (r+1))++qH (l.drop (r+1)):=by rw[←qfr,List.take_append_drop]
      have t1:(qH l).take (qH (l.take r)).length=qH (l.take r):=by rw[hsplit,List.take_left]
      have t2:(qH l).drop (qH (l.take (r+1))).length=qH (l.drop (r+1)):=by rw[hsplit2,List.drop_left]
      have l1:(qH (l.take r)).length≤(qH l).length:=by rw[hsplit,List.length_append];omega
      have l2:(qH (l.take (r+1))).length+(qH (l.drop (r+1))).length=(qH l).length:=by rw[hsplit2,List.length_append]
      have hmono:=qfU l (show r≤r+1 by omega)
      rw[hfrom,Option.bind_some,xH l1,Option.bind_some,t1,qE,qgU (by omega),Option.bind_some,yA (by omega),Option.bind_some,t2,qbl (by rw[List.length_append];omega),Option.bind_some,qce hN hM (by rw[List.length_append];omega),Option.bind_some,qmH hn (by omega)]
      simp
    rw[show _=_ from hrem,Option.bind_some]
    simp only
    have hcl:=q7.cl
    obtain⟨ev',o6,u1,u2,u3,u4⟩:=qlF (l:=l) (by omega) 10000 0 l o4 (by omega) (by omega) q7 (by omega) (by omega)
    rw[show zM 10000 l 10000 l o4 0=_ from u1,Option.bind_some]
    simp only
    rw[qmN hN (by omega) u2.chk,Option.bind_some]
    have hE':=u2.evs (show ev'.length≤1000 by omega)
    obtain⟨d6,s6,t6,e6,v1,v2,_⟩:=qmJ hE'
    obtain⟨ev2,o7,a7,v3,_,_,_⟩:=qlY u2 (by omega)
    rcases qb5 hE' with⟨w1,_⟩|⟨_,d7,s7,w2,_,w3⟩
    ·exact absurd u2.run w1
    ·rw[u4,qdR (by simp) (by omega)]at w2
     rw[w3]at v2
     simp only[Option.some.injEq,Prod.mk.injEq,qD.mk.injEq]at v2
     obtain⟨⟨rfl,rfl⟩,rfl,rfl⟩:=v2
     have w4:(some (⟨0,[]⟩:qD))=some ⟨d7,s7⟩:=w2
     simp only[Option.some.injEq,qD.mk.injEq]at w4
     obtain⟨rfl,rfl⟩:=w4
     rw[v1,Option.bind_some,show([117,110,100,111]:Str)=vO from rfl,v3,u4,Option.bind_some]
     simp[awk]
 ·rw[Bool.not_eq_true]at a3
  rw[a3,if_pos (by simp)]
  rfl
end Go.Av
