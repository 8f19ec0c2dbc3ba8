/-
  Chapter 10: the record of a line, as the reference reads it.
-/
import Derived.Test.YtjflombnfhlkaaaGreatDoorPgA
noncomputable section
namespace Go.Av
set_option linter.unusedSimpArgs false
set_option linter.unusedVariables false
theorem qhb {N:Nat} (hN:2000<N) (hM:N<4611686018427387904) {s:Str} (hs:s.length≤1600):yD N s=some (jy s):=by
 unfold yD
 have hno: ¬(8≤s.length∧s[s.length-8]? =some 59∧(s.drop (s.length-7)).all ji=true)→jy s=(ev0,25):=fun h=>by unfold jy;rw[if_neg h]
 by_cases h8:8≤s.length
 ·have e1:w64 ((s.length:Int)-8)=((s.length-8:Nat):Int):=by rw[zJ (by omega) (by omega)];omega
  have e2:w64 (((s.length-8:Nat):Int)+1)=((s.length-7:Nat):Int):=by rw[qI (by omega)];congr 1;omega
  have hi:s.length-8<s.length:=by omega
  simp only[e1]
  rw[if_neg (by omega),qJ,List.getElem?_eq_getElem hi,Option.bind_some]
  simp only[Option.bind_some]
  by_cases hc:s[s.length-8]=59
  ·rw[if_neg (by simp[qfr,hc]),e2,qi1 s (by omega) N (s.length-7) (by omega) (by omega)]
   by_cases hd:(s.drop (s.length-7)).all ji=true
   ·have hyes:jy s=if s.drop (s.length-7)=qcI (s.take (s.length-8))then
     if(xQ (s.take (s.length-8))).2=true then((xQ (s.take (s.length-8))).1,0)else(ev0,25)
     else(ev0,27):=by
     unfold jy
     rw[if_pos ⟨h8,by rw[List.getElem?_eq_getElem hi,hc],hd⟩]
    rw[if_pos hd]
    simp only[Option.bind_some]
    rw[qaD (by omega),Option.bind_some,vM (by omega),Option.bind_some,qhZ (by simp;omega) (by simp;omega) (by omega),Option.bind_some,hyes]
    by_cases ht:s.drop (s.length-7)=qcI (s.take (s.length-8))
    ·rw[if_neg (by simp[ht]),if_pos ht]
     generalize hb:s.take (s.length-8)=b
     have hbl:b.length≤1600:=by rw[←hb];simp;omega
     rw[qe6 (by omega) (by omega),Option.bind_some]
     obtain⟨tl,g1,g2,g3⟩:=qgM b
     have hl:=qhF b
     rw[g1,qea]
     simp only[List.getElem?_cons_zero,Option.bind_some]
     rw[qdk hN,Option.bind_some]
     unfold xQ
     by_cases hn:(vR (jL b).1).2=true
     ·rw[if_neg (by simp[hn]),Option.bind_some]
      cases hp:qaM b with
      |none=>
       obtain⟨g4,g5⟩:=g2 hp
       rw[g4,decide_eq_true (by simp),if_pos rfl,g5]
       simp[qe4,ev0]
      |some k=>
       obtain⟨g4,g5,g6⟩:=g3 k hp
       have hc2:(jL b).2=b.drop (k+1):=by unfold jL;rw[hp]
       have h2: ¬(((jL b).1::tl).length:Int)<2:=by
        rw[g4]
        have:(spl [] (jL b).2).length=yg (jL b).2+1:=qa3 _ _
        simp only[List.length_cons,this];omega
       rw[decide_eq_false h2,if_neg (by decide),g5,qI (by omega),vM (by omega),Option.bind_some,←hc2,qis (by omega) hN,Option.bind_some]
       by_cases h3:(xz (jL b).2).2=true
       ·have:=qbn hM (qc9 hN (s:=(jL b).2) (by omega) (vR (jL b).1).1)
        unfold qcP at this⊢
        rw[if_neg (by simp[h3]),this,Option.bind_some,Option.bind_some]
        by_cases h4:jZ ⟨(vR (jL b).1).1,(xz (jL b).2).1.Kind,(xz (jL b).2).1.Names,(xz (jL b).2).1.Values,(xz (jL b).2).1.Text⟩=0
        ·simp[h4,hn,h3]
        ·simp[h4,hn,h3,ev0]
       ·rw[if_pos (by simp[h3]),Option.bind_some,if_pos rfl]
        simp[hn,h3,ev0]
     ·rw[if_pos (by simp[hn]),Option.bind_some,if_pos rfl]
      simp[hn,ev0]
    ·rw[if_pos (by simp[ht]),if_neg ht]
     rfl
   ·rw[if_neg hd,hno (fun h=>hd h.2.2)]
    rfl
  ·rw[if_pos (by simp[qfr,hc]),hno (fun h=>hc (by have:=h.2.1;rw[List.getElem?_eq_getElem hi]at this;exact Option.some.inj this))]
   rfl
 ·rw[hno (fun h=>h8 h.1)]
  have e1:w64 ((s.length:Int)-8)<0:=by rw[zJ (by omega) (by omega)];omega
  rw[if_pos e1]
  rfl
theorem qg7 {s:Str} (hs:s.length<100000):strings_CutSuffix (s++[10]) [10]=some (s,true):=by
 have hl:(s++[10]:Str).length=s.length+1:=by simp
 have e1:w64 (((s++[10]:Str).length:Int)-(([10]:Str).length:Int))=(s.length:Int):=by
  rw[hl]
  exact qdR (k:=s.length+1) (by omega) (by omega)
 unfold strings_CutSuffix stringslite_CutSuffix stringslite_HasSuffix
 rw[if_pos (by simp;omega),e1,vM (by simp),Option.bind_some,Option.bind_some,Option.bind_some]
 have e2:(s++[10]:Str).drop s.length=[10]:=by simp
 rw[e2,if_neg (by decide),qaD (by simp)]
 simp
theorem qic {s:Str} (hs:s.length<100000) (h: ∀t,s≠t++[10]):strings_CutSuffix s [10]=some (s,false):=by
 unfold strings_CutSuffix stringslite_CutSuffix stringslite_HasSuffix
 by_cases h1:1≤s.length
 ·have e1:w64 ((s.length:Int)-(([10]:Str).length:Int))=((s.length-1:Nat):Int):=qdR (by omega) (by omega)
  have e2: ¬s.drop (s.length-1)=[10]:=fun e=>h (s.take (s.length-1)) (by rw[←e,List.take_append_drop])
  rw[if_pos (by simp;omega),e1,vM (by omega),Option.bind_some,Option.bind_some,Option.bind_some,if_pos (by simp[e2])]
  rfl
 ·rw[if_neg (by simp;omega),Option.bind_some,Option.bind_some,if_pos (by decide)]
  rfl
def qaZ (s:Str) (out:List qb):Int:=if(jy s).2=0 then(if(jy s).1.Number=((out.length+1:Nat):Int)then 0 else 11)else(jy s).2
def oL (out:List qb):Option (List qb):=if out=[]then none else some out
theorem qkQ (out:List qb):hof (oL out)=out:=by
 unfold oL
 split
 ·rename_i h;subst h;rfl
 ·rfl
theorem qiz {N:Nat} (hN:2000<N) (hM:N<4611686018427387904) {s:Str} (hs:s.length≤1600) (a0 a1 n7 e:Int) (out:List qb) (ho:out.length≤2000):
 kr N a0 a1 (oL out) n7 e (s++[10])=some (if qaZ s out=0 then .inl (out++[(jy s).1])else .inr (qaZ s out,oL out)):=by
 unfold kr
 rw[qg7 (by omega),Option.bind_some,if_neg (by simp)]
 obtain⟨ev,b,h1,h2,h3⟩:=qkv hN hM hs ((out.length+1:Nat):Int)
 have hb:b=qaZ s out:=by
  unfold qaZ
  by_cases h0:(jy s).2=0
  ·rw[if_pos h0];obtain⟨e1,e2⟩:=h3 h0;rw[e2,e1]
  ·rw[if_neg h0];exact h2 h0
 have hev:b=0→ev=(jy s).1:=fun h=>by
  by_cases h0:(jy s).2=0
  ·exact(h3 h0).1
  ·exact absurd ((h2 h0).symm.trans h) h0
 have e0:w64 ((0:Int)+1)=1:=by decide
 by_cases hz:out=[]
 ·subst hz
  have h1':ko N s (w64 (0+1))=some (ev,b):=by rw[e0];exact h1
  simp only[oL,if_true,h1',Option.bind_some]
  rw[←hb]
  by_cases h0:b=0
  ·rw[if_neg (by simp[h0]),if_pos h0,hev h0]
   rfl
  ·rw[if_pos (by simp[h0]),if_neg h0]
 ·have h1':ko N s (w64 ((out.length:Int)+1))=some (ev,b):=by rw[qI (by omega)];exact h1
  simp only[oL,if_neg hz,h1',Option.bind_some]
  rw[←hb]
  by_cases h0:b=0
  ·rw[if_neg (by simp[h0]),yB (by simp;omega) (by simp;omega),Option.bind_some,Option.bind_some,if_pos h0,hev h0]
  ·rw[if_pos (by simp[h0]),if_neg h0]
theorem qjj {N:Nat} {s:Str} (hs:s.length<100000) (h: ∀t,s≠t++[10]) (a0 a1 n7 e:Int) (out:List qb):kr N a0 a1 (oL out) n7 e s=some (.inr (28,oL out)):=by
 unfold kr
 rw[qic hs h,Option.bind_some,if_pos (by simp)]
 unfold oL
 by_cases hz:out=[]
 ·rw[if_pos hz];rfl
 ·rw[if_neg hz];rfl
def qaU:Str→Option Nat
 |[]=>none
 |c::s=>if c=10 then some 0 else(qaU s).map (· +1)
theorem qeI: ∀(s:Str) (j:Nat),qck 10 s j=match qaU s with|some k=>((j+k:Nat):Int)|none=> -1
 |[],_=>rfl
 |c::s,j=>by
  show kw (Nat.beq c.toNat 10) (Int.ofNat j) (qck 10 s (j+1))=_
  rw[qx,qeI s (j+1),qaU]
  by_cases h:c=10
  ·subst h;rfl
  ·have h2:c.toNat≠10:=fun e=>h (UInt8.toNat_inj.1 (by rw[e];rfl))
   rw[if_neg (by rw[yw h2];simp),if_neg h]
   cases qaU s with
   |none=>rfl
   |some k=>
    simp only[Option.map_some]
    congr 1
    omega
theorem qeP: ∀{s:Str} {k:Nat},qaU s=some k→k<s.length∧s.take (k+1)=s.take k++[10]
 |[],k,h=>by cases h
 |c::s,k,h=>by
  unfold qaU at h
  by_cases hc:c=10
  ·rw[if_pos hc]at h;injection h with h;subst h;subst hc;exact⟨by simp,rfl⟩
  ·rw[if_neg hc]at h
   cases hp:qaU s with
   |none=>rw[hp]at h;cases h
   |some j=>
    rw[hp]at h;injection h with h;subst h
    obtain⟨h1,h2⟩:=qeP hp
    exact⟨by simp;omega,by rw[List.take_succ_cons,h2];rfl⟩
theorem qe7: ∀{s:Str},qaU s=none→ ∀t,s≠t++[10]
 |[],_,t=>by cases t<;>simp
 |c::s,h,t=>by
  unfold qaU at h
  by_cases hc:c=10
  ·rw[if_pos hc]at h;cases h
  ·rw[if_neg hc]at h
   have hn:qaU s=none:=by cases hp:qaU s with
    |none=>rfl
    |some j=>rw[hp]at h;cases h
   intro e
   cases t with
   |nil=>simp at e;exact hc e.1
   |cons d t=>simp at e;exact qe7 hn t e.2
def scan:Str→Str→List qb→Nat→List qb×Nat×Int
 |[],cur,out,f=>(out,f,if cur=[]then 0 else 28)
 |c::s,cur,out,f=>if c=10 then(if qaZ cur out=0 then scan s [] (out++[(jy cur).1]) (f+cur.length+1)else(out,f,qaZ cur out))else scan s (cur++[c]) out f
theorem qe5: ∀{s:Str} (cur:Str) (out:List qb) (f:Nat),qaU s=none→scan s cur out f=(out,f,if cur++s=[]then 0 else 28)
 |[],cur,out,f,_=>by rw[List.append_nil];rfl
 |c::s,cur,out,f,h=>by
  unfold qaU at h
  by_cases hc:c=10
  ·rw[if_pos hc]at h;cases h
  ·rw[if_neg hc]at h
   have hn:qaU s=none:=by cases hp:qaU s with
    |none=>rfl
    |some j=>rw[hp]at h;cases h
   unfold scan
   rw[if_neg hc,qe5 (cur++[c]) out f hn]
   simp
theorem qff: ∀{s:Str} {k:Nat} (cur:Str) (out:List qb) (f:Nat),qaU s=some k→
 scan s cur out f=if qaZ (cur++s.take k) out=0 then scan (s.drop (k+1)) [] (out++[(jy (cur++s.take k)).1]) (f+(cur++s.take k).length+1)else(out,f,qaZ (cur++s.take k) out)
 |[],k,cur,out,f,h=>by cases h
 |c::s,k,cur,out,f,h=>by
  unfold qaU at h
  by_cases hc:c=10
  ·rw[if_pos hc]at h;injection h with h;subst h
   conv=>lhs;unfold scan
   rw[if_pos hc]
   simp
  ·rw[if_neg hc]at h
   cases hp:qaU s with
   |none=>rw[hp]at h;cases h
   |some j=>
    rw[hp]at h;injection h with h;subst h
    conv=>lhs;unfold scan
    rw[if_neg hc,qff (cur++[c]) out f hp]
    simp
theorem qgv {N:Nat} (hN:2000<N) (hM:N<4611686018427387904) (a0 a1:Int) {s:Str} (hs:s.length≤1600): ∀(K f:Nat) (out:List qb),f≤s.length→s.length<K+f→out.length≤f→
 qp N a0 a1 s K (f:Int) (oL out) (f:Int)=some (if(scan (s.drop f) [] out f).2.2=0 then .inl (((scan (s.drop f) [] out f).2.1:Int),oL (scan (s.drop f) [] out f).1)
  else .inr (.inr (((scan (s.drop f) [] out f).2.1:Int),(scan (s.drop f) [] out f).2.2,((scan (s.drop f) [] out f).2.1:Int),oL (scan (s.drop f) [] out f).1)))
 |0,f,out,h1,h2,_=>by omega
 |K+1,f,out,h1,h2,h3=>by
  unfold qp
  by_cases hf:f<s.length
  ·have hi:strings_IndexByte (s.drop f) 10=some (qck 10 (s.drop f) 0):=by
    unfold strings_IndexByte stringslite_IndexByte qd1
    rw[if_pos (by decide)];rfl
   rw[if_pos (by omega),vM (by omega),Option.bind_some,hi,Option.bind_some,qeI]
   cases hp:qaU (s.drop f)with
   |none=>
    have hne:=qe7 hp
    simp only
    rw[if_neg (by omega),Option.bind_some,vM (by omega),Option.bind_some,qjj (by simp;omega) hne,Option.bind_some,qe5 [] out f hp]
    have: ¬(([]:Str)++s.drop f=[]):=by simp;omega
    rw[if_neg this]
    rfl
   |some k=>
    obtain⟨g1,g2⟩:=qeP hp
    have hk:k<s.length-f:=by simpa using g1
    simp only[Nat.zero_add]
    have e1:w64 (w64 ((f:Int)+(k:Int))+1)=((f+k+1:Nat):Int):=by rw[zJ (n:=(f:Int)+k) (by omega) (by omega),zJ (by omega) (by omega)];omega
    rw[if_pos (by omega),Option.bind_some,e1,qcp (by omega) (by omega),Option.bind_some,show f+k+1-f=k+1 by omega,g2,qiz hN hM (by simp;omega) _ _ _ _ _ (by omega),Option.bind_some,qff [] out f hp]
    simp only[List.nil_append]
    by_cases hb:qaZ ((s.drop f).take k) out=0
    ·have hl:((s.drop f).take k).length=k:=by simp;omega
     simp only[if_pos hb]
     rw[hl,List.drop_drop]
     have ih:=qgv hN hM a0 a1 hs K (f+k+1) (out++[(jy ((s.drop f).take k)).1]) (by omega) (by omega) (by simp;omega)
     have eo:oL (out++[(jy ((s.drop f).take k)).1])=some (out++[(jy ((s.drop f).take k)).1]):=by unfold oL;rw[if_neg (by simp)]
     rw[eo]at ih
     rw[show f+(k+1)=f+k+1 by omega]
     exact ih
    ·simp only[if_neg hb]
  ·rw[if_neg (by omega),List.drop_eq_nil_of_le (by omega)]
   rfl
def finR (n:Nat):((List qb×Int)⊕(List qb×Int×Int))→List qb×Int×Int
 | .inl (l,f)=>if f<(n:Int)then(l,f,28)else(l,f,0)
 | .inr q=>q
theorem qg4 {N:Nat} (hN:2000<N) (hM:N<4611686018427387904) {s:Str} (hs:s.length≤1600): ∀(K i f:Nat) (out:List qb),f≤i→i≤s.length→s.length<K+i→out.length≤f→
 ∃r,zx N s K out (f:Int) (i:Int)=some r∧finR s.length r=((scan (s.drop i) ((s.drop f).take (i-f)) out f).1,((scan (s.drop i) ((s.drop f).take (i-f)) out f).2.1:Int),(scan (s.drop i) ((s.drop f).take (i-f)) out f).2.2)
 |0,i,f,out,h0,h1,h2,_=>by omega
 |K+1,i,f,out,h0,h1,h2,h3=>by
  unfold zx
  by_cases hi:i<s.length
  ·rw[if_pos (by omega),qJ,List.getElem?_eq_getElem hi,Option.bind_some,List.drop_eq_getElem_cons hi]
   by_cases hc:s[i]=10
   ·have hcl:((s.drop f).take (i-f)).length=i-f:=by simp;omega
    have hn: ¬(!decide ((s[i].toNat:Int)=10))=true:=by rw[hc];decide
    rw[if_neg hn,qcp (by omega) (by omega),Option.bind_some,qhb hN hM (by simp;omega),Option.bind_some,qI (by omega)]
    generalize hcur:(s.drop f).take (i-f)=cur at hcl⊢
    have hb:((if(jy cur).2=0 then some (!decide ((jy cur).1.Number=((out.length+1:Nat):Int)))else some false:Option Bool).bind fun b19=>
     (if b19=true then some 11 else some (jy cur).2:Option Int))=some (qaZ cur out):=by
     unfold qaZ
     by_cases hz:(jy cur).2=0
     ·rw[if_pos hz,if_pos hz,Option.bind_some]
      by_cases hnum:(jy cur).1.Number=((out.length+1:Nat):Int)
      ·rw[if_pos hnum,hnum];simp[hz]
      ·rw[if_neg hnum,decide_eq_false hnum];rfl
     ·rw[if_neg hz,if_neg hz,Option.bind_some,if_neg (by decide)]
    have hsc:scan (s[i]::s.drop (i+1)) cur out f=if qaZ cur out=0 then scan (s.drop (i+1)) [] (out++[(jy cur).1]) (f+cur.length+1)else(out,f,qaZ cur out):=by
     conv=>lhs;unfold scan
     rw[if_pos hc]
    obtain⟨b19,hb1,hb2⟩:=bnd hb
    rw[hb1,Option.bind_some,hb2,Option.bind_some,hsc]
    by_cases hz:qaZ cur out=0
    ·rw[if_neg (by simp[hz]),if_pos hz,yB (by simp;omega) (by simp;omega),Option.bind_some,Option.bind_some]
     simp only
     obtain⟨r,e1,e2⟩:=qg4 hN hM hs K (i+1) (i+1) (out++[(jy cur).1]) (by omega) (by omega) (by omega) (by simp;omega)
     rw[qI (by omega)]
     refine⟨r,e1,?_⟩
     rw[Nat.sub_self,List.take_zero]at e2
     rw[hcl,show f+(i-f)+1=i+1 by omega]
     exact e2
    ·rw[if_pos (by simp[hz]),if_neg hz]
     exact⟨_,rfl,rfl⟩
   ·have hn:(!decide ((s[i].toNat:Int)=10))=true:=by
     simp only[Bool.not_eq_true',decide_eq_false_iff_not]
     intro e;exact hc (UInt8.toNat_inj.1 (show s[i].toNat=10 by omega))
    rw[if_pos hn,Option.bind_some]
    simp only
    obtain⟨r,e1,e2⟩:=qg4 hN hM hs K (i+1) f out (by omega) (by omega) (by omega) h3
    rw[qI (by omega)]
    refine⟨r,e1,?_⟩
    have hsc:scan (s[i]::s.drop (i+1)) ((s.drop f).take (i-f)) out f=scan (s.drop (i+1)) ((s.drop f).take (i+1-f)) out f:=by
     conv=>lhs;unfold scan
     rw[if_neg hc,show i+1-f=(i-f)+1 by omega,List.take_add_one,List.getElem?_drop,show f+(i-f)=i by omega,List.getElem?_eq_getElem hi]
     rfl
    rw[hsc]
    exact e2
  ·rw[if_neg (by omega)]
   refine⟨_,rfl,?_⟩
   rw[List.drop_eq_nil_of_le (show s.length≤i by omega)]
   have e:(s.drop f).take (i-f)=s.drop f:=List.take_of_length_le (by simp;omega)
   rw[e]
   unfold scan
   by_cases hf:f<s.length
   ·have h5: ¬s.drop f=[]:=by simp;omega
    have h6:(f:Int)<(s.length:Int):=by omega
    simp only[finR,if_pos h6,if_neg h5]
   ·have h5:s.drop f=[]:=List.drop_eq_nil_of_le (by omega)
    have h6: ¬(f:Int)<(s.length:Int):=by omega
    simp only[finR,if_neg h6,if_pos h5]
theorem qgl {N:Nat} (hN:2000<N) (hM:N<4611686018427387904) {s:Str} (hs:s.length≤1600):vT N s=some ((scan s [] [] 0).1,((scan s [] [] 0).2.1:Int),(scan s [] [] 0).2.2):=by
 obtain⟨r,e1,e2⟩:=qg4 hN hM hs N 0 0 [] (by omega) (by omega) (by omega) (by simp)
 unfold vT
 rw[if_neg (by omega),show zx N s N [] 0 0=_ from e1,Option.bind_some]
 rw[show(scan (s.drop 0) ((s.drop 0).take (0-0)) [] 0)=scan s [] [] 0 by simp]at e2
 rw[←e2]
 unfold finR
 rcases r with⟨l,f⟩|q
 ·simp only
  split<;>rfl
 ·rfl
theorem qdZ {N:Nat} (hN:2000<N) (hM:N<4611686018427387904) {s:Str} (hs:s.length≤1600):jN N s=some ((scan s [] [] 0).1,((scan s [] [] 0).2.1:Int),(scan s [] [] 0).2.2):=by
 have h:=qgv hN hM 0 0 hs N 0 [] (by omega) (by omega) (by simp)
 rw[List.drop_zero]at h
 unfold jN yf zK
 rw[if_neg (by omega),Option.bind_some]
 rw[show qp N 0 0 s N 0 (none:Option (List qb)) 0=_ from h]
 by_cases hb:(scan s [] [] 0).2.2=0
 ·rw[if_pos hb]
  simp only[Option.bind_some]
  generalize scan s [] [] 0=r at hb⊢
  obtain⟨l,f,b⟩:=r
  simp only at hb⊢
  subst hb
  unfold oL
  by_cases hl:l=[]
  ·subst hl;rfl
  ·rw[if_neg hl];rfl
 ·rw[if_neg hb]
  simp only[Option.bind_some,qkQ]
def qbl:List Str→Str
 |[]=>[]
 |[x]=>x
 |x::y::r=>x++32::qbl (y::r)
theorem qj4 (a s:Str):spl a s≠[]:=by
 have:=qa3 a s
 intro h
 rw[h]at this
 simp at this
theorem qdK {x:Str} {l:List Str} (h:l≠[]):qbl (x::l)=x++32::qbl l:=by
 cases l with
 |nil=>exact absurd rfl h
 |cons y r=>rfl
theorem qcK: ∀(s a:Str),qbl (spl a s)=a++s
 |[],a=>by simp[spl,qbl]
 |c::s,a=>by
  unfold spl
  by_cases hc:c=32
  ·rw[if_pos hc,qdK (qj4 _ _),qcK s [],hc]
   rfl
  ·rw[if_neg hc,qcK s (a++[c])]
   simp
theorem qfX: ∀(s:Str) (n:Nat) (c:UInt8),xW n (s++[c])=xW n s*10+(c.toNat-48)
 |[],n,c=>by simp[vF,qcl]
 |d::s,n,c=>by rw[List.cons_append,vF,vF,qfX s]
theorem qhC: ∀(s:Str) (n:Nat),n≤xW n s
 |[],n=>by rw[qcl];exact Nat.le_refl _
 |c::s,n=>by
  rw[vF]
  have:=qhC s (n*10+(c.toNat-48))
  omega
theorem qge {c:UInt8} (h:ji c=true):c.toNat-48<10∧UInt8.ofNat (48+(c.toNat-48))=c:=by
 unfold ji at h
 simp only[Bool.and_eq_true,decide_eq_true_eq]at h
 refine⟨by omega,?_⟩
 rw[show 48+(c.toNat-48)=c.toNat by omega]
 exact UInt8.ofNat_toNat
theorem qf4: ∀(n:Nat) (w:Str),w.length=n+1→w.all ji=true→(n=0∨w[0]? ≠some 48)→Lib.decDigits (xW 0 w)=w
 |0,w,hl,hd,_=>by
  match w,hl with
  |[c],_=>
   obtain⟨h1,h2⟩:=qge (c:=c) (by simpa using hd)
   rw[vF,qcl,Nat.zero_mul,Nat.zero_add,Lib.decDigits,dif_pos h1,h2]
 |n+1,w,hl,hd,h0=>by
  rcases List.eq_nil_or_concat w with e|⟨s,c,e⟩
  ·subst e;simp at hl
  ·subst e
   simp only[List.concat_eq_append]at*
   have hsl:s.length=n+1:=by simp at hl;omega
   rw[List.all_append,Bool.and_eq_true]at hd
   obtain⟨h1,h2⟩:=qge (c:=c) (by simpa using hd.2)
   have hs0:s[0]? ≠some 48:=by
    rcases h0 with h|h
    ·omega
    ·rwa [List.getElem?_append_left (by omega)]at h
   have hpos:1≤xW 0 s:=by
    match s,hsl with
    |d::t,_=>
     have h3:ji d=true:=by have:=hd.1;simp at this;exact this.1
     have h4:d≠48:=fun e=>hs0 (by rw[e];rfl)
     have h5:d.toNat≠48:=fun e=>h4 (UInt8.toNat_inj.1 e)
     unfold ji at h3
     simp only[Bool.and_eq_true,decide_eq_true_eq]at h3
     rw[vF]
     have:=qhC t (0*10+(d.toNat-48))
     omega
   have ih:=qf4 n s hsl hd.1 (.inr hs0)
   rw[qfX,Lib.decDigits,dif_neg (by omega),show(xW 0 s*10+(c.toNat-48))/10=xW 0 s by omega,show(xW 0 s*10+(c.toNat-48))%10=c.toNat-48 by omega,ih,h2]
theorem qgp {w:Str} (h:(vR w).2=true):0≤(vR w).1∧(vR w).1<1000000000∧Lib.itoa (vR w).1=w:=by
 unfold vR at h⊢
 by_cases hb:qju w=true
 ·rw[if_pos hb]
  unfold qju at hb
  simp only[Bool.and_eq_true,Bool.or_eq_true,decide_eq_true_eq]at hb
  obtain⟨h1,h2,h3,h4⟩:=hb
  have hlt:=qhz w 0 h3
  have hle:(0+1)*10^w.length≤10^9:=by rw[Nat.zero_add,Nat.one_mul];exact Nat.pow_le_pow_right (by decide) h2
  refine⟨by simp,by simp only;omega,?_⟩
  show Lib.itoa ((xW 0 w:Nat):Int)=w
  rw[qcg]
  refine qf4 (w.length-1) w (by omega) h3 ?_
  rcases h4 with h4|h4
  ·exact .inl (by omega)
  ·exact .inr (fun e=>by rw[e]at h4;simp at h4)
 ·rw[if_neg hb]at h;cases h
def qbb (e:qb):List Str:=Lib.itoa e.Number::e.Kind::(e.Names++e.Values.map Lib.itoa)
def ve (e:qb):Str:=qbl (qbb e)
theorem qf6: ∀{l:List Str},(l.all fun w=>(vR w).2)=true→(l.map fun w=>(vR w).1).map Lib.itoa=l
 |[],_=>rfl
 |w::l,h=>by
  rw[List.all_cons,Bool.and_eq_true]at h
  rw[List.map_cons,List.map_cons,qf6 h.2,(qgp h.1).2.2]
theorem qgZ {ws:List Str} (hne:ws≠[]) (h:(qaG ws).2=true):(qaG ws).1.Kind::((qaG ws).1.Names++(qaG ws).1.Values.map Lib.itoa)=ws:=by
 unfold qaG at h⊢
 split at h
 ·rename_i hc
  rw[if_pos hc]
  simp only[Bool.and_eq_true]at hc
  obtain⟨_,_,_,h4⟩:=hc
  cases ws with
  |nil=>exact absurd rfl hne
  |cons x r=>
   have e:=qf6 h4
   simp only[List.headD_cons]at e h4⊢
   rw[e,show 1+(za x).1.toNat=(za x).1.toNat+1 by omega,List.drop_succ_cons,List.drop_succ_cons,List.drop_zero,List.take_append_drop]
 ·cases h
theorem qiB {b:Str} (h:(xQ b).2=true):ve (xQ b).1=b:=by
 unfold xQ at h⊢
 simp only[Bool.and_eq_true,decide_eq_true_eq]at h
 obtain⟨h1,h2,h3⟩:=h
 obtain⟨tl,g1,g2,g3⟩:=qgM b
 cases hp:qaM b with
 |none=>
  rw[(g2 hp).2,qe4]at h2
  cases h2
 |some k=>
  obtain⟨g4,_,_⟩:=g3 k hp
  have hw:=qgZ (qj4 [] (jL b).2) (show(qaG (spl [] (jL b).2)).2=true from h2)
  have hb:=qcK b []
  rw[g1,g4]at hb
  unfold ve qbb qcP
  rw[(qgp h1).2.2]
  show qbl ((jL b).1::((qaG (spl [] (jL b).2)).1.Kind::((qaG (spl [] (jL b).2)).1.Names++(qaG (spl [] (jL b).2)).1.Values.map Lib.itoa)))=b
  rw[hw]
  simpa using hb
def qfk (e:qb):Str:=ve e++[59]++qcI (ve e)++[10]
theorem qjK {s:Str} (h:(jy s).2=0):s++[10]=qfk (jy s).1:=by
 unfold jy at h⊢
 split at h
 ·rename_i h1
  rw[if_pos h1]
  split at h
  ·rename_i h2
   rw[if_pos h2]
   split at h
   ·rename_i h3
    rw[if_pos h3]
    have hb:=qiB h3
    have hi:s.length-8<s.length:=by omega
    unfold qfk
    simp only[hb,←h2]
    have e1:s.drop (s.length-8)=59::s.drop (s.length-7):=by
     rw[List.drop_eq_getElem_cons hi]
     have:=h1.2.1
     rw[List.getElem?_eq_getElem hi]at this
     rw[Option.some.inj this,show s.length-8+1=s.length-7 by omega]
    have e2:s=s.take (s.length-8)++59::s.drop (s.length-7):=by rw[←e1,List.take_append_drop]
    conv=>lhs;rw[e2]
    simp
   ·cases h
  ·cases h
 ·cases h
def qbg (l:List qb):Str:=l.flatMap qfk
theorem qcX: ∀(s cur:Str) (out:List qb) (f:Nat),(scan s cur out f).2.2=0→qbg out++cur++s=qbg (scan s cur out f).1
 |[],cur,out,f,h=>by
  unfold scan at h⊢
  simp only at h
  by_cases hc:cur=[]
  ·subst hc;simp
  ·rw[if_neg hc]at h;cases h
 |c::s,cur,out,f,h=>by
  unfold scan at h⊢
  by_cases hc:c=10
  ·subst hc
   rw[if_pos rfl]at h⊢
   by_cases hb:qaZ cur out=0
   ·rw[if_pos hb]at h⊢
    have ih:=qcX s [] (out++[(jy cur).1]) _ h
    rw[←ih]
    have hz:(jy cur).2=0:=by
     unfold qaZ at hb
     split at hb
     ·assumption
     ·exact absurd hb (by assumption)
    have:=qjK hz
    simp only[qbg,List.flatMap_append,List.flatMap_cons,List.flatMap_nil,List.append_nil,←this]
    simp
   ·rw[if_neg hb]at h
    exact absurd h hb
  ·rw[if_neg hc]at h⊢
   have ih:=qcX s (cur++[c]) out f h
   rw[←ih]
   simp
def tailW (l:List Str):Str:=l.flatMap fun w=>32::w
theorem qca (x:Str) (l:List Str):tailW (x::l)=[32]++x++tailW l:=rfl
theorem qa6: ∀(x:Str) (l:List Str),qbl (x::l)=x++tailW l
 |x,[]=>by simp[qbl,tailW]
 |x,y::r=>by rw[qdK (by simp),qa6 y r];simp[tailW]
structure qa2 (e:qb):Prop where
 n:0≤e.Number∧e.Number<1000000000
 v: ∀x∈e.Values,0≤x∧x<1000000000
 names:e.Names.length≤100
 vals:e.Values.length≤100
 size:(ve e).length≤1000000
theorem yC {a b:Str} (h:(a++b).length≤1000000000):cat a b=some (a++b):=by
 unfold cat
 rw[if_pos (by simp at h;omega)]
theorem qfL {N:Nat} (hN:100<N) {x:Int} (h:0≤x∧x<1000000000):vI N x=some (Lib.itoa x):=by
 obtain⟨n,rfl⟩: ∃n:Nat,x=(n:Int):=⟨x.toNat,by omega⟩
 exact qhU hN (by omega)
theorem qhG {e:qb} (hn:e.Names.length≤100): ∀(K i:Nat) (s:Str),i≤e.Names.length→e.Names.length<K+i→(s++tailW (e.Names.drop i)).length≤100000000→jf e K s (i:Int)=some (s++tailW (e.Names.drop i))
 |0,i,s,h1,h2,_=>by omega
 |K+1,i,s,h1,h2,h3=>by
  unfold jf
  by_cases hi:i<e.Names.length
  ·have ed:e.Names.drop i=e.Names[i]::e.Names.drop (i+1):=List.drop_eq_getElem_cons hi
   have et:s++tailW (e.Names.drop i)=(s++[32]++e.Names[i])++tailW (e.Names.drop (i+1)):=by rw[ed,qca,←List.append_assoc,←List.append_assoc]
   rw[et]at h3⊢
   have h4:=h3
   rw[List.length_append]at h4
   rw[if_pos (by omega),yC (by simp at h4⊢;omega),Option.bind_some,qJ,List.getElem?_eq_getElem hi,Option.bind_some,yC (by omega),Option.bind_some,qI (by omega),qhG hn K (i+1) _ (by omega) (by omega) h3]
  ·rw[if_neg (by omega),List.drop_eq_nil_of_le (by omega)]
   simp[tailW]
theorem qhD {N:Nat} (hN:100<N) {e:qb} (hn:e.Values.length≤100) (hv: ∀x∈e.Values,0≤x∧x<1000000000): ∀(K i:Nat) (s:Str),i≤e.Values.length→e.Values.length<K+i→(s++tailW ((e.Values.drop i).map Lib.itoa)).length≤100000000→jg N e K s (i:Int)=some (s++tailW ((e.Values.drop i).map Lib.itoa))
 |0,i,s,h1,h2,_=>by omega
 |K+1,i,s,h1,h2,h3=>by
  unfold jg
  by_cases hi:i<e.Values.length
  ·have ed:e.Values.drop i=e.Values[i]::e.Values.drop (i+1):=List.drop_eq_getElem_cons hi
   have et:s++tailW ((e.Values.drop i).map Lib.itoa)=(s++[32]++Lib.itoa e.Values[i])++tailW ((e.Values.drop (i+1)).map Lib.itoa):=by rw[ed,List.map_cons,qca,←List.append_assoc,←List.append_assoc]
   rw[et]at h3⊢
   have h4:=h3
   rw[List.length_append]at h4
   rw[if_pos (by omega),yC (by simp at h4⊢;omega),Option.bind_some,qJ,List.getElem?_eq_getElem hi,Option.bind_some,qfL hN (hv _ (List.getElem_mem hi)),Option.bind_some,yC (by omega),Option.bind_some,qI (by omega),qhD hN hn hv K (i+1) _ (by omega) (by omega) h3]
  ·rw[if_neg (by omega),List.drop_eq_nil_of_le (by omega)]
   simp[tailW]
theorem qky {N:Nat} (hN:2000<N) {e:qb} (h:qa2 e):yT N e=some (ve e):=by
 have hsz:=h.size
 have eb:ve e=((Lib.itoa e.Number++[32]++e.Kind)++tailW e.Names)++tailW (e.Values.map Lib.itoa):=by
  unfold ve qbb
  rw[qa6]
  simp[tailW]
 rw[eb]at hsz⊢
 have h1:=hsz
 rw[List.length_append]at h1
 have h2:=h1
 rw[List.length_append]at h2
 have g0:=qhG h.names N 0 (Lib.itoa e.Number++[32]++e.Kind) (by omega) (by have:=h.names;omega) (by rw[List.drop_zero];omega)
 have g1:=qhD (show 100<N by omega) h.vals h.v N 0 ((Lib.itoa e.Number++[32]++e.Kind)++tailW e.Names) (by omega) (by have:=h.vals;omega) (by rw[List.drop_zero];omega)
 rw[List.drop_zero]at g0 g1
 unfold yT
 rw[qfL (by omega) h.n,Option.bind_some,yC (by simp at h2⊢;omega),Option.bind_some,yC (by omega),Option.bind_some,show jf e N _ 0=_ from g0,Option.bind_some,show jg N e N _ 0=_ from g1]
 rfl
theorem qeR: ∀(r:List Str),Lib.joinTail [32] r=tailW r
 |[]=>rfl
 |x::r=>by
  have:=qeR r
  unfold Lib.joinTail at this⊢
  rw[List.map_cons,List.flatten_cons,this]
  rfl
theorem qkZ: ∀(l:List Str),Lib.join l [32]=qbl l
 |[]=>rfl
 |x::r=>by rw[Lib.join_cons,qa6,qeR]
theorem qe3 {a:List Int} (hl:a.length≤100) (hv: ∀x∈a,0≤x∧x<1000000000): ∀(K k:Nat) (o:List Str),k≤a.length→a.length<K+k→o.length≤k→qw a K o (k:Int)=some (o++(a.drop k).map Lib.itoa)
 |0,k,o,h1,h2,_=>by omega
 |K+1,k,o,h1,h2,h3=>by
  unfold qw
  by_cases hk:k<a.length
  ·have hx:=hv _ (List.getElem_mem hk)
   have ht:qbQ a[k]=some (Lib.itoa a[k]):=by unfold qbQ;rw[if_pos (by omega)]
   rw[if_pos (by omega),qJ,List.getElem?_eq_getElem hk,Option.bind_some,show yV a[k]=some true from rfl,Option.bind_some,if_pos rfl,ht,Option.bind_some,yB (by simp;omega) (by simp;omega),Option.bind_some,Option.bind_some,qI (by omega),qe3 hl hv K (k+1) _ (by omega) (by omega) (by simp;omega),List.drop_eq_getElem_cons hk,List.map_cons,List.append_assoc]
   rfl
  ·rw[if_neg (by omega),List.drop_eq_nil_of_le (by omega)]
   simp
theorem qib {N:Nat} (hN:2000<N) {a:List Int} (hl:a.length≤100) (hv: ∀x∈a,0≤x∧x<1000000000):zw N a=some (a.map Lib.itoa):=by
 unfold zw
 have h:=qe3 hl hv N 0 [] (by omega) (by omega) (by simp)
 rw[show qw a N [] 0=_ from h]
 simp
theorem qeZ {sl:List (List Str)} (hs:sl.length≤100): ∀(K k n:Nat),k≤sl.length→sl.length<K+k→n+(sl.drop k).flatten.length≤100000→qB sl K (k:Int) (n:Int)=some ((n+(sl.drop k).flatten.length:Nat):Int)
 |0,k,n,h1,h2,_=>by omega
 |K+1,k,n,h1,h2,h3=>by
  unfold qB
  by_cases hk:k<sl.length
  ·have hd:sl.drop k=sl[k]::sl.drop (k+1):=List.drop_eq_getElem_cons hk
   rw[hd]at h3⊢
   rw[List.flatten_cons,List.length_append]at h3⊢
   have e1:w64 ((n:Int)+(sl[k].length:Int))=((n+sl[k].length:Nat):Int):=by rw[zJ (by omega) (by omega)];omega
   rw[if_pos (by omega),qJ,List.getElem?_eq_getElem hk,Option.bind_some,e1,if_neg (by omega),Option.bind_some,qI (by omega),qeZ hs K (k+1) _ (by omega) (by omega) (by omega)]
   congr 2
   omega
  ·rw[if_neg (by omega),List.drop_eq_nil_of_le (by omega)]
   simp
theorem qeJ {sl:List (List Str)} (hs:sl.length≤100): ∀(K k:Nat) (o:List Str),k≤sl.length→sl.length<K+k→o.length+(sl.drop k).flatten.length≤100000→qC sl K (some o) (k:Int)=some (some (o++(sl.drop k).flatten))
 |0,k,o,h1,h2,_=>by omega
 |K+1,k,o,h1,h2,h3=>by
  unfold qC
  by_cases hk:k<sl.length
  ·have hd:sl.drop k=sl[k]::sl.drop (k+1):=List.drop_eq_getElem_cons hk
   rw[hd]at h3⊢
   rw[List.flatten_cons,List.length_append]at h3
   rw[List.flatten_cons]
   rw[if_pos (by omega),qJ,List.getElem?_eq_getElem hk,Option.bind_some]
   simp only
   rw[yB (by omega) (by omega),Option.bind_some,Option.bind_some,qI (by omega),qeJ hs K (k+1) _ (by omega) (by omega) (by rw[List.length_append];omega),List.append_assoc]
  ·rw[if_neg (by omega),List.drop_eq_nil_of_le (by omega)]
   simp
theorem qkh {n:Nat} (h0:0<n) (h1:n≤100000):zF (n:Int)=some (some []):=by
 unfold zF
 have e1:w64 ((n:Int)-(w64 (0-0)))=(n:Int):=by
  rw[show w64 (0-0)=0 by decide,zJ (by omega) (by omega)]
  omega
 rw[e1,if_neg (by omega),Option.bind_some,if_pos (by omega)]
 have e2:qfZ 16 (n:Int) ([]:Str)=some (List.replicate n []):=by
  unfold qfZ
  rw[if_pos (by omega)]
  simp
 rw[e2]
 rfl
theorem qie {N:Nat} (hN:2000<N) {sl:List (List Str)} (hs:sl.length≤100) (h0:0<sl.flatten.length) (h1:sl.flatten.length≤100000):zU N sl=some sl.flatten:=by
 have g0:=qeZ hs N 0 0 (by omega) (by omega) (by rw[List.drop_zero];omega)
 have g1:=qeJ hs N 0 [] (by omega) (by omega) (by rw[List.drop_zero];simp at h1⊢;omega)
 rw[List.drop_zero]at g0 g1
 unfold zU
 rw[show qB sl N 0 0=_ from g0,Option.bind_some,Nat.zero_add,qkh h0 h1,Option.bind_some,show qC sl N (some []) 0=_ from g1]
 rfl
theorem qjU {N:Nat} (hN:2000<N) {e:qb} (h:qa2 e):yn N e=some (ve e):=by
 unfold yn qaa
 have ht:qbQ e.Number=some (Lib.itoa e.Number):=by unfold qbQ;rw[if_pos (by have:=h.n;omega)]
 have hn:=h.names
 have hv:=h.vals
 have hsz:=h.size
 rw[ht,Option.bind_some,qib hN h.vals h.v,Option.bind_some,qie hN (by simp) (by simp) (by simp;omega),Option.bind_some]
 have e1:([[Lib.itoa e.Number,e.Kind],e.Names,e.Values.map Lib.itoa]:List (List Str)).flatten=qbb e:=by simp[qbb]
 rw[e1]
 unfold qhX
 rw[qkZ,if_pos ⟨by simp[qbb];omega,by rw[show qbl (qbb e)=ve e from rfl];omega⟩]
 rfl
theorem qkc {N:Nat} (hN:2000<N) {e:qb} (h:qa2 e) (hs:(ve e).length<2000):vX N e=some (qfk e):=by
 unfold vX
 have e1:=qd7 (ve e)
 rw[qjU hN h,Option.bind_some,yC (by simp;omega),Option.bind_some,Option.bind_some,qi0 (by omega) (by omega),Option.bind_some,yC (by simp;omega),Option.bind_some,yC (by simp;omega),Option.bind_some]
 rfl
theorem qhx {N:Nat} (hN:2000<N) {l:List qb} (hl:l.length≤1000) (hw: ∀e∈l,qa2 e∧(ve e).length<2000): ∀(K k:Nat) (s:Str),k≤l.length→l.length<K+k→(s++qbg (l.drop k)).length≤100000000→jE N l K s (k:Int)=some (s++qbg (l.drop k))
 |0,k,s,h1,h2,_=>by omega
 |K+1,k,s,h1,h2,h3=>by
  unfold jE
  by_cases hk:k<l.length
  ·have hd:l.drop k=l[k]::l.drop (k+1):=List.drop_eq_getElem_cons hk
   obtain⟨w1,w2⟩:=hw _ (List.getElem_mem hk)
   have e1:=qd7 (ve l[k])
   have et:s++qbg (l.drop k)=(s++ve l[k]++[59]++qcI (ve l[k])++[10])++qbg (l.drop (k+1)):=by
    rw[hd,qbg,List.flatMap_cons,qfk,qbg]
    simp
   rw[et]at h3⊢
   have h4:=h3
   rw[List.length_append]at h4
   have h5:(s++ve l[k]++[59]++qcI (ve l[k])++[10]).length≤100000000:=by omega
   rw[if_pos (by omega),qJ,List.getElem?_eq_getElem hk,Option.bind_some,qky hN w1,Option.bind_some,yC (by simp at h5⊢;omega),Option.bind_some,yC (by simp at h5⊢;omega),Option.bind_some,Option.bind_some,qhZ (by omega) (by omega) (by omega),Option.bind_some,yC (by simp at h5⊢;omega),Option.bind_some,yC (by simp at h5⊢;omega),Option.bind_some,qI (by omega),qhx hN hl hw K (k+1) _ (by omega) (by omega) h3]
  ·rw[if_neg (by omega),List.drop_eq_nil_of_le (by omega)]
   simp[qbg]
theorem qkf {N:Nat} (hN:2000<N) {l:List qb} (hl:l.length≤1000) (hw: ∀e∈l,qa2 e∧(ve e).length<2000) (hs:(qbg l).length≤1000000):qaB N l=some (qbg l):=by
 unfold qaB
 have h:=qhx hN hl hw N 0 [] (by omega) (by omega) (by rw[List.drop_zero];simp;omega)
 rw[List.drop_zero]at h
 rw[show jE N l N [] 0=_ from h]
 rfl
structure Valid (e:qb):Prop where
 num:1≤e.Number∧e.Number≤1000
 form:(za e.Kind).2.2=true
 names:(e.Names.length:Int)=(za e.Kind).1
 values:(e.Values.length:Int)=(za e.Kind).2.1
 range: ∀v∈e.Values,0≤v∧v≤999999999
 text:e.Text=[]
theorem qfv {e:qb} (h:jZ e=0):Valid e:=by
 unfold jZ at h
 by_cases h1:qav e.Number 1 1000=true
 ·rw[if_pos h1]at h;cases h
 rw[if_neg h1]at h
 by_cases h2:(za e.Kind).2.2=false
 ·rw[if_pos h2]at h;cases h
 rw[if_neg h2]at h
 by_cases h3:((e.Names.length:Int)=(za e.Kind).1∧(e.Values.length:Int)=(za e.Kind).2.1)
 ·rw[if_neg (by simpa using h3)]at h
  by_cases h4:e.Names.all y9=false
  ·rw[if_pos h4]at h;cases h
  rw[if_neg h4]at h
  by_cases h5:e.Values.all (fun v=>!qav v 0 999999999)=false
  ·rw[if_pos h5]at h;cases h
  rw[if_neg h5]at h
  by_cases h6:e.Text=[]
  ·refine⟨?_,by simpa using h2,h3.1,h3.2,fun v hv=>?_,h6⟩
   ·simp[qav]at h1;omega
   ·have h5:e.Values.all (fun v=>!qav v 0 999999999)=true:=by simpa using h5
    have:=List.all_eq_true.1 h5 v hv
    simp[qav]at this
    exact this
  ·rw[if_neg h6]at h;cases h
 ·rw[if_pos h3]at h;cases h
theorem qjP {k:Str} (h:(za k).2.2=true):k=qdi∨k=qc8∨k=qf5∨k=qdd∨k=qai∨k=qde:=by
 unfold za at h
 by_cases h1:(k==qdi)=true
 ·exact .inl (beq_iff_eq.1 h1)
 by_cases h2:(k==qc8)=true
 ·exact .inr (.inl (beq_iff_eq.1 h2))
 by_cases h3:(k==qf5)=true
 ·exact .inr (.inr (.inl (beq_iff_eq.1 h3)))
 by_cases h4:(k==qdd)=true
 ·exact .inr (.inr (.inr (.inl (beq_iff_eq.1 h4))))
 by_cases h5:(k==qai)=true
 ·exact .inr (.inr (.inr (.inr (.inl (beq_iff_eq.1 h5)))))
 by_cases h6:(k==qde)=true
 ·exact .inr (.inr (.inr (.inr (.inr (beq_iff_eq.1 h6)))))
 simp[h1,h2,h3,h4,h5,h6]at h
theorem qeK (l:List Int) (hl:l.length<4611686018427387904): ∀(K k:Nat),k≤l.length→l.length<K+k→jv l K (k:Int)=some (if zD (l.drop k)=0 then .inl ()else .inr (zD (l.drop k)))
 |0,k,h,hK=>by omega
 |K+1,k,h,hK=>by
  unfold jv
  by_cases hk:k<l.length
  ·rw[if_pos (by omega),qJ,List.getElem?_eq_getElem hk,List.drop_eq_getElem_cons hk,qI (by omega),qeK l hl K (k+1) (by omega) (by omega)]
   simp only[Option.bind_some,zD]
   by_cases h0:l[k]=0
   ·simp[h0]
   ·simp[h0]
  ·rw[if_neg (by omega),List.drop_of_length_le (by omega)]
   rfl
theorem qig {N:Nat} {l:List Int} (hl:l.length<4611686018427387904) (h:l.length<N):xm N l=some (zD l):=by
 unfold xm
 rw[show(0:Int)=((0:Nat):Int)from rfl,qeK l hl N 0 (Nat.zero_le _) (by omega),List.drop_zero]
 by_cases h0:zD l=0
 ·simp[h0]
 ·simp[h0]
theorem qfE {N:Nat} (l:List Str) (hl:l.length<4611686018427387904) (hN:l.length<N):vw N l l=some true:=by
 have key: ∀(K k:Nat),k≤l.length→l.length<K+k→qO l l K (k:Int)=some (.inl ()):=by
  intro K
  induction K with
  |zero=>intro k h hK;omega
  |succ K ih=>
   intro k h hK
   unfold qO
   by_cases hk:k<l.length
   ·rw[if_pos (by omega),qJ,List.getElem?_eq_getElem hk,Option.bind_some,Option.bind_some,qI (by omega),if_neg (by simp)]
    exact ih (k+1) (by omega) (by omega)
   ·rw[if_neg (by omega)]
 unfold vw
 rw[if_neg (by simp),show qO l l N 0=qO l l N ((0:Nat):Int)from rfl,key N 0 (by omega) (by omega)]
 rfl
theorem qfT {N:Nat} (l:List Int) (hl:l.length<4611686018427387904) (hN:l.length<N):vK N l l=some true:=by
 have key: ∀(K k:Nat),k≤l.length→l.length<K+k→ky l l K (k:Int)=some (.inl ()):=by
  intro K
  induction K with
  |zero=>intro k h hK;omega
  |succ K ih=>
   intro k h hK
   unfold ky
   by_cases hk:k<l.length
   ·rw[if_pos (by omega),qJ,List.getElem?_eq_getElem hk,Option.bind_some,Option.bind_some,qI (by omega),if_neg (by simp)]
    exact ih (k+1) (by omega) (by omega)
   ·rw[if_neg (by omega)]
 unfold vK
 rw[if_neg (by simp),show ky l l N 0=ky l l N ((0:Nat):Int)from rfl,key N 0 (by omega) (by omega)]
 rfl
theorem qeB {N:Nat} (l:List qb) (hl:l.length≤1003) (hN:2000<N) (hM:N<4611686018427387904) (hs: ∀e∈l,e.Names.length<N∧e.Values.length<N):jh N l l=some true:=by
 have key: ∀(K k:Nat),k≤l.length→l.length<K+k→qK N l l K (k:Int)=some (.inl ()):=by
  intro K
  induction K with
  |zero=>intro k h hK;omega
  |succ K ih=>
   intro k h hK
   unfold qK
   by_cases hk:k<l.length
   ·obtain⟨h1,h2⟩:=hs _ (List.getElem_mem hk)
    rw[if_pos (by omega),qJ,List.getElem?_eq_getElem hk,Option.bind_some,Option.bind_some,if_neg (by simp),if_neg (by simp),qfE _ (by omega) h1,Option.bind_some,if_neg (by simp),qfT _ (by omega) h2,Option.bind_some,if_neg (by simp),Option.bind_some,qI (by omega),if_neg (by simp)]
    exact ih (k+1) (by omega) (by omega)
   ·rw[if_neg (by omega)]
 unfold jh
 rw[if_neg (by simp),show qK N l l N 0=qK N l l N ((0:Nat):Int)from rfl,key N 0 (by omega) (by omega)]
 rfl
def qbi (e:qb):Bool:=decide (e.Kind.length≤60)&&(decide (e.Names.length≤5)&&(decide (e.Values.length≤5)&&(decide (e.Text.length≤60)&&e.Names.all fun s=>decide (s.length≤60))))
theorem qgH {l:List qb} {i:Nat} {e:qb} (he:l[i]? =some e) (hn:e.Names.length≤5): ∀(K k:Nat),k≤e.Names.length→e.Names.length<K+k→qH l (i:Int) K (k:Int)=some (if((e.Names.drop k).all fun s=>decide (s.length≤60))=true then .inl ()else .inr false)
 |0,k,h,hK=>by omega
 |K+1,k,h,hK=>by
  unfold qH
  rw[qJ,he,Option.bind_some]
  by_cases hk:k<e.Names.length
  ·rw[if_pos (by omega),qJ,List.getElem?_eq_getElem hk,Option.bind_some,qI (by omega),qgH he hn K (k+1) (by omega) (by omega),List.drop_eq_getElem_cons hk,List.all_cons]
   by_cases hq:(e.Names[k]).length>60
   ·have h1:((e.Names[k]).length:Int)>60:=by omega
    have h2: ¬(e.Names[k]).length≤60:=by omega
    simp[h1,h2]
   ·have h1: ¬((e.Names[k]).length:Int)>60:=by omega
    have h2:(e.Names[k]).length≤60:=by omega
    simp only[h1,h2,decide_true,Bool.true_and,if_false]
  ·rw[if_neg (by omega),List.drop_of_length_le (by omega)]
   rfl
theorem qgu {N:Nat} (hN:2000<N) {l:List qb} (hl:l.length≤1000): ∀(K k:Nat),k≤l.length→l.length<K+k→qE N l K (k:Int)=some (if(l.drop k).all qbi=true then .inl ()else .inr false)
 |0,k,h,hK=>by omega
 |K+1,k,h,hK=>by
  unfold qE
  by_cases hk:k<l.length
  ·have he:l[k]? =some l[k]:=List.getElem?_eq_getElem hk
   rw[if_pos (by omega),qJ,he,Option.bind_some,qI (by omega),qgu hN hl K (k+1) (by omega) (by omega),List.drop_eq_getElem_cons hk,List.all_cons]
   generalize l[k]=e at he
   unfold qbi
   by_cases a1:e.Kind.length≤60
   ·have b1: ¬(e.Kind.length:Int)>60:=by omega
    by_cases a2:e.Names.length≤5
    ·have b2: ¬(e.Names.length:Int)>5:=by omega
     by_cases a3:e.Values.length≤5
     ·have b3: ¬(e.Values.length:Int)>5:=by omega
      by_cases a4:e.Text.length≤60
      ·have b4: ¬(e.Text.length:Int)>60:=by omega
       have:=qgH he a2 N 0 (by omega) (by omega)
       rw[List.drop_zero]at this
       simp only[a1,a2,a3,a4,b1,b2,b3,b4,decide_true,decide_false,Bool.true_and,if_false,Option.bind_some,Bool.false_eq_true]
       rw[show qH l (k:Int) N 0=qH l (k:Int) N ((0:Nat):Int)from rfl,this]
       by_cases a5:(e.Names.all fun s=>decide (s.length≤60))=true<;>simp[a5]
      ·have b4:(e.Text.length:Int)>60:=by omega
       simp[a1,a2,a3,a4,b1,b2,b3,b4]
     ·have b3:(e.Values.length:Int)>5:=by omega
      simp[a1,a2,a3,b1,b2,b3]
    ·have b2:(e.Names.length:Int)>5:=by omega
     simp[a1,a2,b1,b2]
   ·have b1:(e.Kind.length:Int)>60:=by omega
    simp[a1,b1]
  ·rw[if_neg (by omega),List.drop_of_length_le (by omega)]
   rfl
theorem qec {N:Nat} (hN:2000<N) {l:List qb} {n:Nat} (hn:n≤1000):zW N l (n:Int)=some (decide (l.length≤n)&&l.all qbi):=by
 unfold zW
 by_cases h:l.length≤n
 ·rw[if_neg (by omega),show qE N l N 0=qE N l N ((0:Nat):Int)from rfl,qgu hN (by omega) N 0 (by omega) (by omega),List.drop_zero]
  by_cases h2:l.all qbi=true<;>simp[h,h2]
 ·rw[if_pos (by omega)]
  simp[h]
theorem qjZ {N:Nat} (hN:2000<N) {e:qb} (h:qbi e=true):qdX N e:=by
 unfold qbi at h
 simp only[Bool.and_eq_true,decide_eq_true_eq,List.all_eq_true]at h
 exact⟨by omega,by omega,fun s hs=>by have:=h.2.2.2.2 s hs;omega⟩
theorem qfl {e:qb} (h:jZ e=0):e.Names.all y9=true:=by
 unfold jZ at h
 by_cases h1:qav e.Number 1 1000=true
 ·rw[if_pos h1]at h;cases h
 rw[if_neg h1]at h
 by_cases h2:(za e.Kind).2.2=false
 ·rw[if_pos h2]at h;cases h
 rw[if_neg h2]at h
 by_cases h3:((e.Names.length:Int)=(za e.Kind).1∧(e.Values.length:Int)=(za e.Kind).2.1)
 ·rw[if_neg (by simpa using h3)]at h
  by_cases h4:e.Names.all y9=false
  ·rw[if_pos h4]at h;cases h
  ·simpa using h4
 ·rw[if_pos h3]at h;cases h
theorem qiv {s:Str} (h:y9 s=true):s.length≤24:=by
 rw[qdL]at h
 simp only[Bool.and_eq_true,decide_eq_true_eq]at h
 exact h.1.2
theorem qeW {m:Nat}: ∀(l:List Str),(∀w∈l,w.length≤m)→(tailW l).length≤l.length*(m+1)
 |[],_=>by simp[tailW]
 |x::l,h=>by
  have h1:=qeW l fun w hw=>h w (List.mem_cons_of_mem _ hw)
  have h2:=h x (List.mem_cons_self ..)
  have h3:(l.length+1)*(m+1)=l.length*(m+1)+(m+1):=Nat.succ_mul ..
  rw[qca]
  simp only[List.length_append,List.length_cons,List.length_nil,h3]
  omega
theorem qgm {x:Int} (h:0≤x∧x<1000000000):(Lib.itoa x).length≤9:=by
 obtain⟨n,rfl⟩: ∃n:Nat,x=(n:Int):=⟨x.toNat,by omega⟩
 rw[qcg]
 exact qci 8 n (by omega)
theorem qae {e:qb} (h:jZ e=0):qa2 e∧(ve e).length≤200∧e.Names.length≤5∧e.Values.length≤5:=by
 have hv:=qfv h
 have hn:=qfl h
 have hk:e.Names.length≤2∧e.Values.length≤3∧e.Kind.length≤6:=by
  have h1:=hv.names
  have h2:=hv.values
  rcases qjP hv.form with h3|h3|h3|h3|h3|h3
  ·rw[h3,show za qdi=(2,3,true)by decide]at h1 h2;rw[h3];simp only at h1 h2;exact⟨by omega,by omega,by decide⟩
  ·rw[h3,show za qc8=(1,2,true)by decide]at h1 h2;rw[h3];simp only at h1 h2;exact⟨by omega,by omega,by decide⟩
  ·rw[h3,show za qf5=(1,2,true)by decide]at h1 h2;rw[h3];simp only at h1 h2;exact⟨by omega,by omega,by decide⟩
  ·rw[h3,show za qdd=(1,1,true)by decide]at h1 h2;rw[h3];simp only at h1 h2;exact⟨by omega,by omega,by decide⟩
  ·rw[h3,show za qai=(1,1,true)by decide]at h1 h2;rw[h3];simp only at h1 h2;exact⟨by omega,by omega,by decide⟩
  ·rw[h3,show za qde=(0,0,true)by decide]at h1 h2;rw[h3];simp only at h1 h2;exact⟨by omega,by omega,by decide⟩
 have hnum:0≤e.Number∧e.Number<1000000000:=by have:=hv.num;omega
 have hval: ∀x∈e.Values,0≤x∧x<1000000000:=fun x hx=>by have:=hv.range x hx;omega
 have hb:(ve e).length≤200:=by
  have h1:=qgm hnum
  have h2:=qeW (m:=24) (e.Kind::(e.Names++e.Values.map Lib.itoa)) (fun w hw=>by
   simp only[List.mem_cons,List.mem_append,List.mem_map]at hw
   rcases hw with rfl|hw|⟨x,hx,rfl⟩
   ·omega
   ·exact qiv (List.all_eq_true.1 hn w hw)
   ·have:=qgm (hval x hx);omega)
  unfold ve qbb
  rw[qa6,List.length_append]
  simp only[List.length_cons,List.length_append,List.length_map]at h2
  omega
 exact⟨⟨hnum,hval,by omega,by omega,by omega⟩,hb,by omega,by omega⟩
theorem qkn {s:Str} {out:List qb} (h:qaZ s out=0):(jy s).2=0∧(jy s).1.Number=((out.length+1:Nat):Int):=by
 unfold qaZ at h
 by_cases h0:(jy s).2=0
 ·rw[if_pos h0]at h
  by_cases h1:(jy s).1.Number=((out.length+1:Nat):Int)
  ·exact⟨h0,h1⟩
  ·rw[if_neg h1]at h;cases h
 ·rw[if_neg h0]at h;exact absurd h h0
theorem qkt {s:Str} (h:(jy s).2=0):8≤s.length∧jZ (jy s).1=0:=by
 unfold jy at h⊢
 split at h
 ·rename_i h1
  rw[if_pos h1]
  split at h
  ·rename_i h2
   rw[if_pos h2]
   split at h
   ·rename_i h3
    rw[if_pos h3]
    refine⟨h1.1,?_⟩
    unfold xQ at h3⊢
    simp only[Bool.and_eq_true,decide_eq_true_eq]at h3
    exact h3.2.2
   ·cases h
  ·cases h
 ·cases h
theorem qdB: ∀(s cur:Str) (out:List qb) (f:Nat),(scan s cur out f).1.length*9≤out.length*9+cur.length+s.length∧((∀e∈out,jZ e=0)→ ∀e∈(scan s cur out f).1,jZ e=0)
 |[],cur,out,f=>by
  unfold scan
  exact⟨by simp only;omega,fun h=>h⟩
 |c::s,cur,out,f=>by
  unfold scan
  by_cases hc:c=10
  ·rw[if_pos hc]
   by_cases hb:qaZ cur out=0
   ·rw[if_pos hb]
    obtain⟨h1,h2⟩:=qkt (qkn hb).1
    obtain⟨g1,g2⟩:=qdB s [] (out++[(jy cur).1]) (f+cur.length+1)
    refine⟨by simp only[List.length_append,List.length_cons,List.length_nil]at g1⊢;omega,fun h=>g2 fun e he=>?_⟩
    rw[List.mem_append,List.mem_singleton]at he
    rcases he with he|rfl
    ·exact h e he
    ·exact h2
   ·rw[if_neg hb]
    exact⟨by simp only[List.length_cons];omega,fun h=>h⟩
  ·rw[if_neg hc]
   obtain⟨g1,g2⟩:=qdB s (cur++[c]) out f
   exact⟨by simp only[List.length_append,List.length_cons,List.length_nil]at g1⊢;omega,g2⟩
theorem qjh (b:Bool) (e:Int):xP b e=some (if b=true then e else 0):=by
 unfold xP
 cases b<;>rfl
def apE (out:List qb) (no:Int) (e:qb):Int:=zD [no,jZ e,if e.Number=((out.length+1:Nat):Int)then 0 else 11]
theorem qgi {out:List qb} {no:Int} {e:qb} (h:apE out no e=0):no=0∧jZ e=0∧e.Number=((out.length+1:Nat):Int):=by
 unfold apE at h
 by_cases h1:no=0
 ·by_cases h2:jZ e=0
  ·by_cases h3:e.Number=((out.length+1:Nat):Int)
   ·exact⟨h1,h2,h3⟩
   ·rw[if_neg h3]at h
    simp[zD,h1,h2]at h
  ·simp[zD,h1,h2]at h
 ·simp[zD,h1]at h
theorem qeY (l:List qb) (e:qb):qbg (l++[e])=qbg l++qfk e:=by simp[qbg]
theorem qgB (e:qb):(qfk e).length=(ve e).length+9:=by
 have:=qd7 (ve e)
 unfold qfk
 simp;omega
theorem qii {N:Nat} (hN:2000<N) (hM:N<4611686018427387904) {log:Str} (hl:log.length≤1600) {e:qb} (he:qdX N e):
 vS N log e=some (if apE (scan log [] [] 0).1 (scan log [] [] 0).2.2 e=0 then(log++qfk e,0)else([],apE (scan log [] [] 0).1 (scan log [] [] 0).2.2 e)):=by
 obtain⟨g1,g2⟩:=qdB log [] [] 0
 unfold vS
 rw[qdZ hN hM hl,Option.bind_some,qbR hM (by omega) he,Option.bind_some,qbG,Option.bind_some,qel (by simp) (by simp;omega),Option.bind_some]
 generalize scan log [] [] 0=r at g1 g2⊢
 obtain⟨out,f,no⟩:=r
 simp only[List.length_nil]at g1 g2⊢
 have e1:(if(!decide (e.Number=(w64 ((out.length:Int)+1))))=true then(11:Int)else 0)=if e.Number=((out.length+1:Nat):Int)then 0 else 11:=by
  rw[qI (by omega)]
  by_cases h:e.Number=((out.length+1:Nat):Int)<;>simp[h]
 rw[e1,show zD [no,jZ e,if e.Number=((out.length+1:Nat):Int)then 0 else 11]=apE out no e from rfl]
 by_cases hz:apE out no e=0
 ·obtain⟨_,h2,_⟩:=qgi hz
  obtain⟨w1,w2,_⟩:=qae h2
  have:=qgB e
  rw[if_neg (by simp[hz]),if_pos hz,qkc hN w1 (by omega),Option.bind_some,yC (by simp;omega),Option.bind_some,if_neg (by simp;omega)]
 ·rw[if_pos (by simp[hz]),if_neg hz]
theorem qcF (e:qb) (log:Str):vO 3000 e log=some true:=by
 have hN:2000<3000:=by decide
 have hM:3000<4611686018427387904:=by decide
 unfold vO
 have e2:zW 3000 [e] 1=some (decide ([e].length≤1)&&[e].all qbi):=qec (n:=1) hN (by omega)
 rw[e2,Option.bind_some]
 by_cases hs:qbi e=true
 ·by_cases hl:log.length≤1500
  ·have he:=qjZ hN hs
   have b1: ¬((log.length:Int)>1500):=by omega
   simp only[hs,List.all_cons,List.all_nil,Bool.and_true,List.length_cons,List.length_nil,Nat.zero_add,Nat.le_refl,decide_true,Bool.not_true,Bool.false_eq_true,if_false,b1,decide_false,Option.bind_some]
   rw[qii hN hM (by omega) he,Option.bind_some,qdZ hN hM (by omega),Option.bind_some,qgl hN hM (by omega),Option.bind_some,qbn hM he,Option.bind_some,qjh,Option.bind_some,qig (by simp) (by simp),Option.bind_some]
   obtain⟨g1,g2⟩:=qdB log [] [] 0
   have gb:=qcX log [] [] 0
   generalize scan log [] [] 0=r at g1 g2 gb⊢
   obtain⟨out,f,no⟩:=r
   have g2:=g2 (fun e he=>by cases he)
   simp only[List.length_nil]at g1 g2 gb⊢
   have e1:(if(!decide (e.Number=(w64 ((out.length:Int)+1))))=true then(11:Int)else 0)=if e.Number=((out.length+1:Nat):Int)then 0 else 11:=by
    rw[qI (by omega)]
    by_cases h:e.Number=((out.length+1:Nat):Int)<;>simp[h]
   rw[e1,show zD [no,jZ e,if e.Number=((out.length+1:Nat):Int)then 0 else 11]=apE out no e from rfl]
   have hsame:jh 3000 out out=some true:=qeB out (by omega) hN hM (fun x hx=>by have:=qae (g2 x hx);omega)
   by_cases hz:apE out no e=0
   ·obtain⟨h1,h2,h3⟩:=qgi hz
    obtain⟨w1,w2,_⟩:=qae h2
    have hlog:log=qbg out:=by
     have:=gb h1
     simpa[qbg]using this
    have hr:=qgB e
    have hw: ∀x∈out++[e],qa2 x∧(ve x).length<2000:=fun x hx=>by
     rw[List.mem_append,List.mem_singleton]at hx
     rcases hx with hx|rfl
     ·have:=qae (g2 x hx);exact⟨this.1,by omega⟩
     ·exact⟨w1,by omega⟩
    have hL:=qkf hN (l:=out++[e]) (by simp;omega) hw (by rw[qeY,←hlog];simp;omega)
    rw[if_pos hz,if_pos hz,yB (by simp;omega) (by simp;omega),Option.bind_some,List.nil_append,yB (by simp;omega) (by simp;omega),Option.bind_some,hL,Option.bind_some,Option.bind_some,qeY,←hlog,hz,hsame]
    simp[awk]
   ·rw[if_neg hz,if_neg hz,Option.bind_some,hsame]
    simp[awk]
  ·have b1:((log.length:Int)>1500):=by omega
   simp[hs,b1,awk]
 ·simp[hs,awk]
end Go.Av
