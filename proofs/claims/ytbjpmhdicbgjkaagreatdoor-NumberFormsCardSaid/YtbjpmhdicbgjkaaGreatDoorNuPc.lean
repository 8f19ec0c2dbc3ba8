/-
  Names.
-/
import Derived.Test.YtbjpmhdicbgjkaaGreatDoorAvPt
import Derived.Test.YtbjpmhdicbgjkaaGreatDoorNuPb
noncomputable section
section
namespace Go.Av
set_option linter.unusedSimpArgs false
set_option linter.unusedVariables false
theorem qh1 {s:Str} {k:Nat} {c:UInt8} (h:s[k]? =some c):((⟨s.toArray⟩:ByteArray).get! k)=c:=by
 have hk:=(List.getElem?_eq_some_iff.1 h).1
 show s.toArray[k]! =c
 rw[getElem!_def]
 simp[h]
theorem qje {s:Str} {k:Nat} {c:UInt8} (h:s[k]? =some c) (hc:c.toNat<128):jT s k=c.toNat/\runeLen s k=1:=by
 have e:=qh1 h
 unfold jT runeLen Utf8.decode
 simp only[Nat.add_zero,e,if_pos hc,and_self]
theorem qkb {s:Str} {k:Nat} {c:UInt8} (h:s[k]? =some c) (hc:128<=c.toNat):128<=jT s k:=by
 have e:=qh1 h
 unfold jT Utf8.decode
 simp only[Nat.add_zero,e,if_neg (Nat.not_lt.2 hc)]
 have hr:(128:Nat)<=Utf8.runeError:=by decide
 repeat' split
 all_goals first|(simp only[Bool.and_eq_true,decide_eq_true_eq]at*;omega)|(simp;omega)|omega
def qho (c:Int):Bool:=(decide (97<=c)&&decide (c<=122))||(decide (65<=c)&&decide (c<=90))
theorem qer (c:Int):jW c=some (qho c):=by
 unfold jW qho
 by_cases h1:c>=97<;>by_cases h2:c<=122<;>by_cases h3:c>=65<;>by_cases h4:c<=90<;>simp[h1,h2,h3,h4]<;>omega
def qiK (k:Nat) (c:Int):Bool:=!qho c&&(decide (k=0)||(!decide (c=95)&&(decide (c<48)||decide (c>57))))
def qjD (s:Str):Bool:=decide (1<=s.length)&&decide (s.length<=24)&&!((List.range s.length).any fun k=>qiK k (s.getD k 0).toNat)
theorem qmG {k:Nat} {c:Int} (h:128<=c):qiK k c=true:=by
 unfold qiK qho
 simp
 omega
def xJ (s:Str) (k:Nat):Bool:=(List.range (s.length-k)).any fun j=>qiK (k+j) (s.getD (k+j) 0).toNat
theorem qdT {s:Str} {k:Nat} {c:UInt8} (h:s[k]? =some c):xJ s k=(qiK k c.toNat||xJ s (k+1)):=by
 have hk:=(List.getElem?_eq_some_iff.1 h).1
 unfold xJ
 rw[show s.length-k=(s.length-(k+1))+1 by omega,List.range_succ_eq_map,List.any_cons,List.any_map]
 congr 1
 ·simp[List.getD,h]
 congr 1
 funext j
 simp only[Function.comp,Nat.succ_eq_add_one]
 rw[show k+(j+1)=k+1+j by omega]
theorem qeo {s:Str} {k:Nat} (h:s.length<=k):xJ s k=false:=by
 unfold xJ
 rw[show s.length-k=0 by omega]
 rfl
theorem qgs (s:Str): ∀(K k:Nat),k<=s.length->s.length<K+k->zQ s K k=some (if xJ s k then .inr false else .inl ())
 |0,k,h,hK=>by omega
 |K+1,k,h,hK=>by
  unfold zQ
  by_cases hk:k<s.length
  ·have hc:s[k]? =some s[k]:=List.getElem?_eq_getElem hk
   rw[if_pos hk,qer,qdT hc]
   by_cases ha:(s[k]).toNat<128
   ·obtain⟨e1,e2⟩:=qje hc ha
    rw[e1,e2,qgs s K (k+1) (by omega) (by omega)]
    have ek:((k:Int)=0)↔k=0:=by omega
    unfold qiK
    generalize ((s[k]).toNat:Int)=c
    cases hl:qho c<;>by_cases h0:k=0<;>by_cases h1:c=95<;>by_cases h2:c<48<;>by_cases h3:57<c<;>
     simp[hl,h0,h1,h2,h3]
   have hw:=qkb hc (by omega)
   rw[qmG (show(128:Int)<=((s[k]).toNat:Int)by omega)]
   have hl:qho (jT s k)=false:=by unfold qho;simp;omega
   have h1: ¬jT s k=95:=by omega
   have h2: ¬jT s k<48:=by omega
   have h3:jT s k>57:=by omega
   have ek:((k:Int)=0)↔k=0:=by omega
   simp only[hl,ZB,Bool.not_false,if_true,h1,h2,h3,decide_true,decide_false,if_false,Bool.true_or,ek]
   by_cases h0:k=0
   ·simp only[h0,if_true,ZB]
   simp only[h0,if_false,ZB,if_true]
  rw[if_neg hk,qeo (by omega)]
  rfl
theorem qh6 (s:Str):qjD s=(decide (1<=s.length)&&decide (s.length<=24)&&!xJ s 0):=by
 unfold qjD xJ
 simp
theorem qgA {N:Nat} {s:Str} (h:s.length<N):xk N s=some (qjD s):=by
 unfold xk
 rw[qgs s N 0 (Nat.zero_le _) (by omega),qh6]
 cases hb:xJ s 0
 ·cases s with
  |nil=>simp
  |cons x xs=>
   have e:((x::xs)==([]:Str))=false:=rfl
   simp only[ZB,ZF,if_false,e,Bool.not_false,if_true,Bool.and_true,ZI]
   have:(1<=(x::xs).length):=by simp
   rw[Bool.eq_iff_iff]
   simp only[decide_eq_true_eq,Bool.and_eq_true,this,true_and]
   omega
 simp
theorem qfI (s:Str) (hs:s.length<4611686018427387904): ∀(K k:Nat),k<=s.length->s.length<K+k->jr s K (k:Int)=some (if xJ s k then .inr false else .inl ())
 |0,k,h,hK=>by omega
 |K+1,k,h,hK=>by
  unfold jr
  by_cases hk:k<s.length
  ·have hc:s[k]? =some s[k]:=List.getElem?_eq_getElem hk
   rw[if_pos (by omega),qx,hc,qdT hc,zT (by omega),qfI s hs K (k+1) (by omega) (by omega)]
   simp only[ZB]
   have ek:((k:Int)=0)↔k=0:=by omega
   unfold qiK
   generalize ((s[k]).toNat:Int)=c
   rw[show(if c>=97 then if c<=122 then some true else if c>=65 then some (decide (c<=90))else some false else if c>=65 then some (decide (c<=90))else some false:Option Bool)=some (qho c)from by
    have:=qer c
    unfold jW at this
    rw[<-this]
    cases(if c>=97 then if c<=122 then some true else if c>=65 then some (decide (c<=90))else some false else if c>=65 then some (decide (c<=90))else some false:Option Bool)<;>rfl]
   simp only[ZB,ek]
   cases qho c
   ·by_cases h5:k=0
    ·simp[h5]
    by_cases h6:c>=48
    ·by_cases h7:c<=57
     ·have a1: ¬c<48:=by omega
      have a2: ¬c>57:=by omega
      simp[h5,h6,h7,a1,a2]
     have a1: ¬c<48:=by omega
     have a2:c>57:=by omega
     by_cases h8:c=95<;>simp[h5,h6,h7,h8,a1,a2]
    have a1:c<48:=by omega
    by_cases h8:c=95<;>simp[h5,h6,h8,a1]
   simp
  rw[if_neg (by omega),qeo (by omega)]
  rfl
theorem qeZ {N:Nat} {s:Str} (h:s.length<N) (hs:s.length<4611686018427387904):xG N s=some (qjD s):=by
 unfold xG
 rw[show(0:Int)=((0:Nat):Int)from rfl,qfI s hs N 0 (Nat.zero_le _) (by omega),qh6]
 by_cases h1:s.length<1
 ·rw[if_pos (by omega)]
  simp[show¬1<=s.length by omega]
 by_cases h2:s.length>24
 ·rw[if_neg (by omega)]
  simp only[ZB,show((s.length:Int)>24)by omega,decide_true,if_true,show¬s.length<=24 by omega,decide_false,Bool.and_false,Bool.false_and]
 rw[if_neg (by omega)]
 simp only[ZB,show¬((s.length:Int)>24)by omega,decide_false,ZF,if_false,show 1<=s.length by omega,show s.length<=24 by omega,decide_true,Bool.true_and]
 cases hb:xJ s 0<;>rfl
end Go.Av
end
section
namespace Go.Av
set_option linter.unusedVariables false
set_option linter.unusedSimpArgs false
set_option maxRecDepth 100000
theorem qkE {N:Nat} (hN:600000<N) {f:jQ} {q:Rat} (h:IsF f q) (fq:qgc q 3900): ∃r,yK N f=some r/\IsZ r q.floor:=by
 obtain⟨a,b,e,i1,i2⟩:=qcN (N:=N) (by omega) h.1 h.2 fq.1 fq.2 (by have:=q.den_pos;omega)
 refine⟨a,?_,?_⟩
 ·unfold yK
  rw[e,ZB]
 rw[Rat.floor_def]
 exact i1
theorem qks {q:Rat} {n:Nat} (h:Fit q.num n):Fit q.floor n:=by
 rw[Rat.floor_def]
 exact qbc (vD _ (by have:=q.den_pos;omega)) h
theorem qmX {m n:Nat} (h:m<=n):(Lib.decDigits m).length<=(Lib.decDigits n).length:=by
 have h1:=qhc n
 exact(xI h1).2 (Nat.lt_of_le_of_lt h ((xI h1).1 (Nat.le_refl _)))
theorem qkI {q:Rat} {k:Nat} (h:Sml q k) (hk:0<k):Sml ((q.floor:Int):Rat) k:=by
 constructor
 ·rw[Rat.num_intCast,Rat.floor_def]
  have:=vD q.num (show(0:Int)<(q.den:Int)by have:=q.den_pos;omega)
  exact Nat.le_trans (qmX (by omega)) h.1
 rw[Rat.den_intCast]
 exact(xI hk).2 (Nat.one_lt_pow (by omega) (by decide))
theorem qkV {z:Int} {n:Nat} (h:Fit z n) (hn:1<=n):qgc (z:Rat) n:=⟨by rw[Rat.num_intCast];exact h,by rw[Rat.den_intCast];exact F1 hn⟩
theorem qis {N:Nat} (hN:600000<N) {a b:Int} {B:Nat} (hB:B<=8000) (fa:jH a B) (hb:0<b):yM N (rI a) (rI b)=some (rI (a/b)):=by
 have q0:0<=(a.natAbs:Int)/b:=Int.ediv_nonneg (by omega) (by omega)
 have r0:=Int.emod_nonneg (a.natAbs:Int) (show b≠0 by omega)
 have r1:=Int.emod_lt_of_pos (a.natAbs:Int) hb
 have dm:=Int.mul_ediv_add_emod (a.natAbs:Int) b
 have fq:jH ((a.natAbs:Int)/b) B:=jH.le (Int.le_trans (vD _ hb) (Int.le_refl _)) fa.abs
 have ql:(dg E9 ((a.natAbs:Int)/b)).length<=B:=by
  have:=fq.len
  rw[show((((a.natAbs:Int)/b).natAbs:Nat):Int)=(a.natAbs:Int)/b by omega]at this
  exact this
 have eb:(rI b).w=dg E9 b:=by rw[rI_w,show(b.natAbs:Int)=b by omega]
 unfold yM
 rw[eb,rI_w,qna (by omega) (by omega) hb hB fa.abs,ZB]
 simp only
 by_cases hn:a<0
 ·rw[if_pos (show(rI a).neg=true from decide_eq_true hn),ZB]
  by_cases hr:(a.natAbs:Int)%b=0
  ·have hz:dg E9 ((a.natAbs:Int)%b)=[]:=by rw[hr];rfl
   have ev:a/b= -((a.natAbs:Int)/b):=by
    rw[show a= -(a.natAbs:Int)by omega,Int.natAbs_neg,Int.natAbs_natCast,Int.neg_ediv_of_dvd (Int.dvd_of_emod_eq_zero hr)]
   rw[hz,if_neg (by simp),ZB,qbk _ (zA E1 q0).1 (by omega) (by omega),ZB,if_pos (show(rI a).neg=true from decide_eq_true hn),jw E1 q0,ev]
  have hz: ¬(dg E9 ((a.natAbs:Int)%b)).length=0:=by
   intro c
   have:=jw E1 r0
   rw[List.eq_nil_of_length_eq_zero c]at this
   exact hr this.symm
  have ev:a/b= -((a.natAbs:Int)/b+1):=by
   have:a=b*(-((a.natAbs:Int)/b+1))+(b-(a.natAbs:Int)%b):=by
    rw[Int.mul_neg,Int.mul_add,Int.mul_one]
    omega
   conv=>lhs;rw[this]
   rw[Int.add_comm,Int.add_mul_ediv_left _ _ (by omega),Int.ediv_eq_zero_of_lt (by omega) (by omega),Int.zero_add]
  obtain⟨l,e,hd,hl,hv⟩:=qgO (N:=N) (zA E1 q0).1 (b:=[1]) (by rw[<-qk8];exact(zA E1 (by decide)).1) (by omega) (by decide) (by omega)
  rw[decide_eq_true (show((dg E9 ((a.natAbs:Int)%b)).length:Int)>0 by omega),if_pos rfl,e,ZB,ZB,qbk _ hd (by omega) (by omega),ZB,if_pos (show(rI a).neg=true from decide_eq_true hn),hv,jw E1 q0,show dv E9 [1]=1 from rfl,ev]
 rw[if_neg (show¬(rI a).neg=true from fun c=>hn (of_decide_eq_true c)),ZB,if_neg (by simp),ZB,qbk _ (zA E1 q0).1 (by omega) (by omega),ZB,if_neg (show¬(rI a).neg=true from fun c=>hn (of_decide_eq_true c)),jw E1 q0,show(a.natAbs:Int)=a by omega]
theorem qhL {q:Rat} (h:q.den=1):((q.floor:Int):Rat)=q:=by
 apply Rat.ext
 ·rw[Rat.num_intCast,Rat.floor_def,h]
  exact Int.ediv_one _
 rw[Rat.den_intCast,h]
theorem qkt {N:Nat} (hN:600000<N) {q:Rat} {k:Nat} (hk0:0<k) (hk:k<=4000) (h:Sml q k):qal N (T q)=some (T ((q.floor:Int):Rat)):=by
 have hl:=qir h
 have W:xe N (T q)=some (decide (q.den=1)):=by
  unfold xe
  rw[qcH (by omega) (by omega),ZB]
  by_cases c:q.den=1
  ·rw[(qdz q c).2,decide_eq_true c,decide_eq_true rfl]
  have:=(qdI q c).1
  rw[decide_eq_false c,decide_eq_false (by omega)]
 unfold qal
 rw[W,ZB]
 by_cases c:q.den=1
 ·rw[if_pos (decide_eq_true c),qhL c]
 rw[if_neg (fun x=>c (of_decide_eq_true x)),qky hN (h.mono hk),ZB]
 have p1:=qm2 (n:=500) h hk0 (by omega)
 have hd:=den_pos q
 have p2:jH (q.num/(q.den:Int)) 500:=jH.le (Int.le_trans (vD _ (by omega)) (Int.le_refl _)) p1
 simp only
 rw[qis hN (by omega) p1 (by omega),ZB,qnj (by omega) (p2.mono (by omega)),ZB]
 unfold T
 rw[Rat.num_intCast,Rat.den_intCast,if_pos rfl,List.append_nil,Rat.floor_def]
theorem qku {N:Nat} (hN:600000<N) {q:Rat} (h:Sml q 600) (hc:chk (T q)=0):yg N (T q)=some (res ((q.floor:Int):Rat)):=by
 have hl:=qir h
 have f1:=qkS (n:=32) h (by omega) (by omega)
 obtain⟨f,e1,i1⟩:=qne hN (h.mono (show 600<=9000 by omega))
 obtain⟨r,e2,i2⟩:=qkE hN i1 (f1.mono (by omega))
 obtain⟨g,e3,i3⟩:=qif i2
 unfold yg
 rw[qgC hN (by omega),hc,ZB,if_neg (by simp),e1,ZB,e2,ZB,e3,ZB,qgk hN i3 ((qkV (qks f1.1) (by omega)).mono (by omega))]
 rfl
theorem qji {N:Nat} (hN:600000<N) {s:Str} (hl:s.length<=10000) (h:chk s≠0):yg N s=some ([],chk s):=by
 unfold yg
 rw[qgC hN hl,ZB,if_pos (by simp[h])]
theorem fit1 {z:Int} (h1: -9223372036854775808<=z) (h2:z<=9223372036854775807):Fit z 1:=by
 have:W=18446744073709551616:=rfl
 unfold Fit
 rw[Int.pow_succ,Int.pow_zero,Int.one_mul]
 omega
theorem qnK {N:Nat} (hN:600000<N) {a b:Int} (a1: -9223372036854775808<=a) (a2:a<=9223372036854775807) (b1: -9223372036854775808<=b) (b2:b<=9223372036854775807):qbA N a b=some (if b=0 then([],6)else res (Rat.divInt a b)):=by
 unfold qbA
 by_cases h:b=0
 ·rw[if_pos h,if_pos h]
 obtain⟨f,e,i⟩:=qm8 hN (IsZ.small a1 a2) (IsZ.small b1 b2) ((fit1 a1 a2).mono (by omega)) ((fit1 b1 b2).mono (by omega)) h
 rw[if_neg h,if_neg h,qex,ZB,qex,ZB,e,ZB,qgk hN i ((qiD h (fit1 a1 a2) (fit1 b1 b2)).mono (by omega))]
 rfl
theorem qdJ {N:Nat} (hN:600000<N) (s:Str) (n:Int×Int) (a:Str):yB N s n a=some true:=by
 unfold yB
 rw[show awk=some true from rfl,ZB,if_neg (by simp)]
 by_cases c1:(s.length:Int)>1300
 ·rw[if_pos c1,ZB,if_pos rfl,ZB]
 rw[if_neg c1]
 by_cases c2:(a.length:Int)>1300
 ·rw[if_pos c2,ZB,if_pos rfl,ZB]
 rw[if_neg c2]
 by_cases c3:n.1< -999999999
 ·rw[if_pos c3,ZB,if_pos rfl,ZB]
 rw[if_neg c3]
 by_cases c4:n.1>999999999
 ·rw[if_pos c4,ZB,if_pos rfl,ZB]
 rw[if_neg c4]
 by_cases c5:n.2< -999999999
 ·rw[if_pos c5,ZB,if_pos rfl,ZB]
 rw[if_neg c5]
 by_cases c6:n.2>999999999
 ·rw[decide_eq_true c6,ZB,if_pos rfl,ZB]
 rw[decide_eq_false c6,ZB,if_neg (by simp),qnK hN (by omega) (by omega) (by omega) (by omega),ZB]
 have A: ∀r13:Str×Int,((if n.2=0 then
  (jU N (if n.2=0 then([],6)else res (Rat.divInt n.1 n.2)).1 (if n.2=0 then([],6)else res (Rat.divInt n.1 n.2)).2 6 []).bind fun r20=>if(!r20)=true then some (.inr false)else some (.inl ())
  else(qbn N n.1 n.2).bind fun r22=>(jU N (if n.2=0 then([],6)else res (Rat.divInt n.1 n.2)).1 (if n.2=0 then([],6)else res (Rat.divInt n.1 n.2)).2 0 r22).bind fun r23=>if(!r23)=true then some (.inr false)else some (.inl ()):Option (Unit⊕Bool)))=some (.inl ()):=by
  intro r13
  by_cases h:n.2=0
  ·simp only[if_pos h]
   rw[qjk (by decide),ZB,if_neg (by simp)]
  simp only[if_neg h]
  have f1:jH n.1 1:=by
   unfold jH
   rw[Int.pow_succ,Int.pow_zero,Int.one_mul,show E9=1000000000 from rfl]
   omega
  have f2:jH n.2 1:=by
   unfold jH
   rw[Int.pow_succ,Int.pow_zero,Int.one_mul,show E9=1000000000 from rfl]
   omega
  have fd:=qhT h f1 f2
  rw[qnT (by omega) (by omega) (by omega) (by omega) (by omega) h,ZB,qia (by omega) (qkR fd.1 fd.2 (by omega)) (by omega),ZB,if_neg (by simp)]
 by_cases hc:chk a=0
 ·obtain⟨q,rfl,p1,p2⟩:=qlP hc
  have hq:Sml q 600:=⟨p1,p2⟩
  rw[qku hN hq hc,ZB,qgA (by omega),ZB,qeZ (by omega) (by omega),ZB,if_neg (by simp),A (res ((q.floor:Int):Rat)),ZB]
  simp only
  rw[qgG hN (by omega),hc,ZB,if_neg (by simp),qkt hN (k:=600) (by omega) (by omega) hq,ZB,qia (by omega) (qkI hq (by omega)) (by omega),ZB]
 rw[qji hN (by omega) hc,ZB,qgA (by omega),ZB,qeZ (by omega) (by omega),ZB,if_neg (by simp),A ([],chk a),ZB]
 simp only
 rw[qgG hN (by omega),ZB,if_pos (by simp[hc]),qjk hc,ZB]
end Go.Av
end
