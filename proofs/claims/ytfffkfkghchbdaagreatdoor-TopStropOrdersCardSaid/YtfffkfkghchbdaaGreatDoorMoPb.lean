/-
  The program's integers, written out.
-/
import Derived.Test.YtfffkfkghchbdaaGreatDoorMoPa
import Derived.Test.YtfffkfkghchbdaaGreatDoorAvPt
noncomputable section
set_option linter.unusedVariables false
set_option linter.unusedSimpArgs false
set_option maxRecDepth 100000
section
namespace Go.Av
theorem qjz: ∀n:Nat,Lib.repeatL [48] n=List.replicate n 48
 |0=>rfl
 |n+1=>by rw[Lib.repeatL,qjz,List.replicate_succ];rfl
theorem qgf: ∀k:Nat,qd1 k 0=List.replicate k 48
 |0=>rfl
 |k+1=>by
  rw[qd1,Nat.zero_div,qgf k,List.replicate_succ']
  rfl
theorem qhg: ∀(k n:Nat),n<10^(k+1)->qd1 (k+1) n=List.replicate (k+1-(Lib.decDigits n).length) 48++Lib.decDigits n
 |0,n,h=>by
  have h:n<10:=by simpa using h
  rw[vR h,qd1,qd1,Nat.mod_eq_of_lt h]
  rfl
 |k+1,n,h=>by
  rw[qd1]
  by_cases c:n<10
  ·rw[vR c,Nat.div_eq_of_lt c,qgf,Nat.mod_eq_of_lt c]
   rfl
  rw[Nat.pow_succ]at h
  rw[qhg k (n/10) (by omega),qd3 c,Yz,Yq,List.length_singleton,show k+1+1-((Lib.decDigits (n/10)).length+1)=k+1-(Lib.decDigits (n/10)).length by omega]
theorem qdY (n:Nat):Lib.itoa (n:Int)=Lib.decDigits n:=by rw[xH (by omega),Int.natAbs_natCast]
theorem qmA {r:Nat} (h:r<1000000000000000000) (c: ¬r=0):dg W (r:Int)=[(r:Int)]:=by
 rw[qfE (by omega) (by unfold W;omega)]
theorem qlw {r:Nat} (h:r<1000000000000000000):qfU (r:Int) 10=some (Lib.decDigits r):=by
 unfold qfU
 rw[if_pos ⟨by omega,by omega,rfl⟩,qdY]
theorem qmJ:(if((dg W ((0:Nat):Int)).length:Int)>0 then(idx (dg W ((0:Nat):Int)) 0).bind fun x13=>(qfU x13 10).bind fun r14=>some r14 else some [48]:Option Str)=some (Lib.decDigits 0):=by
 rw[show((0:Nat):Int)=0 from rfl,qbU,if_neg (by simp),vR (by decide)]
 rfl
theorem qmP {r:Nat} (h:r<1000000000000000000):(if((dg W (r:Int)).length:Int)>0 then(idx (dg W (r:Int)) 0).bind fun x13=>(qfU x13 10).bind fun r14=>some r14 else some [48]:Option Str)=some (Lib.decDigits r):=by
 by_cases c:r=0
 ·rw[c]
  exact qmJ
 rw[qmA h c,if_pos (show((([(r:Int)]:List Int).length:Nat):Int)>0 from by rw[List.length_singleton];decide),qdx,Yj,ZB,qlw h]
 rfl
theorem p18:(10:Nat)^18=1000000000000000000:=rfl
theorem qmX {q r:Nat} (h:r<1000000000000000000): ∃t:Str,(if((dg W (q:Int)).length:Int)>0 then(qcM [48] (w64 (18-((Lib.decDigits r).length:Int)))).bind fun r18=>(cat r18 (Lib.decDigits r)).bind fun s19=>some s19 else some (Lib.decDigits r):Option Str)=some t/\0<t.length/\Lib.decDigits (1000000000000000000*q+r)=(if q=0 then[]else Lib.decDigits q)++t:=by
 have hr:r<10^18:=by rw[p18];exact h
 have lD:(Lib.decDigits r).length<=18:=(qbh (by decide)).2 hr
 have lD0:=qfj r
 by_cases c:q=0
 ·subst c
  rw[show((0:Nat):Int)=0 from rfl,qbU,if_neg (by simp),if_pos rfl,Nat.mul_zero,Nat.zero_add]
  exact⟨_,rfl,lD0,rfl⟩
 have hne:dg W (q:Int)≠[]:=fun e=>by have:=(qe1 W1 (by omega)).1 e;omega
 have hlen:0<(dg W (q:Int)).length:=List.length_pos_iff.2 hne
 have et:qcM [48] (w64 (18-((Lib.decDigits r).length:Int)))=some (List.replicate (18-(Lib.decDigits r).length) 48):=by
  rw[qh (by omega) (by omega)]
  unfold qcM
  rw[if_pos ⟨by omega,by omega,by simp;omega⟩,qjz]
  congr 2
  omega
 have hp:=qhg 17 r hr
 have hl:(qd1 (17+1) r).length=18:=qhA _ _
 have hs:=qhb 18 (1000000000000000000*q+r)
 rw[p18,Nat.mul_add_div (by omega),Nat.div_eq_of_lt h,Nat.add_zero,Nat.mul_add_mod,Nat.mod_eq_of_lt h]at hs
 rw[if_pos (by omega),et,ZB,qiu (by simp;omega),ZB,<-hp,if_neg c]
 exact⟨_,rfl,by omega,hs (by omega)⟩
theorem qnN {N:Nat} (hN:600000<N) (B:Nat) (hB:B<=3900) (K:Nat): ∀(k m:Nat) (l:List Str),m<10^(18*k)->k<K->k+l.length<=100000->Fit (m:Int) B->(∀t∈l,0<t.length)->
 ∃l',zR N K l (dg W (m:Int))=some l'/\(∀t∈l',0<t.length)/\l'.length<=k+l.length/\l'.reverse.flatten=(if m=0 then[]else Lib.decDigits m)++l.reverse.flatten:=by
 induction K with
 |zero=>intro k m l _ h;omega
 |succ K ih=>
  intro k m l hm hK hl fm hp
  rw[zR]
  by_cases h0:m=0
  ·subst h0
   rw[show((0:Nat):Int)=0 from rfl,qbU,if_neg (by simp),if_pos rfl]
   exact⟨l,rfl,hp,by omega,rfl⟩
  obtain⟨j,hj⟩: ∃j,k=j+1:=⟨k-1,by
   rcases Nat.eq_zero_or_pos k with e|e
   ·subst e;simp at hm;omega
   omega⟩
  rw[hj]at hm hK hl
  have hm0:(0:Int)<=(m:Int):=by omega
  have hne:dg W (m:Int)≠[]:=fun e=>by have:=(qe1 W1 hm0).1 e;omega
  have hlen:0<(dg W (m:Int)).length:=List.length_pos_iff.2 hne
  have ln:(dg W (m:Int)).length<=3900:=Nat.le_trans fm.len hB
  have cB:Can W [1000000000000000000]:=by
   have:=j6 W1 (show(0:Int)<=1000000000000000000 by decide)
   rw[qfE (by decide) (by decide)]at this
   exact this
  have vB:dv W [1000000000000000000]=1000000000000000000:=by rw[zw,zi,Int.mul_zero,Int.add_zero]
  have ed:=qf4 (N:=N) (by omega) (j6 W1 hm0) cB (by omega) (by rw[vB];decide)
  rw[vB,yx W1 hm0]at ed
  obtain⟨q,r,hq,hr⟩: ∃q r,m=1000000000000000000*q+r/\r<1000000000000000000:=⟨m/1000000000000000000,m%1000000000000000000,by omega,by omega⟩
  have eq:(m:Int)/1000000000000000000=(q:Int):=by omega
  have er:(m:Int)%1000000000000000000=(r:Int):=by omega
  rw[eq,er]at ed
  obtain⟨t,et,t0,eD⟩:=qmX (q:=q) hr
  rw[<-hq]at eD
  rw[if_pos (by omega),ed,ZB]
  simp only
  rw[qmP hr,ZB,et,ZB,qbz (by simp;omega) (by simp;omega),ZB]
  have hk:q<10^(18*j):=by
   rw[Nat.mul_succ,Nat.pow_add,p18,Nat.mul_comm]at hm
   refine Nat.lt_of_mul_lt_mul_left (a:=1000000000000000000) ?_
   omega
  obtain⟨l',f1,f2,f3,f4⟩:=ih j q (l++[t]) hk (by omega) (by simp;omega) (qaz (by omega) fm) (fun u hu=>by
   rcases List.mem_append.1 hu with hu|hu
   ·exact hp u hu
   rw[List.mem_singleton.1 hu];exact t0)
  refine⟨l',f1,f2,by simp at f3;omega,?_⟩
  rw[f4,if_neg h0,eD,List.reverse_append,List.flatten_append,Yz]
  simp
def byN (s:Str):List Int:=s.map fun x=>(x.toNat:Int)
theorem qeP (s:Str):(byN s).length=s.length:=by unfold byN;rw[List.length_map]
theorem qlk {l:List Str} (hp: ∀t∈l,0<t.length) (hl:l.length<=100000): ∀(K i:Nat) (o:Option (List Int)),i<=l.length->i<K->(hof o).length+(l.take i).flatten.length<=1000000000->
 ∃o',zg l K o.isSome o ((i:Int)-1)=some (o'.isSome,o')/\hof o'=hof o++byN (l.take i).reverse.flatten
 |0,i,o,_,h,_=>by omega
 |K+1,0,o,hi,h,hb=>by
  rw[zg,if_neg (by omega)]
  exact⟨o,rfl,by simp[byN]⟩
 |K+1,i+1,o,hi,h,hb=>by
  have hil:i<l.length:=by omega
  have ei:((i+1:Nat):Int)-1=(i:Int):=by omega
  have ht:l.take (i+1)=l.take i++[l[i]]:=List.take_succ_eq_append_getElem hil
  have h1:=hp l[i] (List.getElem_mem hil)
  rw[ht,List.flatten_append,Yq]at hb
  simp only[List.flatten_cons,List.flatten_nil,YQ]at hb
  have ew:bWr o.isSome o l[i]=some (hof o++byN l[i]):=by
   unfold bWr
   rw[if_pos ⟨rfl,by omega,h1⟩]
   rfl
  rw[zg,ei,if_pos (by omega),qj,Ya hil,ZB,ew,ZB,qh (by omega) (by omega)]
  obtain⟨o',f1,f2⟩:=qlk hp hl K i (some (hof o++byN l[i])) (by omega) (by omega) (by
   show(hof o++byN l[i]).length+_<=_
   rw[Yq,qeP];omega)
  refine⟨o',f1,?_⟩
  rw[f2,ht,List.reverse_append,List.flatten_append]
  show hof o++byN l[i]++_=_
  rw[Yz]
  unfold byN
  simp
theorem ql3 (s:Str):(byN s).map (fun n=>UInt8.ofNat n.toNat)=s:=by
 unfold byN
 rw[List.map_map]
 conv=>rhs;rw[<-List.map_id s]
 refine List.map_congr_left fun x _=>?_
 show UInt8.ofNat ((x.toNat:Int)).toNat=x
 rw[Int.toNat_natCast,UInt8.ofNat_toNat]
theorem qnl (s:Str):(byN s).all (fun n=>decide (0<=n)&&decide (n<256))=true:=by
 unfold byN
 rw[List.all_map,Yp]
 intro x _
 have:x.toNat<256:=x.toNat_lt
 simp
 omega
theorem qgN: ∀l:List Str,l.reverse.flatten.length=l.flatten.length:=fun l=>by
 rw[List.length_flatten,List.length_flatten,List.map_reverse,List.sum_reverse]
theorem qcK {N:Nat} (hN:600000<N) {x:qw} {z:Int} (h:IsZ x z) (fz:Fit z 3900):jC N x=some (Lib.itoa z):=by
 unfold jC
 cases e:x.w.isEmpty with
 |true=>
  obtain⟨h1,h2,h3⟩:=h.emp e
  rw[if_pos rfl,h1]
  unfold qi9
  rw[if_pos ⟨h2,h3⟩,ZB]
 |false=>
  have hz:z.natAbs≠0:=by
   rcases h with⟨hw,_⟩|⟨_,_,h1,_⟩
   ·rw[hw]at e;cases e
   omega
  obtain⟨B8,hB8⟩: ∃B8:Nat,B8=8000:=⟨_,rfl⟩
  have pw:((10^(18*B8):Nat):Int)=(1000000000000000000:Int)^B8:=by
   rw[Nat.pow_mul,Int.natCast_pow]
   rfl
  have hm:z.natAbs<10^(18*B8):=by
   have h1:W^3900<=(1000000000000000000:Int)^B8:=by
    have a1:(1000000000000000000:Int)^B8=((1000000000000000000:Int)^2)^4000:=by rw[<-Int.pow_mul,hB8]
    have a2:W^4000<=((1000000000000000000:Int)^2)^4000:=(qcp (by decide) (by decide) 4000).2
    have a3:W^3900<=W^4000:=vw (by decide) (by decide)
    rw[a1]
    exact Int.le_trans a3 a2
   rw[<-pw]at h1
   unfold Fit at fz
   omega
  obtain⟨l,f1,f2,f3,f4⟩:=qnN hN 3900 (Nat.le_refl _) N B8 z.natAbs [] hm (by omega) (by simp;omega) (by unfold Fit;rw[Int.natAbs_natCast];exact fz) (fun t ht=>by cases ht)
  rw[if_neg hz]at f4
  simp only[List.reverse_nil,List.flatten_nil,YQ,List.length_nil,Nat.add_zero]at f3 f4
  have lD:(Lib.decDigits z.natAbs).length<=18*B8:=(qbh (by omega)).2 hm
  have lf:l.flatten.length<=18*B8:=by rw[<-qgN,f4];exact lD
  have lpos:=qfj z.natAbs
  rw[if_neg (by simp),parts_eq h,ZB]
  simp only
  rw[f1,ZB]
  have el:w64 ((l.length:Int)-1)=(l.length:Int)-1:=qh (by omega) (by omega)
  have fin: ∀(o:Option (List Int)) (pre:Str),hof o=byN pre->pre.length<=10->((zg l N o.isSome o (w64 ((l.length:Int)-1))).bind fun(ok30,o31)=>(qj6 ok30 o31).bind fun t38=>some t38)=some (pre++Lib.decDigits z.natAbs):=by
   intro o pre ho hpre
   obtain⟨o',g1,g2⟩:=qlk f2 (by omega) N l.length o (Nat.le_refl _) (by omega) (by rw[ho,qeP,List.take_of_length_le (Nat.le_refl _)];omega)
   rw[List.take_of_length_le (Nat.le_refl _),f4,ho]at g2
   have g3:hof o'=byN (pre++Lib.decDigits z.natAbs):=by
    rw[g2]
    unfold byN
    rw[List.map_append]
   have hs:o'.isSome=true:=by
    cases o' with
    |none=>
     have:=congrArg List.length g3
     rw[qeP,Yq]at this
     simp at this
     omega
    |some q=>rfl
   rw[el,g1,ZB]
   simp only
   unfold qj6
   rw[if_pos ⟨hs,by rw[g3,qeP,Yq];omega,by rw[g3];exact qnl _⟩,g3,ql3,ZB]
  by_cases c:z<0
  ·have eb:bWr false (none:Option (List Int)) [45]=some [45]:=rfl
   rw[decide_eq_true c,if_pos rfl,eb,ZB,ZB]
   simp only
   have:=fin (some [45]) [45] rfl (by simp)
   rw[qaj c]
   exact this
  rw[decide_eq_false c,if_neg (by simp),ZB]
  simp only
  have:=fin none [] rfl (by simp)
  rw[xH c]
  exact this
end Go.Av
end
section
namespace Go.Av
theorem qmK {x:qw} {z:Int} (h:IsZ x z) (fz:Fit z 3900): ∃b:Nat,xY x=some (b:Int)/\(z.natAbs:Int)<2^b:=by
 unfold xY
 rw[parts_eq h,ZB]
 simp only
 have hz:(0:Int)<=(z.natAbs:Int):=by omega
 have cc:=j6 W1 hz
 have vv:=yx W1 hz
 have ll:=fz.len
 generalize dg W (z.natAbs:Int)=w at*
 by_cases h0:w.length=0
 ·rw[if_pos (by omega)]
  rw[YL.1 h0,zi]at vv
  exact⟨0,rfl,by rw[<-vv];decide⟩
 have hk:w.length-1<w.length:=by omega
 have ax:=cc.1.at hk
 obtain⟨l,e,hl⟩:=qhL ax.1 ax.2
 have hl0:0<=l/\l<=64:=by
  rcases hl with⟨_,h⟩|⟨h1,h2,_⟩<;>omega
 have hl2:w[w.length-1]<2^l.toNat:=by
  rcases hl with⟨h1,h2⟩|⟨_,_,_,h⟩
  ·rw[h1,h2];decide
  exact h
 rw[if_neg (by omega),qig (by omega) (by omega),qj,Ya hk,ZB,e,ZB,qh (n:=64*((w.length-1:Nat):Int)) (by omega) (by omega),qh (by omega) (by omega)]
 refine⟨64*(w.length-1)+l.toNat,by congr 1;omega,?_⟩
 have e1:=qo W w (w.length-1) hk
 rw[List.take_of_length_le (by omega),vv]at e1
 have h1:=yf W0 (cc.1.take (w.length-1))
 rw[Ym,Nat.min_eq_left (by omega)]at h1
 have e2:(2:Int)^(64*(w.length-1)+l.toNat)=W^(w.length-1)*2^l.toNat:=by
  rw[Int.pow_add,Int.pow_mul]
  rfl
 have h2:W^(w.length-1)*(w[w.length-1]+1)<=W^(w.length-1)*2^l.toNat:=Yc (by omega) (Int.le_of_lt (pow_pos W0 _))
 rw[Int.mul_add,Int.mul_one]at h2
 rw[e2]
 omega
theorem pow8: ∀n:Nat,(8:Int)^(n+1)<((10^(n+1):Nat):Int)
 |0=>by decide
 |n+1=>by
  have ih:=pow8 n
  have a1:=pow_pos (show(0:Int)<8 by decide) (n+1)
  rw[Int.pow_succ,Nat.pow_succ,Int.natCast_mul]
  omega
theorem qnK (n:Nat):(2:Int)^(3*n)=(8:Int)^n:=by
 rw[Int.pow_mul]
 rfl
theorem qnn {n m:Nat} (hm:m=3*(n+1)):(2:Int)^m<((10^(n+1):Nat):Int):=by
 rw[hm,qnK]
 exact pow8 n
def lng (z:Int):Bool:=decide (600<(Lib.decDigits z.natAbs).length)
theorem qiW {N:Nat} (hN:600000<N) {x:qw} {z:Int} (h:IsZ x z) (fz:Fit z 3900):qby N x=some (lng z):=by
 obtain⟨b,e,hb⟩:=qmK h fz
 unfold qby
 rw[e,ZB]
 by_cases c:(b:Int)>1800
 ·rw[if_pos c,qcK hN h fz,ZB,qf0,qkw,ZB,ZB]
  congr 1
  exact decide_eq_decide.2 (by omega)
 rw[if_neg c,ZB]
 congr 1
 obtain⟨m,hm⟩: ∃m:Nat,m=3*(599+1):=⟨_,rfl⟩
 have h1:(2:Int)^b<=2^m:=vw (by decide) (by omega)
 have h2:=qnn hm
 have h3:z.natAbs<10^(599+1):=by omega
 have:=(qbh (n:=z.natAbs) (k:=599+1) (by decide)).2 h3
 unfold lng
 rw[decide_eq_false (by omega)]
def qiO (q:Rat):Bool:=lng q.num||lng q.den
theorem qlK {N:Nat} (hN:600000<N) {f:qQ} {q:Rat} (h:IsF f q) (fq:qbj q 3900):yS N f=some (qiO q):=by
 unfold yS qiO
 rw[qiW hN h.1 fq.1,ZB]
 cases lng q.num with
 |true=>rw[if_pos rfl,ZB,Bool.true_or]
 |false=>rw[if_neg (by simp),qiW hN h.2 fq.2,ZB,ZB,Bool.false_or]
def T (q:Rat):Str:=Lib.itoa q.num++(if q.den=1 then[]else 47::Lib.decDigits q.den)
theorem Fit.itoaLen {z:Int} (h:Fit z 3900):(Lib.itoa z).length<=200001:=by
 have h1:(Lib.decDigits z.natAbs).length<=20*10000:=by
  refine(qbh (by decide)).2 ?_
  obtain⟨B,hB⟩: ∃B:Nat,B=10000:=⟨_,rfl⟩
  rw[<-hB]
  have h2:W^3900<=W^B:=vw (by decide) (by omega)
  have h3:W^B<=(100000000000000000000:Int)^B:=(qcp (by decide) (by decide) B).2
  have h4:((10^(20*B):Nat):Int)=(100000000000000000000:Int)^B:=by
   rw[Nat.pow_mul,Int.natCast_pow]
   rfl
  unfold Fit at h
  generalize W^3900=p at*
  omega
 by_cases c:z<0
 ·rw[qaj c,Yr];omega
 rw[xH c];omega
theorem qng {N:Nat} (hN:600000<N) {f:qQ} {q:Rat} (h:IsF f q) (fq:qbj q 3900):xe N f=some (T q):=by
 unfold xe T
 rw[qiA h,ZB]
 by_cases c:q.den=1
 ·rw[decide_eq_true c,if_pos rfl,qcK hN h.1 fq.1,ZB,if_pos c,YQ]
 have l1:=Fit.itoaLen fq.1
 have l2:=Fit.itoaLen fq.2
 rw[decide_eq_false c,if_neg (by simp),qcK hN h.1 fq.1,ZB,qiu (by simp;omega),ZB,qcK hN h.2 fq.2,ZB,qiu (by simp;omega),ZB,if_neg c,qdY,Yz]
 rfl
theorem qkg {N:Nat} (hN:600000<N) {f:qQ} {q:Rat} (h:IsF f q) (fq:qbj q 3900):yB N f=some (if qiO q=true then([],4)else(T q,0)):=by
 unfold yB
 rw[qlK hN h fq,ZB]
 cases qiO q with
 |true=>rfl
 |false=>rw[if_neg (by simp),qng hN h fq,ZB,if_neg (by simp)]
theorem qfb {s:Str} (hl:s.length<=1000000): ∀(K i:Nat),i<=s.length->s.length<K+i->ja s K (i:Int)=some (if(s.drop i).all xg=true then .inl ()else .inr false)
 |0,i,h,hK=>by omega
 |K+1,i,h,hK=>by
  rw[ja]
  by_cases hi:i<s.length
  ·have hd:s.drop i=s[i]::s.drop (i+1):=YG hi
   rw[if_pos (by omega),qj,Ya hi,ZB,hd,List.all_cons]
   generalize s[i]=c
   have e:(if(c.toNat:Int)<48 then some true else some (decide ((c.toNat:Int)>57)):Option Bool)=some (!xg c):=by
    by_cases h1:(c.toNat:Int)<48
    ·rw[if_pos h1]
     congr 1
     unfold xg
     rw[decide_eq_false (by omega)]
     rfl
    rw[if_neg h1]
    congr 1
    unfold xg
    rw[decide_eq_true (p:=48<=c.toNat) (by omega),Bool.true_and,<-decide_not]
    exact decide_eq_decide.2 (by omega)
   rw[e,ZB]
   cases hc:xg c with
   |true=>rw[if_neg (by simp),ze (by omega),qfb hl K (i+1) (by omega) (by omega),Bool.true_and]
   |false=>rw[if_pos (by simp),Bool.false_and,if_neg (by simp)]
  rw[if_neg (by omega),List.drop_of_length_le (by omega)]
  rfl
theorem qfn {N:Nat} {s:Str} (hl:s.length<=1000000) (hN:s.length<N):zS N s=some (decide (Dec s)):=by
 have e:=qfb hl N 0 (by omega) (by omega)
 have e:ja s N 0=_:=e
 have ed:xP N s=some (s.all xg):=by
  unfold xP
  rw[e,YR]
  cases s.all xg<;>rfl
 unfold zS
 cases s with
 |nil=>rfl
 |cons c t=>
  rw[if_neg (by simp;omega)]
  by_cases h1:((c::t).length:Int)>1
  ·rw[if_pos h1,qdx]
   simp only[Yj,ZB]
   by_cases h:c=48
   ·subst h
    rw[if_pos (by decide),decide_eq_false fun hD=>?_]
    have:=congrArg List.length (hD.2.2 rfl)
    rw[List.length_singleton]at this
    omega
   rw[if_neg (by simp[ne48 h]),ed,ZB]
   congr 1
   rw[Bool.eq_iff_iff,decide_eq_true_eq]
   exact⟨fun hd=>⟨by simp,hd,fun e=>absurd (Ye e) h⟩,fun hD=>hD.2.1⟩
  rw[if_neg h1,ZB,if_neg (by simp),ed,ZB]
  have ht:t=[]:=YL.1 (by simp at h1;omega)
  subst ht
  congr 1
  rw[Bool.eq_iff_iff,decide_eq_true_eq]
  exact⟨fun hd=>qnq (by simpa using hd),fun hD=>hD.2.1⟩
end Go.Av
end
section
namespace Go.Av
theorem qko {z:Int} {p n:Nat} (h:(z.natAbs:Int)<((10^p:Nat):Int)) (hp:p<=9*n):qav z n:=by
 have h1:(10:Nat)^p<=10^(9*n):=Nat.pow_le_pow_right (by omega) hp
 unfold qav
 rw[qiB]
 omega
def okF (s:Str):Bool:=decide (Dec ((bdy s).take (slA (bdy s)))/\ ¬(sgn s=true/\(bdy s).take (slA (bdy s))=[48]))
def qiQ (s:Str):Bool:=decide (slA (bdy s)<(bdy s).length/\ ¬(Dec ((bdy s).drop (slA (bdy s)+1))/\(bdy s).drop (slA (bdy s)+1)≠[48]/\(bdy s).drop (slA (bdy s)+1)≠[49]))
def chk (s:Str):Int:=
 if okF s=false\/qiQ s=true then 1
 else if 600<((bdy s).take (slA (bdy s))).length\/600<((bdy s).drop (slA (bdy s)+1)).length then 4
 else if slA (bdy s)<(bdy s).length/\Nat.gcd (jr 0 ((bdy s).take (slA (bdy s)))) (jr 0 ((bdy s).drop (slA (bdy s)+1)))≠1 then 1
 else 0
theorem qeQ {s:Str} (h:s.all xg=true):sgn s=false/\bdy s=s:=by
 have e:sgn s=false:=decide_eq_false fun e=>by
  have hm:(45:UInt8)∈s:=Yn e
  exact absurd (Yp.1 h _ hm) (by decide)
 exact⟨e,by unfold bdy;rw[e];rfl⟩
theorem qe5 {s:Str} (h:s.all xg=true):ql4 s=(jr 0 s:Nat):=by
 obtain⟨h1,h2⟩:=qeQ h
 unfold ql4
 rw[h1,h2]
 rfl
theorem qgH (s:Str):(bdy s).length<=s.length:=by
 unfold bdy
 split
 ·rw[YJ];omega
 exact Nat.le_refl _
theorem qf5 {s:Str} {k:Nat} (h:Dec s) (hk:s.length<=k):((jr 0 s:Nat):Int).natAbs<10^k:=by
 have h1:=qdS s 0 h.2.1
 have h2:(10:Nat)^s.length<=10^k:=Nat.pow_le_pow_right (by omega) hk
 omega
theorem qm9 {s:Str} (h:Dec s) (h0:s≠[48]):0<jr 0 s:=by
 rcases Nat.eq_zero_or_pos (jr 0 s)with e|e
 ·have:=h.eq
  rw[e,vR (by decide)]at this
  exact absurd this h0
 exact e
end Go.Av
end
section
namespace Go.Av
theorem qol:dg E9 1=[1]:=qfE (by decide) (by decide)
theorem qkm {N:Nat} (hN:600000<N) {s:Str} (hl:s.length<=10000) (hk:slA s<s.length) (h1:(bdy (s.take (slA s))).all xg=true) (h2:(bdy (s.drop (slA s+1))).all xg=true):qap N s=some (rI (ql4 (s.take (slA s))),rI (ql4 (s.drop (slA s+1)))):=by
 have b1:=qgH (s.take (slA s))
 have b2:=qgH (s.drop (slA s+1))
 rw[Ym]at b1
 rw[YJ]at b2
 unfold qap
 rw[qft (by omega) (by omega),ZB,if_neg (by omega),qax (by omega),ZB,qfD (by omega) h1 (by omega),ZB,ze (by omega),qcD (by omega),ZB,qfD (by omega) h2 (by omega),ZB]
theorem qjX {N:Nat} (hN:600000<N) {s:Str} (hl:s.length<=10000):xK N s=some (chk s):=by
 have hb:=qgH s
 have hk:=qic (bdy s)
 have lt:((bdy s).take (slA (bdy s))).length=slA (bdy s):=by rw[Ym];omega
 have ld:((bdy s).drop (slA (bdy s)+1)).length=(bdy s).length-(slA (bdy s)+1):=by rw[YJ]
 unfold xK
 rw[qgF,ZB,qlM,ZB,qft (by omega) (by omega),ZB,qax hk,ZB,qfn (by omega) (by omega),ZB]
 have I:Dec ((bdy s).take (slA (bdy s)))->((idx s 0).bind fun c13=>if(c13.toNat:Int)=45 then(some ((bdy s).take (slA (bdy s)))).bind fun s15=>some (s15==[48])else some false:Option Bool)=some (sgn s&&((bdy s).take (slA (bdy s))==[48])):=by
  intro hD
  have h1:=hD.1
  have hs:=qgF s
  rw[if_pos (by omega)]at hs
  rw[qdx]at hs⊢
  cases e:s[0]? with
  |none=>rw[e]at hs;cases hs
  |some c=>
   rw[e,ZB]at hs
   rw[ZB,<-Ye hs]
   by_cases c2:(c.toNat:Int)=45
   ·rw[if_pos c2,decide_eq_true c2,ZB,Bool.true_and]
   rw[if_neg c2,decide_eq_false c2,Bool.false_and]
 have S16:(if(!decide (Dec ((bdy s).take (slA (bdy s)))))=true then some true else(idx s 0).bind fun c13=>if(c13.toNat:Int)=45 then(some ((bdy s).take (slA (bdy s)))).bind fun s15=>some (s15==[48])else some false:Option Bool)=some (!okF s):=by
  unfold okF
  by_cases hD:Dec ((bdy s).take (slA (bdy s)))
  ·rw[if_neg (by simp[hD]),I hD]
   congr 1
   rw[Bool.eq_iff_iff]
   simp[hD]
  rw[if_pos (by simp[hD])]
  simp[hD]
 rw[S16,ZB]
 have S26:(if(slA (bdy s):Int)<((bdy s).length:Int)then(cut (bdy s) (w64 ((slA (bdy s):Int)+1)) ((bdy s).length:Int)).bind fun s20=>(zS N s20).bind fun r21=>if(!r21)=true then some true else(cut (bdy s) (w64 ((slA (bdy s):Int)+1)) ((bdy s).length:Int)).bind fun s23=>if(s23==[48])=true then some true else(cut (bdy s) (w64 ((slA (bdy s):Int)+1)) ((bdy s).length:Int)).bind fun s25=>some (s25==[49])else some false:Option Bool)=some (qiQ s):=by
  unfold qiQ
  by_cases c:slA (bdy s)<(bdy s).length
  ·rw[if_pos (by omega),ze (by omega),qcD (by omega),ZB,qfn (by omega) (by omega),ZB]
   by_cases hD:Dec ((bdy s).drop (slA (bdy s)+1))
   ·rw[if_neg (by simp[hD]),ZB]
    by_cases h3:(bdy s).drop (slA (bdy s)+1)=[48]
    ·rw[if_pos (by simp[h3])]
     simp[c,h3]
    rw[if_neg (by simp[h3]),ZB]
    congr 1
    rw[Bool.eq_iff_iff]
    simp[c,h3,hD]
   rw[if_pos (by simp[hD])]
   simp[c,hD]
  rw[if_neg (by omega)]
  simp[c]
 have S30:(if(slA (bdy s):Int)>600 then some true else some (decide ((w64 ((w64 (((bdy s).length:Int)-(slA (bdy s):Int)))-1))>600)):Option Bool)=some (decide (600<((bdy s).take (slA (bdy s))).length\/600<((bdy s).drop (slA (bdy s)+1)).length)):=by
  rw[lt,ld]
  by_cases c:(slA (bdy s):Int)>600
  ·rw[if_pos c,decide_eq_true (.inl (by omega))]
  rw[if_neg c,qh (n:=((bdy s).length:Int)-(slA (bdy s):Int)) (by omega) (by omega),qh (by omega) (by omega)]
  congr 1
  exact decide_eq_decide.2 (by omega)
 unfold chk
 by_cases h1:okF s=true
 ·rw[h1,if_neg (by simp),S26,ZB]
  by_cases h2:qiQ s=true
  ·rw[h2,if_pos rfl,if_pos (.inr rfl)]
  have h2':qiQ s=false:=by simpa using h2
  rw[h2',if_neg (by simp),S30,ZB,if_neg (show¬(true=false\/false=true)by simp)]
  by_cases h3:600<((bdy s).take (slA (bdy s))).length\/600<((bdy s).drop (slA (bdy s)+1)).length
  ·rw[decide_eq_true h3,if_pos rfl,if_pos h3]
  rw[decide_eq_false h3,if_neg (by simp),if_neg h3]
  by_cases c:slA (bdy s)<(bdy s).length
  ·have hDn:=(of_decide_eq_true h1).1
   have hDd:Dec ((bdy s).drop (slA (bdy s)+1))/\(bdy s).drop (slA (bdy s)+1)≠[48]/\(bdy s).drop (slA (bdy s)+1)≠[49]:=Classical.byContradiction fun hc=>of_decide_eq_false h2' ⟨c,hc⟩
   have ep:=qkm hN (s:=bdy s) (by omega) c (by rw[(qeQ hDn.2.1).2];exact hDn.2.1) (by rw[(qeQ hDd.1.2.1).2];exact hDd.1.2.1)
   rw[qe5 hDn.2.1,qe5 hDd.1.2.1]at ep
   rw[if_pos (by omega),ep,ZB]
   simp only
   have v1:=qf5 hDn (k:=600) (by omega)
   have v2:=qf5 hDd.1 (k:=600) (by omega)
   have v3:=qm9 hDd.1 hDd.2.1
   generalize jr 0 ((bdy s).take (slA (bdy s)))=n at*
   generalize jr 0 ((bdy s).drop (slA (bdy s)+1))=d at*
   have f1:qav ((n:Nat):Int) 8000:=(qko (p:=600) (n:=70) (by omega) (by omega)).mono (by omega)
   have f2:qav ((d:Nat):Int) 8000:=(qko (p:=600) (n:=70) (by omega) (by omega)).mono (by omega)
   have e1:(rI ((n:Nat):Int)).w=dg E9 ((n:Nat):Int):=by
    show dg E9 (((n:Nat):Int).natAbs:Int)=_
    rw[Int.natAbs_natCast]
   have e2:(rI ((d:Nat):Int)).w=dg E9 ((d:Nat):Int):=by
    show dg E9 (((d:Nat):Int).natAbs:Int)=_
    rw[Int.natAbs_natCast]
   have ec:=qkb (N:=N) hN (a:=((n:Nat):Int)) (b:=((d:Nat):Int)) (by omega) (by omega) f1 f2
   have eg:Int.gcd ((n:Nat):Int) ((d:Nat):Int)=Nat.gcd n d:=rfl
   rw[eg]at ec
   rw[e1,e2,ec,ZB]
   have hg:0<Nat.gcd n d:=Nat.gcd_pos_of_pos_right _ v3
   have cc:=j6 E1 (show(0:Int)<=((Nat.gcd n d:Nat):Int)by omega)
   have vv:=yx E1 (show(0:Int)<=((Nat.gcd n d:Nat):Int)by omega)
   by_cases h4:Nat.gcd n d=1
   ·have:dg E9 ((Nat.gcd n d:Nat):Int)=[1]:=by rw[show((Nat.gcd n d:Nat):Int)=1 by omega];exact qol
    rw[this,if_neg (by simp),qdx,if_neg (fun h=>h.2 h4)]
    rfl
   rw[if_pos (show slA (bdy s)<(bdy s).length/\Nat.gcd n d≠1 from⟨c,h4⟩)]
   by_cases h5:(dg E9 ((Nat.gcd n d:Nat):Int)).length=1
   ·obtain⟨x,hx⟩:=List.length_eq_one_iff.1 h5
    rw[hx,zw,zi,Int.mul_zero,Int.add_zero]at vv
    have hx1:x≠1:=by omega
    rw[hx,if_neg (by simp),qdx]
    simp only[Yj,ZB,decide_eq_false hx1]
    rfl
   rw[if_pos (by simp;omega)]
   rfl
  rw[if_neg (by omega),if_neg (by omega)]
  rfl
 have h1':okF s=false:=by simpa using h1
 rw[h1',if_pos (by simp),if_pos (.inl rfl)]
end Go.Av
end
section
namespace Go.Av
def tl (q:Rat):Str:=if q.den=1 then[]else 47::Lib.decDigits q.den
theorem T_eq (q:Rat):T q=Lib.itoa q.num++tl q:=rfl
theorem no47 {s:Str} (h:s.all xg=true): ∀c∈s,c≠47:=fun c hc e=>by
 have:=Yp.1 h c hc
 rw[e]at this
 exact absurd this (by decide)
theorem qg9: ∀{s:Str},(∀c∈s,c≠47)->slA s=s.length:=fun {s} h=>(qgS s [] h).2
theorem qnZ {s:Str} (h: ∀c∈s,c≠47) (q:Rat):slA (s++tl q)=s.length:=by
 unfold tl
 by_cases c:q.den=1
 ·rw[if_pos c,YQ]
  exact qg9 h
 rw[if_neg c]
 exact(qgS s _ h).1
theorem qm8 {s t:Str} (h:0<s.length):sgn (s++t)=sgn s:=by
 unfold sgn
 rw[Yf h]
theorem qlm (z:Int):0<(Lib.itoa z).length:=by
 by_cases h:z<0
 ·rw[qaj h];simp
 rw[xH h];exact qfj _
theorem qnv (q:Rat):sgn (T q)=decide (q.num<0):=by rw[T_eq,qm8 (qlm _),qhZ]
theorem qmu (q:Rat):bdy (T q)=Lib.decDigits q.num.natAbs++tl q:=by
 unfold bdy
 rw[qnv,T_eq]
 by_cases h:q.num<0
 ·rw[decide_eq_true h,if_pos rfl,qaj h]
  rfl
 rw[decide_eq_false h,if_neg (by simp),xH h]
end Go.Av
end
section
namespace Go.Av
def Sml (q:Rat) (k:Nat):Prop:=(Lib.decDigits q.num.natAbs).length<=k/\(Lib.decDigits q.den).length<=k
theorem qjg (z:Int):(Lib.itoa z).length<=(Lib.decDigits z.natAbs).length+1:=by
 by_cases h:z<0
 ·rw[qaj h];simp
 rw[xH h];omega
theorem T_len {q:Rat} {k:Nat} (h:Sml q k):(T q).length<=2*k+2:=by
 have h1:=qjg q.num
 have h2:=h.1
 have h3:=h.2
 unfold T
 rw[Yq]
 split
 ·simp;omega
 rw[Yr];omega
end Go.Av
end
section
namespace Go.Av
theorem rI_w (z:Int):(rI z).w=dg E9 (z.natAbs:Int):=rfl
theorem qav.abs {z:Int} {n:Nat} (h:qav z n):qav (z.natAbs:Int) n:=by
 unfold qav at h⊢
 rw[Int.natAbs_natCast]
 exact h
theorem qav.le {a b:Int} {n:Nat} (h:(a.natAbs:Int)<=(b.natAbs:Int)) (k:qav b n):qav a n:=Int.lt_of_le_of_lt h k
theorem qav.itoaLen {z:Int} {n:Nat} (h:qav z n) (hn:0<n):(Lib.itoa z).length<=9*n+1:=by
 have h2:z.natAbs<10^(9*n):=by
  have h:(z.natAbs:Int)<E9^n:=h
  rw[qiB]at h
  exact Int.ofNat_lt.1 h
 have h3:=(qbh (show 0<9*n by omega)).2 h2
 have h4:=qjg z
 omega
theorem den_pos (q:Rat):0<q.den:=Nat.pos_of_ne_zero q.den_nz
end Go.Av
end
section
namespace Go.Av
theorem Sml.mono {q:Rat} {m n:Nat} (h:Sml q m) (hn:m<=n):Sml q n:=⟨Nat.le_trans h.1 hn,Nat.le_trans h.2 hn⟩
theorem qcB {q:Rat} {k n:Nat} (h:Sml q k) (hk:0<k) (hn:k<=19*n):qbj q n:=⟨qnE (p:=k) (Int.ofNat_lt.2 ((qbh hk).1 h.1)) hn,qnE (p:=k) (by rw[Int.natAbs_natCast];exact Int.ofNat_lt.2 ((qbh hk).1 h.2)) hn⟩
theorem qlE {q:Rat} (h:Sml q 600):qiO q=false:=by
 have h1:=h.1
 have h2:=h.2
 unfold qiO lng
 rw[Int.natAbs_natCast,decide_eq_false (by omega),decide_eq_false (by omega)]
 rfl
end Go.Av
end
section
namespace Go.Av
def res (q:Rat):Str×Int:=if qiO q=true then([],4)else(T q,0)
section ops
variable {N:Nat} (hN:600000<N)
include hN
variable {p q:Rat} (hp:Sml p 600) (hq:Sml q 600) (cp:chk (T p)=0) (cq:chk (T q)=0)
include hp hq cp cq
end ops
end Go.Av
end
section
namespace Go.Av
end Go.Av
end
section
namespace Go.Av
end Go.Av
end
section
namespace Go.Av
open Classical
theorem qdZ {p q:Rat}:((if p<q then-1 else if p=q then 0 else 1:Int)>0)↔q<p:=by
 by_cases h:p<q
 ·rw[if_pos h]
  exact⟨fun c=>absurd c (by decide),fun c=>absurd c (Rat.not_lt.2 (Rat.le_of_lt h))⟩
 rw[if_neg h]
 by_cases e:p=q
 ·rw[if_pos e]
  exact⟨fun c=>absurd c (by decide),fun c=>absurd (e▸c) Rat.lt_irrefl⟩
 rw[if_neg e]
 refine⟨fun _=>?_,fun _=>by decide⟩
 exact Rat.lt_of_le_of_ne (Rat.not_lt.1 h) (Ne.symm e)
def IsL:List qQ->List Rat->Prop
 |[],[]=>True
 |f::l,q::r=>IsF f q/\IsL l r
 |_,_=>False
theorem IsL.get: ∀{l:List qQ} {r:List Rat},IsL l r->l.length=r.length/\ ∀(i:Nat) (q:Rat),r[i]? =some q-> ∃f,l[i]? =some f/\IsF f q
 |[],[],_=>⟨rfl,fun i q h=>by simp at h⟩
 |f::l,q::r,h=>by
  obtain⟨h1,h2⟩:=h
  obtain⟨a,b⟩:=IsL.get h2
  refine⟨by simp[a],fun i x hx=>?_⟩
  match i,hx with
  |0,hx=>
   simp at hx
   exact⟨f,rfl,hx▸h1⟩
  |i+1,hx=>
   rw[List.getElem?_cons_succ]at hx⊢
   exact b i x hx
 |[],_::_,h=>h.elim
 |_::_,[],h=>h.elim
end Go.Av
end
section
namespace Go.Av
theorem qkU {q:Rat}:0<q.num↔0<q:=by
 have h1:=Rat.num_nonneg (q:=q)
 have h2:=Rat.num_eq_zero (q:=q)
 constructor
 ·intro h
  exact Rat.lt_of_le_of_ne (h1.1 (by omega)) (fun e=>by have:=h2.2 e.symm;omega)
 intro h
 have h3:=h1.2 (Rat.le_of_lt h)
 have h4:q.num≠0:=fun e=>Rat.ne_of_gt h (h2.1 e)
 omega
section ops
variable {N:Nat} (hN:600000<N)
include hN
variable {p p' q q':Rat} (hp:Sml p 60) (hp':Sml p' 60) (hq:Sml q 60) (hq':Sml q' 60) (cp:chk (T p)=0) (cp':chk (T p')=0) (cq:chk (T q)=0) (cq':chk (T q')=0) (hpp:p<=p') (hqq:q<=q')
include hp hp' hq hq' cp cp' cq cq' hpp hqq
end ops
end Go.Av
end
section
namespace Go.Av
theorem T_int (n:Int):T (n:Rat)=Lib.itoa n:=by
 unfold T
 rw[Rat.num_intCast,Rat.den_intCast,if_pos rfl,YQ]
def bst (x b y:Rat):Rat:=if(x-y).abs<(x-b).abs then y else b
def cnd (x:Rat) (i:Nat):Rat:=Rat.divInt ((x*((i/2:Nat):Rat)).floor+((i%2:Nat):Int)) ((i/2:Nat):Int)
def Fst (x b:Rat) (n:Nat):Prop:= ∃i,2<=i/\i<n/\b=cnd x i/\ ∀j,2<=j->j<n->(x-b).abs<(x-cnd x j).abs\/((x-b).abs=(x-cnd x j).abs/\i<=j)
theorem Fst.step {x b:Rat} {n:Nat} (h:Fst x b n):Fst x (bst x b (cnd x n)) (n+1):=by
 obtain⟨i,h1,h2,h3,h4⟩:=h
 unfold bst
 by_cases c:(x-cnd x n).abs<(x-b).abs
 ·rw[if_pos c]
  refine⟨n,by omega,by omega,rfl,fun j j1 j2=>?_⟩
  by_cases e:j=n
  ·exact .inr ⟨by rw[e],by omega⟩
  rcases h4 j j1 (by omega)with k|⟨k,_⟩
  ·exact .inl (qnC c k)
  exact .inl (k▸c)
 rw[if_neg c]
 refine⟨i,h1,by omega,h3,fun j j1 j2=>?_⟩
 by_cases e:j=n
 ·rw[e]
  rcases Rat.le_iff_lt_or_eq.1 (Rat.not_lt.1 c)with k|k
  ·exact .inl k
  exact .inr ⟨k,by omega⟩
 exact h4 j j1 (by omega)
end Go.Av
end
section
namespace Go.Av
theorem qkG {n:Nat}:Lib.decDigits n=[48]↔n=0:=by
 constructor
 ·intro h
  exact qkM (h.trans (by rw[vR (by decide)];rfl))
 rintro rfl
 rw[vR (by decide)]
 rfl
theorem qog {n:Nat}:Lib.decDigits n=[49]↔n=1:=by
 constructor
 ·intro h
  exact qkM (h.trans (by rw[vR (by decide)];rfl))
 rintro rfl
 rw[vR (by decide)]
 rfl
theorem chk_T {q:Rat} (h:Sml q 600):chk (T q)=0:=by
 have n47:=no47 (qeX q.num.natAbs)
 have es:=qnZ n47 q
 have et:(bdy (T q)).take (slA (bdy (T q)))=Lib.decDigits q.num.natAbs:=by
  rw[qmu,es,List.take_append_of_le_length (Nat.le_refl _),List.take_length]
 have hd:=den_pos q
 have ed:slA (bdy (T q))<(bdy (T q)).length↔q.den≠1:=by
  rw[qmu,es,Yq]
  unfold tl
  by_cases c:q.den=1
  ·rw[if_pos c]
   simp[c]
  rw[if_neg c]
  simp[c]
 have er:(bdy (T q)).drop (slA (bdy (T q))+1)=if q.den=1 then[]else Lib.decDigits q.den:=by
  rw[qmu,es]
  unfold tl
  by_cases c:q.den=1
  ·rw[if_pos c,if_pos c,YQ,List.drop_of_length_le (by omega)]
  rw[if_neg c,if_neg c,List.drop_append,List.drop_of_length_le (by omega),List.nil_append,show(Lib.decDigits q.num.natAbs).length+1-(Lib.decDigits q.num.natAbs).length=1 by omega]
  rfl
 have hok:okF (T q)=true:=by
  unfold okF
  rw[et,qnv]
  refine decide_eq_true ⟨qk3 _,?_⟩
  rintro⟨h1,h2⟩
  have h1:=of_decide_eq_true h1
  have:=qkG.1 h2
  omega
 have hbad:qiQ (T q)=false:=by
  unfold qiQ
  refine decide_eq_false ?_
  rintro⟨h1,h2⟩
  have c:=ed.1 h1
  rw[er,if_neg c]at h2
  exact h2 ⟨qk3 _,fun e=>by have:=qkG.1 e;omega,fun e=>c (qog.1 e)⟩
 unfold chk
 rw[if_neg (by rw[hok,hbad];simp),et,er,if_neg,if_neg]
 ·rintro⟨h1,h2⟩
  have c:=ed.1 h1
  rw[if_neg c,qdf,qdf]at h2
  exact h2 q.reduced
 have h1:=h.1
 have h2:=h.2
 split<;>simp<;>omega
theorem dec_T (n:Nat):Lib.decDigits n=T ((n:Int):Rat):=by rw[T_int,qdY]
theorem qlf {N:Nat} (hN:600000<N) {n:Nat} (hn:n<1000000000):xG N (Lib.decDigits n)=some ((n:Int),true):=by
 have hl:(Lib.decDigits n).length<=9:=(qbh (by omega)).2 hn
 have h:=qeX n
 obtain⟨b1,b2⟩:=qeQ h
 have hw:xh N (Lib.decDigits n)=some true:=by
  unfold xh
  rw[qft (by omega) (by omega),ZB,qg9 (no47 h),decide_eq_true rfl]
 have hp:vC N (Lib.decDigits n)=some (rI (n:Int)):=by
  rw[qfD (by omega) (by rw[b2];exact h) (by rw[b2];omega),qe5 h,qdf]
 unfold xG
 rw[hw,ZB,if_neg (by simp),decide_eq_false (by omega),ZB,if_neg (by simp),hp,ZB,rI_w,show(((n:Int).natAbs:Nat):Int)=(n:Int)by omega]
 obtain⟨K,hK⟩: ∃K,N=K+1+1:=⟨N-2,by omega⟩
 have L: ∀m:Int,zK (rI (n:Int)) N 0 m=zK (rI (n:Int)) (K+1+1) 0 m:=fun m=>by rw[<-hK]
 have hneg:(rI (n:Int)).neg=false:=by
  show decide ((n:Int)<0)=false
  exact decide_eq_false (by omega)
 by_cases h0:n=0
 ·subst h0
  rw[show dg E9 ((0:Nat):Int)=[]from rfl,L,zK,if_neg (by decide),ZB]
  rfl
 have u:dg E9 (n:Int)=[(n:Int)]:=qfE (by omega) (by show(n:Int)<1000000000;omega)
 rw[u,L,show w64 ((([(n:Int)]:List Int).length:Int)-1)=((0:Nat):Int)from rfl,zK,if_pos (by decide),rI_w,show(((n:Int).natAbs:Nat):Int)=(n:Int)by omega,u,qj,Yj,ZB,hneg,if_neg (by simp),ZB,if_neg (by decide),if_neg (by decide),if_neg (by decide),if_neg (by decide),ZB,if_neg (by simp),show w64 (w64 (0*1000000000)+(n:Int))=(n:Int)by rw[show w64 (0*1000000000)=0 from rfl,Int.zero_add,qh (by omega) (by omega)],show w64 (((0:Nat):Int)-1)= -1 from rfl,zK,if_neg (by decide),ZB]
end Go.Av
end
section
namespace Go.Av
theorem F_eq {n:Int} (h1: -9223372036854775808<=n) (h2:n<=9223372036854775807): ∃f,qgc n=some f/\IsF f (n:Rat):=by
 obtain⟨f,e,i⟩:=qg1 (Ud h1 h2)
 refine⟨f,?_,i⟩
 unfold qgc
 rw[qmy,ZB,e,ZB]
theorem qh6 (r:Rat):r-(r.floor:Rat)=Rat.divInt (r.num%(r.den:Int)) (r.den:Int):=by
 have h:((r.den:Int):Rat)≠0:=by
  rw[Ne,Rat.intCast_eq_zero_iff]
  have:=r.den_pos
  omega
 have e:(r-(r.floor:Rat))*((r.den:Int):Rat)=((r.num%(r.den:Int):Int):Rat):=by
  rw[Rat.sub_eq_add_neg,Rat.add_mul,qcJ,Rat.floor_def,Int.emod_def,Rat.intCast_sub,Rat.intCast_mul]
  grind
 rw[Rat.divInt_eq_div,<-e,Rat.mul_div_cancel h]
theorem qkn {r:Rat} {n:Nat} (h:qbj r n):qbj (r-(r.floor:Rat)) n:=by
 rw[qh6]
 have hd:=r.den_pos
 refine qh8 (by omega) ?_ h.2
 refine qaz ?_ h.2
 have:=Int.emod_nonneg r.num (show(r.den:Int)≠0 by omega)
 have:=Int.emod_lt_of_pos r.num (show(0:Int)<(r.den:Int)by omega)
 omega
theorem qix {x:Rat} {n:Nat} (h:qbj x n):x<=((W^n:Int):Rat)/\ -((W^n:Int):Rat)<=x:=by
 have hd:=x.den_pos
 have h1:(x.num.natAbs:Int)<W^n:=h.1
 have hp:(0:Int)<=W^n:=by omega
 have hm:W^n*1<=W^n*(x.den:Int):=Yc (by omega) hp
 rw[<-Rat.intCast_neg]
 constructor
 ·rw[Rat.le_iff,Rat.num_intCast,Rat.den_intCast]
  omega
 rw[Rat.le_iff,Rat.num_intCast,Rat.den_intCast,Int.neg_mul]
 omega
theorem qkZ {x:Rat} {n m:Nat} (hx:qbj x n) {c d:Int} (h0:0<=d) (hd:d<=m) (hm:m<=1000) (h1:(c:Rat)-x*(d:Rat)<=1) (h2: -1<=(c:Rat)-x*(d:Rat)):Fit c (n+1):=by
 obtain⟨b1,b2⟩:=qix hx
 have hd':(0:Rat)<=(d:Rat):=Rat.intCast_nonneg.2 h0
 have hW:(1:Int)<=W^n:=pow_pos (show(0:Int)<W by decide) n
 have m1:=Rat.mul_le_mul_of_nonneg_right b1 hd'
 have m2:=Rat.mul_le_mul_of_nonneg_right b2 hd'
 have u1:(c:Rat)<=((W^n*d+1:Int):Rat):=by
  rw[Rat.intCast_add,Rat.intCast_mul,show((1:Int):Rat)=1 from rfl]
  grind
 have u2:((-(W^n*d+1):Int):Rat)<=(c:Rat):=by
  rw[Rat.intCast_neg,Rat.intCast_add,Rat.intCast_mul,show((1:Int):Rat)=1 from rfl]
  grind
 rw[Rat.intCast_le_intCast]at u1 u2
 have m3:W^n*d<=W^n*1000:=Yc (by omega) (by omega)
 have e:W^(n+1)=W^n*W:=Int.pow_succ ..
 have m4:W^n*1001<W^n*W:=Int.mul_lt_mul_of_pos_left (by decide) (by omega)
 unfold Fit
 omega
structure Cvg (x:Rat) (m:Nat) (a b c d:Int) (r:Rat):Prop where
 b0:0<=b
 d0:0<=d
 bm:b<=m
 dm:d<=m
 st:(b=1/\d=0)\/(1<=d/\1<r)
 fr:qbj r 4
 za:Fit a 5
 zc:Fit c 5
 eq:x*((d:Rat)*r+(b:Rat))=(c:Rat)*r+(a:Rat)
 det:c*b-d*a=1\/c*b-d*a= -1
theorem qkf {r:Rat} (h:1<r):1<=r.floor:=by
 rw[Rat.le_floor_iff]
 exact Rat.le_of_lt h
theorem Cvg.next {x:Rat} {m:Nat} {a b c d:Int} {r:Rat} (h:Cvg x m a b c d r) (hm1:1<=m) (hm:m<=1000) (fx:qbj x 4) (hd:d*r.floor+b<=m) (hr:r≠(r.floor:Rat)):
 Cvg x m c d (c*r.floor+a) (d*r.floor+b) (r-(r.floor:Rat))⁻¹/\1<=d*r.floor+b/\b+d+1<=d+(d*r.floor+b)+(if d=0 then 1 else 0):=by
 have hpos:0<r-(r.floor:Rat):=by
  rw[<-Rat.lt_iff_sub_pos]
  exact Rat.lt_of_le_of_ne (Rat.floor_le _) (Ne.symm hr)
 have hlt:r-(r.floor:Rat)<1:=by
  have:=Rat.lt_floor_add_one r
  rw[Rat.intCast_add,show((1:Int):Rat)=1 from rfl]at this
  grind
 have hne:r-(r.floor:Rat)≠0:=Rat.ne_of_gt hpos
 have k1:1<=d*r.floor+b/\b+d+1<=d+(d*r.floor+b)+(if d=0 then 1 else 0):=by
  rcases h.st with⟨e1,e2⟩|⟨e1,e2⟩
  ·rw[e1,e2]
   simp
  have f1:=qkf e2
  have:=Yc f1 h.d0
  have:=h.b0
  rw[if_neg (by omega)]
  omega
 have hinv:=Rat.mul_inv_cancel _ hne
 have hs:(1:Rat)<(r-(r.floor:Rat))⁻¹:=by
  have p:=Rat.inv_pos.2 hpos
  have:=Rat.mul_lt_mul_of_pos_right hlt p
  rw[hinv,Rat.one_mul]at this
  exact this
 generalize hg:(r-(r.floor:Rat))⁻¹=s at*
 have er:r=(r.floor:Rat)+s⁻¹:=by
  rw[<-hg,Rat.inv_inv]
  grind
 generalize hk:r.floor=k at*
 have es:(r-(k:Rat))*s=1:=hinv
 have e2:x*(((d*k+b:Int):Rat)*s+(d:Rat))=((c*k+a:Int):Rat)*s+(c:Rat):=by
  have h1:=h.eq
  rw[Rat.intCast_add,Rat.intCast_mul,Rat.intCast_add,Rat.intCast_mul]
  have h2:x*((d:Rat)*r+(b:Rat))*s=((c:Rat)*r+(a:Rat))*s:=by rw[h1]
  have h3:r*s=1+(k:Rat)*s:=by grind
  have h4:x*((d:Rat)*(r*s)+(b:Rat)*s)=(c:Rat)*(r*s)+(a:Rat)*s:=by grind
  rw[h3]at h4
  grind
 have dt:(c*k+a)*d-(d*k+b)*c=1\/(c*k+a)*d-(d*k+b)*c= -1:=by
  have:(c*k+a)*d-(d*k+b)*c= -(c*b-d*a):=by grind
  rcases h.det with e|e
  ·right;rw[this,e]
  left;rw[this,e];rfl
 refine⟨?_,k1⟩
 have D1:(1:Rat)<=((d*k+b:Int):Rat)*s+(d:Rat):=by
  have a1:(1:Rat)<=((d*k+b:Int):Rat):=by
   have:=Rat.intCast_le_intCast.2 k1.1
   exact this
  have a2:(0:Rat)<=(d:Rat):=Rat.intCast_nonneg.2 h.d0
  have a3:=Rat.mul_le_mul_of_nonneg_right a1 (show(0:Rat)<=s from Rat.le_trans (by decide) (Rat.le_of_lt hs))
  rw[Rat.one_mul]at a3
  have:=Rat.le_of_lt hs
  grind
 have zz:(((c*k+a:Int):Rat)-x*((d*k+b:Int):Rat))*(((d*k+b:Int):Rat)*s+(d:Rat))=(((c*k+a)*d-(d*k+b)*c:Int):Rat):=by
  rw[Rat.intCast_sub,Rat.intCast_mul,Rat.intCast_mul]
  generalize ((c*k+a:Int):Rat)=C at*
  generalize ((d*k+b:Int):Rat)=E at*
  generalize (c:Rat)=c' at*
  generalize (d:Rat)=d' at*
  have:(C-x*E)*(E*s+d')=C*(E*s+d')-E*(x*(E*s+d')):=by grind
  rw[this,e2]
  grind
 have hz:((c*k+a:Int):Rat)-x*((d*k+b:Int):Rat)<=1/\ -1<=((c*k+a:Int):Rat)-x*((d*k+b:Int):Rat):=by
  generalize ((c*k+a:Int):Rat)-x*((d*k+b:Int):Rat)=z at*
  generalize ((d*k+b:Int):Rat)*s+(d:Rat)=D at*
  have hD0:(0:Rat)<=D:=Rat.le_trans (by decide) D1
  have hb:z*D=1\/z*D= -1:=by
   rw[zz]
   rcases dt with e|e
   ·left;rw[e];rfl
   right;rw[e];rfl
  constructor
  ·rw[<-Rat.not_lt]
   intro hc
   have:=Rat.mul_lt_mul_of_pos_right hc (show(0:Rat)<D by grind)
   rw[Rat.one_mul]at this
   grind
  rw[<-Rat.not_lt]
  intro hc
  have:=Rat.mul_lt_mul_of_pos_right hc (show(0:Rat)<D by grind)
  grind
 exact {b0:=h.d0,d0:=by omega,bm:=h.dm,dm:=hd,st:= .inr ⟨k1.1,hs⟩,fr:=by rw[<-hg];exact qg5 (by rw[<-hk];exact qkn h.fr) (by omega),za:=h.zc,zc:=qkZ fx (by omega) hd hm hz.1 hz.2,eq:=e2,det:=dt}
end Go.Av
end
section
namespace Go.Av
end Go.Av
end
section
namespace Go.Av
end Go.Av
end
section
namespace Go.Av
end Go.Av
end
section
namespace Go.Av
end Go.Av
end
section
namespace Go.Av
end Go.Av
end
section
namespace Go.Av
theorem qeM {p q:Rat}:((if p<q then-1 else if p=q then 0 else 1:Int)=0)↔p=q:=by
 by_cases h:p<q
 ·rw[if_pos h]
  exact⟨fun c=>absurd c (by decide),fun c=>absurd (c▸h) Rat.lt_irrefl⟩
 rw[if_neg h]
 by_cases e:p=q
 ·rw[if_pos e]
  exact⟨fun _=>e,fun _=>rfl⟩
 rw[if_neg e]
 exact⟨fun c=>absurd c (by decide),fun c=>absurd c e⟩
end Go.Av
end
section
namespace Go.Av
theorem pick {x L M:Rat} {d f:Int} (nL:(L.den:Int)=d) (nM:(M.den:Int)=f) {c:Int}
 (hc:c=if(if(x-L).abs<(x-M).abs then-1 else if(x-L).abs=(x-M).abs then 0 else 1:Int)=0 then(if(if(d:Rat)<(f:Rat)then-1 else if(d:Rat)=(f:Rat)then 0 else 1:Int)=0 then(if L<M then-1 else if L=M then 0 else 1)else(if(d:Rat)<(f:Rat)then-1 else if(d:Rat)=(f:Rat)then 0 else 1))else(if(x-L).abs<(x-M).abs then-1 else if(x-L).abs=(x-M).abs then 0 else 1)):
 (¬c>0->le3 x L M)/\(c>0->le3 x M L):=by
 by_cases h1:(x-L).abs=(x-M).abs
 ·rw[if_pos (qeM.2 h1)]at hc
  by_cases h2:(d:Rat)=(f:Rat)
  ·rw[if_pos (qeM.2 h2)]at hc
   have h2:=Rat.intCast_inj.1 h2
   constructor
   ·intro h
    rw[hc]at h
    exact .inr ⟨h1,.inr ⟨by omega,Rat.not_lt.1 fun k=>h (qdZ.2 k)⟩⟩
   intro h
   rw[hc]at h
   exact .inr ⟨h1.symm,.inr ⟨by omega,Rat.le_of_lt (qdZ.1 h)⟩⟩
  rw[if_neg (fun k=>h2 (qeM.1 k))]at hc
  constructor
  ·intro h
   rw[hc]at h
   have h:=Rat.not_lt.1 (fun k=>h (qdZ.2 k))
   have h3:d≠f:=fun k=>h2 (by rw[k])
   have:=Rat.intCast_le_intCast.1 h
   exact .inr ⟨h1,.inl (by omega)⟩
  intro h
  rw[hc]at h
  have:=Rat.intCast_lt_intCast.1 (qdZ.1 h)
  exact .inr ⟨h1.symm,.inl (by omega)⟩
 rw[if_neg (fun k=>h1 (qeM.1 k))]at hc
 constructor
 ·intro h
  rw[hc]at h
  have h:=Rat.not_lt.1 (fun k=>h (qdZ.2 k))
  exact .inl (Rat.lt_of_le_of_ne h h1)
 intro h
 rw[hc]at h
 exact .inl (qdZ.1 h)
end Go.Av
end
section
namespace Go.Av
end Go.Av
end
section
namespace Go.Av
end Go.Av
end
section
namespace Go.Av
end Go.Av
end
section
namespace Go.Av
end Go.Av
end
section
namespace Go.Av
end Go.Av
end
section
namespace Go.Av
theorem qmz {m:List (Int×Bool)} (k k':Int) (v:Bool):qbd (qcT m k v) k'=if k'=k then some v else qbd m k':=by
 induction m with
 |nil=>
  unfold qcT qbd
  by_cases h:k'=k
  ·simp[h]
  simp[h]
 |cons p m ih=>
  obtain⟨a,b⟩:=p
  unfold qcT
  by_cases h:(k==a)=true
  ·have e:k=a:=by simpa using h
   subst e
   rw[if_pos h]
   unfold qbd
   by_cases c:k'=k
   ·simp[c]
   have c2:(k'==k)=false:=by simpa using c
   rw[List.find?_cons_of_neg (by simp[c2]),List.find?_cons_of_neg (by simp[c2]),if_neg c]
  rw[if_neg h]
  have e:k≠a:=by simpa using h
  unfold qbd at ih⊢
  by_cases c:k'=a
  ·have c2:(k'==a)=true:=by simpa using c
   rw[List.find?_cons_of_pos (by simpa using c2),List.find?_cons_of_pos (by simpa using c2),if_neg (by rw[c];exact fun x=>e x.symm)]
  have c2:(k'==a)=false:=by simpa using c
  rw[List.find?_cons_of_neg (by simp[c2]),List.find?_cons_of_neg (by simp[c2])]
  exact ih
structure IsP (p:List Int):Prop where
 few:p.length<=256
 at_: ∀k,k<p.length-> ∃v:Nat,v<p.length/\p[k]? =some (v:Int)
 inj: ∀(k k':Nat) (v:Int),p[k]? =some v->p[k']? =some v->k=k'
theorem qiw {p:List Int} (hl:p.length<=256) {i:Nat} (hi:i<p.length) {x:Int} (hx:p[i]? =some x): ∀(K j:Nat),j<=i->i<K+j->(∀k,k<j->p[k]? ≠some x)->
 (qU p (i:Int) K (j:Int)=some (.inl ())/\ ∀k,k<i->p[k]? ≠some x)\/(qU p (i:Int) K (j:Int)=some (.inr 15)/\ ∃k,k<i/\p[k]? =some x)
 |0,j,h,hK,hn=>by omega
 |K+1,j,h,hK,hn=>by
  unfold qU
  by_cases hj:j<i
  ·have hy:p[j]? =some p[j]:=Ya (by omega)
   rw[if_pos (by omega),qj,hy,ZB,qj,hx,ZB]
   by_cases e:p[j]=x
   ·rw[if_pos e]
    exact .inr ⟨rfl,j,hj,by rw[hy,e]⟩
   rw[if_neg e,ze (by omega)]
   refine qiw hl hi hx K (j+1) (by omega) (by omega) (fun k hk=>?_)
   by_cases c:k=j
   ·subst c
    rw[hy]
    exact fun z=>e (Ye z)
   exact hn k (by omega)
  rw[if_neg (by omega)]
  exact .inl ⟨rfl,fun k hk=>hn k (by omega)⟩
theorem qi1 {N:Nat} (hN:2000<N) {p:List Int} (hl:p.length<=256): ∀(K i:Nat) (m:List (Int×Bool)),i<=p.length->p.length<K+i->(∀x,(qbd m x).getD false=true↔ ∃k,k<i/\p[k]? =some x)->
 ∃r,zC p K m (i:Int)=some r/\qX N p K (i:Int)=some r/\((r= .inl ()/\ ∀j,i<=j->j<p.length-> ∃v:Nat,v<p.length/\p[j]? =some (v:Int)/\ ∀k,k<j->p[k]? ≠some (v:Int))\/r= .inr 15)
 |0,i,m,h,hK,hm=>by omega
 |K+1,i,m,h,hK,hm=>by
  unfold zC qX
  by_cases hi:i<p.length
  ·have hx:p[i]? =some p[i]:=Ya hi
   generalize p[i]=x at hx
   rw[if_pos (by omega),if_pos (by omega),qj,hx]
   simp only[ZB]
   by_cases h1:x<0
   ·rw[if_pos h1,if_pos h1]
    exact⟨_,rfl,rfl,.inr rfl⟩
   by_cases h2:x>=(p.length:Int)
   ·rw[if_neg h1,if_pos h2,if_neg h1,decide_eq_true h2]
    exact⟨_,rfl,rfl,.inr rfl⟩
   rw[if_neg h1,if_neg h2,if_neg h1,decide_eq_false h2]
   simp only[ZB,ZF,if_false]
   rcases qiw hl hi hx N 0 (by omega) (by omega) (fun k hk=>by omega)with⟨g1,g2⟩|⟨g1,k,g2,g3⟩
   ·have hf:(qbd m x).getD false=false:=by
     cases c:(qbd m x).getD false with
     |false=>rfl
     |true=>
      obtain⟨k,k1,k2⟩:=(hm x).1 c
      exact absurd k2 (g2 k k1)
    rw[show((0:Nat):Int)=0 from rfl]at g1
    rw[hf,g1,ze (by omega)]
    simp only[ZF,if_false,ZB]
    obtain⟨r,r1,r2,r3⟩:=qi1 hN hl K (i+1) (qcT m x true) (by omega) (by omega) (fun y=>by
     rw[qmz]
     by_cases e:y=x
     ·rw[if_pos e]
      exact⟨fun _=>⟨i,by omega,by rw[hx,e]⟩,fun _=>rfl⟩
     rw[if_neg e,hm y]
     constructor
     ·rintro⟨k,k1,k2⟩
      exact⟨k,by omega,k2⟩
     rintro⟨k,k1,k2⟩
     refine⟨k,?_,k2⟩
     rcases Nat.lt_or_ge k i with c|c
     ·exact c
     have:k=i:=by omega
     subst this
     rw[hx]at k2
     exact absurd (Ye k2).symm e)
    refine⟨r,r1,r2,?_⟩
    rcases r3 with⟨r3,r4⟩|r3
    ·refine .inl ⟨r3,fun j hj hjl=>?_⟩
     by_cases c:j=i
     ·subst c
      refine⟨x.toNat,by omega,by rw[hx];congr 1;omega,fun k hk=>?_⟩
      rw[show((x.toNat:Nat):Int)=x by omega]
      exact g2 k hk
     exact r4 j (by omega) hjl
    exact .inr r3
   have ht:(qbd m x).getD false=true:=(hm x).2 ⟨k,g2,g3⟩
   rw[show((0:Nat):Int)=0 from rfl]at g1
   rw[ht,g1]
   exact⟨_,rfl,rfl,.inr rfl⟩
  rw[if_neg (by omega),if_neg (by omega)]
  exact⟨_,rfl,rfl,.inl ⟨rfl,fun j hj hjl=>by omega⟩⟩
theorem qef {N:Nat} (hN:2000<N) {p:List Int} (hl:p.length<=1000): ∃e,qO N p=some e/\zM N p=some e/\(e=0->IsP p):=by
 unfold qO zM
 by_cases h:256<p.length
 ·rw[if_pos (by omega),if_pos (by omega)]
  exact⟨5,rfl,rfl,fun c=>absurd c (by decide)⟩
 rw[if_neg (by omega),if_neg (by omega)]
 obtain⟨r,r1,r2,r3⟩:=qi1 hN (p:=p) (by omega) N 0 [] (by omega) (by omega) (fun x=>by
  constructor
  ·intro c;simp[qbd]at c
  rintro⟨k,k1,_⟩;omega)
 rw[show(0:Int)=((0:Nat):Int)from rfl,r1,r2]
 rcases r3 with⟨rfl,r4⟩|rfl
 ·refine⟨0,rfl,rfl,fun _=>⟨by omega,fun k hk=>?_,fun k k' v hk hk'=>?_⟩⟩
  ·obtain⟨v,v1,v2,_⟩:=r4 k (by omega) hk
   exact⟨v,v1,v2⟩
  have l1:k<p.length:=(Yb.1 hk).1
  have l2:k'<p.length:=(Yb.1 hk').1
  rcases Nat.lt_trichotomy k k' with c|c|c
  ·obtain⟨w,w1,w2,w3⟩:=r4 k' (by omega) l2
   rw[hk']at w2
   have:=Ye w2
   subst this
   exact absurd hk (w3 k c)
  ·exact c
  obtain⟨w,w1,w2,w3⟩:=r4 k (by omega) l1
  rw[hk]at w2
  have:=Ye w2
  subst this
  exact absurd hk' (w3 k' c)
 exact⟨15,rfl,rfl,fun c=>absurd c (by decide)⟩
def CInv (p:List Int) (from_:Nat) (S:List Bool) (at_:Nat):Prop:= ∀y:Nat,(S[y]? =some true\/y=at_)->y≠from_-> ∃z:Nat,S[z]? =some true/\p[z]? =some ((y:Nat):Int)
def qnA (p:List Int) (S:List Bool):Prop:= ∀y:Nat,S[y]? =some true-> ∃z:Nat,S[z]? =some true/\p[z]? =some ((y:Nat):Int)
def cntF (S:List Bool):Nat:=S.countP (fun b=>!b)
theorem qhz {S:List Bool} {i:Nat} (h:S[i]? =some false):cntF (S.set i true)+1=cntF S:=by
 obtain⟨hi,e⟩:=Yb.1 h
 unfold cntF
 have hp:0<S.countP (fun b=>!b):=List.countP_pos_iff.2 ⟨S[i],List.getElem_mem hi,by rw[e];rfl⟩
 rw[List.countP_set hi,e]
 simp
 omega
end Go.Av
end
section
namespace Go.Av
theorem qgx {q:Rat} {n z:Int} (h:q*(n:Rat)=(z:Rat)):(q.den:Int)∣n:=by
 have h1:=qcJ q
 have e1:q.num*n=z*(q.den:Int):=by
  rw[<-Rat.intCast_inj,Rat.intCast_mul,Rat.intCast_mul,<-h1,<-h]
  grind
 refine qhS (a:=q.num) ⟨z,by rw[e1,Int.mul_comm]⟩ ?_
 have:=q.reduced
 rw[Int.gcd,Int.natAbs_natCast,Nat.gcd_comm]
 exact this
theorem qjM {q:Rat} {n:Nat} {z:Int} (hn:0<n) (h:q*(((n:Nat):Int):Rat)=(z:Rat)):q.den<=n:=Nat.le_of_dvd hn (Int.ofNat_dvd.1 (qgx h))
theorem qck (r:Rat) (c:Int):(r+(c:Rat)).den=r.den:=by
 have h1:(r+(c:Rat))*((r.den:Int):Rat)=((r.num+c*(r.den:Int):Int):Rat):=by
  rw[Rat.intCast_add,Rat.intCast_mul,<-qcJ r]
  grind
 have h2:r*(((r+(c:Rat)).den:Int):Rat)=(((r+(c:Rat)).num-c*((r+(c:Rat)).den:Int):Int):Rat):=by
  rw[Rat.intCast_sub,Rat.intCast_mul,<-qcJ (r+(c:Rat))]
  grind
 exact Nat.dvd_antisymm (Int.ofNat_dvd.1 (qgx h1)) (Int.ofNat_dvd.1 (qgx h2))
theorem qjP.move {x r:Rat} {m:Nat} (h:qjP x m r) (c:Int):qjP (x+(c:Rat)) m (r+(c:Rat)):=by
 refine⟨by rw[qck];exact h.1,fun y hy=>?_⟩
 have hy':(y+((-c:Int):Rat)).den<=m:=by rw[qck];exact hy
 have k:=h.2 _ hy'
 unfold le3 at*
 rw[qck]at k⊢
 have e1:x+(c:Rat)-(r+(c:Rat))=x-r:=by grind
 have e2:x+(c:Rat)-y=x-(y+((-c:Int):Rat)):=by
  rw[Rat.intCast_neg]
  grind
 rw[e1,e2]
 rcases k with k|⟨k1,k|⟨k2,k3⟩⟩
 ·exact .inl k
 ·exact .inr ⟨k1,.inl k⟩
 refine .inr ⟨k1,.inr ⟨k2,?_⟩⟩
 rw[Rat.intCast_neg]at k3
 grind
end Go.Av
end
section
namespace Go.Av
theorem qeA {a k:Nat} (hk:0<k) (h:a<10^k):Sml (((a:Nat):Int):Rat) k:=by
 unfold Sml
 rw[Rat.num_intCast,Rat.den_intCast,Int.natAbs_natCast]
 refine⟨(qbh hk).2 h,(qbh hk).2 ?_⟩
 have:10^1<=10^k:=Nat.pow_le_pow_right (by omega) hk
 omega
theorem qku {a n:Nat} (ha:1<=a) (hn:1<=n): ∃b:Nat,((((a:Nat):Int):Rat)/(((n:Nat):Int):Rat)).num=(b:Int)/\1<=b/\b<=a/\((((a:Nat):Int):Rat)/(((n:Nat):Int):Rat)).den<=n:=by
 have n0:(((n:Nat):Int):Rat)≠0:=Rat.ne_of_gt (Rat.intCast_pos.2 (by omega))
 have np:(0:Rat)<(((n:Nat):Int):Rat):=Rat.intCast_pos.2 (by omega)
 have ap:(0:Rat)<(((a:Nat):Int):Rat):=Rat.intCast_pos.2 (by omega)
 have h:((((a:Nat):Int):Rat)/(((n:Nat):Int):Rat))*(((n:Nat):Int):Rat)=((a:Nat):Int):=Rat.div_mul_cancel n0
 have q0:0<(((a:Nat):Int):Rat)/(((n:Nat):Int):Rat):=by
  rw[Rat.div_def]
  exact Rat.mul_pos ap (Rat.inv_pos.2 np)
 have hd:=qjM (show 0<n by omega) h
 have hd0:=den_pos ((((a:Nat):Int):Rat)/(((n:Nat):Int):Rat))
 have hnum:=qkU.2 q0
 have e1:((((a:Nat):Int):Rat)/(((n:Nat):Int):Rat)).num*(n:Int)=(a:Int)*(((((a:Nat):Int):Rat)/(((n:Nat):Int):Rat)).den:Int):=by
  have h1:=qcJ ((((a:Nat):Int):Rat)/(((n:Nat):Int):Rat))
  rw[<-Rat.intCast_inj,Rat.intCast_mul,Rat.intCast_mul,<-h1,<-h]
  grind
 generalize (((a:Nat):Int):Rat)/(((n:Nat):Int):Rat)=q at*
 refine⟨q.num.toNat,by omega,by omega,?_,hd⟩
 obtain⟨b,hb⟩: ∃b:Nat,q.num=(b:Int):=⟨q.num.toNat,by omega⟩
 rw[hb]at e1⊢
 rw[Int.toNat_natCast]
 have e2:b*n=a*q.den:=by exact_mod_cast e1
 have e3:a*q.den<=a*n:=Nat.mul_le_mul_left _ hd
 exact Nat.le_of_mul_le_mul_right (show b*n<=a*n by omega) (by omega)
theorem qkC {a b n i:Nat} (hb:b<=a) (hn:n<=256) (h:a<10^(3*(i+1))):b*n<10^(3*(i+1+1)):=by
 have e:10^(3*(i+1+1))=10^(3*(i+1))*1000:=by rw[show 3*(i+1+1)=3*(i+1)+3 by omega,Nat.pow_add]
 have h1:b*n<=a*256:=Nat.mul_le_mul hb hn
 omega
theorem qjd {a:List Int} (hl:a.length<=100000): ∀(K i:Nat),i<=a.length->a.length<K+i->qP a a K (i:Int)=some (.inl ())
 |0,i,h,hK=>by omega
 |K+1,i,h,hK=>by
  unfold qP
  by_cases hi:i<a.length
  ·rw[if_pos (by omega),qj,Ya hi,ZB,ZB,if_neg (by simp),ze (by omega)]
   exact qjd hl K (i+1) (by omega) (by omega)
  rw[if_neg (by omega)]
theorem qlv {N:Nat} {a:List Int} (hN:a.length<N) (hl:a.length<=100000):jJ N a a=some true:=by
 unfold jJ
 rw[if_neg (by simp),show(0:Int)=((0:Nat):Int)from rfl,qjd hl N 0 (by omega) (by omega)]
 rfl
end Go.Av
end
section
namespace Go.Av
def nxP (p:List Int) (x:Nat):Nat:=((p[x]?).getD 0).toNat
def itP (p:List Int) (x:Nat):Nat->Nat
 |0=>x
 |k+1=>nxP p (itP p x k)
theorem xw {p:List Int} (hp:IsP p) {x:Nat} (hx:x<p.length):p[x]? =some ((nxP p x:Nat):Int)/\nxP p x<p.length:=by
 obtain⟨v,v1,v2⟩:=hp.at_ x hx
 have e:nxP p x=v:=by
  unfold nxP
  rw[v2]
  simp
 rw[e]
 exact⟨v2,v1⟩
theorem qaU {p:List Int} (hp:IsP p) {x:Nat} (hx:x<p.length): ∀k,itP p x k<p.length
 |0=>hx
 |k+1=>(xw hp (qaU hp hx k)).2
theorem qao (p:List Int) (x a:Nat): ∀b,itP p x (a+b)=itP p (itP p x a) b
 |0=>rfl
 |b+1=>by
  show nxP p (itP p x (a+b))=nxP p (itP p (itP p x a) b)
  rw[qao p x a b]
theorem qgB {p:List Int} {x L:Nat} (h:itP p x L=x): ∀a,itP p x (L*a)=x
 |0=>rfl
 |a+1=>by rw[Nat.mul_succ,qao,qgB h a,h]
theorem qgQ {p:List Int} {x L:Nat} (h:itP p x L=x) (m:Nat):itP p x m=itP p x (m%L):=by
 have e:=Nat.div_add_mod m L
 have e2:itP p x (L*(m/L)+m%L)=itP p x (m%L):=by rw[qao,qgB h]
 rw[e]at e2
 exact e2
theorem qbJ {p:List Int} (hp:IsP p) {x y:Nat} (hx:x<p.length) (hy:y<p.length) (h:nxP p x=nxP p y):x=y:=
 hp.inj x y _ (xw hp hx).1 (by rw[h];exact(xw hp hy).1)
theorem qi0 {p:List Int} (hp:IsP p) {x y:Nat} (hx:x<p.length) (hy:y<p.length): ∀k,itP p x k=itP p y k->x=y
 |0,h=>h
 |k+1,h=>qi0 hp hx hy k (qbJ hp (qaU hp hx k) (qaU hp hy k) h)
def qdJ (p c:List Int):Prop:= ∃s:Nat,0<c.length/\c.length<=p.length/\s<p.length/\(∀j,j<c.length->c[j]? =some ((itP p s j:Nat):Int))/\itP p s c.length=s/\ ∀j,0<j->j<c.length->itP p s j≠s
end Go.Av
end
section
namespace Go.Av
theorem qna {a n:Nat} (ha:1<=a) (hn:1<=n): ∃b d:Nat,((((a:Nat):Int):Rat)/(((n:Nat):Int):Rat)).num=(b:Int)/\1<=b/\b<=a/\((((a:Nat):Int):Rat)/(((n:Nat):Int):Rat)).den<=n/\b*n=a*d/\Nat.Coprime b d:=by
 obtain⟨b,b1,b2,b3,b4⟩:=qku ha hn
 refine⟨b,((((a:Nat):Int):Rat)/(((n:Nat):Int):Rat)).den,b1,b2,b3,b4,?_,?_⟩
 ·have n0:(((n:Nat):Int):Rat)≠0:=Rat.ne_of_gt (Rat.intCast_pos.2 (by omega))
  have h:((((a:Nat):Int):Rat)/(((n:Nat):Int):Rat))*(((n:Nat):Int):Rat)=((a:Nat):Int):=Rat.div_mul_cancel n0
  have e1:((((a:Nat):Int):Rat)/(((n:Nat):Int):Rat)).num*(n:Int)=(a:Int)*(((((a:Nat):Int):Rat)/(((n:Nat):Int):Rat)).den:Int):=by
   have h1:=qcJ ((((a:Nat):Int):Rat)/(((n:Nat):Int):Rat))
   rw[<-Rat.intCast_inj,Rat.intCast_mul,Rat.intCast_mul,<-h1,<-h]
   grind
  rw[b1]at e1
  exact_mod_cast e1
 have:=((((a:Nat):Int):Rat)/(((n:Nat):Int):Rat)).reduced
 rw[b1,Int.natAbs_natCast]at this
 exact this
theorem qkh {a b d n m:Nat} (ha:1<=a) (hn:1<=n) (e:b*n=a*d) (hc:Nat.Coprime b d) (h1:a∣m) (h2:n∣m):b*n∣m:=by
 obtain⟨x,rfl⟩:=h1
 obtain⟨y,hy⟩:=h2
 have e1:a*(b*x)=a*(d*y):=by
  have h3:b*(a*x)=b*(n*y):=by rw[hy]
  have h4:b*(n*y)=a*(d*y):=by rw[<-Nat.mul_assoc,e,Nat.mul_assoc]
  have h5:b*(a*x)=a*(b*x):=by rw[<-Nat.mul_assoc,Nat.mul_comm b a,Nat.mul_assoc]
  rw[<-h5,h3,h4]
 have e2:b*x=d*y:=Nat.eq_of_mul_eq_mul_left (show 0<a by omega) e1
 have e3:b∣d*y:=⟨x,e2.symm⟩
 obtain⟨z,rfl⟩:=Nat.Coprime.dvd_of_dvd_mul_left hc e3
 exact⟨z,by rw[hy,<-Nat.mul_assoc,Nat.mul_comm n b]⟩
theorem qma {N:Nat} (hN:600000<N) {ls:List (List Int)} (hls:ls.length<=256) (hm: ∀l∈ls,0<l.length/\l.length<=256): ∀(K i a:Nat) (f:qQ),i<=ls.length->ls.length<K+i->1<=a->a<10^(3*(i+1))->IsF f (((a:Nat):Int):Rat)->
 ∃(b:Nat) (g:qQ),jl N ls K f.Num.s f.Num.w f.Den.s f.Den.w (i:Int)=some (g.Num.s,g.Num.w,g.Den.s,g.Den.w)/\IsF g (((b:Nat):Int):Rat)/\1<=b/\(∃m:Nat,m<=ls.length/\b<10^(3*(m+1)))/\a∣b/\(∀(j:Nat) l,i<=j->ls[j]? =some l->l.length∣b)/\ ∀m,a∣m->(∀(j:Nat) l,i<=j->ls[j]? =some l->l.length∣m)->b∣m
 |0,i,a,f,h,hK,ha,hb,hf=>by omega
 |K+1,i,a,f,h,hK,ha,hb,hf=>by
  unfold jl
  by_cases hi:i<ls.length
  ·have hp:ls[i]? =some ls[i]:=Ya hi
   obtain⟨l1,l2⟩:=hm _ (List.getElem_mem hi)
   generalize ls[i]=l at*
   obtain⟨n,hn⟩: ∃n:Nat,l.length=n:=⟨_,rfl⟩
   have hk:3*(i+1)<=768:=by omega
   have sa:Sml (((a:Nat):Int):Rat) 771:=(qeA (k:=3*(i+1)) (by omega) hb).mono (by omega)
   have sn:Sml (((n:Nat):Int):Rat) 771:=(qeA (k:=3) (by omega) (by omega)).mono (by omega)
   have n0:(((n:Nat):Int):Rat)≠0:=Rat.ne_of_gt (Rat.intCast_pos.2 (by omega))
   obtain⟨b,d,b1,b2,b3,b4,b5,b6⟩:=qna ha (show 1<=n by omega)
   have sb:Sml (((b:Nat):Int):Rat) 771:=(qeA (k:=3*(i+1)) (by omega) (by omega)).mono (by omega)
   obtain⟨fn,e1,i1⟩:=F_eq (n:=(n:Int)) (by omega) (by omega)
   obtain⟨fq,e2,i2⟩:=qm4 hN hf i1 (n:=100) (by omega) (by omega) (qcB sa (by omega) (by omega)) (qcB sn (by omega) (by omega)) n0
   obtain⟨fw,e3,i3⟩:=qg1 i2.1
   rw[b1]at i3
   obtain⟨fm,e4,i4⟩:=qi2 hN i3 i1 (n:=100) (by omega) (qcB sb (by omega) (by omega)) (qcB sn (by omega) (by omega))
   have em:(((b:Nat):Int):Rat)*(((n:Nat):Int):Rat)=(((b*n:Nat):Int):Rat):=by
    rw[<-Rat.intCast_mul]
    congr 1
   rw[em]at i4
   obtain⟨c,g,r1,r3,r4,r5,r6,r7,r8⟩:=qma hN hls hm K (i+1) (b*n) fm (by omega) (by omega) (Nat.le_trans b2 (Nat.le_mul_of_pos_right _ (by omega))) (qkC b3 (by omega) hb) i4
   refine⟨c,g,?_,r3,r4,r5,Nat.dvd_trans ⟨d,b5⟩ r6,fun j l' hj hl'=>?_,fun m hm1 hm2=>?_⟩
   ·rw[if_pos (by omega),qj,hp,ZB,hn,e1,ZB,show(⟨⟨f.Num.s,f.Num.w⟩,⟨f.Den.s,f.Den.w⟩⟩:qQ)=f from rfl,e2,ZB,e3,ZB,e4,ZB,ze (by omega)]
    exact r1
   ·by_cases c:j=i
    ·subst c
     rw[hp]at hl'
     obtain rfl:=Ye hl'
     rw[hn]
     exact Nat.dvd_trans ⟨b,Nat.mul_comm _ _⟩ r6
    exact r7 j l' (by omega) hl'
   have hd:=hm2 i l (Nat.le_refl _) hp
   rw[hn]at hd
   exact r8 m (qkh ha (by omega) b5 b6 hm1 hd) (fun j l' hj hl'=>hm2 j l' (by omega) hl')
  rw[if_neg (by omega)]
  refine⟨a,f,rfl,hf,ha,⟨i,by omega,hb⟩,Nat.dvd_refl _,fun j l hj hl=>?_,fun m h1 _=>h1⟩
  have:=(Yb.1 hl).1
  omega
theorem qjl {k:Int} {L:Nat} (hL:0<L):(k.tmod (L:Int)+(L:Int)).tmod (L:Int)=k%(L:Int):=by
 have h1: -(L:Int)<k.tmod (L:Int):=Int.lt_tmod_of_pos k (by omega)
 have h2:=Int.mul_tdiv_add_tmod k (L:Int)
 rw[Int.tmod_eq_emod_of_nonneg (by omega)]
 have e:k.tmod (L:Int)+(L:Int)=k+(L:Int)*(1-k.tdiv (L:Int)):=by
  rw[Int.mul_sub,Int.mul_one]
  omega
 rw[e,Int.add_mul_emod_self_left]
theorem qny {p c:List Int} (hp:IsP p) {s:Nat} (hs:s<p.length) (hc: ∀j,j<c.length->c[j]? =some ((itP p s j:Nat):Int)) (hr:itP p s c.length=s) (h0:0<c.length) (h1:c.length<=256) (M:Nat): ∀(K j:Nat) (r:List Int),j<=c.length->c.length<K+j->r.length=p.length->
 ∃r',jN c ((M%c.length:Nat):Int) K r (j:Int)=some r'/\r'.length=p.length/\(∀t:Nat,r[t]? =some ((itP p t M:Nat):Int)->r'[t]? =some ((itP p t M:Nat):Int))/\ ∀(j' t:Nat),j<=j'->c[j']? =some (t:Int)->r'[t]? =some ((itP p t M:Nat):Int)
 |0,j,r,h,hK,hl=>by omega
 |K+1,j,r,h,hK,hl=>by
  unfold jN
  have hq:M%c.length<c.length:=Nat.mod_lt _ h0
  by_cases hj:j<c.length
  ·have hx:=hc j hj
   have tl:=qaU hp hs j
   have hw:w64 ((j:Int)+((M%c.length:Nat):Int))=((j+M%c.length:Nat):Int):=by
    rw[qh (by omega) (by omega)]
    omega
   have hrm:xk .i64 ((j+M%c.length:Nat):Int) (c.length:Int)=some (((j+M%c.length)%c.length:Nat):Int):=by
    unfold xk
    rw[if_neg (by omega)]
    rfl
   have hy:=hc ((j+M%c.length)%c.length) (Nat.mod_lt _ h0)
   have ht:itP p (itP p s j) c.length=itP p s j:=by
    rw[<-qao,Nat.add_comm,qao,hr]
   have ev:itP p s ((j+M%c.length)%c.length)=itP p (itP p s j) M:=by
    rw[<-qgQ hr,qao,<-qgQ ht]
   rw[ev]at hy
   have hz:r[itP p s j]? =some r[itP p s j]:=Ya (by omega)
   rw[if_pos (by omega),qj,hx,ZB,hw,hrm,ZB,qj,hy,ZB,qj,hz,ZB,jL (by omega),ZB,ze (by omega)]
   obtain⟨r',g1,g2,g3,g4⟩:=qny hp hs hc hr h0 h1 M K (j+1) (r.set (itP p s j) ((itP p (itP p s j) M:Nat):Int)) (by omega) (by omega) (by simpa using hl)
   have self:(r.set (itP p s j) ((itP p (itP p s j) M:Nat):Int))[itP p s j]? =some ((itP p (itP p s j) M:Nat):Int):=by rw[List.getElem?_set_self (by omega)]
   refine⟨r',g1,g2,fun t ht=>g3 t ?_,fun j' t hj' hjt=>?_⟩
   ·by_cases e:t=itP p s j
    ·subst e
     exact self
    rw[Yw (fun h=>e h.symm)]
    exact ht
   by_cases e:j'=j
   ·subst e
    rw[hx]at hjt
    have:itP p s j'=t:=by
     have:=Ye hjt
     omega
    subst this
    exact g3 _ self
   exact g4 j' t (by omega) hjt
  rw[if_neg (by omega)]
  refine⟨r,rfl,hl,fun t ht=>ht,fun j' t hj' ht=>?_⟩
  have:=(Yb.1 ht).1
  omega
theorem qnD {N:Nat} (hN:2000<N) {p:List Int} (hp:IsP p) {ls:List (List Int)} {k:Int} {M:Nat} (hls:ls.length<=256) (hc: ∀c∈ls,qdJ p c) (hM: ∀c∈ls,k%(c.length:Int)=((M%c.length:Nat):Int)): ∀(K i:Nat) (r:List Int),i<=ls.length->ls.length<K+i->r.length=p.length->
 ∃r',jP N k ls K r (i:Int)=some r'/\r'.length=p.length/\(∀t:Nat,r[t]? =some ((itP p t M:Nat):Int)->r'[t]? =some ((itP p t M:Nat):Int))/\ ∀(j t:Nat) (c:List Int),i<=j->ls[j]? =some c->(t:Int)∈c->r'[t]? =some ((itP p t M:Nat):Int)
 |0,i,r,h,hK,hl=>by omega
 |K+1,i,r,h,hK,hl=>by
  have hfew:=hp.few
  unfold jP
  by_cases hi:i<ls.length
  ·have hpi:ls[i]? =some ls[i]:=Ya hi
   obtain⟨s,c0,c1,c2,c3,c4,c5⟩:=hc _ (List.getElem_mem hi)
   have hMi:=hM _ (List.getElem_mem hi)
   generalize ls[i]=l at*
   have h1:xk .i64 k (l.length:Int)=some (k.tmod (l.length:Int)):=by
    unfold xk
    rw[if_neg (by omega)]
   have a1:k.tmod (l.length:Int)<l.length:=Int.tmod_lt_of_pos _ (by omega)
   have a2: -(l.length:Int)<k.tmod (l.length:Int):=Int.lt_tmod_of_pos k (by omega)
   have hw:w64 (k.tmod (l.length:Int)+(l.length:Int))=k.tmod (l.length:Int)+(l.length:Int):=qh (by omega) (by omega)
   have h2:xk .i64 (k.tmod (l.length:Int)+(l.length:Int)) (l.length:Int)=some ((M%l.length:Nat):Int):=by
    unfold xk
    rw[if_neg (by omega),qjl c0,hMi]
   obtain⟨r',g1,g2,g3,g4⟩:=qny hp c2 c3 c4 c0 (by omega) M N 0 r (by omega) (by omega) hl
   rw[show((0:Nat):Int)=0 from rfl]at g1
   obtain⟨r'',k1,k2,k3,k4⟩:=qnD hN hp hls hc hM K (i+1) r' (by omega) (by omega) g2
   refine⟨r'',?_,k2,fun t ht=>k3 t (g3 t ht),fun j t c hj hcj ht=>?_⟩
   ·rw[if_pos (by omega),qj,hpi]
    simp only[h1,hw,h2,ZB]
    rw[g1]
    simp only[ZB]
    rw[ze (by omega)]
    exact k1
   by_cases e:j=i
   ·subst e
    rw[hpi]at hcj
    obtain rfl:=Ye hcj
    obtain⟨j',hj'⟩:=List.mem_iff_getElem?.1 ht
    exact k3 t (g4 j' t (by omega) hj')
   exact k4 j t c (by omega) hcj ht
  rw[if_neg (by omega)]
  refine⟨r,rfl,hl,fun t ht=>ht,fun j t c hj hcj ht=>?_⟩
  have:=(Yb.1 hcj).1
  omega
def mkP (p:List Int) (M:Nat):List Int:=(List.range p.length).map fun t:Nat=>((itP p t M:Nat):Int)
theorem qbb (p:List Int) (M:Nat):(mkP p M).length=p.length:=by simp[mkP]
theorem qey {p:List Int} {M t:Nat} (h:t<p.length):(mkP p M)[t]? =some ((itP p t M:Nat):Int):=by
 simp[mkP,List.getElem?_map,List.getElem?_range h]
theorem qkQ {p r:List Int} {M:Nat} (hl:r.length=p.length) (h: ∀t:Nat,t<p.length->r[t]? =some ((itP p t M:Nat):Int)):r=mkP p M:=by
 apply List.ext_getElem?
 intro t
 by_cases c:t<p.length
 ·rw[h t c,qey c]
 rw[Yg (by omega),Yg (by rw[qbb];omega)]
theorem qof {p:List Int} {M M':Nat}:mkP p M=mkP p M'↔ ∀t,t<p.length->itP p t M=itP p t M':=by
 constructor
 ·intro h t ht
  have h1:=qey (M:=M) ht
  rw[h,qey ht]at h1
  have:=Ye h1
  omega
 intro h
 exact qkQ (qbb p M) fun t ht=>by rw[qey ht,h t ht]
theorem qjm {a b:List Int} {g:Nat->Int} (ha:a.length<=256) (h: ∀t,t<a.length-> ∃v:Nat,a[t]? =some (v:Int)/\b[v]? =some (g t)): ∀(K i:Nat),i<=a.length->a.length<K+i->zY a b K ((List.range i).map g) (i:Int)=some ((List.range a.length).map g)
 |0,i,hi,hK=>by omega
 |K+1,i,hi,hK=>by
  unfold zY
  by_cases c:i<a.length
  ·obtain⟨v,h1,h2⟩:=h i c
   rw[if_pos (by omega),qj,h1,ZB,qj,h2,ZB,qbz (by simp;omega) (by simp;omega),ZB,ze (by omega),show(List.range i).map g++[g i]=(List.range (i+1)).map g by simp[List.range_succ]]
   exact qjm ha h K (i+1) (by omega) (by omega)
  rw[if_neg (by omega),show i=a.length by omega]
theorem qhF {n:Nat} (hn:n<=256): ∀(K i:Nat),i<=n->n<K+i->zT (n:Int) K ((List.range i).map fun t:Nat=>(t:Int)) (i:Int)=some ((List.range n).map fun t:Nat=>(t:Int))
 |0,i,hi,hK=>by omega
 |K+1,i,hi,hK=>by
  unfold zT
  by_cases c:i<n
  ·rw[if_pos (by omega),qbz (by simp;omega) (by simp;omega),ZB,ze (by omega),show((List.range i).map fun t:Nat=>(t:Int))++[(i:Int)]=(List.range (i+1)).map fun t:Nat=>(t:Int)by simp[List.range_succ]]
   exact qhF hn K (i+1) (by omega) (by omega)
  rw[if_neg (by omega),show i=n by omega]
theorem qjV {N:Nat} (hN:2000<N) {p:List Int} (hl:p.length<=256):yQ N (p.length:Int)=some (mkP p 0):=by
 unfold yQ
 have:=qhF hl N 0 (by omega) (by omega)
 rw[show(List.range 0).map (fun t:Nat=>(t:Int))=[]from rfl,show((0:Nat):Int)=0 from rfl]at this
 rw[this,ZB]
 rfl
theorem ql7 {a b:List Int} (hl:a.length=b.length) (hs:a.length<=100000): ∀(K i:Nat),i<=a.length->a.length<K+i->(qP a b K (i:Int)=some (.inl ())/\ ∀k,i<=k->a[k]? =b[k]?)\/(qP a b K (i:Int)=some (.inr false)/\a≠b)
 |0,i,h,hK=>by omega
 |K+1,i,h,hK=>by
  unfold qP
  by_cases hi:i<a.length
  ·have ha:a[i]? =some a[i]:=Ya hi
   have hb:b[i]? =some b[i]:=Ya (by omega)
   rw[if_pos (by omega),qj,ha,ZB,qj,hb,ZB]
   by_cases e:a[i]=b[i]
   ·rw[if_neg (by simp[e]),ze (by omega)]
    rcases ql7 hl hs K (i+1) (by omega) (by omega)with⟨r1,r2⟩|r
    ·refine .inl ⟨r1,fun k hk=>?_⟩
     by_cases c:k=i
     ·subst c
      rw[ha,hb,e]
     exact r2 k (by omega)
    exact .inr r
   rw[if_pos (by simp[e])]
   exact .inr ⟨rfl,fun c=>e (by subst c;rfl)⟩
  rw[if_neg (by omega)]
  exact .inl ⟨rfl,fun k hk=>by rw[Yg (by omega),Yg (by omega)]⟩
theorem qly {N:Nat} {a b:List Int} (hN:a.length<N) (hl:a.length=b.length) (hs:a.length<=100000):jJ N a b=some (decide (a=b)):=by
 unfold jJ
 rw[if_neg (by simp[hl])]
 rcases ql7 hl hs N 0 (by omega) (by omega)with⟨r1,r2⟩|⟨r1,r2⟩
 ·rw[show((0:Nat):Int)=0 from rfl]at r1
  rw[r1,ZB]
  simp only
  rw[decide_eq_true (List.ext_getElem? fun k=>r2 k (by omega))]
 rw[show((0:Nat):Int)=0 from rfl]at r1
 rw[r1,ZB]
 simp only
 rw[decide_eq_false r2]
theorem qi8 {N:Nat} (hN:2000<N) {w:List Int} (hw:IsP w): ∀(K i:Nat),i<=w.length->w.length<K+i->qX N w K (i:Int)=some (.inl ())
 |0,i,h,hK=>by omega
 |K+1,i,h,hK=>by
  have hfew:=hw.few
  unfold qX
  by_cases hi:i<w.length
  ·obtain⟨v,v1,v2⟩:=hw.at_ i hi
   have pin:qU w (i:Int) N 0=some (.inl ()):=by
    rcases qiw hfew hi v2 N 0 (by omega) (by omega) (fun k hk=>by omega)with⟨r,_⟩|⟨_,k,k1,k2⟩
    ·exact r
    have:=hw.inj k i _ k2 v2
    omega
   rw[if_pos (by omega),qj,v2,ZB,if_neg (by omega),ZB,if_neg (by rw[decide_eq_true_iff];omega),pin]
   simp only[ZB]
   rw[ze (by omega)]
   exact qi8 hN hw K (i+1) (by omega) (by omega)
  rw[if_neg (by omega)]
theorem qah {N:Nat} (hN:2000<N) {w:List Int} (hw:IsP w):qO N w=some 0/\zM N w=some 0:=by
 have hfew:=hw.few
 have h:zM N w=some 0:=by
  unfold zM
  rw[if_neg (by omega),show(0:Int)=((0:Nat):Int)from rfl,qi8 hN hw N 0 (by omega) (by omega)]
  rfl
 obtain⟨e,e1,e2,_⟩:=qef hN (p:=w) (by omega)
 rw[h]at e2
 obtain rfl:=Ye e2
 exact⟨e1,h⟩
theorem qlZ {p:List Int} (hp:IsP p): ∀(K i:Nat) (r:List Int),i<=p.length->p.length<K+i->r.length=p.length->(∀k,k<i->r[nxP p k]? =some (k:Int))->
 ∃r',zV p K r (i:Int)=some r'/\r'.length=p.length/\ ∀k,k<p.length->r'[nxP p k]? =some (k:Int)
 |0,i,r,h,hK,hl,hk=>by omega
 |K+1,i,r,h,hK,hl,hk=>by
  have hfew:=hp.few
  unfold zV
  by_cases hi:i<p.length
  ·obtain⟨h1,h2⟩:=xw hp hi
   have hz:r[nxP p i]? =some r[nxP p i]:=Ya (by omega)
   rw[if_pos (by omega),qj,h1,ZB,qj,hz,ZB,jL (by omega),ZB,ze (by omega)]
   refine qlZ hp K (i+1) _ (by omega) (by omega) (by simpa using hl) (fun k hk'=>?_)
   by_cases e:k=i
   ·subst e
    rw[List.getElem?_set_self (by omega)]
   rw[Yw (fun c=>e (qbJ hp (by omega) hi c.symm))]
   exact hk k (by omega)
  rw[if_neg (by omega)]
  exact⟨r,rfl,hl,fun k hk'=>hk k (by omega)⟩
theorem qjy {n:Nat} (hn:n<=256):mk 8 (n:Int) (0:Int)=some (List.replicate n 0):=by
 unfold mk
 rw[if_pos (by omega)]
 simp
theorem qn5 {N:Nat} (hN:2000<N):qaJ N [0,0,0]=some 0:=by
 obtain⟨M,rfl⟩: ∃M,N=M+4:=⟨N-4,by omega⟩
 rfl
end Go.Av
end
section
namespace Go.Av
theorem qnF {p:List Int} (hp:IsP p) (fr:Nat) (hfr0:fr<p.length): ∀(c:Nat) (S:List Bool) (l:List Int) (o:Option (List Int)) (at_ K1:Nat),((o=none/\l=[])\/o=some l)->cntF S=c->c<=K1->S.length=p.length->at_<p.length->S[at_]? =some false->CInv p fr S at_->(S[fr]? =some true\/at_=fr)->l.length+c<=p.length->at_=itP p fr l.length->(∀j,j<l.length->l[j]? =some ((itP p fr j:Nat):Int))->(∀j,0<j->j<=l.length->itP p fr j≠fr)->
 ∃(S':List Bool) (rest:List Int),zf (fr:Int) p K1 S o (at_:Int)=some (S',l++rest)/\S'.length=p.length/\qnA p S'/\qdJ p (l++rest)/\(∀y:Nat,S'[y]? =some true↔(S[y]? =some true\/(y:Int)∈rest))/\(∀y:Nat,(y:Int)∈rest->S[y]? =some false)/\rest.Nodup/\S'[fr]? =some true/\rest.length+cntF S'=c
 |0,S,l,o,at_,K1,ho,hc,h1,hl,ha,hf,hi,hfr,hb,hat,hel,hne=>by
  have:=qhz hf
  omega
 |c+1,S,l,o,at_,K1,ho,hc,h1,hl,ha,hf,hi,hfr,hb,hat,hel,hne=>by
  obtain⟨K1,rfl⟩: ∃K,K1=K+1:=⟨K1-1,by omega⟩
  have hcs:=qhz hf
  have hfew:=hp.few
  obtain⟨x,hx,ex⟩:=hp.at_ at_ ha
  have enx:nxP p at_=x:=by
   have:=(xw hp ha).1
   rw[ex]at this
   have:=Ye this
   omega
  have eit:itP p fr (l.length+1)=x:=by
   show nxP p (itP p fr l.length)=x
   rw[<-hat,enx]
  have r2:vN S o (at_:Int)=some (S.set at_ true,l++[(at_:Int)]):=by
   unfold vN
   rw[qj,hf,ZB,jL (by omega),ZB]
   rcases ho with⟨rfl,rfl⟩|rfl
   ·rfl
   simp only
   rw[qbz (by simp only[Yr,List.length_nil];omega) (by simp only[Yr,List.length_nil];omega)]
   rfl
  have hl':(S.set at_ true).length=p.length:=by simpa using hl
  have atT:(S.set at_ true)[at_]? =some true:=by rw[List.getElem?_set_self (by omega)]
  have cov: ∀y:Nat,(S.set at_ true)[y]? =some true↔(S[y]? =some true\/y=at_):=fun y=>by
   by_cases e:y=at_
   ·subst e
    exact⟨fun _=> .inr rfl,fun _=>atT⟩
   rw[Yw (fun h=>e h.symm)]
   exact⟨fun h=> .inl h,fun h=>h.elim id (fun h=>absurd h e)⟩
  have frT:(S.set at_ true)[fr]? =some true:=by
   rcases hfr with h|h
   ·exact(cov fr).2 (.inl h)
   exact(cov fr).2 (.inr h.symm)
  have nth: ∀rest:List Int,rest[0]? =some (at_:Int)->(l++rest)[l.length]? =some (at_:Int):=fun rest h=>by
   rw[Yo (by omega),Nat.sub_self,h]
  unfold zf
  rw[r2,ZB]
  simp only
  rw[qj,ex,ZB]
  by_cases e:x=fr
  ·rw[if_pos (by omega)]
   have hlen:(l++[(at_:Int)]).length=l.length+1:=by simp
   refine⟨S.set at_ true,[(at_:Int)],rfl,hl',?_,⟨fr,by omega,by omega,hfr0,?_,by rw[hlen,eit,e],?_⟩,?_,?_,by simp,frT,?_⟩
   ·intro y hy
    by_cases c2:y=fr
    ·subst c2
     exact⟨at_,atT,by rw[ex,e]⟩
    obtain⟨z,z1,z2⟩:=hi y ((cov y).1 hy) c2
    exact⟨z,(cov z).2 (.inl z1),z2⟩
   ·intro j hj
    by_cases c2:j<l.length
    ·rw[Yf c2,hel j c2]
    have:j=l.length:=by omega
    subst this
    rw[nth _ rfl,<-hat]
   ·intro j j0 hj
    exact hne j j0 (by omega)
   ·intro y
    rw[cov y,List.mem_singleton]
    exact⟨fun h=>h.elim .inl (fun h=> .inr (by rw[h])),fun h=>h.elim .inl (fun h=> .inr (by omega))⟩
   ·intro y hy
    have:y=at_:=by
     have:=List.mem_singleton.1 hy
     omega
    rw[this]
    exact hf
   rw[List.length_singleton]
   omega
  rw[if_neg (by omega)]
  have hxF:(S.set at_ true)[x]? =some false:=by
   have hxl:x<(S.set at_ true).length:=by omega
   have h0:(S.set at_ true)[x]? =some (S.set at_ true)[x]:=Ya hxl
   cases hb2:(S.set at_ true)[x]with
   |false=>rw[h0,hb2]
   |true=>
    exfalso
    rw[hb2]at h0
    obtain⟨z,z1,z2⟩:=hi x ((cov x).1 h0) e
    have:=hp.inj z at_ _ z2 ex
    subst this
    rw[hf]at z1
    cases z1
  have hlen:(l++[(at_:Int)]).length=l.length+1:=by simp
  obtain⟨S',rest,g1,g3,g4,g5,g6,g7,g8,g9,g10⟩:=qnF hp fr hfr0 c (S.set at_ true) (l++[(at_:Int)]) (some (l++[(at_:Int)])) x K1 (.inr rfl) (by omega) (by omega) hl' hx hxF (fun y hy hne=>by
   rcases hy with hy|hy
   ·obtain⟨z,z1,z2⟩:=hi y ((cov y).1 hy) hne
    exact⟨z,(cov z).2 (.inl z1),z2⟩
   ·subst hy
    exact⟨at_,atT,ex⟩) (.inl frT) (by omega) (by rw[hlen,eit]) (fun j hj=>by
   by_cases c2:j<l.length
   ·rw[Yf c2,hel j c2]
   ·have:j=l.length:=by omega
    subst this
    rw[nth _ rfl,<-hat]) (fun j j0 hj=>by
   by_cases c2:j<=l.length
   ·exact hne j j0 c2
   have:j=l.length+1:=by omega
   subst this
   rw[eit]
   exact e)
  have ass:(l++[(at_:Int)])++rest=l++((at_:Int)::rest):=by simp
  rw[ass]at g1 g5
  have fresh:(at_:Int)∉rest:=fun h=>by
   have:=g7 at_ h
   rw[atT]at this
   cases this
  refine⟨S',(at_:Int)::rest,g1,g3,g4,g5,fun y=>?_,fun y hy=>?_,List.nodup_cons.2 ⟨fresh,g8⟩,g9,by rw[Yr];omega⟩
  ·rw[g6 y,cov y,List.mem_cons]
   constructor
   ·rintro((h|h)|h)
    ·exact .inl h
    ·exact .inr (.inl (by rw[h]))
    exact .inr (.inr h)
   rintro(h|h|h)
   ·exact .inl (.inl h)
   ·exact .inl (.inr (by omega))
   exact .inr h
  rcases List.mem_cons.1 hy with h|h
  ·have:y=at_:=by omega
   rw[this]
   exact hf
  have:=g7 y h
  by_cases e2:y=at_
  ·rw[e2]
   exact hf
  rw[Yw (fun h=>e2 h.symm)]at this
  exact this
theorem qml {N:Nat} (hN:2000<N) {p:List Int} (hp:IsP p): ∀(K i:Nat) (S:List Bool) (out:List (List Int)),i<=p.length->p.length<K+i->S.length=p.length->qnA p S->out.length<=i->(∀y,y<i->S[y]? =some true)->(∀c∈out,qdJ p c)->(∀y:Nat,S[y]? =some true↔(y:Int)∈out.flatten)->out.flatten.Nodup->out.flatten.length+cntF S=p.length->
 ∃r,zB N p K out S (i:Int)=some r/\r.length<=p.length/\(∀c∈r,qdJ p c)/\r.flatten.Nodup/\(∀y:Nat,y<p.length->(y:Int)∈r.flatten)/\r.flatten.length=p.length
 |0,i,S,out,h,hK,hl,hc,ho,hlo,hm,hcov,hnd,hct=>by omega
 |K+1,i,S,out,h,hK,hl,hc,ho,hlo,hm,hcov,hnd,hct=>by
  have hfew:=hp.few
  unfold zB
  by_cases hi:i<p.length
  ·have hs:S[i]? =some S[i]:=Ya (by omega)
   rw[if_pos (by omega),qj,hs,ZB]
   cases hb:S[i]with
   |true=>
    rw[hb]at hs
    rw[if_pos rfl,ZB]
    simp only
    rw[ze (by omega)]
    exact qml hN hp K (i+1) S out (by omega) (by omega) hl hc (by omega) (fun y hy=>by
     by_cases c:y=i
     ·subst c
      exact hs
     exact hlo y (by omega)) hm hcov hnd hct
   |false=>
    rw[hb]at hs
    have hcl:cntF S<=S.length:=List.countP_le_length
    obtain⟨S1,cy,e1,e3,e4,e5,e6,e7,e8,e9,e10⟩:=qnF hp i hi (cntF S) S [] none i N (.inl ⟨rfl,rfl⟩) rfl (by omega) hl hi hs (fun y hy hne=>by
     rcases hy with hy|hy
     ·exact hc y hy
     exact absurd hy hne) (.inr rfl) (by simp;omega) rfl (fun j hj=>by simp at hj) (fun j j0 hj=>by simp at hj;omega)
    rw[List.nil_append]at e1 e5
    have e0:xm p (i:Int)=some ():=rfl
    have e11:jX N S (i:Int) p=some (S1,cy):=by
     unfold jX
     rw[e1,ZB]
    rw[if_neg (by decide),e0,ZB,e11,ZB]
    simp only
    rw[qbz (by simp only[Yr,List.length_nil];omega) (by simp only[Yr,List.length_nil];omega)]
    simp only[ZB]
    rw[ze (by omega)]
    have hfl:(out++[cy]).flatten=out.flatten++cy:=by simp
    refine qml hN hp K (i+1) S1 (out++[cy]) (by omega) (by omega) e3 e4 (by simp;omega) (fun y hy=>by
     by_cases c:y=i
     ·subst c
      exact e9
     ·exact(e6 y).2 (.inl (hlo y (by omega)))) (fun c hc=>by
     rcases List.mem_append.1 hc with c|c
     ·exact hm _ c
     obtain rfl:=List.mem_singleton.1 c
     exact e5) (fun y=>by rw[hfl,List.mem_append,e6 y,hcov y]) ?_ ?_
    ·rw[hfl,List.nodup_append]
     refine⟨hnd,e8,fun a ha b hb hab=>?_⟩
     subst hab
     obtain⟨s,c0,c1,c2,c3,_⟩:=e5
     obtain⟨j,hj⟩:=List.mem_iff_getElem?.1 hb
     have hjl:=(Yb.1 hj).1
     have:=c3 j hjl
     rw[hj]at this
     have:=Ye this
     subst this
     have h1:=(hcov _).2 ha
     rw[e7 _ hb]at h1
     cases h1
    rw[hfl,Yq]
    omega
  rw[if_neg (by omega)]
  have hin:i=p.length:=by omega
  have hz:cntF S=0:=by
   unfold cntF
   rw[List.countP_eq_zero]
   intro b hb
   obtain⟨j,hj⟩:=List.mem_iff_getElem?.1 hb
   have hjl:=(Yb.1 hj).1
   have:=hlo j (by omega)
   rw[hj]at this
   obtain rfl:=Ye this
   simp
  exact⟨out,rfl,by omega,hm,hnd,fun y hy=>(hcov y).1 (hlo y (by omega)),by omega⟩
theorem qfs {N:Nat} (hN:2000<N) {p:List Int} (hp:IsP p): ∃r,kr N p=some r/\r.length<=p.length/\(∀c∈r,qdJ p c)/\r.flatten.Nodup/\(∀y:Nat,y<p.length->(y:Int)∈r.flatten)/\r.flatten.length=p.length:=by
 have hfew:=hp.few
 have hmk:mk 1 (p.length:Int) false=some (List.replicate p.length false):=by
  unfold mk
  rw[if_pos (by omega)]
  simp
 obtain⟨r,g1,g2⟩:=qml hN hp N 0 (List.replicate p.length false) [] (by omega) (by omega) (by simp) (fun y hy=>by
  rw[List.getElem?_replicate]at hy
  split at hy<;>cases hy) (by simp) (fun y hy=>by omega) (fun l h=>by cases h) (fun y=>by
  rw[List.getElem?_replicate]
  constructor
  ·intro hy
   split at hy<;>cases hy
  intro hy
  simp at hy) (by simp) (by simp[cntF,List.countP_replicate])
 rw[show((0:Nat):Int)=0 from rfl]at g1
 refine⟨r,?_,g2⟩
 unfold kr
 rw[hmk,ZB,g1,ZB]
end Go.Av
end
section
namespace Go.Av
def qkz:List Nat->Nat
 |[]=>1
 |a::l=>Nat.lcm a (qkz l)
def qjY:List Nat->Nat
 |[]=>0
 |a::l=>a+qjY l
def qeH:List (Nat×Nat):=[(0,1),(1,1),(2,1),(2,2),(3,1),(3,2),(3,3),(4,1),(4,2),(4,3),(4,4),(5,1),(5,2),(5,3),(5,4),(5,5),(5,6),(6,1),(6,2),(6,3),(6,4),(6,5),(6,6),(7,1),(7,2),(7,3),(7,4),(7,5),(7,6),(7,7),(7,10),(7,12),(8,1),(8,2),(8,3),(8,4),(8,5),(8,6),(8,7),(8,8),(8,10),(8,12),(8,15),(9,1),(9,2),(9,3),(9,4),(9,5),(9,6),(9,7),(9,8),(9,9),(9,10),(9,12),(9,14),(9,15),(9,20),(10,1),(10,2),(10,3),(10,4),(10,5),(10,6),(10,7),(10,8),(10,9),(10,10),(10,12),(10,14),(10,15),(10,20),(10,21),(10,30)]
theorem qiU: ∀x∈qeH,∀a:Fin 11,1<=a.val->x.1+a.val<=10->(a.val+x.1,Nat.lcm a.val x.2)∈qeH:=by decide+kernel
theorem qjL: ∀x∈qeH,x.2<=60:=by decide+kernel
theorem qge: ∀l:List Nat,(∀a∈l,1<=a)->qjY l<=10->(qjY l,qkz l)∈qeH
 |[],_,_=>by decide+kernel
 |a::l,h,hs=>by
  have hs':a+qjY l<=10:=hs
  have ih:=qge l (fun b hb=>h b (List.mem_cons_of_mem _ hb)) (by omega)
  exact qiU _ ih ⟨a,by omega⟩ (h a (List.mem_cons_self ..)) (by show qjY l+a<=10;omega)
theorem qhp: ∀(l:List Nat) (a:Nat),a∈l->a∣qkz l
 |b::l,a,h=>by
  rcases List.mem_cons.1 h with e|e
  ·rw[e]
   exact Nat.dvd_lcm_left _ _
  exact Nat.dvd_trans (qhp l a e) (Nat.dvd_lcm_right _ _)
theorem qh4: ∀l:List Nat,(∀a∈l,1<=a)->0<qkz l
 |[],_=>by decide
 |a::l,h=>Nat.lcm_pos (h a (List.mem_cons_self ..)) (qh4 l (fun b hb=>h b (List.mem_cons_of_mem _ hb)))
theorem qhd: ∀ls:List (List Int),qjY (ls.map List.length)=ls.flatten.length
 |[]=>rfl
 |a::l=>by
  rw[List.map_cons,List.flatten_cons,Yq,<-qhd l]
  rfl
theorem qce {α β:Type} {f:α->β}: ∀l:List α,(∀a∈l,∀b∈l,f a=f b->a=b)->l.Nodup->(l.map f).Nodup
 |[],_,_=>by simp
 |a::l,h,hn=>by
  rw[List.nodup_cons]at hn
  rw[List.map_cons,List.nodup_cons]
  refine⟨fun hm=>?_,qce l (fun x hx y hy=>h x (List.mem_cons_of_mem _ hx) y (List.mem_cons_of_mem _ hy)) hn.2⟩
  obtain⟨b,hb,e⟩:=List.mem_map.1 hm
  have:=h b (List.mem_cons_of_mem _ hb) a (List.mem_cons_self ..) e
  subst this
  exact hn.1 hb
theorem qdu {b:List Int} (hb:IsP b): ∀y,y<b.length-> ∃x,x<b.length/\nxP b x=y:=by
 obtain⟨r,_,_,h2,h3,h4,_⟩:=qfs (N:=2001) (by decide) hb
 intro y hy
 obtain⟨c,c1,c2⟩:=List.mem_flatten.1 (h4 y hy)
 obtain⟨s,d0,d1,d2,d3,d4,d5⟩:=h2 c c1
 obtain⟨j,hj⟩:=List.mem_iff_getElem?.1 c2
 have hjl:=(Yb.1 hj).1
 have e:=d3 j hjl
 rw[hj]at e
 have e:=Ye e
 have e:y=itP b s j:=by omega
 subst e
 by_cases z:j=0
 ·subst z
  refine⟨itP b s (c.length-1),qaU hb d2 _,?_⟩
  have:itP b s (c.length-1+1)=s:=by rw[show c.length-1+1=c.length by omega,d4]
  exact this
 refine⟨itP b s (j-1),qaU hb d2 _,?_⟩
 show itP b s (j-1+1)=itP b s j
 rw[show j-1+1=j by omega]
def qhl (p:List Int) (L x:Nat):Bool:=decide (itP p x L=x)&&(List.range L).all fun j=>decide (j=0)||!decide (itP p x j=x)
theorem qfO {p:List Int} {L x:Nat}:qhl p L x=true↔itP p x L=x/\ ∀j,0<j->j<L->itP p x j≠x:=by
 unfold qhl
 rw[Bool.and_eq_true,decide_eq_true_iff,Yp]
 constructor
 ·rintro⟨h1,h2⟩
  refine⟨h1,fun j j0 hj=>?_⟩
  have:=h2 j (List.mem_range.2 hj)
  rw[Bool.or_eq_true,decide_eq_true_iff,Bool.not_eq_true',decide_eq_false_iff_not]at this
  rcases this with h|h
  ·omega
  exact h
 rintro⟨h1,h2⟩
 refine⟨h1,fun j hj=>?_⟩
 rw[Bool.or_eq_true,decide_eq_true_iff,Bool.not_eq_true',decide_eq_false_iff_not]
 by_cases z:j=0
 ·exact .inl z
 exact .inr (h2 j (by omega) (List.mem_range.1 hj))
theorem qdQ {p:List Int} (hp:IsP p) {s:Nat} (hs:s<p.length) (j m:Nat):itP p (itP p s j) m=itP p s j↔itP p s m=s:=by
 rw[<-qao,Nat.add_comm,qao]
 exact⟨fun h=>qi0 hp (qaU hp hs m) hs j h,fun h=>by rw[h]⟩
theorem qmR {p c:List Int} (hp:IsP p) {L:Nat} (hL:0<L) (hc:qdJ p c): ∀z∈c,qhl p L z.toNat=decide (c.length=L):=by
 obtain⟨s,c0,c1,c2,c3,c4,c5⟩:=hc
 intro z hz
 obtain⟨j,hj⟩:=List.mem_iff_getElem?.1 hz
 have hjl:=(Yb.1 hj).1
 have e:=c3 j hjl
 rw[hj]at e
 have e:=Ye e
 subst e
 rw[Int.toNat_natCast,Bool.eq_iff_iff,qfO,decide_eq_true_iff]
 constructor
 ·rintro⟨h1,h2⟩
  rw[qdQ hp c2]at h1
  rcases Nat.lt_trichotomy L c.length with g|g|g
  ·exact absurd h1 (c5 L hL g)
  ·exact g.symm
  exact absurd ((qdQ hp c2 j c.length).2 c4) (h2 c.length c0 g)
 intro h
 subst h
 refine⟨(qdQ hp c2 j _).2 c4,fun i i0 hi h=>c5 i i0 hi ((qdQ hp c2 j i).1 h)⟩
theorem qdd {p:List Int} (hp:IsP p) {L:Nat} (hL:0<L): ∀ls:List (List Int),(∀c∈ls,qdJ p c)->ls.flatten.countP (fun z=>qhl p L z.toNat)=L*(ls.map List.length).count L
 |[],_=>by simp
 |c::ls,h=>by
  have hc:=qmR hp hL (h c (List.mem_cons_self ..))
  rw[List.flatten_cons,List.countP_append,qdd hp hL ls (fun d hd=>h d (List.mem_cons_of_mem _ hd)),List.map_cons,List.count_cons]
  by_cases g:c.length=L
  ·have:c.countP (fun z=>qhl p L z.toNat)=c.length:=List.countP_eq_length.2 (fun z hz=>by rw[hc z hz];simp[g])
   rw[this,g,if_pos (by simp),Nat.mul_add,Nat.mul_one]
   omega
  have:c.countP (fun z=>qhl p L z.toNat)=0:=List.countP_eq_zero.2 (fun z hz=>by rw[hc z hz];simp[g])
  rw[this,if_neg (by simpa using g),Nat.add_zero,Nat.zero_add]
theorem qgs {p:List Int} {r:List (List Int)} (hc: ∀c∈r,qdJ p c) (hp:IsP p) (hn:r.flatten.Nodup) (ha: ∀y:Nat,y<p.length->(y:Int)∈r.flatten):r.flatten.Perm ((List.range p.length).map fun k:Nat=>(k:Int)):=by
 refine(List.perm_ext_iff_of_nodup hn ?_).2 fun z=>?_
 ·exact qce _ (fun a _ b _ h=>by omega) List.nodup_range
 constructor
 ·intro hz
  obtain⟨c,h1,h2⟩:=List.mem_flatten.1 hz
  obtain⟨s,c0,c1,c2,c3,c4,c5⟩:=hc c h1
  obtain⟨j,hj⟩:=List.mem_iff_getElem?.1 h2
  have hjl:=(Yb.1 hj).1
  have e:=c3 j hjl
  rw[hj]at e
  have e:=Ye e
  subst e
  exact List.mem_map.2 ⟨_,List.mem_range.2 (qaU hp c2 j),rfl⟩
 intro hz
 obtain⟨k,hk,rfl⟩:=List.mem_map.1 hz
 exact ha k (List.mem_range.1 hk)
theorem qcI {p q b:List Int} (hr: ∀x,x<p.length->nxP q (nxP b x)=nxP b (nxP p x)) (hp:IsP p) {x:Nat} (hx:x<p.length): ∀m,itP q (nxP b x) m=nxP b (itP p x m)
 |0=>rfl
 |m+1=>by
  show nxP q (itP q (nxP b x) m)=nxP b (nxP p (itP p x m))
  rw[qcI hr hp hx m,hr _ (qaU hp hx m)]
theorem qgO {p q b:List Int} (hp:IsP p) (hq:IsP q) (hb:IsP b) (hl:b.length=p.length) (hl2:q.length=p.length) (hr: ∀x,x<p.length->nxP q (nxP b x)=nxP b (nxP p x)) {r r':List (List Int)}
 (h1: ∀c∈r,qdJ p c) (h2:r.flatten.Nodup) (h3: ∀y:Nat,y<p.length->(y:Int)∈r.flatten) (k1: ∀c∈r',qdJ q c) (k2:r'.flatten.Nodup) (k3: ∀y:Nat,y<q.length->(y:Int)∈r'.flatten):(r.map List.length).Perm (r'.map List.length):=by
 rw[List.perm_iff_count]
 intro L
 by_cases hL:L=0
 ·subst hL
  rw[List.count_eq_zero.2 (fun h=>by
   obtain⟨c,c1,c2⟩:=List.mem_map.1 h
   obtain⟨s,c0,_⟩:=h1 c c1
   omega),List.count_eq_zero.2 (fun h=>by
   obtain⟨c,c1,c2⟩:=List.mem_map.1 h
   obtain⟨s,c0,_⟩:=k1 c c1
   omega)]
 have hL:0<L:=by omega
 have e1:=qdd hp hL r h1
 have e2:=qdd hq hL r' k1
 rw[(qgs h1 hp h2 h3).countP_eq,List.countP_map]at e1
 rw[(qgs k1 hq k2 k3).countP_eq,List.countP_map,hl2]at e2
 have ep:((List.range p.length).map fun x=>nxP b x).Perm (List.range p.length):=by
  refine(List.perm_ext_iff_of_nodup ?_ List.nodup_range).2 fun z=>?_
  ·exact qce _ (fun x hx y hy h=>qbJ hb (by rw[hl];exact List.mem_range.1 hx) (by rw[hl];exact List.mem_range.1 hy) h) List.nodup_range
  rw[List.mem_map,List.mem_range]
  constructor
  ·rintro⟨x,hx,rfl⟩
   have:=(xw hb (show x<b.length by rw[hl];exact List.mem_range.1 hx)).2
   omega
  intro hz
  obtain⟨x,hx,e⟩:=qdu hb z (by omega)
  exact⟨x,List.mem_range.2 (by omega),e⟩
 rw[<-ep.countP_eq,List.countP_map]at e2
 have e3:(List.range p.length).countP (((fun z:Int=>qhl q L z.toNat)∘fun k:Nat=>(k:Int))∘fun x=>nxP b x)=(List.range p.length).countP ((fun z:Int=>qhl p L z.toNat)∘fun k:Nat=>(k:Int)):=by
  refine List.countP_congr fun x hx=>?_
  have hx:=List.mem_range.1 hx
  simp only[Function.comp,Int.toNat_natCast]
  rw[qfO,qfO,qcI hr hp hx L]
  have inj: ∀m,nxP b (itP p x m)=nxP b x↔itP p x m=x:=fun m=>⟨fun h=>qbJ hb (by rw[hl];exact qaU hp hx m) (by rw[hl];exact hx) h,fun h=>by rw[h]⟩
  constructor
  ·rintro⟨a,c⟩
   exact⟨(inj L).1 a,fun j j0 hj h=>c j j0 hj (by rw[qcI hr hp hx j];exact(inj j).2 h)⟩
  rintro⟨a,c⟩
  exact⟨(inj L).2 a,fun j j0 hj h=>c j j0 hj (by rw[qcI hr hp hx j]at h;exact(inj j).1 h)⟩
 rw[e3,e1]at e2
 exact Nat.eq_of_mul_eq_mul_left hL e2
end Go.Av
end
section
namespace Go.Av
theorem qlA {p:List Int} {ls:List (List Int)} {P:Nat} (hc: ∀c∈ls,qdJ p c) (hcov: ∀y:Nat,y<p.length-> ∃c∈ls,(y:Int)∈c) (hd: ∀c∈ls,c.length∣P) (hm: ∀m,(∀c∈ls,c.length∣m)->P∣m) (m:Nat):(∀t,t<p.length->itP p t m=t)↔P∣m:=by
 constructor
 ·intro h
  refine hm m (fun c hcm=>?_)
  obtain⟨s,c0,c1,c2,c3,c4,c5⟩:=hc c hcm
  have h1:=h s c2
  rw[qgQ c4]at h1
  have h2:m%c.length<c.length:=Nat.mod_lt _ c0
  apply Nat.dvd_of_mod_eq_zero
  by_cases z:m%c.length=0
  ·exact z
  exact absurd h1 (c5 _ (by omega) h2)
 intro hP t ht
 obtain⟨c,k1,k2⟩:=hcov t ht
 obtain⟨s,c0,c1,c2,c3,c4,c5⟩:=hc c k1
 obtain⟨j,hj⟩:=List.mem_iff_getElem?.1 k2
 have hjl:=(Yb.1 hj).1
 have e:=c3 j hjl
 rw[hj]at e
 have et:t=itP p s j:=by
  have:=Ye e
  omega
 have hL:itP p t c.length=t:=by
  rw[et,<-qao,Nat.add_comm,qao,c4]
 obtain⟨z,hz⟩:=Nat.dvd_trans (hd c k1) hP
 rw[hz]
 exact qgB hL z
theorem qjH {N:Nat} (hN:600000<N) {p:List Int} (hp:IsP p) (hl:p.length<=10): ∃(ls:List (List Int)) (P:Nat),kr N p=some ls/\ls.length<=p.length/\(∀c∈ls,qdJ p c)/\ls.flatten.Nodup/\(∀y:Nat,y<p.length->(y:Int)∈ls.flatten)/\yE N p=some (T (((P:Nat):Int):Rat),0)/\1<=P/\P<=60/\(∀c∈ls,c.length∣P)/\(∀m,(∀t,t<p.length->itP p t m=t)↔P∣m)/\Sml (((P:Nat):Int):Rat) 600:=by
 obtain⟨ls,g1,g2,g3,g4,g5,g6⟩:=qfs (N:=N) (by omega) hp
 have hcl: ∀l∈ls,0<l.length/\l.length<=256:=fun l h=>by
  obtain⟨s,b0,b1,_⟩:=g3 l h
  omega
 obtain⟨f1,e1,i1⟩:=F_eq (n:=1) (by omega) (by omega)
 obtain⟨P,g,r1,r2,r3,⟨m0,r4,r5⟩,r6,r7,r8⟩:=qma hN (ls:=ls) (by omega) hcl N 0 1 f1 (by omega) (by omega) (by omega) (by omega) i1
 rw[show((0:Nat):Int)=0 from rfl]at r1
 have sb:Sml (((P:Nat):Int):Rat) 600:=(qeA (k:=3*(m0+1)) (by omega) r5).mono (by omega)
 have hd: ∀c∈ls,c.length∣P:=fun c hc=>by
  obtain⟨j,hj⟩:=List.mem_iff_getElem?.1 hc
  exact r7 j c (by omega) hj
 have hPm: ∀m,(∀c∈ls,c.length∣m)->P∣m:=fun m h=>r8 m (Nat.one_dvd _) (fun j l _ hj=>h l (List.mem_iff_getElem?.2 ⟨j,hj⟩))
 have hcov: ∀y:Nat,y<p.length-> ∃c∈ls,(y:Int)∈c:=fun y hy=>by
  obtain⟨c,c1,c2⟩:=List.mem_flatten.1 (g5 y hy)
  exact⟨c,c1,c2⟩
 have hlens: ∀a∈ls.map List.length,1<=a:=fun a ha=>by
  obtain⟨c,c1,c2⟩:=List.mem_map.1 ha
  have:=(hcl c c1).1
  omega
 have hP60:P<=60:=by
  have h1:=hPm (qkz (ls.map List.length)) (fun c hc=>qhp _ _ (List.mem_map.2 ⟨c,hc,rfl⟩))
  have h2:=Nat.le_of_dvd (qh4 _ hlens) h1
  have h3:=qjL _ (qge (ls.map List.length) hlens (by rw[qhd];omega))
  simp only at h3
  omega
 have hres:yB N g=some (T (((P:Nat):Int):Rat),0):=by
  rw[qkg hN r2 (qcB sb (by omega) (by omega)),qlE sb,if_neg (by simp)]
 refine⟨ls,P,g1,g2,g3,g4,g5,?_,r3,hP60,hd,qlA g3 hcov hd hPm,sb⟩
 unfold yE
 rw[(qah (by omega) hp).1,ZB,if_neg (by decide),e1,ZB,g1,ZB,r1,ZB]
 simp only
 rw[show(⟨⟨g.Num.s,g.Num.w⟩,⟨g.Den.s,g.Den.w⟩⟩:qQ)=g from rfl,hres,ZB]
theorem qgX {N:Nat} (hN:2000<N) {p:List Int} (hp:IsP p) {ls:List (List Int)} (hls:kr N p=some ls) (hl:ls.length<=p.length) (hc: ∀c∈ls,qdJ p c) (hcov: ∀y:Nat,y<p.length->(y:Int)∈ls.flatten) {k:Int} {M:Nat} (hM: ∀c∈ls,k%(c.length:Int)=((M%c.length:Nat):Int)):yh N p k=some (mkP p M,0):=by
 have hfew:=hp.few
 obtain⟨r,r1,r2,r3,r4⟩:=qnD hN hp (k:=k) (by omega) hc hM N 0 (List.replicate p.length 0) (by omega) (by omega) (by simp)
 rw[show((0:Nat):Int)=0 from rfl]at r1
 unfold yh
 rw[(qah hN hp).1,ZB,if_neg (by decide),qjy hfew,ZB,hls,ZB,r1,ZB]
 rw[qkQ (p:=p) r2 fun t ht=>by
  obtain⟨c,c1,c2⟩:=List.mem_flatten.1 (hcov t ht)
  obtain⟨j,hj⟩:=List.mem_iff_getElem?.1 c1
  exact r4 j t c (by omega) hj c2]
theorem qm5 {N:Nat} (hN:2000<N) {b:List Int} (hb:IsP b): ∃w,yO N b=some (w,0)/\IsP w/\w.length=b.length/\ ∀x,x<b.length->nxP w (nxP b x)=x:=by
 have hfew:=hb.few
 obtain⟨w,w1,w2,w3⟩:=qlZ hb N 0 (List.replicate b.length 0) (by omega) (by omega) (by simp) (fun k hk=>by omega)
 rw[show((0:Nat):Int)=0 from rfl]at w1
 refine⟨w,?_,⟨by omega,fun t ht=>?_,fun t t' v h h'=>?_⟩,w2,fun x hx=>?_⟩
 ·unfold yO
  rw[(qah hN hb).1,ZB,if_neg (by decide),qjy hfew,ZB,w1,ZB]
 ·obtain⟨s,s1,s2⟩:=qdu hb t (by omega)
  exact⟨s,by omega,by rw[<-s2];exact w3 s s1⟩
 ·have l1:=(Yb.1 h).1
  have l2:=(Yb.1 h').1
  obtain⟨s,s1,s2⟩:=qdu hb t (by omega)
  obtain⟨s',s1',s2'⟩:=qdu hb t' (by omega)
  have x1:=w3 s s1
  have x2:=w3 s' s1'
  rw[s2,h]at x1
  rw[s2',h']at x2
  have y1:=Ye x1
  have y2:=Ye x2
  have:s=s':=by omega
  subst this
  rw[<-s2,s2']
 unfold nxP
 rw[show((b[x]?).getD 0).toNat=nxP b x from rfl,w3 x hx]
 simp
theorem qg3 {N:Nat} (hN:2000<N) {a b:List Int} (ha:IsP a) (hb:IsP b) (hl:a.length=b.length): ∃c,vL N a b=some (c,0)/\IsP c/\c.length=a.length/\ ∀t,t<a.length->nxP c t=nxP b (nxP a t):=by
 have hfew:=ha.few
 have h1:=qjm (a:=a) (b:=b) (g:=fun t=>((nxP b (nxP a t):Nat):Int)) hfew (fun t ht=>⟨nxP a t,(xw ha ht).1,(xw hb (by rw[<-hl];exact(xw ha ht).2)).1⟩) N 0 (by omega) (by omega)
 rw[show(List.range 0).map (fun t:Nat=>((nxP b (nxP a t):Nat):Int))=[]from rfl,show((0:Nat):Int)=0 from rfl]at h1
 obtain⟨c,hc⟩: ∃c,c=(List.range a.length).map (fun t:Nat=>((nxP b (nxP a t):Nat):Int)):=⟨_,rfl⟩
 rw[<-hc]at h1
 have hlen:c.length=a.length:=by rw[hc];simp
 have get: ∀t,t<a.length->c[t]? =some ((nxP b (nxP a t):Nat):Int):=fun t ht=>by
  rw[hc]
  simp[List.getElem?_map,List.getElem?_range ht]
 have lt: ∀t,t<a.length->nxP b (nxP a t)<a.length:=fun t ht=>by
  have:=(xw hb (show nxP a t<b.length by rw[<-hl];exact(xw ha ht).2)).2
  omega
 refine⟨c,?_,⟨by omega,fun t ht=>⟨nxP b (nxP a t),by rw[hlen];exact lt t (by omega),get t (by omega)⟩,fun t t' v h h'=>?_⟩,hlen,fun t ht=>?_⟩
 ·have hwh:qat (!decide ((a.length:Int)=(b.length:Int))) 2=some 0:=by
   unfold qat
   rw[hl,if_neg (by simp)]
  unfold vL
  rw[(qah hN ha).1,ZB,(qah hN hb).1,ZB,hwh,ZB,qn5 hN,ZB,if_neg (by decide),h1,ZB]
 ·have l1:=(Yb.1 h).1
  have l2:=(Yb.1 h').1
  rw[hlen]at l1 l2
  rw[get t l1]at h
  rw[get t' l2]at h'
  have x1:=Ye h
  have x2:=Ye h'
  exact qbJ ha l1 l2 (qbJ hb (by rw[<-hl];exact(xw ha l1).2) (by rw[<-hl];exact(xw ha l2).2) (by omega))
 have e:nxP c t=((c[t]?).getD 0).toNat:=rfl
 rw[e,get t ht]
 exact Int.toNat_natCast _
end Go.Av
end
section
namespace Go.Av
def dL (a b:List (List Int)) (i L:Nat):Int:=((((a.take i).map List.length).count L:Nat):Int)-((((b.take i).map List.length).count L:Nat):Int)
theorem qm6 {a b:List (List Int)} {i:Nat} {x y:List Int} (hx:a[i]? =some x) (hy:b[i]? =some y) (L:Nat):dL a b (i+1) L=dL a b i L+(if x.length=L then 1 else 0)-(if y.length=L then 1 else 0):=by
 obtain⟨h1,e1⟩:=Yb.1 hx
 obtain⟨h2,e2⟩:=Yb.1 hy
 unfold dL
 rw[List.take_succ_eq_append_getElem h1,List.take_succ_eq_append_getElem h2,e1,e2,List.map_append,List.map_append,List.count_append,List.count_append,List.map_singleton,List.map_singleton,List.count_singleton,List.count_singleton]
 by_cases c:x.length=L<;>by_cases d:y.length=L<;>simp[c,d]<;>omega
theorem qmg (a b:List (List Int)) (i L:Nat): -((b.length:Nat):Int)<=dL a b i L/\dL a b i L<=((a.length:Nat):Int):=by
 have h1:((a.take i).map List.length).count L<=((a.take i).map List.length).length:=List.count_le_length
 have h2:((b.take i).map List.length).count L<=((b.take i).map List.length).length:=List.count_le_length
 rw[List.length_map,Ym]at h1 h2
 unfold dL
 omega
theorem qkT {la:Nat} (h1:1<=la) (h2:la<=10) (v:Nat->Int) (hv: ∀L,-1000<=v L/\v L<=1000):
 (if(la:Int)=0 then some (w64 (v 0+1),v 1,v 2,v 3,v 4,v 5,v 6,v 7,v 8,v 9,v 10)
 else if(la:Int)=1 then some (v 0,w64 (v 1+1),v 2,v 3,v 4,v 5,v 6,v 7,v 8,v 9,v 10)
 else if(la:Int)=2 then some (v 0,v 1,w64 (v 2+1),v 3,v 4,v 5,v 6,v 7,v 8,v 9,v 10)
 else if(la:Int)=3 then some (v 0,v 1,v 2,w64 (v 3+1),v 4,v 5,v 6,v 7,v 8,v 9,v 10)
 else if(la:Int)=4 then some (v 0,v 1,v 2,v 3,w64 (v 4+1),v 5,v 6,v 7,v 8,v 9,v 10)
 else if(la:Int)=5 then some (v 0,v 1,v 2,v 3,v 4,w64 (v 5+1),v 6,v 7,v 8,v 9,v 10)
 else if(la:Int)=6 then some (v 0,v 1,v 2,v 3,v 4,v 5,w64 (v 6+1),v 7,v 8,v 9,v 10)
 else if(la:Int)=7 then some (v 0,v 1,v 2,v 3,v 4,v 5,v 6,w64 (v 7+1),v 8,v 9,v 10)
 else if(la:Int)=8 then some (v 0,v 1,v 2,v 3,v 4,v 5,v 6,v 7,w64 (v 8+1),v 9,v 10)
 else if(la:Int)=9 then some (v 0,v 1,v 2,v 3,v 4,v 5,v 6,v 7,v 8,w64 (v 9+1),v 10)
 else if(la:Int)=10 then some (v 0,v 1,v 2,v 3,v 4,v 5,v 6,v 7,v 8,v 9,w64 (v 10+1))
 else none:Option (Int×Int×Int×Int×Int×Int×Int×Int×Int×Int×Int))=
 (let u:=fun L=>v L+(if la=L then 1 else 0);some (u 0,u 1,u 2,u 3,u 4,u 5,u 6,u 7,u 8,u 9,u 10)):=by
 have hw: ∀L,w64 (v L+1)=v L+1:=fun L=>qh (by have:=hv L;omega) (by have:=hv L;omega)
 have h:la=1\/la=2\/la=3\/la=4\/la=5\/la=6\/la=7\/la=8\/la=9\/la=10:=by omega
 rcases h with rfl|rfl|rfl|rfl|rfl|rfl|rfl|rfl|rfl|rfl<;>simp[hw]
theorem qiN {la:Nat} (h1:1<=la) (h2:la<=10) (v:Nat->Int) (hv: ∀L,-1000<=v L/\v L<=1000):
 (if(la:Int)=0 then some (w64 (v 0-1),v 1,v 2,v 3,v 4,v 5,v 6,v 7,v 8,v 9,v 10)
 else if(la:Int)=1 then some (v 0,w64 (v 1-1),v 2,v 3,v 4,v 5,v 6,v 7,v 8,v 9,v 10)
 else if(la:Int)=2 then some (v 0,v 1,w64 (v 2-1),v 3,v 4,v 5,v 6,v 7,v 8,v 9,v 10)
 else if(la:Int)=3 then some (v 0,v 1,v 2,w64 (v 3-1),v 4,v 5,v 6,v 7,v 8,v 9,v 10)
 else if(la:Int)=4 then some (v 0,v 1,v 2,v 3,w64 (v 4-1),v 5,v 6,v 7,v 8,v 9,v 10)
 else if(la:Int)=5 then some (v 0,v 1,v 2,v 3,v 4,w64 (v 5-1),v 6,v 7,v 8,v 9,v 10)
 else if(la:Int)=6 then some (v 0,v 1,v 2,v 3,v 4,v 5,w64 (v 6-1),v 7,v 8,v 9,v 10)
 else if(la:Int)=7 then some (v 0,v 1,v 2,v 3,v 4,v 5,v 6,w64 (v 7-1),v 8,v 9,v 10)
 else if(la:Int)=8 then some (v 0,v 1,v 2,v 3,v 4,v 5,v 6,v 7,w64 (v 8-1),v 9,v 10)
 else if(la:Int)=9 then some (v 0,v 1,v 2,v 3,v 4,v 5,v 6,v 7,v 8,w64 (v 9-1),v 10)
 else if(la:Int)=10 then some (v 0,v 1,v 2,v 3,v 4,v 5,v 6,v 7,v 8,v 9,w64 (v 10-1))
 else none:Option (Int×Int×Int×Int×Int×Int×Int×Int×Int×Int×Int))=
 (let u:=fun L=>v L-(if la=L then 1 else 0);some (u 0,u 1,u 2,u 3,u 4,u 5,u 6,u 7,u 8,u 9,u 10)):=by
 have hw: ∀L,w64 (v L-1)=v L-1:=fun L=>qh (by have:=hv L;omega) (by have:=hv L;omega)
 have h:la=1\/la=2\/la=3\/la=4\/la=5\/la=6\/la=7\/la=8\/la=9\/la=10:=by omega
 rcases h with rfl|rfl|rfl|rfl|rfl|rfl|rfl|rfl|rfl|rfl<;>simp[hw]
theorem ql9 {a b:List (List Int)} {P:Nat} {ea eb:Int} {f:Bool} (hl:a.length=b.length) (ha:a.length<=10) (h1: ∀c∈a,1<=c.length/\c.length<=10/\c.length∣P) (h2: ∀c∈b,1<=c.length/\c.length<=10): ∀(K i:Nat),i<=a.length->a.length<K+i->
 qG (a,ea) (b,eb) ((P:Int),f) K (dL a b i 0) (dL a b i 1) (dL a b i 10) (dL a b i 2) (dL a b i 3) (dL a b i 4) (dL a b i 5) (dL a b i 6) (dL a b i 7) (dL a b i 8) (dL a b i 9) (i:Int)=
  some (.inl (dL a b a.length 0,dL a b a.length 1,dL a b a.length 2,dL a b a.length 3,dL a b a.length 4,dL a b a.length 5,dL a b a.length 6,dL a b a.length 7,dL a b a.length 8,dL a b a.length 9,dL a b a.length 10))
 |0,i,h,hK=>by omega
 |K+1,i,h,hK=>by
  unfold qG
  simp only
  by_cases hi:i<a.length
  ·have hx:a[i]? =some a[i]:=Ya hi
   have hy:b[i]? =some b[i]:=Ya (by omega)
   obtain⟨x1,x2,x3⟩:=h1 _ (List.getElem_mem hi)
   obtain⟨y1,y2⟩:=h2 _ (List.getElem_mem (show i<b.length by omega))
   have hst:=qm6 hx hy
   have hbd:=qmg a b i
   generalize a[i]=x at*
   generalize b[i]=y at*
   have hq:xk .i64 (P:Int) (x.length:Int)=some 0:=by
    unfold xk
    rw[if_neg (by omega),Int.tmod_eq_emod_of_nonneg (by omega)]
    congr 1
    have:=Nat.mod_eq_zero_of_dvd x3
    omega
   rw[if_pos (by omega),qj,hx,qj,hy]
   simp only[ZB]
   rw[if_neg (by omega),if_neg (by omega),if_neg (by omega),if_neg (by omega),hq]
   simp only[ZB,decide_true,Bool.not_true,ZF,if_false]
   rw[qkT x1 x2 (dL a b i) (fun L=>by have:=hbd L;omega)]
   simp only[ZB]
   rw[qiN y1 y2 (fun L=>dL a b i L+(if x.length=L then 1 else 0)) (fun L=>by have:=hbd L;split<;>omega)]
   simp only[ZB]
   rw[ze (by omega)]
   simp only[<-hst]
   exact ql9 hl ha h1 h2 K (i+1) (by omega) (by omega)
  rw[if_neg (by omega)]
  have:i=a.length:=by omega
  rw[this]
end Go.Av
end
section
namespace Go.Av
theorem ql1 {N:Nat} (hN:2000<N) {p:List Int} (hp:IsP p) {ls:List (List Int)} (hls:kr N p=some ls) (hl:ls.length<=p.length) (hc: ∀c∈ls,qdJ p c) (hcov: ∀y:Nat,y<p.length->(y:Int)∈ls.flatten) {P:Nat} (hP:1<=P) (h60:P<=60) (hid: ∀m,(∀t,t<p.length->itP p t m=t)↔P∣m) (f:Bool): ∀(K m:Nat),1<=m->m<=P+1->P+1<K+m->qH N p ((P:Int),f) K (m:Int)=some (.inl ())
 |0,m,h1,h2,hK=>by omega
 |K+1,m,h1,h2,hK=>by
  have hfew:=hp.few
  unfold qH
  simp only
  by_cases c:m<=P
  ·have hpw:=qgX hN hp hls hl hc hcov (k:=(m:Int)) (M:=m) (fun c _=>(Int.natCast_emod _ _).symm)
   have hs:=qly (N:=N) (a:=mkP p m) (b:=mkP p 0) (by rw[qbb];omega) (by rw[qbb,qbb]) (by rw[qbb];omega)
   have e:decide (mkP p m=mkP p 0)=decide ((m:Int)=(P:Int)):=by
    rw[decide_eq_decide,qof]
    constructor
    ·intro h
     have:=Nat.le_of_dvd (by omega) ((hid m).1 h)
     omega
    intro h
    have:m=P:=by omega
    subst this
    exact(hid m).2 (Nat.dvd_refl _)
   rw[if_pos (by omega),hpw]
   simp only[ZB]
   rw[if_neg (by decide),qjV hN hfew]
   simp only[ZB]
   rw[hs,e]
   simp only[ZB]
   rw[if_neg (by simp),ze (by omega)]
   exact ql1 hN hp hls hl hc hcov hP h60 hid f K (m+1) (by omega) (by omega) (by omega)
  rw[if_neg (by omega)]
theorem qcx {N:Nat} (hN:600000<N) (p by_:List Int) (k:Int):jy N p by_ k=some true:=by
 have hN2:2000<N:=by omega
 unfold jy awk
 by_cases hl:(p.length:Int)>10
 ·rw[if_pos hl]
  rfl
 rw[if_neg hl]
 by_cases hl2:(by_.length:Int)=(p.length:Int)
 ·rw[if_neg (by simp[hl2])]
  obtain⟨e,c1,c2,c3⟩:=qef hN2 (p:=p) (by omega)
  rw[c2]
  simp only[ZB]
  by_cases he:e=0
  ·subst he
   have hp:=c3 rfl
   rw[if_neg (by decide)]
   obtain⟨e',d1,d2,d3⟩:=qef hN2 (p:=by_) (by omega)
   rw[d2]
   simp only[ZB]
   by_cases he':e'=0
   ·subst he'
    have hb:=d3 rfl
    have hbl:by_.length=p.length:=by omega
    rw[if_neg (by decide)]
    obtain⟨ls,P,a1,a2,a3,a4,a5,a6,a7,a8,a9,a10,a11⟩:=qjH hN hp (by omega)
    obtain⟨w,w1,w2,w3,w4⟩:=qm5 hN2 hb
    obtain⟨h,h1,h2,h3,h4⟩:=qg3 hN2 w2 hp (by omega)
    obtain⟨q,q1,q2,q3,q4⟩:=qg3 hN2 h2 hb (by omega)
    obtain⟨ls',P',b1,b2,b3,b4,b5,b6,b7,b8,b9,b10,b11⟩:=qjH hN q2 (by omega)
    have hql:q.length=p.length:=by omega
    have hr: ∀x,x<p.length->nxP q (nxP by_ x)=nxP by_ (nxP p x):=fun x hx=>by
     have hbx:=(xw hb (show x<by_.length by omega)).2
     rw[q4 _ (by omega),h4 _ (by omega),w4 x (by omega)]
    have hPP:P=P':=by
     have key: ∀m,(∀t,t<p.length->itP p t m=t)↔(∀t,t<q.length->itP q t m=t):=fun m=>by
      constructor
      ·intro g t ht
       obtain⟨x,hx,rfl⟩:=qdu hb t (by omega)
       rw[qcI hr hp (by omega) m,g x (by omega)]
      intro g x hx
      have:=g (nxP by_ x) (by have:=(xw hb (show x<by_.length by omega)).2;omega)
      rw[qcI hr hp hx m]at this
      exact qbJ hb (by have:=qaU hp hx m;omega) (by omega) this
     exact Nat.dvd_antisymm ((a10 P').1 ((key P').2 ((b10 P').2 (Nat.dvd_refl _)))) ((b10 P).1 ((key P).1 ((a10 P).2 (Nat.dvd_refl _))))
    subst hPP
    have hperm:=qgO hp q2 hb hbl hql hr a3 a4 a5 b3 b4 b5
    have hlen:ls.length=ls'.length:=by
     have:=hperm.length_eq
     rwa [List.length_map,List.length_map]at this
    have hC1:jU N p=some (ls,0):=by
     unfold jU
     rw[c1,ZB,if_neg (by decide),a1,ZB]
    have hC2:jU N q=some (ls',0):=by
     unfold jU
     rw[(qah hN2 q2).1,ZB,if_neg (by decide),b1,ZB]
    have hTo:xG N (T (((P:Nat):Int):Rat))=some ((P:Int),true):=by
     rw[<-dec_T]
     exact qlf hN (by omega)
    have hCk:xK N (T (((P:Nat):Int):Rat))=some 0:=by
     rw[qjX hN (by have:=T_len a11;omega),chk_T a11]
    have z7:(!decide (w64 (w64 (w64 (w64 (w64 (w64 ((0:Int)+0)+0)+0)+0)+0)+0)=0))=false:=by decide
    have z1:(!decide ((0:Int)=0))=false:=by decide
    have d0: ∀L,dL ls ls' 0 L=0:=fun L=>by simp[dL]
    have dn: ∀L,dL ls ls' ls.length L=0:=fun L=>by
     unfold dL
     rw[List.take_length,hlen,List.take_length,hperm.count_eq]
     omega
    have hcnt:=ql9 (ea:=0) (eb:=0) (f:=true) (P:=P) hlen (by omega) (fun c hc=>by
     obtain⟨s,x0,x1,_⟩:=a3 c hc
     exact⟨by omega,by omega,a9 c hc⟩) (fun c hc=>by
     obtain⟨s,x0,x1,_⟩:=b3 c hc
     omega) N 0 (by omega) (by omega)
    simp only[d0,dn,show((0:Nat):Int)=0 from rfl]at hcnt
    have hL1:=ql1 hN2 hp a1 a2 a3 a5 a7 a8 a10 true N 1 (by omega) (by omega) (by omega)
    rw[show((1:Nat):Int)=1 from rfl]at hL1
    have hk0:0<=k%(P:Int):=Int.emod_nonneg _ (by omega)
    have hM:(((k%(P:Int)).toNat:Nat):Int)=k%(P:Int):=by omega
    have hMd: ∀c∈ls,(((k%(P:Int)).toNat%c.length:Nat):Int)=k%(P:Int)%(c.length:Int):=fun c hc=>by rw[Int.natCast_emod,hM]
    have hdv: ∀c∈ls,(c.length:Int)∣(P:Int):=fun c hc=>Int.ofNat_dvd.2 (a9 c hc)
    have hp1:=qgX hN2 hp a1 a2 a3 a5 (k:=k) (M:=(k%(P:Int)).toNat) (fun c hc=>by rw[hMd c hc,Int.emod_emod_of_dvd _ (hdv c hc)])
    have hp2:=qgX hN2 hp a1 a2 a3 a5 (k:=k%(P:Int)) (M:=(k%(P:Int)).toNat) (fun c hc=>(hMd c hc).symm)
    have r1:xk .i64 k (P:Int)=some (k.tmod (P:Int)):=by
     unfold xk
     rw[if_neg (by omega)]
    have t1:k.tmod (P:Int)<P:=Int.tmod_lt_of_pos _ (by omega)
    have t2: -(P:Int)<k.tmod (P:Int):=Int.lt_tmod_of_pos k (by omega)
    have hw:w64 (k.tmod (P:Int)+(P:Int))=k.tmod (P:Int)+(P:Int):=qh (by omega) (by omega)
    have r2:xk .i64 (k.tmod (P:Int)+(P:Int)) (P:Int)=some (k%(P:Int)):=by
     unfold xk
     rw[if_neg (by omega),qjl (by omega)]
    have hsame:=qlv (N:=N) (a:=mkP p (k%(P:Int)).toNat) (by rw[qbb];omega) (by rw[qbb];omega)
    have n1: ¬(P:Int)<1:=by omega
    have n2: ¬(P:Int)>60:=by omega
    simp only[z1,ZB,ZF,if_false,a6,w1,h1,q1,b6,hC1,hC2,z7,beq_self_eq_true,Bool.not_true,hlen,decide_true,hTo,hCk,n1,n2,decide_false]
    rw[<-hlen]at*
    simp only[hcnt,ZB,decide_true,Bool.not_true,ZF,if_false,hL1,hp1,r1,hw,r2,hp2,show w64 ((0:Int)+0)=0 from rfl,if_true,hsame]
   rw[if_pos (by simp[he'])]
   try rfl
  rw[if_pos (by simp[he])]
  rfl
 rw[if_pos (by simp[hl2])]
 rfl
end Go.Av
end
