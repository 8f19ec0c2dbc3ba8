/-
  The program's integers, written out.
-/
import Derived.Test.YtbhnngdbhdfhiaaGreatDoorMcPa
import Derived.Test.YtbhnngdbhdfhiaaGreatDoorAvPt
noncomputable section
set_option linter.unusedVariables false
set_option linter.unusedSimpArgs false
set_option maxRecDepth 100000
section
namespace Go.Av
theorem qjE: ∀n:Nat,Lib.repeatL [48] n=List.replicate n 48
 |0=>rfl
 |n+1=>by rw[Lib.repeatL,qjE,List.replicate_succ];rfl
theorem qgx: ∀k:Nat,qcs k 0=List.replicate k 48
 |0=>rfl
 |k+1=>by
  rw[qcs,Nat.zero_div,qgx k,List.replicate_succ']
  rfl
theorem qiu: ∀(k n:Nat),n<10^(k+1)->qcs (k+1) n=List.replicate (k+1-(Lib.decDigits n).length) 48++Lib.decDigits n
 |0,n,h=>by
  have h:n<10:=by simpa using h
  rw[vT h,qcs,qcs,Nat.mod_eq_of_lt h]
  rfl
 |k+1,n,h=>by
  rw[qcs]
  by_cases c:n<10
  ·rw[vT c,Nat.div_eq_of_lt c,qgx,Nat.mod_eq_of_lt c]
   rfl
  rw[Nat.pow_succ]at h
  rw[qiu k (n/10) (by omega),qej c,Yz,Yq,List.length_singleton,show k+1+1-((Lib.decDigits (n/10)).length+1)=k+1-(Lib.decDigits (n/10)).length by omega]
theorem qdd (n:Nat):Lib.itoa (n:Int)=Lib.decDigits n:=by rw[jI (by omega),Int.natAbs_natCast]
theorem qmC {r:Nat} (h:r<1000000000000000000) (c: ¬r=0):dg W (r:Int)=[(r:Int)]:=by
 rw[qhj (by omega) (by unfold W;omega)]
theorem qlK {r:Nat} (h:r<1000000000000000000):qfu (r:Int) 10=some (Lib.decDigits r):=by
 unfold qfu
 rw[if_pos ⟨by omega,by omega,rfl⟩,qdd]
theorem qmj:(if((dg W ((0:Nat):Int)).length:Int)>0 then(idx (dg W ((0:Nat):Int)) 0).bind fun x13=>(qfu x13 10).bind fun r14=>some r14 else some [48]:Option Str)=some (Lib.decDigits 0):=by
 rw[show((0:Nat):Int)=0 from rfl,qcf,if_neg (by simp),vT (by decide)]
 rfl
theorem qnr {r:Nat} (h:r<1000000000000000000):(if((dg W (r:Int)).length:Int)>0 then(idx (dg W (r:Int)) 0).bind fun x13=>(qfu x13 10).bind fun r14=>some r14 else some [48]:Option Str)=some (Lib.decDigits r):=by
 by_cases c:r=0
 ·rw[c]
  exact qmj
 rw[qmC h c,if_pos (show((([(r:Int)]:List Int).length:Nat):Int)>0 from by rw[List.length_singleton];decide),qfy,Yj,ZB,qlK h]
 rfl
theorem p18:(10:Nat)^18=1000000000000000000:=rfl
theorem qnB {q r:Nat} (h:r<1000000000000000000): ∃t:Str,(if((dg W (q:Int)).length:Int)>0 then(qdf [48] (w64 (18-((Lib.decDigits r).length:Int)))).bind fun r18=>(cat r18 (Lib.decDigits r)).bind fun s19=>some s19 else some (Lib.decDigits r):Option Str)=some t/\0<t.length/\Lib.decDigits (1000000000000000000*q+r)=(if q=0 then[]else Lib.decDigits q)++t:=by
 have hr:r<10^18:=by rw[p18];exact h
 have lD:(Lib.decDigits r).length<=18:=(xh (by decide)).2 hr
 have lD0:=qi9 r
 by_cases c:q=0
 ·subst c
  rw[show((0:Nat):Int)=0 from rfl,qcf,if_neg (by simp),if_pos rfl,Nat.mul_zero,Nat.zero_add]
  exact⟨_,rfl,lD0,rfl⟩
 have hne:dg W (q:Int)≠[]:=fun e=>by have:=(qgf W1 (by omega)).1 e;omega
 have hlen:0<(dg W (q:Int)).length:=List.length_pos_iff.2 hne
 have et:qdf [48] (w64 (18-((Lib.decDigits r).length:Int)))=some (List.replicate (18-(Lib.decDigits r).length) 48):=by
  rw[qh (by omega) (by omega)]
  unfold qdf
  rw[if_pos ⟨by omega,by omega,by simp;omega⟩,qjE]
  congr 2
  omega
 have hp:=qiu 17 r hr
 have hl:(qcs (17+1) r).length=18:=qfY _ _
 have hs:=qfk 18 (1000000000000000000*q+r)
 rw[p18,Nat.mul_add_div (by omega),Nat.div_eq_of_lt h,Nat.add_zero,Nat.mul_add_mod,Nat.mod_eq_of_lt h]at hs
 rw[if_pos (by omega),et,ZB,qaO (by simp;omega),ZB,<-hp,if_neg c]
 exact⟨_,rfl,by omega,hs (by omega)⟩
theorem qn1 {N:Nat} (hN:600000<N) (B:Nat) (hB:B<=3900) (K:Nat): ∀(k m:Nat) (l:List Str),m<10^(18*k)->k<K->k+l.length<=100000->Fit (m:Int) B->(∀t∈l,0<t.length)->
 ∃l',zU N K l (dg W (m:Int))=some l'/\(∀t∈l',0<t.length)/\l'.length<=k+l.length/\l'.reverse.flatten=(if m=0 then[]else Lib.decDigits m)++l.reverse.flatten:=by
 induction K with
 |zero=>intro k m l _ h;omega
 |succ K ih=>
  intro k m l hm hK hl fm hp
  rw[zU]
  by_cases h0:m=0
  ·subst h0
   rw[show((0:Nat):Int)=0 from rfl,qcf,if_neg (by simp),if_pos rfl]
   exact⟨l,rfl,hp,by omega,rfl⟩
  obtain⟨j,hj⟩: ∃j,k=j+1:=⟨k-1,by
   rcases Nat.eq_zero_or_pos k with e|e
   ·subst e;simp at hm;omega
   omega⟩
  rw[hj]at hm hK hl
  have hm0:(0:Int)<=(m:Int):=by omega
  have hne:dg W (m:Int)≠[]:=fun e=>by have:=(qgf W1 hm0).1 e;omega
  have hlen:0<(dg W (m:Int)).length:=List.length_pos_iff.2 hne
  have ln:(dg W (m:Int)).length<=3900:=Nat.le_trans fm.len hB
  have cB:Can W [1000000000000000000]:=by
   have:=jb W1 (show(0:Int)<=1000000000000000000 by decide)
   rw[qhj (by decide) (by decide)]at this
   exact this
  have vB:dv W [1000000000000000000]=1000000000000000000:=by rw[zf,ky,Int.mul_zero,Int.add_zero]
  have ed:=qgA (N:=N) (by omega) (jb W1 hm0) cB (by omega) (by rw[vB];decide)
  rw[vB,jW W1 hm0]at ed
  obtain⟨q,r,hq,hr⟩: ∃q r,m=1000000000000000000*q+r/\r<1000000000000000000:=⟨m/1000000000000000000,m%1000000000000000000,by omega,by omega⟩
  have eq:(m:Int)/1000000000000000000=(q:Int):=by omega
  have er:(m:Int)%1000000000000000000=(r:Int):=by omega
  rw[eq,er]at ed
  obtain⟨t,et,t0,eD⟩:=qnB (q:=q) hr
  rw[<-hq]at eD
  rw[if_pos (by omega),ed,ZB]
  simp only
  rw[qnr hr,ZB,et,ZB,qbB (by simp;omega) (by simp;omega),ZB]
  have hk:q<10^(18*j):=by
   rw[Nat.mul_succ,Nat.pow_add,p18,Nat.mul_comm]at hm
   refine Nat.lt_of_mul_lt_mul_left (a:=1000000000000000000) ?_
   omega
  obtain⟨l',f1,f2,f3,f4⟩:=ih j q (l++[t]) hk (by omega) (by simp;omega) (qaN (by omega) fm) (fun u hu=>by
   rcases List.mem_append.1 hu with hu|hu
   ·exact hp u hu
   rw[List.mem_singleton.1 hu];exact t0)
  refine⟨l',f1,f2,by simp at f3;omega,?_⟩
  rw[f4,if_neg h0,eD,List.reverse_append,List.flatten_append,Yz]
  simp
def byN (s:Str):List Int:=s.map fun x=>(x.toNat:Int)
theorem qe6 (s:Str):(byN s).length=s.length:=by unfold byN;rw[List.length_map]
theorem qmv {l:List Str} (hp: ∀t∈l,0<t.length) (hl:l.length<=100000): ∀(K i:Nat) (o:Option (List Int)),i<=l.length->i<K->(hof o).length+(l.take i).flatten.length<=1000000000->
 ∃o',kz l K o.isSome o ((i:Int)-1)=some (o'.isSome,o')/\hof o'=hof o++byN (l.take i).reverse.flatten
 |0,i,o,_,h,_=>by omega
 |K+1,0,o,hi,h,hb=>by
  rw[kz,if_neg (by omega)]
  exact⟨o,rfl,by simp[byN]⟩
 |K+1,i+1,o,hi,h,hb=>by
  have hil:i<l.length:=by omega
  have ei:((i+1:Nat):Int)-1=(i:Int):=by omega
  have ht:l.take (i+1)=l.take i++[l[i]]:=List.take_succ_eq_append_getElem hil
  have h1:=hp l[i] (List.getElem_mem hil)
  rw[ht,List.flatten_append,Yq]at hb
  simp only[List.flatten_cons,List.flatten_nil,YQ]at hb
  have ew:bWr o.isSome o l[i]=some (hof o++byN l[i]):=by
   unfold bWr
   rw[if_pos ⟨rfl,by omega,h1⟩]
   rfl
  rw[kz,ei,if_pos (by omega),qj,Ya hil,ZB,ew,ZB,qh (by omega) (by omega)]
  obtain⟨o',f1,f2⟩:=qmv hp hl K i (some (hof o++byN l[i])) (by omega) (by omega) (by
   show(hof o++byN l[i]).length+_<=_
   rw[Yq,qe6];omega)
  refine⟨o',f1,?_⟩
  rw[f2,ht,List.reverse_append,List.flatten_append]
  show hof o++byN l[i]++_=_
  rw[Yz]
  unfold byN
  simp
theorem qlR (s:Str):(byN s).map (fun n=>UInt8.ofNat n.toNat)=s:=by
 unfold byN
 rw[List.map_map]
 conv=>rhs;rw[<-List.map_id s]
 refine List.map_congr_left fun x _=>?_
 show UInt8.ofNat ((x.toNat:Int)).toNat=x
 rw[Int.toNat_natCast,UInt8.ofNat_toNat]
theorem qnq (s:Str):(byN s).all (fun n=>decide (0<=n)&&decide (n<256))=true:=by
 unfold byN
 rw[List.all_map,Yp]
 intro x _
 have:x.toNat<256:=x.toNat_lt
 simp
 omega
theorem qhm: ∀l:List Str,l.reverse.flatten.length=l.flatten.length:=fun l=>by
 rw[List.length_flatten,List.length_flatten,List.map_reverse,List.sum_reverse]
theorem qdj {N:Nat} (hN:600000<N) {x:qx} {z:Int} (h:IsZ x z) (fz:Fit z 3900):jA N x=some (Lib.itoa z):=by
 unfold jA
 cases e:x.w.isEmpty with
 |true=>
  obtain⟨h1,h2,h3⟩:=h.emp e
  rw[if_pos rfl,h1]
  unfold qjK
  rw[if_pos ⟨h2,h3⟩,ZB]
 |false=>
  have hz:z.natAbs≠0:=by
   rcases h with⟨hw,_⟩|⟨_,_,h1,_⟩
   ·rw[hw]at e;cases e
   omega
  obtain⟨B8,hB8⟩: ∃B8:Nat,B8=8000:=⟨_,rfl⟩
  have pw:((10^(18*B8):Nat):Int)=(1000000000000000000:Int)^B8:=by
   rw[Nat.pow_mul,Int.natCast_pow]
   rfl
  have hm:z.natAbs<10^(18*B8):=by
   have h1:W^3900<=(1000000000000000000:Int)^B8:=by
    have a1:(1000000000000000000:Int)^B8=((1000000000000000000:Int)^2)^4000:=by rw[<-Int.pow_mul,hB8]
    have a2:W^4000<=((1000000000000000000:Int)^2)^4000:=(qcU (by decide) (by decide) 4000).2
    have a3:W^3900<=W^4000:=vF (by decide) (by decide)
    rw[a1]
    exact Int.le_trans a3 a2
   rw[<-pw]at h1
   unfold Fit at fz
   omega
  obtain⟨l,f1,f2,f3,f4⟩:=qn1 hN 3900 (Nat.le_refl _) N B8 z.natAbs [] hm (by omega) (by simp;omega) (by unfold Fit;rw[Int.natAbs_natCast];exact fz) (fun t ht=>by cases ht)
  rw[if_neg hz]at f4
  simp only[List.reverse_nil,List.flatten_nil,YQ,List.length_nil,Nat.add_zero]at f3 f4
  have lD:(Lib.decDigits z.natAbs).length<=18*B8:=(xh (by omega)).2 hm
  have lf:l.flatten.length<=18*B8:=by rw[<-qhm,f4];exact lD
  have lpos:=qi9 z.natAbs
  rw[if_neg (by simp),parts_eq h,ZB]
  simp only
  rw[f1,ZB]
  have el:w64 ((l.length:Int)-1)=(l.length:Int)-1:=qh (by omega) (by omega)
  have fin: ∀(o:Option (List Int)) (pre:Str),hof o=byN pre->pre.length<=10->((kz l N o.isSome o (w64 ((l.length:Int)-1))).bind fun(ok30,o31)=>(qkv ok30 o31).bind fun t38=>some t38)=some (pre++Lib.decDigits z.natAbs):=by
   intro o pre ho hpre
   obtain⟨o',g1,g2⟩:=qmv f2 (by omega) N l.length o (Nat.le_refl _) (by omega) (by rw[ho,qe6,List.take_of_length_le (Nat.le_refl _)];omega)
   rw[List.take_of_length_le (Nat.le_refl _),f4,ho]at g2
   have g3:hof o'=byN (pre++Lib.decDigits z.natAbs):=by
    rw[g2]
    unfold byN
    rw[List.map_append]
   have hs:o'.isSome=true:=by
    cases o' with
    |none=>
     have:=congrArg List.length g3
     rw[qe6,Yq]at this
     simp at this
     omega
    |some q=>rfl
   rw[el,g1,ZB]
   simp only
   unfold qkv
   rw[if_pos ⟨hs,by rw[g3,qe6,Yq];omega,by rw[g3];exact qnq _⟩,g3,qlR,ZB]
  by_cases c:z<0
  ·have eb:bWr false (none:Option (List Int)) [45]=some [45]:=rfl
   rw[decide_eq_true c,if_pos rfl,eb,ZB,ZB]
   simp only
   have:=fin (some [45]) [45] rfl (by simp)
   rw[yP c]
   exact this
  rw[decide_eq_false c,if_neg (by simp),ZB]
  simp only
  have:=fin none [] rfl (by simp)
  rw[jI c]
  exact this
end Go.Av
end
section
namespace Go.Av
theorem qnv {x:qx} {z:Int} (h:IsZ x z) (fz:Fit z 3900): ∃b:Nat,qal x=some (b:Int)/\(z.natAbs:Int)<2^b:=by
 unfold qal
 rw[parts_eq h,ZB]
 simp only
 have hz:(0:Int)<=(z.natAbs:Int):=by omega
 have cc:=jb W1 hz
 have vv:=jW W1 hz
 have ll:=fz.len
 generalize dg W (z.natAbs:Int)=w at*
 by_cases h0:w.length=0
 ·rw[if_pos (by omega)]
  rw[YL.1 h0,ky]at vv
  exact⟨0,rfl,by rw[<-vv];decide⟩
 have hk:w.length-1<w.length:=by omega
 have ax:=cc.1.at hk
 obtain⟨l,e,hl⟩:=qhJ ax.1 ax.2
 have hl0:0<=l/\l<=64:=by
  rcases hl with⟨_,h⟩|⟨h1,h2,_⟩<;>omega
 have hl2:w[w.length-1]<2^l.toNat:=by
  rcases hl with⟨h1,h2⟩|⟨_,_,_,h⟩
  ·rw[h1,h2];decide
  exact h
 rw[if_neg (by omega),qgR (by omega) (by omega),qj,Ya hk,ZB,e,ZB,qh (n:=64*((w.length-1:Nat):Int)) (by omega) (by omega),qh (by omega) (by omega)]
 refine⟨64*(w.length-1)+l.toNat,by congr 1;omega,?_⟩
 have e1:=qm W w (w.length-1) hk
 rw[List.take_of_length_le (by omega),vv]at e1
 have h1:=vV W0 (cc.1.take (w.length-1))
 rw[Ym,Nat.min_eq_left (by omega)]at h1
 have e2:(2:Int)^(64*(w.length-1)+l.toNat)=W^(w.length-1)*2^l.toNat:=by
  rw[Int.pow_add,Int.pow_mul]
  rfl
 have h2:W^(w.length-1)*(w[w.length-1]+1)<=W^(w.length-1)*2^l.toNat:=Yc (by omega) (Int.le_of_lt (pow_pos W0 _))
 rw[Int.mul_add,Int.mul_one]at h2
 rw[e2]
 omega
theorem pow8: ∀n:Nat,(8:Int)^(n+1)<((10^(n+1):Nat):Int)
 |0=>by decide
 |n+1=>by
  have ih:=pow8 n
  have a1:=pow_pos (show(0:Int)<8 by decide) (n+1)
  rw[Int.pow_succ,Nat.pow_succ,Int.natCast_mul]
  omega
theorem qn9 (n:Nat):(2:Int)^(3*n)=(8:Int)^n:=by
 rw[Int.pow_mul]
 rfl
theorem qm1 {n m:Nat} (hm:m=3*(n+1)):(2:Int)^m<((10^(n+1):Nat):Int):=by
 rw[hm,qn9]
 exact pow8 n
def lng (z:Int):Bool:=decide (600<(Lib.decDigits z.natAbs).length)
theorem qjF {N:Nat} (hN:600000<N) {x:qx} {z:Int} (h:IsZ x z) (fz:Fit z 3900):qbX N x=some (lng z):=by
 obtain⟨b,e,hb⟩:=qnv h fz
 unfold qbX
 rw[e,ZB]
 by_cases c:(b:Int)>1800
 ·rw[if_pos c,qdj hN h fz,ZB,qgo,qbF,ZB,ZB]
  congr 1
  exact decide_eq_decide.2 (by omega)
 rw[if_neg c,ZB]
 congr 1
 obtain⟨m,hm⟩: ∃m:Nat,m=3*(599+1):=⟨_,rfl⟩
 have h1:(2:Int)^b<=2^m:=vF (by decide) (by omega)
 have h2:=qm1 hm
 have h3:z.natAbs<10^(599+1):=by omega
 have:=(xh (n:=z.natAbs) (k:=599+1) (by decide)).2 h3
 unfold lng
 rw[decide_eq_false (by omega)]
def qhD (q:Rat):Bool:=lng q.num||lng q.den
theorem qmm {N:Nat} (hN:600000<N) {f:qQ} {q:Rat} (h:IsF f q) (fq:qbC q 3900):y9 N f=some (qhD q):=by
 unfold y9 qhD
 rw[qjF hN h.1 fq.1,ZB]
 cases lng q.num with
 |true=>rw[if_pos rfl,ZB,Bool.true_or]
 |false=>rw[if_neg (by simp),qjF hN h.2 fq.2,ZB,ZB,Bool.false_or]
def T (q:Rat):Str:=Lib.itoa q.num++(if q.den=1 then[]else 47::Lib.decDigits q.den)
theorem Fit.itoaLen {z:Int} (h:Fit z 3900):(Lib.itoa z).length<=200001:=by
 have h1:(Lib.decDigits z.natAbs).length<=20*10000:=by
  refine(xh (by decide)).2 ?_
  obtain⟨B,hB⟩: ∃B:Nat,B=10000:=⟨_,rfl⟩
  rw[<-hB]
  have h2:W^3900<=W^B:=vF (by decide) (by omega)
  have h3:W^B<=(100000000000000000000:Int)^B:=(qcU (by decide) (by decide) B).2
  have h4:((10^(20*B):Nat):Int)=(100000000000000000000:Int)^B:=by
   rw[Nat.pow_mul,Int.natCast_pow]
   rfl
  unfold Fit at h
  generalize W^3900=p at*
  omega
 by_cases c:z<0
 ·rw[yP c,Yr];omega
 rw[jI c];omega
theorem qm7 {N:Nat} (hN:600000<N) {f:qQ} {q:Rat} (h:IsF f q) (fq:qbC q 3900):xz N f=some (T q):=by
 unfold xz T
 rw[qiE h,ZB]
 by_cases c:q.den=1
 ·rw[decide_eq_true c,if_pos rfl,qdj hN h.1 fq.1,ZB,if_pos c,YQ]
 have l1:=Fit.itoaLen fq.1
 have l2:=Fit.itoaLen fq.2
 rw[decide_eq_false c,if_neg (by simp),qdj hN h.1 fq.1,ZB,qaO (by simp;omega),ZB,qdj hN h.2 fq.2,ZB,qaO (by simp;omega),ZB,if_neg c,qdd,Yz]
 rfl
theorem qkN {N:Nat} (hN:600000<N) {f:qQ} {q:Rat} (h:IsF f q) (fq:qbC q 3900):yO N f=some (if qhD q=true then([],4)else(T q,0)):=by
 unfold yO
 rw[qmm hN h fq,ZB]
 cases qhD q with
 |true=>rfl
 |false=>rw[if_neg (by simp),qm7 hN h fq,ZB,if_neg (by simp)]
end Go.Av
end
section
namespace Go.Av
theorem qlt {z:Int} {p n:Nat} (h:(z.natAbs:Int)<((10^p:Nat):Int)) (hp:p<=9*n):vG z n:=by
 have h1:(10:Nat)^p<=10^(9*n):=Nat.pow_le_pow_right (by omega) hp
 unfold vG
 rw[qhk]
 omega
def okF (s:Str):Bool:=decide (Dec ((bdy s).take (slA (bdy s)))/\ ¬(sgn s=true/\(bdy s).take (slA (bdy s))=[48]))
def badD (s:Str):Bool:=decide (slA (bdy s)<(bdy s).length/\ ¬(Dec ((bdy s).drop (slA (bdy s)+1))/\(bdy s).drop (slA (bdy s)+1)≠[48]/\(bdy s).drop (slA (bdy s)+1)≠[49]))
def chk (s:Str):Int:=
 if okF s=false\/badD s=true then 1
 else if 600<((bdy s).take (slA (bdy s))).length\/600<((bdy s).drop (slA (bdy s)+1)).length then 4
 else if slA (bdy s)<(bdy s).length/\Nat.gcd (jQ 0 ((bdy s).take (slA (bdy s)))) (jQ 0 ((bdy s).drop (slA (bdy s)+1)))≠1 then 1
 else 0
theorem qjt {s:Str} (h:s.all qaW=true):sgn s=false/\bdy s=s:=by
 have e:sgn s=false:=decide_eq_false fun e=>by
  have hm:(45:UInt8)∈s:=Yn e
  exact absurd (Yp.1 h _ hm) (by decide)
 exact⟨e,by unfold bdy;rw[e];rfl⟩
theorem qmq {s:Str} (h:s.all qaW=true):qi3 s=(jQ 0 s:Nat):=by
 obtain⟨h1,h2⟩:=qjt h
 unfold qi3
 rw[h1,h2]
 rfl
theorem qhh (s:Str):(bdy s).length<=s.length:=by
 unfold bdy
 split
 ·rw[YJ];omega
 exact Nat.le_refl _
end Go.Av
end
section
namespace Go.Av
theorem qoJ:dg E9 1=[1]:=qhj (by decide) (by decide)
theorem qoj {N:Nat} (hN:100<N):jX N 1=some (rI 1):=by
 obtain⟨K,rfl⟩: ∃K,N=K+1+1:=⟨N-2,by omega⟩
 have h:zI (K+1+1) [] 1=some [1]:=by
  rw[zI,if_pos (by decide),if_neg (by decide),ZB,qbB (by simp) (by simp),ZB,show w64 ((1:Int).tdiv 1000000000)=0 from rfl,zI,if_neg (by decide)]
  rfl
 unfold jX
 rw[h,ZB,decide_eq_false (by decide),qax false (w:=[1]) (Dg.cons ⟨by decide,by decide⟩ Dg.nil) (by simp) (by simp),ZB]
 rfl
theorem qkn {N:Nat} (hN:600000<N) {s:Str} (hl:s.length<=10000) (hk:slA s<s.length) (h1:(bdy (s.take (slA s))).all qaW=true) (h2:(bdy (s.drop (slA s+1))).all qaW=true):vI N s=some (rI (qi3 (s.take (slA s))),rI (qi3 (s.drop (slA s+1)))):=by
 have b1:=qhh (s.take (slA s))
 have b2:=qhh (s.drop (slA s+1))
 rw[Ym]at b1
 rw[YJ]at b2
 unfold vI
 rw[qcR (by omega) (by omega),ZB,if_neg (by omega),yI (by omega),ZB,qfW (by omega) h1 (by omega),ZB,zx (by omega),qa9 (by omega),ZB,qfW (by omega) h2 (by omega),ZB]
end Go.Av
end
section
namespace Go.Av
def tl (q:Rat):Str:=if q.den=1 then[]else 47::Lib.decDigits q.den
theorem T_eq (q:Rat):T q=Lib.itoa q.num++tl q:=rfl
theorem no47 {s:Str} (h:s.all qaW=true): ∀c∈s,c≠47:=fun c hc e=>by
 have:=Yp.1 h c hc
 rw[e]at this
 exact absurd this (by decide)
theorem qhF: ∀{s:Str},(∀c∈s,c≠47)->slA s=s.length:=fun {s} h=>(qhl s [] h).2
theorem qmD {s:Str} (h: ∀c∈s,c≠47) (q:Rat):slA (s++tl q)=s.length:=by
 unfold tl
 by_cases c:q.den=1
 ·rw[if_pos c,YQ]
  exact qhF h
 rw[if_neg c]
 exact(qhl s _ h).1
theorem qgN (z:Int): ∀c∈Lib.itoa z,c≠47:=by
 by_cases h:z<0
 ·rw[yP h]
  intro c hc
  rcases List.mem_cons.1 hc with e|e
  ·rw[e];decide
  exact no47 (qbA _) c e
 rw[jI h]
 exact no47 (qbA _)
theorem qnh {s t:Str} (h:0<s.length):sgn (s++t)=sgn s:=by
 unfold sgn
 rw[Yf h]
theorem qhB (z:Int):0<(Lib.itoa z).length:=by
 by_cases h:z<0
 ·rw[yP h];simp
 rw[jI h];exact qi9 _
theorem qnR (q:Rat):sgn (T q)=decide (q.num<0):=by rw[T_eq,qnh (qhB _),qd8]
theorem bdy_T (q:Rat):bdy (T q)=Lib.decDigits q.num.natAbs++tl q:=by
 unfold bdy
 rw[qnR,T_eq]
 by_cases h:q.num<0
 ·rw[decide_eq_true h,if_pos rfl,yP h]
  rfl
 rw[decide_eq_false h,if_neg (by simp),jI h]
end Go.Av
end
section
namespace Go.Av
def Sml (q:Rat) (k:Nat):Prop:=(Lib.decDigits q.num.natAbs).length<=k/\(Lib.decDigits q.den).length<=k
theorem qgS (z:Int):(Lib.itoa z).length<=(Lib.decDigits z.natAbs).length+1:=by
 by_cases h:z<0
 ·rw[yP h];simp
 rw[jI h];omega
theorem qfc (q:Rat) (h:q.den≠1):slA (T q)<(T q).length/\(T q).take (slA (T q))=Lib.itoa q.num/\(T q).drop (slA (T q)+1)=Lib.decDigits q.den:=by
 have e:slA (T q)=(Lib.itoa q.num).length:=qmD (qgN _) q
 have ht:T q=Lib.itoa q.num++47::Lib.decDigits q.den:=by unfold T;rw[if_neg h]
 rw[e,ht]
 refine⟨by rw[Yq,Yr];omega,?_,?_⟩
 ·rw[List.take_append_of_le_length (Nat.le_refl _),List.take_of_length_le (Nat.le_refl _)]
 rw[List.drop_append,List.drop_of_length_le (by omega),show(Lib.itoa q.num).length+1-(Lib.itoa q.num).length=1 by omega]
 rfl
theorem qe9 (q:Rat) (h:q.den=1):T q=Lib.itoa q.num/\slA (T q)=(T q).length:=by
 have ht:T q=Lib.itoa q.num:=by unfold T;rw[if_pos h,YQ]
 refine⟨ht,?_⟩
 rw[ht]
 exact qhF (qgN _)
theorem qj0 {q:Rat} {k:Nat} (h:Sml q k):(T q).length<=2*k+2:=by
 have h1:=qgS q.num
 have h2:=h.1
 have h3:=h.2
 unfold T
 rw[Yq]
 split
 ·simp;omega
 rw[Yr];omega
theorem qeD {N:Nat} (hN:600000<N) {q:Rat} (h:Sml q 4000):vI N (T q)=some (rI q.num,rI (q.den:Int)):=by
 have hl:=qj0 h
 have h1:=h.1
 have h2:=h.2
 by_cases c:q.den=1
 ·obtain⟨t1,t2⟩:=qe9 q c
  unfold vI
  rw[qcR (by omega) (by omega),ZB,t2,if_pos rfl,t1,qfW (by omega) (by rw[qbF];exact qbA _) (by rw[qbF];omega),ZB,qoj (by omega),ZB,qex,c]
  rfl
 obtain⟨t1,t2,t3⟩:=qfc q c
 have hd:=qbA q.den
 rw[qkn hN (by omega) t1 (by rw[t2,qbF];exact qbA _) (by rw[t3,(qjt hd).2];exact hd),t2,t3,qex,qmq hd,qfV]
end Go.Av
end
section
namespace Go.Av
theorem qkI {n:Nat} (h:0<n):(if((dg E9 (n:Int)).length:Int)=1 then(idx (dg E9 (n:Int)) 0).bind fun x15=>some (decide (x15=1))else some false:Option Bool)=some (decide (n=1)):=by
 have vv:=jW E1 (show(0:Int)<=(n:Int)by omega)
 by_cases h4:n=1
 ·rw[show(n:Int)=1 by omega,qoJ,if_pos (by simp),qfy,h4]
  rfl
 rw[decide_eq_false h4]
 by_cases h5:(dg E9 (n:Int)).length=1
 ·obtain⟨x,hx⟩:=List.length_eq_one_iff.1 h5
  rw[hx,zf,ky,Int.mul_zero,Int.add_zero]at vv
  have hx1:x≠1:=by omega
  rw[hx,if_pos (by simp),qfy]
  simp only[Yj,ZB,decide_eq_false hx1]
 rw[if_neg (by omega)]
theorem vG.abs {z:Int} {n:Nat} (h:vG z n):vG (z.natAbs:Int) n:=by
 unfold vG at h⊢
 rw[Int.natAbs_natCast]
 exact h
theorem vG.le {a b:Int} {n:Nat} (h:(a.natAbs:Int)<=(b.natAbs:Int)) (k:vG b n):vG a n:=Int.lt_of_le_of_lt h k
theorem vG.itoaLen {z:Int} {n:Nat} (h:vG z n) (hn:0<n):(Lib.itoa z).length<=9*n+1:=by
 have h2:z.natAbs<10^(9*n):=by
  have h:(z.natAbs:Int)<E9^n:=h
  rw[qhk]at h
  exact Int.ofNat_lt.1 h
 have h3:=(xh (show 0<9*n by omega)).2 h2
 have h4:=qgS z
 omega
theorem qj1 {N:Nat} (hN:60000<N) {x y:Int} (hx:0<=x) (hy:0<y) {B:Nat} (hB:B<=8000) (fx:vG x B):zY N (dg E9 x) (dg E9 y)=some (dg E9 (x/y),dg E9 (x%y)):=by
 have l:=fx.len
 rw[show(x.natAbs:Int)=x by omega]at l
 rw[qbY hN (jb E1 hx) (jb E1 (by omega)) (by omega) (by rw[jW E1 (by omega)];exact hy),jW E1 hx,jW E1 (by omega)]
theorem den_pos (q:Rat):0<q.den:=Nat.pos_of_ne_zero q.den_nz
theorem qhS {a b:Int} (hb:b≠0):(b.sign*a).natAbs=a.natAbs:=by rw[Int.natAbs_mul,Int.natAbs_sign_of_ne_zero hb,Nat.one_mul]
theorem qjA (a b:Int):Int.gcd (a.natAbs:Int) (b.natAbs:Int)=Int.gcd b a:=by
 rw[Int.gcd_comm]
 rfl
theorem qef {N:Nat} (hN:600000<N) {B:Nat} (hB0:0<B) (hB:B<=8000) {a b:Int} (fa:vG a B) (fb:vG b B) (hb:b≠0):vg N (rI a) (rI b)=some (T (Rat.divInt a b)):=by
 have hg:0<Int.gcd b a:=Int.gcd_pos_of_ne_zero_left _ hb
 have ea:=qhS (a:=a) hb
 have S:(if(rI b).neg=true then(yu N (rI a)).bind fun r7=>(yu N (rI b)).bind fun r8=>some (r7.neg,r7.w,r8.neg,r8.w)else some ((rI a).neg,(rI a).w,(rI b).neg,(rI b).w):Option (Bool×(List Int)×Bool×(List Int)))=some (decide (b.sign*a<0),dg E9 (a.natAbs:Int),false,dg E9 (b.natAbs:Int)):=by
  by_cases h:b<0
  ·rw[if_pos (show(rI b).neg=true from decide_eq_true h),qhv (by omega) (fa.mono (by omega)),ZB,qhv (by omega) (fb.mono (by omega)),ZB,Int.sign_eq_neg_one_of_neg h,Int.neg_mul,Int.one_mul]
   show some (decide (-a<0),dg E9 (((-a).natAbs:Nat):Int),decide (-b<0),dg E9 (((-b).natAbs:Nat):Int))=_
   rw[decide_eq_false (show¬ -b<0 by omega),Int.natAbs_neg,Int.natAbs_neg]
  rw[if_neg (show¬(rI b).neg=true from fun c=>h (of_decide_eq_true c)),Int.sign_eq_one_of_pos (by omega),Int.one_mul]
  show some (decide (a<0),dg E9 ((a.natAbs:Nat):Int),decide (b<0),dg E9 ((b.natAbs:Nat):Int))=_
  rw[decide_eq_false h]
 have en:(Rat.divInt a b).num=b.sign*a/(Int.gcd b a:Int):=Rat.num_divInt ..
 have ed:(b.natAbs:Int)/(Int.gcd b a:Int)=((Rat.divInt a b).den:Int):=by rw[Rat.den_divInt,if_neg hb,Int.natCast_ediv]
 have hd:=den_pos (Rat.divInt a b)
 have dvd:(Int.gcd b a:Int)∣b.sign*a:=Int.dvd_mul_of_dvd_right (Int.gcd_dvd_right ..)
 have fn:vG (Rat.divInt a b).num B:=by
  rw[en]
  exact vG.le (Int.le_trans (xL _ (by omega)) (by rw[ea];exact Int.le_refl _)) fa
 have fd:vG ((Rat.divInt a b).den:Int) B:=by
  rw[<-ed]
  exact vG.le (Int.le_trans (xL _ (by omega)) (Int.le_refl _)) fb.abs
 have vn:(if decide (b.sign*a<0)=true then-dv E9 (dg E9 ((a.natAbs:Int)/(Int.gcd b a:Int)))else dv E9 (dg E9 ((a.natAbs:Int)/(Int.gcd b a:Int))))=(Rat.divInt a b).num:=by
  have p0:0<=(a.natAbs:Int)/(Int.gcd b a:Int):=Int.ediv_nonneg (by omega) (by omega)
  rw[jW E1 p0,en]
  by_cases c:b.sign*a<0
  ·rw[if_pos (decide_eq_true c),show(a.natAbs:Int)= -(b.sign*a)by omega,Int.neg_ediv_of_dvd dvd,Int.neg_neg]
  rw[if_neg (fun h=>c (of_decide_eq_true h)),show(a.natAbs:Int)=b.sign*a by omega]
 unfold vg
 rw[S,ZB]
 simp only
 rw[qkw hN (by omega) (by omega) (fa.abs.mono hB) (fb.abs.mono hB),ZB,qjA,qj1 (by omega) (by omega) (by omega) hB fa.abs,ZB,qj1 (by omega) (by omega) (by omega) hB fb.abs,ZB]
 simp only
 have p0:0<=(a.natAbs:Int)/(Int.gcd b a:Int):=Int.ediv_nonneg (by omega) (by omega)
 have ln:(dg E9 ((a.natAbs:Int)/(Int.gcd b a:Int))).length<=B:=by
  have:=(vG.le (Int.le_trans (xL _ (by omega)) (Int.le_refl _)) fa.abs:vG ((a.natAbs:Int)/(Int.gcd b a:Int)) B).len
  rw[show(((a.natAbs:Int)/(Int.gcd b a:Int)).natAbs:Int)=(a.natAbs:Int)/(Int.gcd b a:Int)by omega]at this
  exact this
 have ld:(dg E9 ((Rat.divInt a b).den:Int)).length<=B:=by
  have:=fd.len
  rw[Int.natAbs_natCast]at this
  exact this
 rw[qax _ (jb E1 p0).1 (by omega) (by omega),ZB,vn,qhd (by omega) (fn.mono (by omega)),ZB,ed,qkI hd,ZB]
 have l1:=fn.itoaLen hB0
 have l2:=fd.itoaLen hB0
 unfold T
 by_cases c:(Rat.divInt a b).den=1
 ·rw[if_pos (decide_eq_true c),if_pos c,YQ]
 rw[if_neg (fun h=>c (of_decide_eq_true h)),if_neg c,qaO (by simp;omega),ZB,qax _ (jb E1 (by omega)).1 (by omega) (by omega),ZB,if_neg (by simp),jW E1 (by omega),qhd (by omega) (fd.mono (by omega)),ZB,qaO (by simp;omega),ZB,qdd,Yz]
 rfl
theorem qnM {a b:Int} (ha:0<=a) (hb:0<b):qad .i64 a b=some (a%b):=by
 unfold qad
 rw[if_neg (by omega),Int.tmod_eq_emod_of_nonneg ha]
theorem qnS {a b:Int} (hb:0<b) (h1: -4000000000000000000<=a) (h2:a<=4000000000000000000) (hd:b∣a):qbh .i64 a b=some (a/b):=by
 have:=xL a hb
 unfold qbh
 rw[if_neg (by omega),Int.tdiv_eq_ediv_of_dvd hd]
 show some (w64 _)=_
 rw[qh (by omega) (by omega)]
theorem qjD: ∀(k K:Nat) (a b:Int),0<=a->0<=b->b<2^k->2*k+2<=K->jl K a b=some (Int.gcd a b:Int)
 |k,0,a,b,_,_,_,hK=>by omega
 |k,K+1,a,b,ha,hb,hk,hK=>by
  have na:(a.natAbs:Int)=a:=by omega
  have nb:(b.natAbs:Int)=b:=by omega
  rcases(show b=0\/0<b by omega)with h0|h0
  ·rw[h0,jl,if_neg (by omega),Int.gcd_zero,na]
  match k,hk,hK with
  |0,hk,hK=>simp at hk;omega
  |k+1,hk,hK=>
   have m0:=Int.emod_nonneg a (show b≠0 by omega)
   have m1:=Int.emod_lt_of_pos a h0
   rw[jl,if_pos (by omega),qnM ha h0,ZB,qbP ha hb]
   match K,hK with
   |0,hK=>omega
   |K+1,hK=>
    rcases(show a%b=0\/0<a%b by omega)with g0|g0
    ·rw[g0,jl,if_neg (by omega),Int.gcd_zero,nb]
    have n0:=Int.emod_nonneg b (show a%b≠0 by omega)
    have n1:=Int.emod_lt_of_pos b g0
    have hhalf:b%(a%b)<2^k:=by
     have d1:=Int.mul_ediv_add_emod b (a%b)
     have d2:1<=b/(a%b):=by
      rw[Int.le_ediv_iff_mul_le g0]
      omega
     have d3:a%b*1<=a%b*(b/(a%b)):=Yc d2 (by omega)
     rw[Int.pow_succ]at hk
     omega
    rw[jl,if_pos (by omega),qnM hb g0,ZB,qbP hb m0]
    exact qjD k K (a%b) (b%(a%b)) m0 n0 hhalf (by omega)
theorem qne {N:Nat} (hN:200<N) {a b:Int} (ha:0<=a) (hb:0<=b) (h:b<9223372036854775808):qbT N a b=some (Int.gcd a b:Int):=by
 unfold qbT
 rw[qjD 63 N a b ha hb h (by omega),ZB]
theorem rabs {z:Int} (h1: -9223372036854775807<=z) (h2:z<=9223372036854775807):(if w64 (0-z)>z then w64 (0-z)else z)=(z.natAbs:Int):=by
 rw[qh (by omega) (by omega)]
 split<;>omega
theorem qnT {n:Nat} (h:n<=4000000000000000000):(Lib.decDigits n).length<=19:=(xh (by decide)).2 (by omega)
theorem qoA {N:Nat} (hN:1000<N) {a b:Int} (a1: -4000000000000000000<=a) (a2:a<=4000000000000000000) (b1: -4000000000000000000<=b) (b2:b<=4000000000000000000) (hb:b≠0):qcV N a b=some (T (Rat.divInt a b)):=by
 have hg:0<Int.gcd b a:=Int.gcd_pos_of_ne_zero_left _ hb
 have ea:=qhS (a:=a) hb
 have S:(if b<0 then some (w64 (0-a),w64 (0-b))else some (a,b):Option (Int×Int))=some (b.sign*a,(b.natAbs:Int)):=by
  by_cases h:b<0
  ·rw[if_pos h,qh (by omega) (by omega),qh (by omega) (by omega),Int.sign_eq_neg_one_of_neg h,show(-1:Int)*a=0-a by omega,show(b.natAbs:Int)=0-b by omega]
  rw[if_neg h,Int.sign_eq_one_of_pos (by omega),Int.one_mul,show(b.natAbs:Int)=b by omega]
 have en:(Rat.divInt a b).num=b.sign*a/(Int.gcd b a:Int):=Rat.num_divInt ..
 have ed:(b.natAbs:Int)/(Int.gcd b a:Int)=((Rat.divInt a b).den:Int):=by rw[Rat.den_divInt,if_neg hb,Int.natCast_ediv]
 have hd:=den_pos (Rat.divInt a b)
 have dvd:(Int.gcd b a:Int)∣b.sign*a:=Int.dvd_mul_of_dvd_right (Int.gcd_dvd_right ..)
 have dvb:(Int.gcd b a:Int)∣(b.natAbs:Int):=by
  rw[Int.dvd_natAbs]
  exact Int.gcd_dvd_left ..
 have n1:=xL (b.sign*a) (show(0:Int)<(Int.gcd b a:Int)by omega)
 have n2:=xL (b.natAbs:Int) (show(0:Int)<(Int.gcd b a:Int)by omega)
 rw[<-en,ea]at n1
 rw[ed,Int.natAbs_natCast,Int.natAbs_natCast]at n2
 unfold qcV
 rw[if_neg (show¬a< -4000000000000000000 by omega),if_neg (show¬a>4000000000000000000 by omega),if_neg (show¬b< -4000000000000000000 by omega),decide_eq_false (show¬b>4000000000000000000 by omega),ZB,if_neg (by simp),S,ZB]
 simp only
 rw[rabs (by omega) (by omega),ea,qne (by omega) (by omega) (by omega) (by omega),ZB,qjA,qnS (by omega) (by omega) (by omega) dvd,ZB,qnS (by omega) (by omega) (by omega) dvb,ZB,<-en,ed,rabs (by omega) (by omega),qfC (by omega) (by omega),qfC (by omega) (by omega)]
 generalize Rat.divInt a b=q at*
 have l1:=qnT (n:=q.num.natAbs) (by omega)
 have l2:=qnT (n:=q.den) (by omega)
 have S2:((if q.num<0 then some [45]else some []:Option Str).bind fun s17=>(some (Lib.decDigits q.num.natAbs)).bind fun r20=>(cat s17 r20).bind fun s21=>(if(q.den:Int)>1 then(cat s21 [47]).bind fun s25=>(some (Lib.decDigits q.den)).bind fun r26=>(cat s25 r26).bind fun s27=>some s27 else some s21:Option Str).bind fun s22=>some s22)=some (T q):=by
  have li:(Lib.itoa q.num).length<=20:=by have:=qgS q.num;omega
  have I:((if q.num<0 then some [45]else some []:Option Str).bind fun s17=>(some (Lib.decDigits q.num.natAbs)).bind fun r20=>(cat s17 r20).bind fun s21=>(if(q.den:Int)>1 then(cat s21 [47]).bind fun s25=>(some (Lib.decDigits q.den)).bind fun r26=>(cat s25 r26).bind fun s27=>some s27 else some s21:Option Str).bind fun s22=>some s22)=((if(q.den:Int)>1 then(cat (Lib.itoa q.num) [47]).bind fun s25=>(some (Lib.decDigits q.den)).bind fun r26=>(cat s25 r26).bind fun s27=>some s27 else some (Lib.itoa q.num):Option Str).bind fun s22=>some s22):=by
   by_cases c:q.num<0
   ·rw[if_pos c,ZB,ZB,qaO (by simp;omega),ZB,yP c]
    rfl
   rw[if_neg c,ZB,ZB,qaO (by simp;omega),ZB,jI c]
   rfl
  rw[I]
  unfold T
  by_cases c:q.den=1
  ·rw[if_neg (by omega),if_pos c,ZB,YQ]
  rw[if_pos (by omega),if_neg c,qaO (by simp;omega),ZB,ZB,qaO (by simp;omega),ZB,ZB,Yz]
  rfl
 exact S2
end Go.Av
end
section
namespace Go.Av
theorem Sml.mono {q:Rat} {m n:Nat} (h:Sml q m) (hn:m<=n):Sml q n:=⟨Nat.le_trans h.1 hn,Nat.le_trans h.2 hn⟩
theorem qgV {q:Rat} {k n:Nat} (h:Sml q k) (hk:0<k) (hn:k<=9*n):vG q.num n:=qlt (p:=k) (Int.ofNat_lt.2 ((xh hk).1 h.1)) hn
theorem qg1 {q:Rat} {k n:Nat} (h:Sml q k) (hk:0<k) (hn:k<=9*n):vG (q.den:Int) n:=qlt (p:=k) (by rw[Int.natAbs_natCast];exact Int.ofNat_lt.2 ((xh hk).1 h.2)) hn
theorem qcK {q:Rat} {k n:Nat} (h:Sml q k) (hk:0<k) (hn:k<=19*n):qbC q n:=⟨qnO (p:=k) (Int.ofNat_lt.2 ((xh hk).1 h.1)) hn,qnO (p:=k) (by rw[Int.natAbs_natCast];exact Int.ofNat_lt.2 ((xh hk).1 h.2)) hn⟩
theorem qib {a b:Int} {m n:Nat} (ha:vG a m) (hb:vG b n):vG (a*b) (m+n):=by
 unfold vG at*
 rw[Int.natAbs_mul,Int.natCast_mul,Int.pow_add]
 have h1:(a.natAbs:Int)*(b.natAbs:Int)<=(a.natAbs:Int)*E9^n:=Yc (Int.le_of_lt hb) (by omega)
 have h2:(a.natAbs:Int)*E9^n<E9^m*E9^n:=YH ha (pow_pos E0 n)
 omega
theorem qmS (s:Str):qbk s=some (if s=[48]then 0 else if sgn s=true then-1 else 1):=by
 unfold qbk
 by_cases c:s=[48]
 ·rw[if_pos (by simp[c]),if_pos c]
 rw[if_neg (by simp[c]),qha,ZB,if_neg c]
 cases sgn s<;>rfl
theorem itoa0:Lib.itoa 0=[48]:=by
 rw[jI (by decide),show(0:Int).natAbs=0 from rfl,vT (by decide)]
 rfl
theorem qkC {z:Int}:Lib.itoa z=[48]↔z=0:=by
 constructor
 ·intro h
  have h2:=qex z
  rw[h]at h2
  exact h2.symm
 intro h
 rw[h]
 exact itoa0
theorem qnn {N:Nat} (hN:100000<N) {q:Rat} {k:Nat} (h:Sml q k) (hk:k<=9000):qaG N (T q)=some (if qhD q=true then 4 else 0):=by
 have hl:=qj0 h
 have hs:=qcR (N:=N) (s:=T q) (by omega) (by omega)
 have hnum:xX N (T q)=some (Lib.itoa q.num):=by
  unfold xX
  rw[hs,ZB]
  by_cases c:q.den=1
  ·obtain⟨t1,t2⟩:=qe9 q c
   rw[yI (by omega),ZB,t2,List.take_length,t1]
  obtain⟨t1,t2,t3⟩:=qfc q c
  rw[yI (by omega),ZB,t2]
 have habs:qbO (Lib.itoa q.num)=some (Lib.decDigits q.num.natAbs):=by
  have hs:=qd8 q.num
  have hb:=qbF q.num
  unfold qbO
  rw[qmS,ZB,hs]
  unfold bdy at hb
  rw[hs]at hb
  by_cases c:q.num<0
  ·rw[if_neg (show¬Lib.itoa q.num=[48]from fun h=>by have:=qkC.1 h;omega),if_pos (decide_eq_true c),if_pos (by decide),show(1:Int)=((1:Nat):Int)from rfl,qa9 (qhB _),ZB]
   rw[if_pos (decide_eq_true c)]at hb
   rw[hb]
  rw[decide_eq_false c,if_neg (by split<;>simp),jI c]
 have hden:qbN N (T q)=some (Lib.decDigits q.den):=by
  unfold qbN
  rw[hs,ZB]
  by_cases c:q.den=1
  ·obtain⟨t1,t2⟩:=qe9 q c
   rw[if_pos (by omega),c,vT (by decide)]
   rfl
  obtain⟨t1,t2,t3⟩:=qfc q c
  rw[if_neg (by omega),zx (by omega),qa9 (by omega),ZB,t3]
 unfold qaG
 rw[hnum,ZB,habs,ZB,hden]
 unfold qhD lng
 rw[Int.natAbs_natCast]
 by_cases c:600<(Lib.decDigits q.num.natAbs).length
 ·rw[if_pos (by omega),decide_eq_true c,Bool.true_or]
  rfl
 rw[if_neg (by omega),decide_eq_false c,Bool.false_or,ZB]
 by_cases d:600<(Lib.decDigits q.den).length
 ·rw[decide_eq_true (by omega),decide_eq_true d]
  rfl
 rw[decide_eq_false (by omega),decide_eq_false d]
 rfl
theorem qfp {N:Nat} (hN:100000<N) {q:Rat} {k:Nat} (h:Sml q k) (hk:k<=9000):vE N (T q)=some (0,0,false)\/(vE N (T q)=some (q.num,(q.den:Int),true)/\q.num.natAbs<1000000000/\q.den<1000000000):=by
 have hl:=qj0 h
 have hb:=qhh (T q)
 have eb:=bdy_T q
 have es:slA (Lib.decDigits q.num.natAbs++tl q)=(Lib.decDigits q.num.natAbs).length:=qmD (no47 (qbA _)) q
 have lt:(Lib.decDigits q.num.natAbs++tl q).length=(Lib.decDigits q.num.natAbs).length+(tl q).length:=Yq
 rw[eb]at hb
 unfold vE
 by_cases c:((T q).length:Int)>20
 ·left
  rw[if_pos c]
 rw[if_neg c,qha,ZB,qmT,ZB,eb,qcR (by omega) (by omega),ZB,es,qnR]
 by_cases c1:(Lib.decDigits q.num.natAbs).length>9
 ·left
  rw[if_pos (by omega),ZB,if_pos rfl]
 rw[if_neg (by omega),qh (by omega) (by omega)]
 by_cases c2:(tl q).length>10
 ·left
  rw[decide_eq_true (by omega),ZB,if_pos rfl]
 right
 rw[decide_eq_false (by omega),ZB,if_neg (by simp),yI (by omega),ZB,List.take_left',qdY (by omega) (qbA _) (by omega),ZB,qfV]
 ·have hn:q.num.natAbs<1000000000:=(xh (show 0<9 by decide)).1 (by omega)
  have sg:(if decide (q.num<0)=true then some (w64 (0-(q.num.natAbs:Int)))else some (q.num.natAbs:Int):Option Int)=some q.num:=by
   by_cases d:q.num<0
   ·rw[if_pos (decide_eq_true d),qh (by omega) (by omega)]
    congr 1
    omega
   rw[if_neg (fun h=>d (of_decide_eq_true h))]
   congr 1
   omega
  by_cases d:q.den=1
  ·have ht:tl q=[]:=by unfold tl;rw[if_pos d]
   rw[ht]at lt
   rw[List.length_nil]at lt
   rw[ht,if_neg (by omega),ZB,sg,ZB,d]
   exact⟨rfl,hn,by decide⟩
  have ht:tl q=47::Lib.decDigits q.den:=by unfold tl;rw[if_neg d]
  rw[ht,Yr]at lt c2
  have hd:q.den<1000000000:=(xh (show 0<9 by decide)).1 (by omega)
  rw[ht,if_pos (by omega),zx (by omega),qa9 (by omega),ZB,List.drop_append,List.drop_of_length_le (by omega),show(Lib.decDigits q.num.natAbs).length+1-(Lib.decDigits q.num.natAbs).length=1 by omega,List.nil_append,List.drop_succ_cons,YR,qdY (by omega) (qbA _) (by omega),ZB,ZB,sg,ZB,qfV]
  exact⟨rfl,hn,hd⟩
 rfl
theorem qns {N:Nat} (hN:100000<N) {p q:Rat} {k:Nat} (hk:k<=9000) (hp:Sml p k) (hq:Sml q k) {Fq:(Int×Int×Bool)->(Int×Int×Bool)->Option Str} {slow:Option Str} {t:Str}
 (h1:p.num.natAbs<1000000000->p.den<1000000000->q.num.natAbs<1000000000->q.den<1000000000->Fq (p.num,(p.den:Int),true) (q.num,(q.den:Int),true)=some t) (h2:slow=some t):
 ((vE N (T p)).bind fun r1=>(vE N (T q)).bind fun r2=>(if r1.2.2=true then some r2.2.2 else some false:Option Bool).bind fun b4=>if b4=true then(Fq r1 r2).bind fun r7=>some r7 else slow)=some t:=by
 rcases qfp hN hp hk with e1|⟨e1,a1,a2⟩
 ·rcases qfp hN hq hk with e2|⟨e2,b1,b2⟩
  ·rw[e1,ZB,e2,ZB]
   exact h2
  rw[e1,ZB,e2,ZB]
  exact h2
 rcases qfp hN hq hk with e2|⟨e2,b1,b2⟩
 ·rw[e1,ZB,e2,ZB]
  exact h2
 rw[e1,ZB,e2,ZB]
 show((Fq (p.num,(p.den:Int),true) (q.num,(q.den:Int),true)).bind fun r7=>some r7)=some t
 rw[h1 a1 a2 b1 b2,ZB]
theorem mul9 {a b:Int} (ha:a.natAbs<1000000000) (hb:b.natAbs<1000000000): -1000000000000000000<=a*b/\a*b<=1000000000000000000:=by
 have h:(a*b).natAbs<=1000000000*1000000000:=by
  rw[Int.natAbs_mul]
  exact Nat.mul_le_mul (by omega) (by omega)
 omega
theorem qjN {N:Nat} (hN:600000<N) {p q:Rat} {k:Nat} (hk0:0<k) (hk:k<=4000) (hp:Sml p k) (hq:Sml q k):qa6 N (T p) (T q)=some (T (p*q)):=by
 unfold qa6
 obtain⟨n,hn⟩: ∃n:Nat,n=500:=⟨_,rfl⟩
 have p1:=qgV (n:=n) hp hk0 (by omega)
 have p2:=qg1 (n:=n) hp hk0 (by omega)
 have q1:=qgV (n:=n) hq hk0 (by omega)
 have q2:=qg1 (n:=n) hq hk0 (by omega)
 refine qns (N:=N) (by omega) (show k<=9000 by omega) hp hq (fun a1 a2 b1 b2=>?_) ?_
 ·have m1:=mul9 a1 b1
  have m3:=mul9 (show((p.den:Int)).natAbs<1000000000 by omega) (show((q.den:Int)).natAbs<1000000000 by omega)
  simp only
  rw[qh (n:=p.num*q.num) (by omega) (by omega),qh (n:=(p.den:Int)*(q.den:Int)) (by omega) (by omega),qoA (by omega) (by omega) (by omega) (by omega) (by omega) (qjc p q),<-qdG]
 rw[qeD hN (hp.mono (by omega)),ZB,qeD hN (hq.mono (by omega)),ZB]
 simp only
 rw[qhE (by omega) (p1.mono (by omega)) (q1.mono (by omega)),ZB,qhE (by omega) (p2.mono (by omega)) (q2.mono (by omega)),ZB,qef hN (B:=n+n) (by omega) (by omega) (qib p1 q1) (qib p2 q2) (qjc p q),ZB,<-qdG]
theorem qm8 {p:Rat} {k:Nat} (h:Sml p k) (h0:p≠0):Sml p⁻¹ k:=by
 have hn:p.num≠0:=fun c=>h0 (Rat.num_eq_zero.1 c)
 unfold Sml
 rw[Rat.num_inv,Rat.den_inv,if_neg hn,Int.natAbs_mul,Int.natAbs_sign_of_ne_zero hn,Nat.one_mul,Int.natAbs_natCast]
 exact⟨h.2,h.1⟩
theorem qny {N:Nat} (hN:600000<N) {p:Rat} {k:Nat} (hk0:0<k) (hk:k<=4000) (hp:Sml p k) (h0:p≠0):yj N (T p)=some (T p⁻¹):=by
 obtain⟨n,hn⟩: ∃n:Nat,n=500:=⟨_,rfl⟩
 have p1:=qgV (n:=n) hp hk0 (by omega)
 have p2:=qg1 (n:=n) hp hk0 (by omega)
 unfold yj
 rw[qeD hN (hp.mono (by omega)),ZB]
 simp only
 rw[qef hN (B:=n) (by omega) (by omega) p2 p1 (fun c=>h0 (Rat.num_eq_zero.1 c)),ZB,<-Rat.inv_def]
theorem qm6 {N:Nat} (hN:600000<N) {p q:Rat} {k:Nat} (hk0:0<k) (hk:k<=4000) (hp:Sml p k) (hq:Sml q k) (h0:q≠0):qbM N (T p) (T q)=some (T (p/q)):=by
 unfold qbM
 rw[qny hN hk0 hk hq h0,ZB,qjN hN hk0 hk hp (qm8 hq h0),ZB,<-Rat.div_def]
end Go.Av
end
section
namespace Go.Av
def res (q:Rat):Str×Int:=if qhD q=true then([],4)else(T q,0)
section ops
variable {N:Nat} (hN:600000<N)
include hN
variable {p q:Rat} (hp:Sml p 600) (hq:Sml q 600) (cp:chk (T p)=0) (cq:chk (T q)=0)
include hp hq cp cq
end ops
theorem qmY {N:Nat} {e:Int} (h:e≠0) (w:Str):xW N [] e e w=some true:=by
 unfold xW
 rw[if_neg h,ZB,if_pos (by simp[h]),if_pos (show(([]:Str)==[])=true from rfl),ZB,decide_eq_true rfl]
theorem qmV {N:Nat} (hN:100000<N) {r:Rat} {k:Nat} (h:Sml r k) (hk:k<=9000):xW N (res r).1 (res r).2 0 (T r)=some true:=by
 unfold xW res
 rw[if_pos rfl,qnn hN h hk]
 cases qhD r with
 |true=>rfl
 |false=>
  rw[if_neg (by simp),if_neg (by simp)]
  simp
end Go.Av
end
section
namespace Go.Av
end Go.Av
end
section
namespace Go.Av
end Go.Av
end
section
namespace Go.Av
open Classical
theorem qew {p q:Rat}:((if p<q then-1 else if p=q then 0 else 1:Int)>0)↔q<p:=by
 by_cases h:p<q
 ·rw[if_pos h]
  exact⟨fun c=>absurd c (by decide),fun c=>absurd c (Rat.not_lt.2 (Rat.le_of_lt h))⟩
 rw[if_neg h]
 by_cases e:p=q
 ·rw[if_pos e]
  exact⟨fun c=>absurd c (by decide),fun c=>absurd (e▸c) Rat.lt_irrefl⟩
 rw[if_neg e]
 refine⟨fun _=>?_,fun _=>by decide⟩
 exact Rat.lt_of_le_of_ne (Rat.not_lt.1 h) (Ne.symm e)
def IsL:List qQ->List Rat->Prop
 |[],[]=>True
 |f::l,q::r=>IsF f q/\IsL l r
 |_,_=>False
theorem IsL.get: ∀{l:List qQ} {r:List Rat},IsL l r->l.length=r.length/\ ∀(i:Nat) (q:Rat),r[i]? =some q-> ∃f,l[i]? =some f/\IsF f q
 |[],[],_=>⟨rfl,fun i q h=>by simp at h⟩
 |f::l,q::r,h=>by
  obtain⟨h1,h2⟩:=h
  obtain⟨a,b⟩:=IsL.get h2
  refine⟨by simp[a],fun i x hx=>?_⟩
  match i,hx with
  |0,hx=>
   simp at hx
   exact⟨f,rfl,hx▸h1⟩
  |i+1,hx=>
   rw[List.getElem?_cons_succ]at hx⊢
   exact b i x hx
 |[],_::_,h=>h.elim
 |_::_,[],h=>h.elim
end Go.Av
end
section
namespace Go.Av
theorem qmM {q:Rat}:0<q.num↔0<q:=by
 have h1:=Rat.num_nonneg (q:=q)
 have h2:=Rat.num_eq_zero (q:=q)
 constructor
 ·intro h
  exact Rat.lt_of_le_of_ne (h1.1 (by omega)) (fun e=>by have:=h2.2 e.symm;omega)
 intro h
 have h3:=h1.2 (Rat.le_of_lt h)
 have h4:q.num≠0:=fun e=>Rat.ne_of_gt h (h2.1 e)
 omega
section ops
variable {N:Nat} (hN:600000<N)
include hN
variable {p p' q q':Rat} (hp:Sml p 60) (hp':Sml p' 60) (hq:Sml q 60) (hq':Sml q' 60) (cp:chk (T p)=0) (cp':chk (T p')=0) (cq:chk (T q)=0) (cq':chk (T q')=0) (hpp:p<=p') (hqq:q<=q')
include hp hp' hq hq' cp cp' cq cq' hpp hqq
end ops
end Go.Av
end
section
namespace Go.Av
theorem tdm {n:Int}:((n.tdiv 1000000000).natAbs:Int)=(n.natAbs:Int)/1000000000/\((n.tmod 1000000000).natAbs:Int)=(n.natAbs:Int)%1000000000/\(n.tmod 1000000000<0->n<0):=by
 rcases Int.lt_or_le n 0 with h|h
 ·obtain⟨m,rfl⟩: ∃m,n= -m:=⟨-n,by omega⟩
  rw[Int.neg_tdiv,Int.neg_tmod,YF (by omega),Int.tmod_eq_emod_of_nonneg (by omega)]
  omega
 rw[YF h,Int.tmod_eq_emod_of_nonneg h]
 omega
theorem qiB: ∀(k K:Nat) (l:List Int) (n:Int),(n.natAbs:Int)<E9^k->k<=3->k<K-> -9223372036854775808<=n->n<=9223372036854775807->l.length+k<=1000-> ∃w,zI K l n=some (l++w)/\Dg E9 w/\dv E9 w=(n.natAbs:Int)/\w.length<=k
 |k,0,l,n,_,_,hK,_,_,_=>by omega
 |k,K+1,l,n,hn,hk,hK,h1,h2,hl=>by
  rw[zI]
  by_cases h0:n=0
  ·rw[if_neg (by simp[h0]),h0]
   exact⟨[],by simp,Dg.nil,rfl,by simp⟩
  match k,hn,hk,hK with
  |0,hn,hk,hK=>
   rw[Int.pow_zero]at hn
   omega
  |k+1,hn,hk,hK=>
   obtain⟨t1,t2,t3⟩:=tdm (n:=n)
   have ed:(if n.tmod 1000000000<0 then some (w64 (0-n.tmod 1000000000))else some (n.tmod 1000000000):Option Int)=some ((n.natAbs:Int)%1000000000):=by
    by_cases c:n.tmod 1000000000<0
    ·rw[if_pos c,qh (by omega) (by omega)]
     congr 1
     omega
    rw[if_neg c]
    congr 1
    omega
   have e9:E9^(k+1)=E9^k*E9:=Int.pow_succ ..
   have hq:((n.tdiv 1000000000).natAbs:Int)<E9^k:=by
    rw[t1]
    exact Int.ediv_lt_of_lt_mul (by decide) (by rw[<-e9];exact hn)
   rw[if_pos (by simp[h0]),ed,ZB,qbB (by simp;omega) (by simp;omega),ZB,qh (by omega) (by omega)]
   obtain⟨w,e,d1,d2,d3⟩:=qiB k K (l++[(n.natAbs:Int)%1000000000]) (n.tdiv 1000000000) hq (by omega) (by omega) (by omega) (by omega) (by simp;omega)
   refine⟨(n.natAbs:Int)%1000000000::w,by rw[e,Yz];rfl,Dg.cons ⟨by omega,by show _<(1000000000:Int);omega⟩ d1,?_,by simp;omega⟩
   rw[zf,d2,t1]
   show(n.natAbs:Int)%1000000000+1000000000*((n.natAbs:Int)/1000000000)=_
   omega
theorem qlP {N:Nat} (hN:100<N) {n:Int} (h1: -9223372036854775808<=n) (h2:n<=9223372036854775807):jX N n=some (rI n):=by
 obtain⟨w,e,d1,d2,d3⟩:=qiB 3 N [] n (by show _<(1000000000:Int)^3;omega) (by omega) (by omega) h1 h2 (by simp)
 unfold jX
 rw[e,ZB,List.nil_append,qax _ d1 (by omega) (by omega),ZB,d2]
 congr 2
 by_cases c:n<0
 ·rw[if_pos (decide_eq_true c)]
  omega
 rw[if_neg (fun h=>c (of_decide_eq_true h))]
 omega
theorem qmb (n:Int):T (n:Rat)=Lib.itoa n:=by
 unfold T
 rw[Rat.num_intCast,Rat.den_intCast,if_pos rfl,YQ]
theorem fitE3 {n:Int} (h1: -9223372036854775808<=n) (h2:n<=9223372036854775807):vG n 3:=by
 show(n.natAbs:Int)<(1000000000:Int)^3
 omega
theorem qiU {N:Nat} (hN:60000<N) {n:Int} (h1: -9223372036854775808<=n) (h2:n<=9223372036854775807):xA N n=some (T (n:Rat)):=by
 unfold xA
 rw[qlP (by omega) h1 h2,ZB,qhd hN ((fitE3 h1 h2).mono (by omega)),ZB,qmb]
def bst (x b y:Rat):Rat:=if(x-y).abs<(x-b).abs then y else b
def cnd (x:Rat) (i:Nat):Rat:=Rat.divInt ((x*((i/2:Nat):Rat)).floor+((i%2:Nat):Int)) ((i/2:Nat):Int)
def Fst (x b:Rat) (n:Nat):Prop:= ∃i,2<=i/\i<n/\b=cnd x i/\ ∀j,2<=j->j<n->(x-b).abs<(x-cnd x j).abs\/((x-b).abs=(x-cnd x j).abs/\i<=j)
theorem Fst.step {x b:Rat} {n:Nat} (h:Fst x b n):Fst x (bst x b (cnd x n)) (n+1):=by
 obtain⟨i,h1,h2,h3,h4⟩:=h
 unfold bst
 by_cases c:(x-cnd x n).abs<(x-b).abs
 ·rw[if_pos c]
  refine⟨n,by omega,by omega,rfl,fun j j1 j2=>?_⟩
  by_cases e:j=n
  ·exact .inr ⟨by rw[e],by omega⟩
  rcases h4 j j1 (by omega)with k|⟨k,_⟩
  ·exact .inl (qnV c k)
  exact .inl (k▸c)
 rw[if_neg c]
 refine⟨i,h1,by omega,h3,fun j j1 j2=>?_⟩
 by_cases e:j=n
 ·rw[e]
  rcases Rat.le_iff_lt_or_eq.1 (Rat.not_lt.1 c)with k|k
  ·exact .inl k
  exact .inr ⟨k,by omega⟩
 exact h4 j j1 (by omega)
end Go.Av
end
section
namespace Go.Av
theorem Num_T {N:Nat} (hN:100000<N) {q:Rat} (hl:(T q).length<=50000):xX N (T q)=some (Lib.itoa q.num):=by
 have hs:=qcR (N:=N) (s:=T q) (by omega) (by omega)
 unfold xX
 rw[hs,ZB]
 by_cases c:q.den=1
 ·obtain⟨t1,t2⟩:=qe9 q c
  rw[yI (by omega),ZB,t2,List.take_length,t1]
 obtain⟨t1,t2,t3⟩:=qfc q c
 rw[yI (by omega),ZB,t2]
theorem dec_T (n:Nat):Lib.decDigits n=T ((n:Int):Rat):=by rw[qmb,qdd]
end Go.Av
end
section
namespace Go.Av
theorem F_eq {n:Int} (h1: -9223372036854775808<=n) (h2:n<=9223372036854775807): ∃f,qgM n=some f/\IsF f (n:Rat):=by
 obtain⟨f,e,i⟩:=qhZ (Ud h1 h2)
 refine⟨f,?_,i⟩
 unfold qgM
 rw[qmR,ZB,e,ZB]
theorem qhN (r:Rat):r-(r.floor:Rat)=Rat.divInt (r.num%(r.den:Int)) (r.den:Int):=by
 have h:((r.den:Int):Rat)≠0:=by
  rw[Ne,Rat.intCast_eq_zero_iff]
  have:=r.den_pos
  omega
 have e:(r-(r.floor:Rat))*((r.den:Int):Rat)=((r.num%(r.den:Int):Int):Rat):=by
  rw[Rat.sub_eq_add_neg,Rat.add_mul,qd1,Rat.floor_def,Int.emod_def,Rat.intCast_sub,Rat.intCast_mul]
  grind
 rw[Rat.divInt_eq_div,<-e,Rat.mul_div_cancel h]
theorem qks {r:Rat} {n:Nat} (h:qbC r n):qbC (r-(r.floor:Rat)) n:=by
 rw[qhN]
 have hd:=r.den_pos
 refine qiY (by omega) ?_ h.2
 refine qaN ?_ h.2
 have:=Int.emod_nonneg r.num (show(r.den:Int)≠0 by omega)
 have:=Int.emod_lt_of_pos r.num (show(0:Int)<(r.den:Int)by omega)
 omega
theorem qjh {x:Rat} {n:Nat} (h:qbC x n):x<=((W^n:Int):Rat)/\ -((W^n:Int):Rat)<=x:=by
 have hd:=x.den_pos
 have h1:(x.num.natAbs:Int)<W^n:=h.1
 have hp:(0:Int)<=W^n:=by omega
 have hm:W^n*1<=W^n*(x.den:Int):=Yc (by omega) hp
 rw[<-Rat.intCast_neg]
 constructor
 ·rw[Rat.le_iff,Rat.num_intCast,Rat.den_intCast]
  omega
 rw[Rat.le_iff,Rat.num_intCast,Rat.den_intCast,Int.neg_mul]
 omega
theorem qlJ {x:Rat} {n m:Nat} (hx:qbC x n) {c d:Int} (h0:0<=d) (hd:d<=m) (hm:m<=1000) (h1:(c:Rat)-x*(d:Rat)<=1) (h2: -1<=(c:Rat)-x*(d:Rat)):Fit c (n+1):=by
 obtain⟨b1,b2⟩:=qjh hx
 have hd':(0:Rat)<=(d:Rat):=Rat.intCast_nonneg.2 h0
 have hW:(1:Int)<=W^n:=pow_pos (show(0:Int)<W by decide) n
 have m1:=Rat.mul_le_mul_of_nonneg_right b1 hd'
 have m2:=Rat.mul_le_mul_of_nonneg_right b2 hd'
 have u1:(c:Rat)<=((W^n*d+1:Int):Rat):=by
  rw[Rat.intCast_add,Rat.intCast_mul,show((1:Int):Rat)=1 from rfl]
  grind
 have u2:((-(W^n*d+1):Int):Rat)<=(c:Rat):=by
  rw[Rat.intCast_neg,Rat.intCast_add,Rat.intCast_mul,show((1:Int):Rat)=1 from rfl]
  grind
 rw[Rat.intCast_le_intCast]at u1 u2
 have m3:W^n*d<=W^n*1000:=Yc (by omega) (by omega)
 have e:W^(n+1)=W^n*W:=Int.pow_succ ..
 have m4:W^n*1001<W^n*W:=Int.mul_lt_mul_of_pos_left (by decide) (by omega)
 unfold Fit
 omega
structure Cvg (x:Rat) (m:Nat) (a b c d:Int) (r:Rat):Prop where
 b0:0<=b
 d0:0<=d
 bm:b<=m
 dm:d<=m
 st:(b=1/\d=0)\/(1<=d/\1<r)
 fr:qbC r 4
 za:Fit a 5
 zc:Fit c 5
 eq:x*((d:Rat)*r+(b:Rat))=(c:Rat)*r+(a:Rat)
 det:c*b-d*a=1\/c*b-d*a= -1
theorem qkG {r:Rat} (h:1<r):1<=r.floor:=by
 rw[Rat.le_floor_iff]
 exact Rat.le_of_lt h
theorem Cvg.next {x:Rat} {m:Nat} {a b c d:Int} {r:Rat} (h:Cvg x m a b c d r) (hm1:1<=m) (hm:m<=1000) (fx:qbC x 4) (hd:d*r.floor+b<=m) (hr:r≠(r.floor:Rat)):
 Cvg x m c d (c*r.floor+a) (d*r.floor+b) (r-(r.floor:Rat))⁻¹/\1<=d*r.floor+b/\b+d+1<=d+(d*r.floor+b)+(if d=0 then 1 else 0):=by
 have hpos:0<r-(r.floor:Rat):=by
  rw[<-Rat.lt_iff_sub_pos]
  exact Rat.lt_of_le_of_ne (Rat.floor_le _) (Ne.symm hr)
 have hlt:r-(r.floor:Rat)<1:=by
  have:=Rat.lt_floor_add_one r
  rw[Rat.intCast_add,show((1:Int):Rat)=1 from rfl]at this
  grind
 have hne:r-(r.floor:Rat)≠0:=Rat.ne_of_gt hpos
 have k1:1<=d*r.floor+b/\b+d+1<=d+(d*r.floor+b)+(if d=0 then 1 else 0):=by
  rcases h.st with⟨e1,e2⟩|⟨e1,e2⟩
  ·rw[e1,e2]
   simp
  have f1:=qkG e2
  have:=Yc f1 h.d0
  have:=h.b0
  rw[if_neg (by omega)]
  omega
 have hinv:=Rat.mul_inv_cancel _ hne
 have hs:(1:Rat)<(r-(r.floor:Rat))⁻¹:=by
  have p:=Rat.inv_pos.2 hpos
  have:=Rat.mul_lt_mul_of_pos_right hlt p
  rw[hinv,Rat.one_mul]at this
  exact this
 generalize hg:(r-(r.floor:Rat))⁻¹=s at*
 have er:r=(r.floor:Rat)+s⁻¹:=by
  rw[<-hg,Rat.inv_inv]
  grind
 generalize hk:r.floor=k at*
 have es:(r-(k:Rat))*s=1:=hinv
 have e2:x*(((d*k+b:Int):Rat)*s+(d:Rat))=((c*k+a:Int):Rat)*s+(c:Rat):=by
  have h1:=h.eq
  rw[Rat.intCast_add,Rat.intCast_mul,Rat.intCast_add,Rat.intCast_mul]
  have h2:x*((d:Rat)*r+(b:Rat))*s=((c:Rat)*r+(a:Rat))*s:=by rw[h1]
  have h3:r*s=1+(k:Rat)*s:=by grind
  have h4:x*((d:Rat)*(r*s)+(b:Rat)*s)=(c:Rat)*(r*s)+(a:Rat)*s:=by grind
  rw[h3]at h4
  grind
 have dt:(c*k+a)*d-(d*k+b)*c=1\/(c*k+a)*d-(d*k+b)*c= -1:=by
  have:(c*k+a)*d-(d*k+b)*c= -(c*b-d*a):=by grind
  rcases h.det with e|e
  ·right;rw[this,e]
  left;rw[this,e];rfl
 refine⟨?_,k1⟩
 have D1:(1:Rat)<=((d*k+b:Int):Rat)*s+(d:Rat):=by
  have a1:(1:Rat)<=((d*k+b:Int):Rat):=by
   have:=Rat.intCast_le_intCast.2 k1.1
   exact this
  have a2:(0:Rat)<=(d:Rat):=Rat.intCast_nonneg.2 h.d0
  have a3:=Rat.mul_le_mul_of_nonneg_right a1 (show(0:Rat)<=s from Rat.le_trans (by decide) (Rat.le_of_lt hs))
  rw[Rat.one_mul]at a3
  have:=Rat.le_of_lt hs
  grind
 have zz:(((c*k+a:Int):Rat)-x*((d*k+b:Int):Rat))*(((d*k+b:Int):Rat)*s+(d:Rat))=(((c*k+a)*d-(d*k+b)*c:Int):Rat):=by
  rw[Rat.intCast_sub,Rat.intCast_mul,Rat.intCast_mul]
  generalize ((c*k+a:Int):Rat)=C at*
  generalize ((d*k+b:Int):Rat)=E at*
  generalize (c:Rat)=c' at*
  generalize (d:Rat)=d' at*
  have:(C-x*E)*(E*s+d')=C*(E*s+d')-E*(x*(E*s+d')):=by grind
  rw[this,e2]
  grind
 have hz:((c*k+a:Int):Rat)-x*((d*k+b:Int):Rat)<=1/\ -1<=((c*k+a:Int):Rat)-x*((d*k+b:Int):Rat):=by
  generalize ((c*k+a:Int):Rat)-x*((d*k+b:Int):Rat)=z at*
  generalize ((d*k+b:Int):Rat)*s+(d:Rat)=D at*
  have hD0:(0:Rat)<=D:=Rat.le_trans (by decide) D1
  have hb:z*D=1\/z*D= -1:=by
   rw[zz]
   rcases dt with e|e
   ·left;rw[e];rfl
   right;rw[e];rfl
  constructor
  ·rw[<-Rat.not_lt]
   intro hc
   have:=Rat.mul_lt_mul_of_pos_right hc (show(0:Rat)<D by grind)
   rw[Rat.one_mul]at this
   grind
  rw[<-Rat.not_lt]
  intro hc
  have:=Rat.mul_lt_mul_of_pos_right hc (show(0:Rat)<D by grind)
  grind
 exact {b0:=h.d0,d0:=by omega,bm:=h.dm,dm:=hd,st:= .inr ⟨k1.1,hs⟩,fr:=by rw[<-hg];exact qhO (by rw[<-hk];exact qks h.fr) (by omega),za:=h.zc,zc:=qlJ fx (by omega) hd hm hz.1 hz.2,eq:=e2,det:=dt}
end Go.Av
end
section
namespace Go.Av
end Go.Av
end
section
namespace Go.Av
end Go.Av
end
section
namespace Go.Av
end Go.Av
end
section
namespace Go.Av
end Go.Av
end
section
namespace Go.Av
theorem T1n:T (1:Rat)=[49]:=by
 rw[show(1:Rat)=(((1:Nat):Int):Rat)from rfl,<-dec_T,vT (by decide)]
 rfl
end Go.Av
end
section
namespace Go.Av
theorem qfh {p q:Rat}:((if p<q then-1 else if p=q then 0 else 1:Int)=0)↔p=q:=by
 by_cases h:p<q
 ·rw[if_pos h]
  exact⟨fun c=>absurd c (by decide),fun c=>absurd (c▸h) Rat.lt_irrefl⟩
 rw[if_neg h]
 by_cases e:p=q
 ·rw[if_pos e]
  exact⟨fun _=>e,fun _=>rfl⟩
 rw[if_neg e]
 exact⟨fun c=>absurd c (by decide),fun c=>absurd c e⟩
end Go.Av
end
section
namespace Go.Av
theorem pick {x L M:Rat} {d f:Int} (nL:(L.den:Int)=d) (nM:(M.den:Int)=f) {c:Int}
 (hc:c=if(if(x-L).abs<(x-M).abs then-1 else if(x-L).abs=(x-M).abs then 0 else 1:Int)=0 then(if(if(d:Rat)<(f:Rat)then-1 else if(d:Rat)=(f:Rat)then 0 else 1:Int)=0 then(if L<M then-1 else if L=M then 0 else 1)else(if(d:Rat)<(f:Rat)then-1 else if(d:Rat)=(f:Rat)then 0 else 1))else(if(x-L).abs<(x-M).abs then-1 else if(x-L).abs=(x-M).abs then 0 else 1)):
 (¬c>0->le3 x L M)/\(c>0->le3 x M L):=by
 by_cases h1:(x-L).abs=(x-M).abs
 ·rw[if_pos (qfh.2 h1)]at hc
  by_cases h2:(d:Rat)=(f:Rat)
  ·rw[if_pos (qfh.2 h2)]at hc
   have h2:=Rat.intCast_inj.1 h2
   constructor
   ·intro h
    rw[hc]at h
    exact .inr ⟨h1,.inr ⟨by omega,Rat.not_lt.1 fun k=>h (qew.2 k)⟩⟩
   intro h
   rw[hc]at h
   exact .inr ⟨h1.symm,.inr ⟨by omega,Rat.le_of_lt (qew.1 h)⟩⟩
  rw[if_neg (fun k=>h2 (qfh.1 k))]at hc
  constructor
  ·intro h
   rw[hc]at h
   have h:=Rat.not_lt.1 (fun k=>h (qew.2 k))
   have h3:d≠f:=fun k=>h2 (by rw[k])
   have:=Rat.intCast_le_intCast.1 h
   exact .inr ⟨h1,.inl (by omega)⟩
  intro h
  rw[hc]at h
  have:=Rat.intCast_lt_intCast.1 (qew.1 h)
  exact .inr ⟨h1.symm,.inl (by omega)⟩
 rw[if_neg (fun k=>h1 (qfh.1 k))]at hc
 constructor
 ·intro h
  rw[hc]at h
  have h:=Rat.not_lt.1 (fun k=>h (qew.2 k))
  exact .inl (Rat.lt_of_le_of_ne h h1)
 intro h
 rw[hc]at h
 exact .inl (qew.1 h)
end Go.Av
end
section
namespace Go.Av
end Go.Av
end
section
namespace Go.Av
end Go.Av
end
section
namespace Go.Av
end Go.Av
end
section
namespace Go.Av
end Go.Av
end
section
namespace Go.Av
end Go.Av
end
section
namespace Go.Av
theorem qk2 {m:List (Int×Bool)} (k k':Int) (v:Bool):qbx (qdq m k v) k'=if k'=k then some v else qbx m k':=by
 induction m with
 |nil=>
  unfold qdq qbx
  by_cases h:k'=k
  ·simp[h]
  simp[h]
 |cons p m ih=>
  obtain⟨a,b⟩:=p
  unfold qdq
  by_cases h:(k==a)=true
  ·have e:k=a:=by simpa using h
   subst e
   rw[if_pos h]
   unfold qbx
   by_cases c:k'=k
   ·simp[c]
   have c2:(k'==k)=false:=by simpa using c
   rw[List.find?_cons_of_neg (by simp[c2]),List.find?_cons_of_neg (by simp[c2]),if_neg c]
  rw[if_neg h]
  have e:k≠a:=by simpa using h
  unfold qbx at ih⊢
  by_cases c:k'=a
  ·have c2:(k'==a)=true:=by simpa using c
   rw[List.find?_cons_of_pos (by simpa using c2),List.find?_cons_of_pos (by simpa using c2),if_neg (by rw[c];exact fun x=>e x.symm)]
  have c2:(k'==a)=false:=by simpa using c
  rw[List.find?_cons_of_neg (by simp[c2]),List.find?_cons_of_neg (by simp[c2])]
  exact ih
structure IsP (p:List Int):Prop where
 few:p.length<=256
 at_: ∀k,k<p.length-> ∃v:Nat,v<p.length/\p[k]? =some (v:Int)
 inj: ∀(k k':Nat) (v:Int),p[k]? =some v->p[k']? =some v->k=k'
theorem qlT {p:List Int} (hl:p.length<=256) {i:Nat} (hi:i<p.length) {x:Int} (hx:p[i]? =some x): ∀(K j:Nat),j<=i->i<K+j->(∀k,k<j->p[k]? ≠some x)->
 (zh p (i:Int) K (j:Int)=some (.inl ())/\ ∀k,k<i->p[k]? ≠some x)\/(zh p (i:Int) K (j:Int)=some (.inr 15)/\ ∃k,k<i/\p[k]? =some x)
 |0,j,h,hK,hn=>by omega
 |K+1,j,h,hK,hn=>by
  unfold zh
  by_cases hj:j<i
  ·have hy:p[j]? =some p[j]:=Ya (by omega)
   rw[if_pos (by omega),qj,hy,ZB,qj,hx,ZB]
   by_cases e:p[j]=x
   ·rw[if_pos e]
    exact .inr ⟨rfl,j,hj,by rw[hy,e]⟩
   rw[if_neg e,zx (by omega)]
   refine qlT hl hi hx K (j+1) (by omega) (by omega) (fun k hk=>?_)
   by_cases c:k=j
   ·subst c
    rw[hy]
    exact fun z=>e (Ye z)
   exact hn k (by omega)
  rw[if_neg (by omega)]
  exact .inl ⟨rfl,fun k hk=>hn k (by omega)⟩
theorem qj2 {N:Nat} (hN:2000<N) {p:List Int} (hl:p.length<=256): ∀(K i:Nat) (m:List (Int×Bool)),i<=p.length->p.length<K+i->(∀x,(qbx m x).getD false=true↔ ∃k,k<i/\p[k]? =some x)->
 ∃r,zA p K m (i:Int)=some r/\zO N p K (i:Int)=some r/\((r= .inl ()/\ ∀j,i<=j->j<p.length-> ∃v:Nat,v<p.length/\p[j]? =some (v:Int)/\ ∀k,k<j->p[k]? ≠some (v:Int))\/r= .inr 15)
 |0,i,m,h,hK,hm=>by omega
 |K+1,i,m,h,hK,hm=>by
  unfold zA zO
  by_cases hi:i<p.length
  ·have hx:p[i]? =some p[i]:=Ya hi
   generalize p[i]=x at hx
   rw[if_pos (by omega),if_pos (by omega),qj,hx]
   simp only[ZB]
   by_cases h1:x<0
   ·rw[if_pos h1,if_pos h1]
    exact⟨_,rfl,rfl,.inr rfl⟩
   by_cases h2:x>=(p.length:Int)
   ·rw[if_neg h1,if_pos h2,if_neg h1,decide_eq_true h2]
    exact⟨_,rfl,rfl,.inr rfl⟩
   rw[if_neg h1,if_neg h2,if_neg h1,decide_eq_false h2]
   simp only[ZB,ZF,if_false]
   rcases qlT hl hi hx N 0 (by omega) (by omega) (fun k hk=>by omega)with⟨g1,g2⟩|⟨g1,k,g2,g3⟩
   ·have hf:(qbx m x).getD false=false:=by
     cases c:(qbx m x).getD false with
     |false=>rfl
     |true=>
      obtain⟨k,k1,k2⟩:=(hm x).1 c
      exact absurd k2 (g2 k k1)
    rw[show((0:Nat):Int)=0 from rfl]at g1
    rw[hf,g1,zx (by omega)]
    simp only[ZF,if_false,ZB]
    obtain⟨r,r1,r2,r3⟩:=qj2 hN hl K (i+1) (qdq m x true) (by omega) (by omega) (fun y=>by
     rw[qk2]
     by_cases e:y=x
     ·rw[if_pos e]
      exact⟨fun _=>⟨i,by omega,by rw[hx,e]⟩,fun _=>rfl⟩
     rw[if_neg e,hm y]
     constructor
     ·rintro⟨k,k1,k2⟩
      exact⟨k,by omega,k2⟩
     rintro⟨k,k1,k2⟩
     refine⟨k,?_,k2⟩
     rcases Nat.lt_or_ge k i with c|c
     ·exact c
     have:k=i:=by omega
     subst this
     rw[hx]at k2
     exact absurd (Ye k2).symm e)
    refine⟨r,r1,r2,?_⟩
    rcases r3 with⟨r3,r4⟩|r3
    ·refine .inl ⟨r3,fun j hj hjl=>?_⟩
     by_cases c:j=i
     ·subst c
      refine⟨x.toNat,by omega,by rw[hx];congr 1;omega,fun k hk=>?_⟩
      rw[show((x.toNat:Nat):Int)=x by omega]
      exact g2 k hk
     exact r4 j (by omega) hjl
    exact .inr r3
   have ht:(qbx m x).getD false=true:=(hm x).2 ⟨k,g2,g3⟩
   rw[show((0:Nat):Int)=0 from rfl]at g1
   rw[ht,g1]
   exact⟨_,rfl,rfl,.inr rfl⟩
  rw[if_neg (by omega),if_neg (by omega)]
  exact⟨_,rfl,rfl,.inl ⟨rfl,fun j hj hjl=>by omega⟩⟩
theorem qki {N:Nat} (hN:2000<N) {p:List Int} (hl:p.length<=1000): ∃e,jd N p=some e/\yG N p=some e/\(e=0->IsP p):=by
 unfold jd yG
 by_cases h:256<p.length
 ·rw[if_pos (by omega),if_pos (by omega)]
  exact⟨5,rfl,rfl,fun c=>absurd c (by decide)⟩
 rw[if_neg (by omega),if_neg (by omega)]
 obtain⟨r,r1,r2,r3⟩:=qj2 hN (p:=p) (by omega) N 0 [] (by omega) (by omega) (fun x=>by
  constructor
  ·intro c;simp[qbx]at c
  rintro⟨k,k1,_⟩;omega)
 rw[show(0:Int)=((0:Nat):Int)from rfl,r1,r2]
 rcases r3 with⟨rfl,r4⟩|rfl
 ·refine⟨0,rfl,rfl,fun _=>⟨by omega,fun k hk=>?_,fun k k' v hk hk'=>?_⟩⟩
  ·obtain⟨v,v1,v2,_⟩:=r4 k (by omega) hk
   exact⟨v,v1,v2⟩
  have l1:k<p.length:=(Yb.1 hk).1
  have l2:k'<p.length:=(Yb.1 hk').1
  rcases Nat.lt_trichotomy k k' with c|c|c
  ·obtain⟨w,w1,w2,w3⟩:=r4 k' (by omega) l2
   rw[hk']at w2
   have:=Ye w2
   subst this
   exact absurd hk (w3 k c)
  ·exact c
  obtain⟨w,w1,w2,w3⟩:=r4 k (by omega) l1
  rw[hk]at w2
  have:=Ye w2
  subst this
  exact absurd hk' (w3 k' c)
 exact⟨15,rfl,rfl,fun c=>absurd c (by decide)⟩
def CInv (p:List Int) (from_:Nat) (S:List Bool) (at_:Nat):Prop:= ∀y:Nat,(S[y]? =some true\/y=at_)->y≠from_-> ∃z:Nat,S[z]? =some true/\p[z]? =some ((y:Nat):Int)
def qnX (p:List Int) (S:List Bool):Prop:= ∀y:Nat,S[y]? =some true-> ∃z:Nat,S[z]? =some true/\p[z]? =some ((y:Nat):Int)
def cntF (S:List Bool):Nat:=S.countP (fun b=>!b)
theorem qhT {S:List Bool} {i:Nat} (h:S[i]? =some false):cntF (S.set i true)+1=cntF S:=by
 obtain⟨hi,e⟩:=Yb.1 h
 unfold cntF
 have hp:0<S.countP (fun b=>!b):=List.countP_pos_iff.2 ⟨S[i],List.getElem_mem hi,by rw[e];rfl⟩
 rw[List.countP_set hi,e]
 simp
 omega
theorem qmO {p:List Int} (hp:IsP p) (from_:Nat): ∀(c:Nat) (S:List Bool) (l:List Int) (o:Option (List Int)) (at_ K1 K2:Nat),((o=none/\l=[])\/o=some l)->cntF S=c->c<=K1->c<K2->S.length=p.length->at_<p.length->S[at_]? =some false->CInv p from_ S at_->(S[from_]? =some true\/at_=from_)->l.length+c<=256->(∀x∈l,∃v:Nat,v<p.length/\x=(v:Int))->
 ∃(S':List Bool) (l':List Int),ku (from_:Int) p K1 S o (at_:Int)=some (S',l')/\zn p K2 S l (at_:Int)=some (S',l')/\S'.length=p.length/\qnX p S'/\0<l'.length/\l'.length<=256/\ ∀x∈l',∃v:Nat,v<p.length/\x=(v:Int)
 |0,S,l,o,at_,K1,K2,ho,hc,h1,h2,hl,ha,hf,hi,hfr,hb,hel=>by
  have:=qhT hf
  omega
 |c+1,S,l,o,at_,K1,K2,ho,hc,h1,h2,hl,ha,hf,hi,hfr,hb,hel=>by
  have hel': ∀y∈l++[(at_:Int)],∃v:Nat,v<p.length/\y=(v:Int):=fun y hy=>by
   rcases List.mem_append.1 hy with c|c
   ·exact hel y c
   exact⟨at_,ha,List.mem_singleton.1 c⟩
  obtain⟨K1,rfl⟩: ∃K,K1=K+1:=⟨K1-1,by omega⟩
  obtain⟨K2,rfl⟩: ∃K,K2=K+1:=⟨K2-1,by omega⟩
  have hcs:=qhT hf
  have hfew:=hp.few
  obtain⟨x,hx,ex⟩:=hp.at_ at_ ha
  have r2:yc S o (at_:Int)=some (S.set at_ true,l++[(at_:Int)]):=by
   unfold yc
   rw[qj,hf,ZB,jv (by omega),ZB]
   rcases ho with⟨rfl,rfl⟩|rfl
   ·rfl
   simp only
   rw[qbB (by simp only[Yr,List.length_nil];omega) (by simp only[Yr,List.length_nil];omega)]
   rfl
  have hl':(S.set at_ true).length=p.length:=by simpa using hl
  have cov: ∀y,(S.set at_ true)[y]? =some true->S[y]? =some true\/y=at_:=fun y hy=>by
   by_cases e:y=at_
   ·exact .inr e
   rw[Yw (fun h=>e h.symm)]at hy
   exact .inl hy
  have upS: ∀y,S[y]? =some true->(S.set at_ true)[y]? =some true:=fun y hy=>by
   by_cases e:y=at_
   ·subst e
    rw[List.getElem?_set_self (by omega)]
   rw[Yw (fun h=>e h.symm)]
   exact hy
  have frT:(S.set at_ true)[from_]? =some true:=by
   rcases hfr with h|h
   ·exact upS _ h
   subst h
   rw[List.getElem?_set_self (by omega)]
  unfold ku zn
  rw[r2,ZB]
  simp only
  rw[qj,ex,ZB,qj,hf,ZB,if_pos (show(!false)=true from rfl),jv (by omega),ZB,qbB (by simp only[Yr,List.length_nil];omega) (by simp only[Yr,List.length_nil];omega),ZB,ZB]
  by_cases e:x=from_
  ·subst e
   rw[if_pos rfl]
   refine⟨_,_,rfl,?_,hl',?_,by simp,by simp;omega,hel'⟩
   ·obtain⟨K2,rfl⟩: ∃K,K2=K+1:=⟨K2-1,by omega⟩
    unfold zn
    rw[qj,frT,ZB,if_neg (by decide)]
   intro y hy
   by_cases c2:y=x
   ·subst c2
    exact⟨at_,by rw[List.getElem?_set_self (by omega)],ex⟩
   obtain⟨z,z1,z2⟩:=hi y (cov y hy) c2
   exact⟨z,upS z z1,z2⟩
  rw[if_neg (by omega)]
  have hxF:(S.set at_ true)[x]? =some false:=by
   have hxl:x<(S.set at_ true).length:=by omega
   have h0:(S.set at_ true)[x]? =some (S.set at_ true)[x]:=Ya hxl
   cases hb2:(S.set at_ true)[x]with
   |false=>rw[h0,hb2]
   |true=>
    exfalso
    rw[hb2]at h0
    obtain⟨z,z1,z2⟩:=hi x (cov x h0) e
    have:=hp.inj z at_ _ z2 ex
    subst this
    rw[hf]at z1
    cases z1
  refine qmO hp from_ c _ _ _ x K1 K2 (.inr rfl) (by omega) (by omega) (by omega) hl' hx hxF (fun y hy hne=>?_) (.inl frT) (by simp;omega) hel'
  rcases hy with hy|hy
  ·obtain⟨z,z1,z2⟩:=hi y (cov y hy) hne
   exact⟨z,upS z z1,z2⟩
  subst hy
  exact⟨at_,by rw[List.getElem?_set_self (by omega)],ex⟩
theorem qiF {N:Nat} (hN:2000<N) {p:List Int} (hp:IsP p): ∀(K i:Nat) (S:List Bool) (out:List (List Int)),i<=p.length->p.length<K+i->S.length=p.length->qnX p S->out.length<=i->(∀l∈out,0<l.length/\l.length<=256/\ ∀x∈l,∃v:Nat,v<p.length/\x=(v:Int))->
 ∃r,zB N p K out S (i:Int)=some r/\jL N p K out S (i:Int)=some r/\r.length<=256/\ ∀l∈r,0<l.length/\l.length<=256/\ ∀x∈l,∃v:Nat,v<p.length/\x=(v:Int)
 |0,i,S,out,h,hK,hl,hc,ho,hm=>by omega
 |K+1,i,S,out,h,hK,hl,hc,ho,hm=>by
  have hfew:=hp.few
  unfold zB jL
  by_cases hi:i<p.length
  ·have hs:S[i]? =some S[i]:=Ya (by omega)
   rw[if_pos (by omega),if_pos (by omega),qj,hs,ZB]
   cases hb:S[i]with
   |true=>
    rw[hb]at hs
    have e:zn p N S ([]:List Int) (i:Int)=some (S,[]):=by
     obtain⟨M,rfl⟩: ∃M,N=M+1:=⟨N-1,by omega⟩
     unfold zn
     rw[qj,hs,ZB,if_neg (by decide)]
    rw[e]
    simp only[if_true,ZB]
    rw[if_neg (by simp),ZB]
    simp only
    rw[zx (by omega)]
    exact qiF hN hp K (i+1) S out (by omega) (by omega) hl hc (by omega) hm
   |false=>
    rw[hb]at hs
    have hcl:cntF S<=S.length:=List.countP_le_length
    obtain⟨S',l',e1,e2,e3,e4,e5,e6,e8⟩:=qmO hp i (cntF S) S [] none i N N (.inl ⟨rfl,rfl⟩) rfl (by omega) (by omega) hl hi hs (fun y hy hne=>by
     rcases hy with hy|hy
     ·exact hc y hy
     exact absurd hy hne) (.inr rfl) (by simp;omega) (fun x hx=>by cases hx)
    have e0:xC p (i:Int)=some ():=rfl
    have e7:j6 N S (i:Int) p=some (S',l'):=by
     unfold j6
     rw[e1,ZB]
    rw[if_neg (by decide),e0,ZB,e7,ZB,e2,ZB]
    simp only
    rw[if_pos (by omega),qbB (by simp only[Yr,List.length_nil];omega) (by simp only[Yr,List.length_nil];omega)]
    simp only[ZB]
    rw[zx (by omega)]
    refine qiF hN hp K (i+1) S' _ (by omega) (by omega) e3 e4 (by simp;omega) (fun l hl'=>?_)
    rcases List.mem_append.1 hl' with c|c
    ·exact hm l c
    obtain rfl:=List.mem_singleton.1 c
    exact⟨e5,e6,e8⟩
  rw[if_neg (by omega),if_neg (by omega)]
  exact⟨out,rfl,rfl,by omega,hm⟩
theorem qig {N:Nat} (hN:2000<N) {p:List Int} (hp:IsP p): ∃r,jg N p=some r/\yA N p=some r/\r.length<=256/\ ∀l∈r,0<l.length/\l.length<=256/\ ∀x∈l,∃v:Nat,v<p.length/\x=(v:Int):=by
 have hfew:=hp.few
 unfold jg yA
 have hm:mk 1 (p.length:Int) false=some (List.replicate p.length false):=by
  unfold mk
  rw[if_pos (by omega)]
  simp
 obtain⟨r,r1,r2,r3,r4⟩:=qiF hN hp N 0 (List.replicate p.length false) [] (by omega) (by omega) (by simp) (fun y hy=>by
  rw[List.getElem?_replicate]at hy
  split at hy<;>cases hy) (by simp) (fun l h=>by cases h)
 rw[hm,ZB,ZB,show(0:Int)=((0:Nat):Int)from rfl,r1,r2]
 exact⟨r,rfl,rfl,r3,r4⟩
end Go.Av
end
section
namespace Go.Av
theorem qgU {q:Rat} {n z:Int} (h:q*(n:Rat)=(z:Rat)):(q.den:Int)∣n:=by
 have h1:=qd1 q
 have e1:q.num*n=z*(q.den:Int):=by
  rw[<-Rat.intCast_inj,Rat.intCast_mul,Rat.intCast_mul,<-h1,<-h]
  grind
 refine qhA (a:=q.num) ⟨z,by rw[e1,Int.mul_comm]⟩ ?_
 have:=q.reduced
 rw[Int.gcd,Int.natAbs_natCast,Nat.gcd_comm]
 exact this
theorem qkk {q:Rat} {n:Nat} {z:Int} (hn:0<n) (h:q*(((n:Nat):Int):Rat)=(z:Rat)):q.den<=n:=Nat.le_of_dvd hn (Int.ofNat_dvd.1 (qgU h))
theorem qcP (r:Rat) (c:Int):(r+(c:Rat)).den=r.den:=by
 have h1:(r+(c:Rat))*((r.den:Int):Rat)=((r.num+c*(r.den:Int):Int):Rat):=by
  rw[Rat.intCast_add,Rat.intCast_mul,<-qd1 r]
  grind
 have h2:r*(((r+(c:Rat)).den:Int):Rat)=(((r+(c:Rat)).num-c*((r+(c:Rat)).den:Int):Int):Rat):=by
  rw[Rat.intCast_sub,Rat.intCast_mul,<-qd1 (r+(c:Rat))]
  grind
 exact Nat.dvd_antisymm (Int.ofNat_dvd.1 (qgU h1)) (Int.ofNat_dvd.1 (qgU h2))
theorem qkH.move {x r:Rat} {m:Nat} (h:qkH x m r) (c:Int):qkH (x+(c:Rat)) m (r+(c:Rat)):=by
 refine⟨by rw[qcP];exact h.1,fun y hy=>?_⟩
 have hy':(y+((-c:Int):Rat)).den<=m:=by rw[qcP];exact hy
 have k:=h.2 _ hy'
 unfold le3 at*
 rw[qcP]at k⊢
 have e1:x+(c:Rat)-(r+(c:Rat))=x-r:=by grind
 have e2:x+(c:Rat)-y=x-(y+((-c:Int):Rat)):=by
  rw[Rat.intCast_neg]
  grind
 rw[e1,e2]
 rcases k with k|⟨k1,k|⟨k2,k3⟩⟩
 ·exact .inl k
 ·exact .inr ⟨k1,.inl k⟩
 refine .inr ⟨k1,.inr ⟨k2,?_⟩⟩
 rw[Rat.intCast_neg]at k3
 grind
end Go.Av
end
section
namespace Go.Av
theorem qfg {a k:Nat} (hk:0<k) (h:a<10^k):Sml (((a:Nat):Int):Rat) k:=by
 unfold Sml
 rw[Rat.num_intCast,Rat.den_intCast,Int.natAbs_natCast]
 refine⟨(xh hk).2 h,(xh hk).2 ?_⟩
 have:10^1<=10^k:=Nat.pow_le_pow_right (by omega) hk
 omega
theorem qly {a n:Nat} (ha:1<=a) (hn:1<=n): ∃b:Nat,((((a:Nat):Int):Rat)/(((n:Nat):Int):Rat)).num=(b:Int)/\1<=b/\b<=a/\((((a:Nat):Int):Rat)/(((n:Nat):Int):Rat)).den<=n:=by
 have n0:(((n:Nat):Int):Rat)≠0:=Rat.ne_of_gt (Rat.intCast_pos.2 (by omega))
 have np:(0:Rat)<(((n:Nat):Int):Rat):=Rat.intCast_pos.2 (by omega)
 have ap:(0:Rat)<(((a:Nat):Int):Rat):=Rat.intCast_pos.2 (by omega)
 have h:((((a:Nat):Int):Rat)/(((n:Nat):Int):Rat))*(((n:Nat):Int):Rat)=((a:Nat):Int):=Rat.div_mul_cancel n0
 have q0:0<(((a:Nat):Int):Rat)/(((n:Nat):Int):Rat):=by
  rw[Rat.div_def]
  exact Rat.mul_pos ap (Rat.inv_pos.2 np)
 have hd:=qkk (show 0<n by omega) h
 have hd0:=den_pos ((((a:Nat):Int):Rat)/(((n:Nat):Int):Rat))
 have hnum:=qmM.2 q0
 have e1:((((a:Nat):Int):Rat)/(((n:Nat):Int):Rat)).num*(n:Int)=(a:Int)*(((((a:Nat):Int):Rat)/(((n:Nat):Int):Rat)).den:Int):=by
  have h1:=qd1 ((((a:Nat):Int):Rat)/(((n:Nat):Int):Rat))
  rw[<-Rat.intCast_inj,Rat.intCast_mul,Rat.intCast_mul,<-h1,<-h]
  grind
 generalize (((a:Nat):Int):Rat)/(((n:Nat):Int):Rat)=q at*
 refine⟨q.num.toNat,by omega,by omega,?_,hd⟩
 obtain⟨b,hb⟩: ∃b:Nat,q.num=(b:Int):=⟨q.num.toNat,by omega⟩
 rw[hb]at e1⊢
 rw[Int.toNat_natCast]
 have e2:b*n=a*q.den:=by exact_mod_cast e1
 have e3:a*q.den<=a*n:=Nat.mul_le_mul_left _ hd
 exact Nat.le_of_mul_le_mul_right (show b*n<=a*n by omega) (by omega)
theorem qmr {a b n i:Nat} (hb:b<=a) (hn:n<=256) (h:a<10^(3*(i+1))):b*n<10^(3*(i+1+1)):=by
 have e:10^(3*(i+1+1))=10^(3*(i+1))*1000:=by rw[show 3*(i+1+1)=3*(i+1)+3 by omega,Nat.pow_add]
 have h1:b*n<=a*256:=Nat.mul_le_mul hb hn
 omega
theorem qmk {N:Nat} (hN:600000<N) {ls:List (List Int)} (hls:ls.length<=256) (hm: ∀l∈ls,0<l.length/\l.length<=256): ∀(K i a:Nat) (f:qQ),i<=ls.length->ls.length<K+i->1<=a->a<10^(3*(i+1))->IsF f (((a:Nat):Int):Rat)->
 ∃(b:Nat) (g:qQ),ji N ls K f.Num.s f.Num.w f.Den.s f.Den.w (i:Int)=some (g.Num.s,g.Num.w,g.Den.s,g.Den.w)/\jM N ls K (T (((a:Nat):Int):Rat)) (i:Int)=some (T (((b:Nat):Int):Rat))/\IsF g (((b:Nat):Int):Rat)/\ ∃m:Nat,m<=256/\b<10^(3*(m+1))
 |0,i,a,f,h,hK,ha,hb,hf=>by omega
 |K+1,i,a,f,h,hK,ha,hb,hf=>by
  unfold ji jM
  by_cases hi:i<ls.length
  ·have hp:ls[i]? =some ls[i]:=Ya hi
   obtain⟨l1,l2⟩:=hm _ (List.getElem_mem hi)
   generalize ls[i]=l at*
   obtain⟨n,hn⟩: ∃n:Nat,l.length=n:=⟨_,rfl⟩
   have hk:3*(i+1)<=768:=by omega
   have sa:Sml (((a:Nat):Int):Rat) 771:=(qfg (k:=3*(i+1)) (by omega) hb).mono (by omega)
   have sn:Sml (((n:Nat):Int):Rat) 771:=(qfg (k:=3) (by omega) (by omega)).mono (by omega)
   have n0:(((n:Nat):Int):Rat)≠0:=Rat.ne_of_gt (Rat.intCast_pos.2 (by omega))
   obtain⟨b,b1,b2,b3,b4⟩:=qly ha (show 1<=n by omega)
   have sb:Sml (((b:Nat):Int):Rat) 771:=(qfg (k:=3*(i+1)) (by omega) (by omega)).mono (by omega)
   have sq:Sml ((((a:Nat):Int):Rat)/(((n:Nat):Int):Rat)) 771:=by
    refine Sml.mono (m:=3*(i+1)) ⟨?_,?_⟩ (by omega)
    ·rw[b1,Int.natAbs_natCast]
     exact(xh (by omega)).2 (by omega)
    refine(xh (by omega)).2 ?_
    have:10^3<=10^(3*(i+1)):=Nat.pow_le_pow_right (by omega) (by omega)
    omega
   obtain⟨fn,e1,i1⟩:=F_eq (n:=(n:Int)) (by omega) (by omega)
   obtain⟨fq,e2,i2⟩:=qnA hN hf i1 (n:=100) (by omega) (by omega) (qcK sa (by omega) (by omega)) (qcK sn (by omega) (by omega)) n0
   obtain⟨fw,e3,i3⟩:=qhZ i2.1
   rw[b1]at i3
   obtain⟨fm,e4,i4⟩:=qjI hN i3 i1 (n:=100) (by omega) (qcK sb (by omega) (by omega)) (qcK sn (by omega) (by omega))
   have em:(((b:Nat):Int):Rat)*(((n:Nat):Int):Rat)=(((b*n:Nat):Int):Rat):=by
    rw[<-Rat.intCast_mul]
    congr 1
   rw[em]at i4
   have tq:=qj0 sq
   obtain⟨c,g,r1,r2,r3,r4⟩:=qmk hN hls hm K (i+1) (b*n) fm (by omega) (by omega) (Nat.le_trans b2 (Nat.le_mul_of_pos_right _ (by omega))) (qmr b3 (by omega) hb) i4
   refine⟨c,g,?_,?_,r3,r4⟩
   ·rw[if_pos (by omega),qj,hp,ZB,hn,e1,ZB,show(⟨⟨f.Num.s,f.Num.w⟩,⟨f.Den.s,f.Den.w⟩⟩:qQ)=f from rfl,e2,ZB,e3,ZB,e4,ZB,zx (by omega)]
    exact r1
   rw[if_pos (by omega),qj,hp,ZB,hn,qiU (by omega) (by omega) (by omega),ZB,qm6 hN (k:=771) (by omega) (by omega) sa sn n0,ZB,Num_T (by omega) (by omega),b1,<-qmb,ZB,qjN hN (k:=771) (by omega) (by omega) sb sn,ZB,em,zx (by omega)]
   exact r2
  rw[if_neg (by omega),if_neg (by omega)]
  exact⟨a,f,rfl,rfl,hf,i,by omega,hb⟩
theorem qnL {ls:List (List Int)} {n:Nat} {l:List Int} {i:Nat} (hl:ls[i]? =some l) (h0:0<l.length) (h1:l.length<=256) (hv: ∀x∈l,∃v:Nat,v<n/\x=(v:Int)) {q:Int} (q0:0<=q) (q1:q<l.length): ∀(K j:Nat) (r:List Int),j<=l.length->l.length<K+j->r.length=n->
 ∃r',jO l q K r (j:Int)=some r'/\vz ls l q (i:Int) K r (j:Int)=some r'/\r'.length=n
 |0,j,r,h,hK,hr=>by omega
 |K+1,j,r,h,hK,hr=>by
  unfold jO vz
  by_cases hj:j<l.length
  ·have hx:l[j]? =some l[j]:=Ya hj
   obtain⟨v,v1,v2⟩:=hv _ (List.getElem_mem hj)
   rw[v2]at hx
   have hw:w64 ((j:Int)+q)=(j:Int)+q:=qh (by omega) (by omega)
   have hrm:qad .i64 ((j:Int)+q) (l.length:Int)=some (((j:Int)+q).tmod (l.length:Int)):=by
    unfold qad
    rw[if_neg (by omega)]
   have t0:0<=((j:Int)+q).tmod (l.length:Int):=Int.tmod_nonneg _ (by omega)
   have t1:((j:Int)+q).tmod (l.length:Int)<l.length:=Int.tmod_lt_of_pos _ (by omega)
   obtain⟨m,hm⟩: ∃m:Nat,((j:Int)+q).tmod (l.length:Int)=(m:Int):=⟨(((j:Int)+q).tmod (l.length:Int)).toNat,by omega⟩
   rw[hm]at hrm t1
   have hy:l[m]? =some l[m]:=Ya (by omega)
   rw[if_pos (by omega),if_pos (by omega),qj,hx,ZB,hw,hrm,ZB,qj,hy,ZB,qj,Ya (by omega),ZB,jv (by omega),ZB,qj,hl,ZB,qj,hx,ZB,ZB,qj,hy,ZB,qj,Ya (by omega),ZB,jv (by omega),ZB,zx (by omega)]
   exact qnL hl h0 h1 hv q0 q1 K (j+1) _ (by omega) (by omega) (by simpa using hr)
  rw[if_neg (by omega),if_neg (by omega)]
  exact⟨r,rfl,rfl,hr⟩
theorem qnK {N:Nat} (hN:2000<N) {ls:List (List Int)} {n:Nat} (k:Int) (hls:ls.length<=256) (hm: ∀l∈ls,0<l.length/\l.length<=256/\ ∀x∈l,∃v:Nat,v<n/\x=(v:Int)): ∀(K i:Nat) (r:List Int),i<=ls.length->ls.length<K+i->r.length=n->
 ∃r',jN N k ls K r (i:Int)=some r'/\vo N k ls K r (i:Int)=some r'/\r'.length=n
 |0,i,r,h,hK,hr=>by omega
 |K+1,i,r,h,hK,hr=>by
  unfold jN vo
  by_cases hi:i<ls.length
  ·have hp:ls[i]? =some ls[i]:=Ya hi
   obtain⟨l1,l2,l3⟩:=hm _ (List.getElem_mem hi)
   generalize ls[i]=l at*
   have h1:qad .i64 k (l.length:Int)=some (k.tmod (l.length:Int)):=by
    unfold qad
    rw[if_neg (by omega)]
   have a1:k.tmod (l.length:Int)<l.length:=Int.tmod_lt_of_pos _ (by omega)
   have a2: -(l.length:Int)<k.tmod (l.length:Int):=by
    have:=Int.lt_tmod_of_pos k (show(0:Int)<(l.length:Int)by omega)
    exact this
   have hw:w64 (k.tmod (l.length:Int)+(l.length:Int))=k.tmod (l.length:Int)+(l.length:Int):=qh (by omega) (by omega)
   have h2:qad .i64 (k.tmod (l.length:Int)+(l.length:Int)) (l.length:Int)=some ((k.tmod (l.length:Int)+(l.length:Int)).tmod (l.length:Int)):=by
    unfold qad
    rw[if_neg (by omega)]
   have b1:(k.tmod (l.length:Int)+(l.length:Int)).tmod (l.length:Int)<l.length:=Int.tmod_lt_of_pos _ (by omega)
   have b0:0<=(k.tmod (l.length:Int)+(l.length:Int)).tmod (l.length:Int):=Int.tmod_nonneg _ (by omega)
   obtain⟨r',r1,r2,r3⟩:=qnL (n:=n) hp l1 l2 l3 b0 b1 N 0 r (by omega) (by omega) hr
   rw[show((0:Nat):Int)=0 from rfl]at r1 r2
   rw[if_pos (by omega),if_pos (by omega),qj,hp]
   simp only[h1,hw,h2,ZB]
   rw[r1,r2]
   simp only[ZB]
   rw[zx (by omega)]
   exact qnK hN k hls hm K (i+1) r' (by omega) (by omega) r3
  rw[if_neg (by omega),if_neg (by omega)]
  exact⟨r,rfl,rfl,hr⟩
theorem qjG {a:List Int} (hl:a.length<=100000): ∀(K i:Nat),i<=a.length->a.length<K+i->zP a a K (i:Int)=some (.inl ())
 |0,i,h,hK=>by omega
 |K+1,i,h,hK=>by
  unfold zP
  by_cases hi:i<a.length
  ·rw[if_pos (by omega),qj,Ya hi,ZB,ZB,if_neg (by simp),zx (by omega)]
   exact qjG hl K (i+1) (by omega) (by omega)
  rw[if_neg (by omega)]
theorem qiy {N:Nat} {a:List Int} (hN:a.length<N) (hl:a.length<=100000):vR N a a=some true:=by
 unfold vR
 rw[if_neg (by simp),show(0:Int)=((0:Nat):Int)from rfl,qjG hl N 0 (by omega) (by omega)]
 rfl
theorem qiH {N:Nat} {a:List Int} (hN:a.length<N) (hl:a.length<=100000):xk N a 0 0 a=some true:=by
 unfold xk
 rw[if_neg (by decide),if_pos rfl,qiy hN hl]
 rfl
theorem qkL {N:Nat} {e:Int} (h:e≠0) (l:List Int):xk N [] e e l=some true:=by
 unfold xk
 rw[if_pos (by simp[h]),if_pos (show((([]:List Int).length:Nat):Int)=0 from rfl),decide_eq_true rfl]
 rfl
theorem qj6 {N:Nat} (hN:2000<N) {a:List (List Int)} (hl:a.length<=256) (hm: ∀l∈a,0<l.length/\l.length<=256): ∀(K i:Nat),i<=a.length->a.length<K+i->zN N a a K (i:Int)=some (.inl ())
 |0,i,h,hK=>by omega
 |K+1,i,h,hK=>by
  unfold zN
  by_cases hi:i<a.length
  ·have h1:=hm _ (List.getElem_mem hi)
   rw[if_pos (by omega),qj,Ya hi,ZB,ZB,qiy (by omega) (by omega),ZB,if_neg (by decide),zx (by omega)]
   exact qj6 hN hl hm K (i+1) (by omega) (by omega)
  rw[if_neg (by omega)]
theorem qlM {N:Nat} (hN:2000<N) {a:List (List Int)} (hl:a.length<=256) (hm: ∀l∈a,0<l.length/\l.length<=256):yF N a a=some true:=by
 unfold yF
 rw[if_neg (by simp),show(0:Int)=((0:Nat):Int)from rfl,qj6 hN hl hm N 0 (by omega) (by omega)]
 rfl
theorem qdP {N:Nat} (hN:600000<N) (p:List Int) (k:Int):yC N p k=some true:=by
 unfold yC awk
 simp only[ZB,Bool.not_true,ZF,if_false]
 by_cases hl:(p.length:Int)>260
 ·rw[decide_eq_true hl]
  rfl
 rw[decide_eq_false hl]
 simp only[ZF,if_false]
 obtain⟨e,c1,c2,c3⟩:=qki (N:=N) (by omega) (p:=p) (by omega)
 unfold qaD qaE qaY
 rw[c1,c2]
 simp only[ZB]
 by_cases he:e=0
 ·subst he
  have hp:=c3 rfl
  have hfew:=hp.few
  obtain⟨ls,g1,g2,g3,g4⟩:=qig (N:=N) (by omega) hp
  have g5: ∀l∈ls,0<l.length/\l.length<=256:=fun l h=>⟨(g4 l h).1,(g4 l h).2.1⟩
  obtain⟨f1,e1,i1⟩:=F_eq (n:=1) (by omega) (by omega)
  obtain⟨b,g,r1,r2,r3,m,r4,r5⟩:=qmk hN g3 g5 N 0 1 f1 (by omega) (by omega) (by omega) (by omega) i1
  have sb:Sml (((b:Nat):Int):Rat) 771:=(qfg (k:=3*(m+1)) (by omega) r5).mono (by omega)
  have hm8:mk 8 (p.length:Int) (0:Int)=some (List.replicate p.length 0):=by
   unfold mk
   rw[if_pos (by omega)]
   simp
  obtain⟨w,w1,w2,w3⟩:=qnK (N:=N) (by omega) (n:=p.length) k g3 g4 N 0 (List.replicate p.length 0) (by omega) (by omega) (by simp)
  have t1:T (((1:Nat):Int):Rat)=[49]:=T1n
  rw[t1]at r2
  have z0:((0:Nat):Int)=0:=rfl
  rw[z0]at r1 r2 w1 w2
  have hres:yO N (⟨⟨g.Num.s,g.Num.w⟩,⟨g.Den.s,g.Den.w⟩⟩:qQ)=_:=qkN hN r3 (qcK sb (by omega) (by omega))
  have hng:=qmV (N:=N) (by omega) sb (by omega)
  unfold res at hng
  have hsp:=qlM (N:=N) (by omega) g3 g5
  have hls:=qiH (N:=N) (a:=w) (by omega) (by omega)
  unfold qaX qbq
  simp only[decide_true,Bool.not_true,ZF,if_false,g1,g2,e1,hm8,ZB,r1,w1,r2,w2,hres,if_true,hsp,hng,hls]
 have D:(!decide (e=0))=true:=by simp[he]
 have hnb:=qmY (N:=N) he []
 have hlb:=qkL (N:=N) he []
 simp only[D,if_true,hnb,hlb,ZB,List.length_nil]
 rfl
end Go.Av
end
