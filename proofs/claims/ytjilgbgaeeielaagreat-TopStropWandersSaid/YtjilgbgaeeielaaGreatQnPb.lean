/-
  The law of wanderings.
-/
import Derived.Test.YtjilgbgaeeielaaGreatQnPa
noncomputable section
namespace Go.Av
set_option linter.unusedVariables false
set_option linter.unusedSimpArgs false
set_option linter.unusedSectionVars false
set_option maxRecDepth 100000
theorem qhj {l:List zw} (hl:l.length<=100): ∀(K i:Nat),i<=l.length->l.length<K+i->kg l K (l.take i) (i:Int)=some l
 |0,i,h,hK=>by omega
 |K+1,i,h,hK=>by
  unfold kg
  by_cases hi:i<l.length
  ·rw[if_pos (by omega),qz,Ya hi,ZB,qar (by simp;omega) (by simp;omega),ZB,qP (by omega),<-List.take_succ_eq_append_getElem hi]
   exact qhj hl K (i+1) (by omega) (by omega)
  rw[if_neg (by omega),List.take_of_length_le (by omega)]
theorem qko {N:Nat} (hN:1000<N) {l:List zw} (hl:l.length<=100):zZ N l=some l:=by
 unfold zZ
 have:=qhj hl N 0 (Nat.zero_le _) (by omega)
 rw[show((0:Nat):Int)=0 from rfl,List.take_zero]at this
 rw[this]
 rfl
theorem qmj {N:Nat} (hN:300000<N) {n:Nat} (n6:n<=6) {w v:List Int} (W:jW n w) (V:jW n v) (hw:w.length<=60) (hv:v.length<=60) (m:Mvs n w v):
 ∃f,qX N (n:Int) w=some f/\qX N (n:Int) v=some f/\f.Factors.length<=300/\ ∀x∈f.Factors,x.length<=300:=by
 by_cases n1:n=1
 ·subst n1
  refine⟨⟨0,[]⟩,?_,?_,by simp,fun x hx=>by cases hx⟩
  ·unfold qX;rw[if_pos (show((1:Nat):Int)=1 from rfl)]
  unfold qX;rw[if_pos (show((1:Nat):Int)=1 from rfl)]
 have:=W.n1
 obtain⟨f,f1,f2,f3,f4⟩:=qi6 (by omega) n6 hN W hw
 obtain⟨g,g1,g2,g3,g4⟩:=qi6 (by omega) n6 hN V hv
 obtain rfl:=f2.uniq (m.form n6 (by omega) W.let_ g2)
 exact⟨f,f1,g1,f3,f4⟩
theorem qkD {n:Nat} (n6:n<=6) (n2:2<=n) {W w:List Int} (h:WdB n (Ud n) W) (hw:jU n w) {f:xc} (k:vJ n (W++W++w) f):vJ n (w++(W++W)) f:=by
 have hW:=h.pos.2
 have h0: ∃c W',W=c::W':=by
  cases W with
  |cons c W'=>exact⟨c,W',rfl⟩
  |nil=>
   cases h with
   |nil h=>
    exfalso
    refine h 0 (by omega) ?_
    show rv5 n 1<rv5 n 0
    rw[yN (by omega),yN (by omega)]
    omega
 obtain⟨c,W',e⟩:=h0
 have eL:xx W.length=[Ue]++xx W'.length:=by rw[e];rfl
 have one:Jn n [Ud n] [Ud n]:= .refl (qbd (Uj n))
 have a1:=qjo n6 n2 h (hW.app hw)
 have a2:=one.app ((qjo n6 n2 h hw).app (.refl (n:=n) (qdT (k:=W'.length))))
 have a3:Jn n (fac n (W++(W++w))++[Ue]) ([Ud n]++((Ud n::(fac n w++xx W.length))++xx W'.length)):=by
  refine a1.trans ?_
  rw[eL]
  rw[eL]at a2
  simpa using a2
 have b1:=qhz n6 n2 h (hw.app hW)
 have b2:=(qhz n6 n2 h hw).flip
 have ef:(((fac n w).map (SB.flip n)).map (SB.flip n))=fac n w:=by
  rw[List.map_map]
  conv=>rhs;rw[<-List.map_id (fac n w)]
  congr 1
  funext s
  exact qdw n s
 have ei: ∀k,(xx k).map (SB.flip n)=xx k:=fun k=>by
  unfold xx
  rw[List.map_replicate,qcT]
 simp only[List.map_append,List.map_cons,List.map_nil,ef,ei,qcQ,qcT]at b2
 have b3:=one.app (b2.app (.refl (n:=n) (qdT (k:=W'.length))))
 have b4:Jn n (fac n (w++W++W)++[Ue]) ([Ud n]++((Ud n::(fac n w++xx W.length))++xx W'.length)):=by
  refine b1.trans ?_
  rw[eL]
  rw[eL]at b3
  simpa using b3
 have j:=a3.trans b4.symm
 rw[<-Yz,Yz w W W]at j
 exact k.jn1 j (by rw[yQ,yQ w,Nat.add_comm])
theorem qkc {N:Nat} (hN:300000<N) {n:Nat} (n1:1<=n) (n5:n<=5) {W w:List Int} (h:WdB n (Ud n) W) (hl:W.length<=25) (V:jW n w) (hw:w.length<=10): ∃f,qX N (n:Int) (W++W++w)=some f/\qX N (n:Int) (w++(W++W))=some f/\f.Factors.length<=300/\ ∀x∈f.Factors,x.length<=300:=by
 by_cases e:n=1
 ·subst e
  refine⟨⟨0,[]⟩,?_,?_,by simp,fun x hx=>by cases hx⟩
  ·unfold qX;rw[if_pos (show((1:Nat):Int)=1 from rfl)]
  unfold qX;rw[if_pos (show((1:Nat):Int)=1 from rfl)]
 have WW:jW n W:=⟨n1,by omega,by omega,h.pos.2⟩
 have WWW:=WW.app WW (by omega)
 have l1:(W++W).length=W.length+W.length:=Yq
 obtain⟨f,f1,f2,f3,f4⟩:=qi6 (n:=n) (by omega) (by omega) hN (WWW.app V (by omega)) (by rw[Yq];omega)
 obtain⟨g,g1,g2,g3,g4⟩:=qi6 (n:=n) (by omega) (by omega) hN (V.app WWW (by omega)) (by rw[Yq];omega)
 obtain rfl:=(qkD (by omega) (by omega) h V.let_ f2).uniq g2
 exact⟨f,f1,g1,f3,f4⟩
theorem qnf {N:Nat} (hN:2000<N) (n:Int) (w:List Int):qbw N n w 5 10=some (decide (n<=5/\w.length<=10/\qeG n w=0)):=by
 unfold qbw
 by_cases a:n<=5
 ·by_cases b:(w.length:Int)<=10
  ·rw[if_pos a,if_pos b,qi4 hN (by omega)]
   simp only[ZB]
   congr 1
   rw[decide_eq_decide]
   omega
  rw[if_pos a,if_neg b,decide_eq_false (by omega)];rfl
 rw[if_neg a,decide_eq_false (by omega)];rfl
theorem qcf {N:Nat} (hN:600000<N) (x:qcX) (hs:0<=x.Shift/\x.Shift<=255):jo N x=some true:=by
 obtain⟨n,w,l,sh⟩:=x
 dsimp only at hs
 unfold jo awk
 simp only[qnf (N:=N) (by omega),ZB]
 by_cases F:n<=5/\w.length<=10/\qeG n w=0
 ·simp only[decide_eq_true F,Bool.not_true,ZF,if_false]
  obtain⟨F1,F2,F3⟩:=F
  obtain⟨k,rfl,W⟩:=qmF F3
  have k1:=W.n1
  by_cases hl:(l.length:Int)>30
  ·rw[if_pos hl];rfl
  rw[if_neg hl]
  simp only[qko (N:=N) (by omega) (show l.length<=100 by omega),ZB]
  obtain⟨b,b1,b2⟩:=qls (N:=N) (l:=l) (by omega)
  rw[b1]
  simp only[ZB]
  cases b with
  |false=>rfl
  |true=>
   simp only[Bool.not_true,ZF,if_false]
   obtain⟨⟨v,e⟩,r1,r2,r3⟩:=qiI (N:=N) (by omega) (n:=(k:Int)) (by omega) (by omega) (l:=l) (.inl (by omega)) (w:=w) (by omega) (fun c hc=>j6.2 (W.let_ c hc))
   rw[r2]
   simp only[ZB]
   by_cases e0:e=0
   ·subst e0
    simp only[decide_true,Bool.not_true,ZF,if_false,ZB]
    by_cases hv:(v.length:Int)>40
    ·rw[decide_eq_true hv];rfl
    simp only[decide_eq_false hv,ZF,if_false]
    have mv:=qj7 (N:=N) (n:=k) k1 (by omega) (l:=l) (by omega) (by omega) W.let_ r2
    have V:jW k v:=⟨k1,by omega,by omega,mv.let_ W.let_⟩
    have cW:=qdn W
    have cV:=qdn V
    have mE:qaG N (k:Int) w l=some (v,0):=by
     unfold qaG
     rw[qaX (by omega) (by omega),cW,ZB,decide_eq_true rfl]
     simp only[Bool.not_true,ZF,if_false]
     rw[r1]
     simp only[ZB,decide_true,Bool.not_true,ZF,if_false]
     rw[qfL,if_neg (by omega)]
     rfl
    obtain⟨f,f1,f2,f3,f4⟩:=qmj (N:=N) (by omega) (n:=k) (by omega) W V (by omega) (by omega) mv
    have nE: ∀{u:List Int},jW k u->u.length<=200->qX N (k:Int) u=some f->xq N (k:Int) u=some (f,0):=fun {u} U hu h=>by
     unfold xq
     rw[qaX (by omega) (by omega),qdn U,ZB,decide_eq_true rfl]
     simp only[Bool.not_true,ZF,if_false]
     rw[h]
     rfl
    obtain⟨r,c1,c2,c3,c4,c5,c6⟩:=qft (N:=N) (by omega) W cW
    obtain⟨r',d1,d2,d3,d4,d5,d6⟩:=qft (N:=N) (by omega) V cV
    have er:r'=r:=by
     rw[<-mv.pm W.let_]at d6
     rw[c6]at d6
     exact(Ye d6).symm
    subst er
    have hr: ∀y∈r',y.length<=300:=fun y hy=>by
     obtain⟨s,_,h,_⟩:=c3 y hy
     rw[Ug]at h
     omega
    rw[mE]
    simp only[ZB]
    rw[nE W (by omega) f1,nE V (by omega) f2,c1,d1]
    simp only[ZB]
    have z5:w64 (w64 (w64 (w64 (0+0)+0)+0)+0)=0:=by decide
    rw[z5,decide_eq_true rfl]
    simp only[Bool.not_true,ZF,if_false]
    rw[qic (by omega) (by omega),decide_eq_true rfl]
    simp only[ZB,Bool.not_true,ZF,if_false,decide_true]
    rw[qhd (by omega) f4 f3,qhd (N:=N) (by omega) hr (by omega)]
    simp only[ZB,Bool.not_true,ZF,if_false]
    obtain⟨H,h1,h2⟩:=qnk (n:=k) (k*k) (Ud k) (SB.inv_le k _)
    have kk:k*k<=5*5:=Nat.mul_le_mul (by omega) (by omega)
    have HH:jW k H:=⟨k1,by omega,by omega,h1.pos.2⟩
    have HHH:=HH.app HH (by omega)
    have lHH:(H++H).length=H.length+H.length:=Yq
    obtain⟨g,g1,g2,g3,g4⟩:=qkc (N:=N) (by omega) (n:=k) k1 (by omega) h1 (by omega) W (by omega)
    have eE:qaC N (k:Int) (H++H++w) (w++(H++H))=some (true,0):=by
     unfold qaC qbm
     rw[qjM (by omega) (HHH.app W (by omega)) (W.app HHH (by omega)),ZB,decide_eq_true rfl]
     simp only[Bool.not_true,ZF,if_false]
     rw[g1,g2]
     simp only[ZB]
     rw[qk0 (by omega) g3 g4]
     rfl
    rw[qmA (by omega) (by omega)]
    simp only[ZB]
    rw[qjX (by omega) k1 (by omega) (Uj k) h1 (by omega)]
    simp only[ZB]
    rw[qeg (by omega) HH HH (by omega)]
    simp only[ZB]
    rw[qeg (by omega) HHH W (by omega),qeg (by omega) W HHH (by omega)]
    simp only[ZB]
    rw[eE]
    simp only[ZB]
    rw[z5,decide_eq_true rfl]
    simp only[Bool.not_true,ZF,if_false,ZB]
    have key: ∀j:Nat,j<=w.length->((cut w (j:Int) (w.length:Int)).bind fun s46=>(cut w 0 (j:Int)).bind fun s47=>(vN s46 s47).bind fun r48=>(zY N (k:Int) r48).bind fun r49=>(jJ N (k:Int) r48).bind fun r50=>(jJ N (k:Int) w).bind fun r51=>
     (if(w64 ((w64 (r49.2+r50.2))+r51.2))=0 then if(r49.1.length:Int)=(r'.length:Int)then if r50.1=r51.1 then(some true:Option Bool).bind fun r55=>some r55 else some false else some false else some false:Option Bool).bind fun b56=>some b56)=some true:=fun j hj=>by
     have hu:jU k (w.take j):=fun c hc=>W.let_ c (List.mem_of_mem_take hc)
     have hd:jU k (w.drop j):=fun c hc=>W.let_ c (List.mem_of_mem_drop hc)
     have T:jW k (w.drop j++w.take j):=⟨k1,by omega,by simp;omega,hd.app hu⟩
     obtain⟨t,t1,t2,t3,t4,t5,t6⟩:=qft (N:=N) (by omega) T (qdn T)
     have el:t.length=r'.length:=by
      have c3':=c3
      rw[<-YS j w]at c3'
      exact(qkt (N:=N) (by omega) hu hd c3' c4 c5 t3 t4 t5).symm
     have ex:exS (w.drop j++w.take j)=exS w:=by
      conv=>rhs;rw[<-YS j w]
      rw[qjy,qjy,Int.add_comm]
     rw[xZ hj,xA hj]
     simp only[ZB]
     rw[y8 (by simp;omega)]
     simp only[ZB]
     rw[t1,qjQ (by omega) T (qdn T),qjQ (by omega) W cW]
     simp only[ZB]
     rw[if_pos (by decide),if_pos (by rw[el]),if_pos ex]
     rfl
    by_cases hw0:(w.length:Int)>0
    ·rw[if_pos hw0]
     have ws:w64 sh=sh:=qK (by omega) (by omega)
     have rm:qkE .i64 (w64 sh) (w.length:Int)=some (sh.tmod (w.length:Int)):=by
      unfold qkE
      rw[if_neg (by omega),ws]
     rw[rm]
     simp only[ZB]
     obtain⟨j,hj⟩: ∃j:Nat,sh.tmod (w.length:Int)=(j:Int):=⟨(sh.tmod (w.length:Int)).toNat,by have:=Int.tmod_nonneg (w.length:Int) hs.1;omega⟩
     have hj2:j<=w.length:=by
      have:=Int.tmod_lt_of_pos sh hw0
      omega
     rw[hj]
     exact key j hj2
    rw[if_neg hw0]
    exact key 0 (Nat.zero_le _)
   simp only[decide_eq_false e0,Bool.not_false,if_true,ZB]
 simp only[decide_eq_false F,Bool.not_false,if_true,ZB]
end Go.Av
