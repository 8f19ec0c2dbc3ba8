/-
  The law of strengths and twists.
-/
import Derived.Test.YtlhmomppjidoiaaGreatDoorMyPb
noncomputable section
namespace Go.Av
set_option linter.unusedVariables false
set_option linter.unusedSimpArgs false
set_option maxRecDepth 100000
theorem qiL {N:Nat} (u:600000<N) {y:qV} (ok:qds y.Strength y.Strength.length) (hl:y.Strength.length<=1000) {a:Rat} (sa:Sml a 108) (m:Int): ∀(K i:Nat),i<=y.Strength.length->y.Strength.length<K+i->(∀j,i<=j-> ∀x b,y.Strength[j]? =some ⟨T x,T b⟩->a<x)->qX N y (T a) K m (i:Int)=some m
 |0,i,h,hK,hb=>by omega
 |K+1,i,h,hK,hb=>by
  unfold qX
  by_cases hi:i<y.Strength.length
  ·have d:y.Strength[i]? =some y.Strength[i]:=Ya hi
   obtain⟨x,b,ep,sx,sb,x0,b0⟩:=ok.1 i hi _ d
   rw[ep]at d
   have h1:=hb i (Nat.le_refl _) x b d
   have n1: ¬x<a:=by grind
   have n2: ¬x=a:=by grind
   rw[if_pos (by omega),qo,d,ZB]
   simp only
   rw[qgD u (k:=108) (by omega) (by omega) (sx.mono (by omega)) sa,if_neg n1,if_neg n2,ZB,if_neg (by decide),ZB,ko (by omega)]
   exact qiL u ok hl sa m K (i+1) (by omega) (by omega) (fun j hj=>hb j (by omega))
  rw[if_neg (by omega)]
theorem qf6 {l:List qY} (ok:qds l l.length) {i:Nat} {x b:Rat} (hi:l[i]? =some ⟨T x,T b⟩): ∀(d:Nat) (j b':Rat),l[i+d]? =some ⟨T j,T b'⟩->x<=j
 |0,j,b',h=>by
  rw[Nat.add_zero,hi]at h
  have:=Ye h
  injection this with h1 _
  rw[qls h1]
  exact Rat.le_refl
 |d+1,j,b',h=>by
  have hlt:i+(d+1)<l.length:=(Yb.1 h).1
  have hp:l[i+d]? =some l[i+d]:=Ya (by omega)
  obtain⟨u,v,ep,_,_,_,_⟩:=ok.1 (i+d) (by omega) _ hp
  rw[ep]at hp
  have h1:=qf6 ok hi d u v hp
  have h2:=ok.2 (i+d) (by omega) u v j b' hp h
  exact Rat.le_trans h1 (Rat.le_of_lt h2)
theorem strB {N:Nat} (hN:600000<N) {y:qV} (ok:qds y.Strength y.Strength.length) (hl:y.Strength.length<=1000) {a:Rat} {f:qM} (sa:Sml a 108) (ia:IsF f a): ∀(K i:Nat) (g:qM) (e m:Int),i<=y.Strength.length->y.Strength.length<K+i->
 ((i=0/\e=7/\m= -1)\/(e=0/\ ∃(k:Nat) (x b:Rat),m=(k:Int)/\y.Strength[k]? =some ⟨T x,T b⟩/\IsF g b/\Sml b 60))->
 ∃(u:qM) (e' m':Int),qG N y f.Num.s f.Num.w f.Den.s f.Den.w K g.Num.s g.Num.w g.Den.s g.Den.w (i:Int) e=some (u.Num.s,u.Num.w,u.Den.s,u.Den.w,e')/\qX N y (T a) K m (i:Int)=some m'/\
  ((e'=7/\m'= -1)\/(e'=0/\ ∃(k:Nat) (x b:Rat),m'=(k:Int)/\y.Strength[k]? =some ⟨T x,T b⟩/\IsF u b/\Sml b 60))
 |0,i,g,e,m,h,hK,st=>by omega
 |K+1,i,g,e,m,h,hK,st=>by
  have st':(e=7/\m= -1)\/(e=0/\ ∃(k:Nat) (x b:Rat),m=(k:Int)/\y.Strength[k]? =some ⟨T x,T b⟩/\IsF g b/\Sml b 60):=st.elim (fun c=> .inl c.2) .inr
  by_cases hi:i<y.Strength.length
  ·have d:y.Strength[i]? =some y.Strength[i]:=Ya hi
   obtain⟨x,b,ep,sx,sb,x0,b0⟩:=ok.1 i hi _ d
   rw[ep]at d
   obtain⟨fx,e1,i1⟩:=qbD hN (sx.mono (show 60<=9000 by omega))
   obtain⟨fb,e2,i2⟩:=qbD hN (sb.mono (show 60<=9000 by omega))
   have hc:=qlC hN i1 ia (n:=200) (by omega) (qbr (sx.mono (show 60<=108 by omega)) (by omega) (by omega)) (qbr sa (by omega) (by omega))
   by_cases hx:a<x
   ·refine⟨g,e,m,?_,qiL hN ok hl sa m (K+1) i h hK (fun j hj x' b' hj'=>?_),st'⟩
    ·unfold qG
     rw[if_pos (by omega),qo,d,ZB]
     simp only
     rw[e1,ZB,hc,ZB,if_neg (show¬x<a by grind),if_neg (show¬x=a by grind),if_pos (by decide)]
    have:=qf6 ok d (j-i) x' b' (by rw[show i+(j-i)=j by omega];exact hj')
    grind
   obtain⟨u,e',m',r1,r2,r3⟩:=strB hN ok hl sa ia K (i+1) fb 0 (i:Int) (by omega) (by omega) (.inr ⟨rfl,i,x,b,rfl,d,i2,sb⟩)
   refine⟨u,e',m',?_,?_,r3⟩
   ·unfold qG
    rw[if_pos (by omega),qo,d,ZB]
    simp only
    rw[e1,ZB,hc,ZB,if_neg (by split;decide;split;decide;grind),e2,ZB,ko (by omega)]
    exact r1
   unfold qX
   rw[if_pos (by omega),qo,d,ZB]
   simp only
   rw[qgD hN (k:=108) (by omega) (by omega) (sx.mono (by omega)) sa,ZB,if_pos (by split;decide;split;decide;grind),ZB,ko (by omega)]
   exact r2
  refine⟨g,e,m,?_,?_,st'⟩
  ·unfold qG
   rw[if_neg (by omega)]
  unfold qX
  rw[if_neg (by omega)]
theorem qns {N:Nat} (u:600000<N) {y:qV} (hy:jP N y=some 0) (Y:qor y): ∃(s:Str) (e:Int),yC N y=some (s,e)/\yQ N y=some (s,e):=by
 obtain⟨t,st,et⟩: ∃t,Sml t 60/\y.Twist=T t:=⟨Y.t,Y.st,Y.et⟩
 obtain⟨f,e1,i1⟩:=qbD u (st.mono (show 60<=9000 by omega))
 obtain⟨z,e4,i4⟩:=F_eq (n:=0) (by omega) (by omega)
 obtain⟨n,e5,i5⟩:=qpx i1
 have d: ∀(a:Rat) (h:qM),Sml a 108->IsF h a-> ∃(s:Str) (e:Int),
  ((qG N y h.Num.s h.Num.w h.Den.s h.Den.w N z.Num.s z.Num.w z.Den.s z.Den.w 0 7).bind fun(n16,l17,n18,l19,n20)=>some ((⟨(⟨n16,l17⟩:ql),(⟨n18,l19⟩:ql)⟩:qM),n20):Option (qM×Int)).bind (fun r4=>if(!decide (r4.2=0))=true then some ([],r4.2)else(xO N r4.1).bind fun r6=>some (r6.1,r6.2))=some (s,e)/\
  ((qX N y (T a) N (-1) 0).bind fun n8=>if n8<0 then some ([],7)else(idx y.Strength n8).bind fun x17=>some (x17.Y,0))=some (s,e):=by
  intro a h sa ih
  obtain⟨j,e',m',r1,r2,r3⟩:=strB u Y.pts (by have:=Y.few;omega) sa ih N 0 z 7 (-1) (by omega) (by have:=Y.few;omega) (.inl ⟨rfl,rfl,rfl⟩)
  rw[show((0:Nat):Int)=0 from rfl]at r1 r2
  rw[r1,r2]
  rcases r3 with⟨rfl,rfl⟩|⟨rfl,k,x,b,rfl,hk,ig,sb⟩
  ·exact⟨[],7,rfl,rfl⟩
  refine⟨T b,0,?_,?_⟩
  ·rw[ZB,ZB,if_neg (by simp)]
   have:=qgZ u ig (qbr sb (by omega) (by omega))
   rw[show(⟨⟨j.Num.s,j.Num.w⟩,⟨j.Den.s,j.Den.w⟩⟩:qM)=j from rfl,this,resQ,qg6 (sb.mono (by omega)),if_neg (by decide)]
   rfl
  rw[ZB,if_neg (by omega),qo,hk,ZB]
 unfold yC xe yQ
 rw[hy,ZB,if_neg (by decide),et,e1,ZB,qg9 i1,ZB,qh4,ZB,e5,e4]
 by_cases hneg:t.num<0
 ·have hs:=qmd u (k:=108) (by omega) (by omega) (qmQ (n:=0) (by omega) (by omega) (by omega)) (st.mono (show 60<=108 by omega))
  rw[show T ((0:Int):Rat)=[48]from T0,show((0:Int):Rat)-t= -t by grind]at hs
  have m:=d (-t) n (qlq (st.mono (by omega))) i5
  rw[if_pos hneg,if_pos (show(-1:Int)<0 by decide),if_pos (show(-1:Int)<0 by decide)]
  simp only[hs,ZB]
  exact m
 have hs: ¬(if t.num<0 then-1 else if t.num=0 then 0 else 1:Int)<0:=by rw[if_neg hneg];split<;>decide
 have m:=d t f (st.mono (by omega)) i1
 rw[if_neg hs,if_neg hs]
 simp only[ZB]
 exact m
theorem qml {N:Nat} {l:List Str} (u:l.length<=10000): ∀(K i:Nat),i<=l.length->l.length<K+i->(∀j,i<=j-> ∀s,l[j]? =some s->vG N s=some 0)->zl N l K (i:Int)=some (.inl ())
 |0,i,h,hK,hb=>by omega
 |K+1,i,h,hK,hb=>by
  unfold zl
  by_cases hi:i<l.length
  ·have d:l[i]? =some l[i]:=Ya hi
   rw[if_pos (by omega),qo,d,ZB,hb i (Nat.le_refl _) _ d,ZB,if_neg (by decide),ko (by omega)]
   exact qml u K (i+1) (by omega) (by omega) (fun j hj=>hb j (by omega))
  rw[if_neg (by omega)]
theorem qoq {N:Nat} (hN:600000<N) {y:qV} (ok:qds y.Strength y.Strength.length) (hl:y.Strength.length<=1000): ∀(K i:Nat) (d:List Str),i<=y.Strength.length->y.Strength.length<K+i->d.length=2+2*i-> ∃j:List Str,vP y K d (i:Int)=some (d++j)/\(d++j).length<=2002/\ ∀s∈j,vG N s=some 0
 |0,i,d,h,hK,h1=>by omega
 |K+1,i,d,h,hK,h1=>by
  unfold vP
  by_cases hi:i<y.Strength.length
  ·have u:y.Strength[i]? =some y.Strength[i]:=Ya hi
   obtain⟨x,b,ep,sx,sb,x0,b0⟩:=ok.1 i hi _ u
   rw[ep]at u
   rw[if_pos (by omega),qo,u,ZB,qbZ (by simp only[Yr,List.length_nil];omega) (by simp only[Yr,List.length_nil];omega),ZB,ko (by omega)]
   obtain⟨j,g1,g2,g3⟩:=qoq hN ok hl K (i+1) (d++[T x,T b]) (by omega) (by omega) (by simp;omega)
   refine⟨T x::T b::j,by rw[g1];simp,by simpa using g2,fun s hs=>?_⟩
   have L: ∀q:Rat,Sml q 60->vG N (T q)=some 0:=fun q hq=>by rw[qiY (by omega) hq (by omega),qg6 (hq.mono (by omega)),if_neg (by decide)]
   rcases List.mem_cons.1 hs with rfl|hs
   ·exact L x sx
   rcases List.mem_cons.1 hs with rfl|hs
   ·exact L b sb
   exact g3 s hs
  rw[if_neg (by omega)]
  exact⟨[],by simp,by simp;omega,fun s hs=>by cases hs⟩
theorem qmw {N:Nat} (hN:600000<N) {y:qV} (ok:qds y.Strength y.Strength.length) (hl:y.Strength.length<=1000) {d u:Rat} (ed:y.Density=T d) (h:Sml d 60) (eu:y.Twist=T u) (su:Sml u 600):qaI N y=some (if qf0 u=true then 4 else 0):=by
 unfold qaI qaY
 obtain⟨l2,g1,g2,g3⟩:=qoq hN ok hl N 0 [y.Density,y.Twist] (by omega) (by omega) rfl
 have L:vG N (T d)=some 0:=by rw[qiY (by omega) h (by omega),qg6 (h.mono (by omega)),if_neg (by decide)]
 have U:vG N (T u)=some (if qf0 u=true then 4 else 0):=qiY (by omega) su (by omega)
 rw[show(0:Int)=((0:Nat):Int)from rfl,g1,ZB]
 obtain⟨K,rfl⟩: ∃K,N=K+1+1:=⟨N-2,by omega⟩
 simp only[Yq,Yr,List.length_nil]at g2
 rw[zl,if_pos (by simp only[Yq,Yr,List.length_nil];omega),qo,ed,eu]
 simp only[List.cons_append,List.nil_append,Yj,ZB]
 rw[L,ZB,if_neg (by decide),ko (by omega),zl,if_pos (by simp only[Yr];omega),qo]
 simp only[Nat.zero_add,List.getElem?_cons_succ,Yj,ZB]
 rw[U,ZB]
 cases qf0 u with
 |true=>rfl
 |false=>
  rw[if_neg (by decide),if_neg (by decide),ko (by omega),qml (by simp;omega) K 2 (by simp) (by simp only[Yr];omega) (fun j hj s hs=>by
   obtain⟨k,rfl⟩: ∃k,j=k+2:=⟨j-2,by omega⟩
   simp only[List.getElem?_cons_succ]at hs
   exact g3 s (Yn hs))]
  rfl
theorem qlO {y:qV} (d:y.Strength.length<=1000): ∀(K i:Nat),i<=y.Strength.length->y.Strength.length<K+i->jb y y K (i:Int)=some (.inl ())
 |0,i,h,hK=>by omega
 |K+1,i,h,hK=>by
  unfold jb
  by_cases hi:i<y.Strength.length
  ·have j:y.Strength[i]? =some y.Strength[i]:=Ya hi
   rw[if_pos (by omega),qo,j,ZB,ZB,if_neg (by simp),ko (by omega)]
   exact qlO d K (i+1) (by omega) (by omega)
  rw[if_neg (by omega)]
theorem qmu {N:Nat} (h:600000<N) {y:qV} (d:y.Strength.length<=1000):xS N y y=some true:=by
 unfold xS
 simp only[beq_self_eq_true,Bool.not_true,ZF,if_false,decide_true,ZB]
 rw[show(0:Int)=((0:Nat):Int)from rfl,qlO d N 0 (by omega) (by omega)]
 rfl
theorem qmO {l:List qY} (h:0<l.length) (d:l.length<=1000):qaC l=some l:=by
 cases l with
 |nil=>simp at h
 |cons p l=>
  show jK p l=some (p::l)
  unfold jK
  simp only[Yr]at d
  rw[qbZ (by simp only[Yr,List.length_nil];omega) (by simp only[Yr,List.length_nil];omega),ZB]
  rfl
theorem qfH {N:Nat} (h:600000<N) (y:qV) (s:Str):qan N y s=some true:=by
 unfold qan
 obtain⟨b,hb,fb⟩:=qnk h y
 rw[hb,ZB]
 cases b with
 |false=>rfl
 |true=>
 obtain⟨h1,h2,h3,h4,h5,h6,hs⟩:=fb rfl
 rw[if_neg (by decide)]
 by_cases hl:(s.length:Int)>60
 ·rw[decide_eq_true hl];rfl
 rw[decide_eq_false hl,ZB,if_neg (by decide)]
 obtain⟨e,x1,x2,x3⟩:=qm1 h h1 h2 h3 h4 h6 hs
 have c1:=qet h (s:=s) (by omega)
 have c2:=qei h (s:=s) (by omega)
 rw[x2,ZB,x1,ZB,if_neg (by simp),c2]
 have S: ∃(v:Str) (g:Int),yC N y=some (v,g)/\(if e=0 then(yQ N y).bind fun r18=>some (r18.2,r18.1)else some (e,[]):Option (Int×Str))=some (g,v):=by
  by_cases he:e=0
  ·subst he
   obtain⟨Y⟩:=x3 rfl
   obtain⟨v,g,s1,s2⟩:=qns h x1 Y
   exact⟨v,g,s1,by rw[if_pos rfl,s2];rfl⟩
  refine⟨[],e,?_,by rw[if_neg he]⟩
  unfold yC
  rw[x1,ZB,if_pos (qoG he)]
 have W: ∃(v:qV) (g:Int),qa3 N y s=some (v,g)/\v.Strength.length<=1000/\
  (if(if e=0 then chk s else e)=0 then(qas N y s).bind fun r27=>(qaI N r27).bind fun r28=>if(!decide (r28=0))=true then some ([],[],[],[],[],r28)else some (r27.Name,r27.Density,r27.Twist,r27.Strength,r27.Dye,r28)else some ([],[],[],[],[],if e=0 then chk s else e):Option (Str×Str×Str×(List qY)×Str×Int))=some (v.Name,v.Density,v.Twist,v.Strength,v.Dye,g):=by
  unfold qa3 qas
  rw[x1,ZB,c1,ZB,qmf (by omega),ZB]
  by_cases he:(if e=0 then chk s else e)=0
  ·rw[he,if_neg (by decide),if_pos rfl]
   have hE:e=0/\chk s=0:=by
    split at he
    ·rename_i c;exact⟨c,he⟩
    rename_i c;exact absurd he c
   obtain⟨rfl,hc⟩:=hE
   obtain⟨⟨d,t,ed,sd,d0,et,st,ne,few,pts⟩⟩:=x3 rfl
   obtain⟨u,rfl,su,_⟩:=qgA (k:=60) (by omega) (by omega) hc
   obtain⟨f,e1,i1⟩:=qbD h (st.mono (show 60<=9000 by omega))
   obtain⟨g,e2,i2⟩:=qbD h (su.mono (show 60<=9000 by omega))
   obtain⟨r,e3,i3⟩:=qpJ h i1 i2 (n:=200) (by omega) (qbr (st.mono (show 60<=108 by omega)) (by omega) (by omega)) (qbr (su.mono (show 60<=108 by omega)) (by omega) (by omega))
   have s3:Sml (t+u) 600:=qm0 st su
   rw[et,e1,ZB,e2,ZB,e3,ZB,qgZ h i3 (qbr (s3.mono (show 600<=603 by omega)) (by omega) (by omega)),ZB,ql7 h (k:=60) (by omega) (by omega) st su,ZB,ZB,
    qmw h (y:=⟨y.Name,y.Density,T (t+u),y.Strength,y.Dye⟩) pts (show y.Strength.length<=1000 by omega) ed sd rfl s3,ZB,qmO ne (by omega)]
   unfold resQ
   cases hq:qf0 (t+u)with
   |true=>exact⟨⟨[],[],[],[],[]⟩,4,rfl,by simp,rfl⟩
   |false=>exact⟨⟨y.Name,y.Density,T (t+u),y.Strength,y.Dye⟩,0,rfl,show y.Strength.length<=1000 by omega,rfl⟩
  rw[if_pos (qoG he),if_neg he]
  exact⟨⟨[],[],[],[],[]⟩,_,rfl,by simp,rfl⟩
 obtain⟨v1,g1,S1,S2⟩:=S
 obtain⟨j,g2,W1,W2,W3⟩:=W
 rw[S1,ZB,W1,ZB,ZB,qog (by omega),ZB,S2,W3]
 simp only[ZB,if_true,beq_self_eq_true]
 rw[show(⟨j.Name,j.Density,j.Twist,j.Strength,j.Dye⟩:qV)=j from rfl,qmu h W2]
 rfl
end Go.Av
