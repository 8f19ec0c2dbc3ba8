/-
  The program's proof that two words are one braid.
-/
import Derived.Test.YtkdbjocpkfeckaaGreatDoorMfPb
import Derived.Test.YtkdbjocpkfeckaaGreatDoorAvPt
import Derived.Test.YtkdbjocpkfeckaaGreatDoorMfPa
set_option linter.unusedVariables false
set_option linter.unusedSimpArgs false
set_option linter.unusedSectionVars false
set_option maxRecDepth 100000
section
namespace Go.Av
def qaM (b:List Int):List Int:=(b.map fun x=> -x).reverse
theorem qmi (b:List Int):(qaM b).length=b.length:=by simp[qaM]
theorem qoY (x:Int) (b:List Int):qaM (x::b)=qaM b++[-x]:=by simp[qaM]
section
variable {N:Nat} (hN:110000<N) {n:Nat} (h1:1<=n) (h2:n<=12) {a b:List Int} (A:jT n a) (B:jT n b)
include hN h1 h2 A B
theorem bk_L: ∀(j K:Nat) (o:Option (List qG)),j<=b.length->j<K->(hof o).length+j<=1000->
 ∃o' ms,qN N a b (n:Int) b K (a++qaM (b.drop j)++b.drop j) o ((j:Int)-1)=some (a++qaM b++b,o')/\hof o'=hof o++ms/\Chn N n (a++qaM (b.drop j)++b.drop j) ms (a++qaM b++b)/\ms.length=j
 |j,0,o,hj,hK,ho=>by omega
 |0,K+1,o,hj,hK,ho=>by
  refine⟨o,[],?_,by simp,rfl,rfl⟩;unfold qN;rw[if_neg (by simp),YR]
 |j+1,K+1,o,hj,hK,ho=>by
  have la:=A.len;have lb:=B.len;have hx:b[j]? =some b[j]:=Ya hj;have bx:=B.let_ _ (List.getElem_mem hj);have dj:b.drop j=b[j]::b.drop (j+1):=YG hj;have ld:(b.drop (j+1)).length=b.length-(j+1):=YJ ..
  have lu:(a++qaM (b.drop (j+1))).length=a.length+b.length-1-j:=by rw[Yq,qmi,ld];omega
  have ap:=qjw (N:=N) (by omega) h1 h2 (u:=a++qaM (b.drop (j+1))) (v:=b.drop (j+1)) (by rw[Yq,lu,ld];omega) (L:= -b[j]) (by omega);rw[Int.neg_neg,lu]at ap
  have w2:a++qaM (b.drop (j+1))++[-b[j],b[j]]++b.drop (j+1)=a++qaM (b.drop j)++b.drop j:=by rw[dj,qoY];simp
  rw[w2]at ap
  obtain⟨o',ms,q1,q2,q3,q4⟩:=bk_L j K (some (hof o++[⟨mIns,((a.length+b.length-1-j:Nat):Int),-b[j]⟩])) (by omega) (by omega) (by
   show(hof o++[_]).length+j<=1000
   rw[Yq];simp;omega)
  have q2:hof o'=(hof o++[_])++ms:=q2;have m1:=Mv.ins (n:=n) (u:=a++qaM (b.drop (j+1))) (v:=b.drop (j+1)) (x:= -b[j]) (by omega);rw[Int.neg_neg,w2]at m1;refine⟨o',_::ms,?_,by rw[q2,apb1],⟨_,ap,m1,q3⟩,by rw[Yr,q4]⟩;unfold qN qbf
  have e1:((j+1:Nat):Int)-1=(j:Int):=by omega
  rw[e1,if_pos (by omega),qC,hx,ZB]
  have z1:w64 (w64 (w64 ((a.length:Int)+(b.length:Int))-1)-(j:Int))=((a.length+b.length-1-j:Nat):Int):=by
   rw[qF (n:=(a.length:Int)+(b.length:Int)) (by omega) (by omega),qF (n:=(a.length:Int)+(b.length:Int)-1) (by omega) (by omega),qF (by omega) (by omega)];omega
  have z2:w64 (0-b[j])= -b[j]:=by rw[qF (by omega) (by omega)];omega
  rw[z1,z2,qj1 ap (by omega)];simp only[ZB];rw[qF (by omega) (by omega)];exact q1
theorem qqN (la:a.length<=7) (lb:b.length<=7) (E:jZ N (n:Int) a b=some true) {J:Nat} (hJ:J<=1140) (R:hrI J [] (a++qaM b)=some []): ∃l,qau N (n:Int) a b=some (l,0)/\Chn N n a l b/\l.length<=100000:=by
 obtain⟨o,ms,b1,b2,b3,b4⟩:=bk_L hN h1 h2 A B b.length N none (Nat.le_refl _) (by omega) (by simp;omega);have dl:b.drop b.length=[]:=List.drop_length;rw[dl,show qaM []=[]from rfl,YQ,YQ]at b1 b3;have lr:=qe0 R;have b2:hof o=[]++ms:=b2;rw[List.nil_append]at b2
 have lab:(a++qaM b).length=a.length+b.length:=by rw[Yq,qmi]
 have lt:qaf n (a++qaM b):=fun z hz=>by
  rcases List.mem_append.1 hz with hz|hz
  ·exact A.let_ z hz
  simp only[qaM,List.mem_reverse,List.mem_map]at hz;obtain⟨y,hy,rfl⟩:=hz;have:=B.let_ y hy;omega
 obtain⟨o',ms',q1,q2,q3,q4⟩:=qsC hN h1 h2 (t:=b) (by omega) B.let_ J [] (a++qaM b) [] R rfl lt (by simp;omega) N o (by omega) (by rw[b2,b4];omega);rw[b2]at q2;have q1:jQ N (n:Int) N (a++qaM b++b) o ((a++qaM b).length:Int) (hres (a++qaM b)).1 (hres (a++qaM b)).2.1 (hres (a++qaM b)).2.2=some (b,o'):=q1;have q3:Chn N n (a++qaM b++b) ms' b:=q3;refine⟨ms++ms',?_,b3.app q3,by rw[Yq,b4];omega⟩;unfold qau
 have l1:w64 ((a.length:Int)+(b.length:Int))=((a++qaM b).length:Int):=by rw[qF (by omega) (by omega),lab];rfl
 have bw:=qjO (N:=N) (p:=a++qaM b) (t:=b) (fun z hz=>by
  rcases List.mem_append.1 hz with hz|hz
  ·have:=lt z hz;omega
  have:=B.let_ z hz;omega) (by rw[Yq,lab];omega) (by rw[Yq,lab];omega) (n:Int) o
 rw[qbN (by omega) A B,ZB,yA,ZB,l1,decide_eq_false (by rw[lab];omega),if_neg (by decide),qdq (by simp) (by simp;omega),ZB,if_neg (by decide),E,ZB,if_neg (by decide),qbG (by omega),ZB];unfold vX j5;rw[ZB,qF (n:=(b.length:Int)-1) (by omega) (by omega),b1];simp only[ZB];rw[bw];simp only[ZB];rw[q1];simp only[ZB];rw[q2]
theorem qsh (la:a.length<=7) (lb:b.length<=7) (E:jZ N (n:Int) a b=some false):qau N (n:Int) a b=some ([],23):=by
 unfold qau;rw[qbN (by omega) A B,ZB,yA,ZB,qF (by omega) (by omega),decide_eq_false (by omega),if_neg (by decide),qdq (by simp) (by simp;omega),ZB,if_neg (by decide),E,ZB,if_pos (by decide)]
end
end Go.Av
end
section
namespace Go.Av
theorem quM (u v:W6):kw (u++v)=v.foldl (fun k x=>kSt x k) (kw u):=by unfold kw;rw[List.foldl_append]
noncomputable def qib (v:W6):W6:=(v.map ng6).reverse
theorem i6_ng (x:L6):i6 (ng6 x)= -(i6 x):=by cases x<;>rfl
theorem qpu (x:L6) (v:W6):qib (x::v)=qib v++[ng6 x]:=by simp[qib]
theorem qqq (v:W6):(qib v).map i6=qaM (v.map i6):=by
 unfold qib qaM;rw[List.map_reverse,List.map_map,List.map_map];congr 1;apply List.map_congr_left;intro x _;exact i6_ng x
theorem qqh: ∀(v:W6) (k:Nat),K4 k->(qib v).foldl (fun k x=>kSt x k) (v.foldl (fun k x=>kSt x k) k)=k
 |[],k,h=>rfl
 |x::v,k,h=>by
  rw[qpu,List.foldl_append];show kSt (ng6 x) ((qib v).foldl (fun k x=>kSt x k) (v.foldl (fun k x=>kSt x k) (kSt x k)))=k;rw[qqh v _ (h.step x)];exact h.back x
theorem k0_4:K4 (kw []):=kw_4 []
theorem qsL {u v:W6} (h:kw u=kw v):kw (u++qib v)=kw []:=by
 rw[quM,h];exact qqh v _ k0_4
noncomputable def qgz:Nat->W6
 |0=>[]
 |k+1=> .a:: .A::qgz k
theorem qdr: ∀k,(qgz k).length=2*k
 |0=>rfl
 |k+1=>by simp only[qgz,Yr,qdr k];omega
theorem qeT (v:W6): ∀k,kw (qgz k++v)=kw v
 |0=>rfl
 |k+1=>by
  have:kw (qgz (k+1)++v)=(qgz k++v).foldl (fun k x=>kSt x k) (kSt (ng6 .a) (kSt .a (kw []))):=rfl;rw[this,k0_4.back];exact qeT v k
theorem qlK (r:List Int) (v:List Int): ∀(k J:Nat),hrI J [] ((qgz k).map i6++r)=some v-> ∃J',J'<=J/\hrI J' [] r=some v
 |0,J,h=>⟨J,Nat.le_refl _,h⟩
 |k+1,0,h=>by cases h
 |k+1,1,h=>by cases h
 |k+1,J+2,h=>by
  have h:hrI J [] ((qgz k).map i6++r)=some v:=h;obtain⟨J',h1,h2⟩:=qlK r v k J h;exact⟨J',by omega,h2⟩
theorem qkV {a b:W6} (la:a.length<=7) (lb:b.length<=7) (h:kw a=kw b): ∃J,J<=1121/\hrI J [] (a.map i6++qaM (b.map i6))=some []:=by
 obtain⟨h1,h2⟩:=qsA qsP;by_cases p:(a.length+b.length)%2=0
 ·have e:=qeT (a++qib b) ((14-(a.length+b.length))/2)
  have:=h1 (qgz ((14-(a.length+b.length))/2)++(a++qib b)) (by
   simp only[Yq,qdr,qib,List.length_reverse,List.length_map];omega) (by rw[e];exact qsL h)
  rw[List.map_append]at this;obtain⟨J,j1,j2⟩:=qlK _ _ _ _ this;rw[List.map_append,qqq]at j2;exact⟨J,j1,j2⟩
 exfalso;by_cases q:a.length%2=1
 ·refine h2 (qgz ((7-a.length)/2)++a) (qgz ((6-b.length)/2)++b) (by rw[Yq,qdr];omega) (by rw[Yq,qdr];omega) ?_;rw[qeT,qeT,h]
 refine h2 (qgz ((7-b.length)/2)++b) (qgz ((6-a.length)/2)++a) (by rw[Yq,qdr];omega) (by rw[Yq,qdr];omega) ?_;rw[qeT,qeT,h]
noncomputable def c6 (x:Int):L6:=if x=1 then .a else if x= -1 then .A else if x=2 then .b else if x= -2 then .B else if x=3 then .c else .C
theorem c6_ok {x:Int} (h0:x≠0) (h1: -4<x) (h2:x<4):i6 (c6 x)=x:=by
 rcases(show x=1\/x= -1\/x=2\/x= -2\/x=3\/x= -3 by omega)with rfl|rfl|rfl|rfl|rfl|rfl<;>rfl
theorem qhT: ∀{w:List Int},(∀x∈w,x≠0/\ -4<x/\x<4)->(w.map c6).map i6=w
 |[],h=>rfl
 |x::w,h=>by
  have hx:=h x (List.mem_cons_self ..);rw[List.map_cons,List.map_cons,c6_ok hx.1 hx.2.1 hx.2.2,qhT fun y hy=>h y (List.mem_cons_of_mem _ hy)]
end Go.Av
end
section
namespace Go.Av
theorem qtS {N:Nat} (hN:100000<N) {a b:List (List Int)} (ha: ∀x∈a,x.length<=1000) (hl:a.length<=300) (hab:a.length=b.length): ∀(K i:Nat),i<=a.length->a.length<K+i->qM N a b K (i:Int)=some (if a.drop i=b.drop i then .inl ()else .inr false)
 |0,i,h,hK=>by omega
 |K+1,i,h,hK=>by
  unfold qM;by_cases hi:i<a.length
  ·have hb:i<b.length:=by omega
   have hx:=ha _ (List.getElem_mem hi);rw[if_pos (by omega),qC,Ya hi,qC,Ya hb,ZB,ZB,qdp (by omega) (by omega),ZB,YG hi,YG hb];by_cases c:a[i]=b[i]
   ·rw[decide_eq_true c,if_neg (by decide),zF (by omega),qtS hN ha hl hab K (i+1) (by omega) (by omega),c];simp only[List.cons.injEq,true_and]
   rw[decide_eq_false c,if_pos (by decide),if_neg (fun h=>c (List.cons.inj h).1)]
  rw[if_neg (by omega),List.drop_eq_nil_of_le (by omega),List.drop_eq_nil_of_le (by omega),if_pos rfl]
theorem qmM {N:Nat} (hN:100000<N) {a b:List (List Int)} (ha: ∀x∈a,x.length<=1000) (hl:a.length<=300):zg N a b=some (decide (a=b)):=by
 unfold zg;by_cases c:(a.length:Int)=(b.length:Int)
 ·have:=qtS hN ha hl (b:=b) (by omega) N 0 (by omega) (by omega);rw[show((0:Nat):Int)=0 from rfl,YR,YR]at this;rw[decide_eq_true c,if_neg (by decide),this];by_cases e:a=b
  ·rw[if_pos e,decide_eq_true e];rfl
  rw[if_neg e,decide_eq_false e];rfl
 rw[decide_eq_false c,if_pos (by decide),decide_eq_false (fun e=>c (by rw[e]))]
theorem qj4 (T:QTb): ∀(M:List Nat) (x:Nat),(qpN T x M).length=M.length+1
 |[],x=>rfl
 |s::r,x=>by rw[qar,Yr,qj4 T r,Yr]
theorem qow (T:QTb) (H:Nat) (M:List Nat):(fmS T H M).2.length<=M.length:=by
 obtain⟨d,h,e,_⟩:=qss T H M;have:=congrArg List.length e;simp only[Yq,List.length_replicate]at this;omega
theorem qtr (T:QTb) (s:FmN) (c:Int):(fmL T s c).2.length<=s.2.length+1:=by
 unfold fmL fmN
 cases decide (0<c)with
 |true=>exact Nat.le_trans (qow T _ _) (by rw[qj4];exact Nat.le_refl _)
 |false=>exact Nat.le_trans (qow T _ _) (by rw[qj4,List.length_map];exact Nat.le_refl _)
theorem qn8 (T:QTb): ∀(w:List Int) (s:FmN),(w.foldl (fmL T) s).2.length<=s.2.length+w.length
 |[],s=>Nat.le_refl _
 |c::w,s=>by
  rw[List.foldl_cons,Yr];have:=qn8 T w (fmL T s c);have:=qtr T s c;omega
structure TOK (T:QTb):Prop where
 ok:T.Ok
 wd:T.Wd
 dm:qlz T
 n2:2<=T.n
 n4:T.n<=4
 row: ∀c,c<T.cnt->(T.dec c).length<=4
def rowB (T:QTb):Bool:=qal T.cnt fun c=>Nat.ble (T.dec c).length 4
theorem qmC {T:QTb} (h1:T.ck=true) (h2:dmN T=true) (h3:T.cw=true) (h4:2<=T.n) (h5:T.n<=4) (h6:rowB T=true):TOK T:=
 ⟨QTb.ok h1,QTb.wd_ok (QTb.ok h1) h3,qvh h2,h4,h5,fun c hc=>Ys (yK h6 c hc)⟩
theorem tok2:TOK qT2:=qmC qu2 quU quZ (by decide) (by decide) (by rfl)
theorem tok3:TOK qT3:=qmC quC quz qug (by decide) (by decide) (by rfl)
theorem tok4:TOK qT4:=qmC qus quq quA (by decide) (by decide) (by rfl)
theorem nf0 (T:QTb):NF T (16,[]):=⟨fun c h=>(by cases h),rfl,rfl⟩
section
variable {T:QTb} (t:TOK T) {N:Nat} (hN:110000<N) {a b:List Int} (A:jT T.n a) (B:jT T.n b) (la:a.length<=7) (lb:b.length<=7)
include t hN A B la lb
omit B lb in
theorem qtX:xP N (T.n:Int) a=some (fmI T (fmW T a))/\NF T (fmW T a)/\(∀x∈(fmI T (fmW T a)).Factors,x.length<=1000)/\(fmI T (fmW T a)).Factors.length<=300:=by
 have nf:=qt0 t.ok t.dm (w:=a) A.let_ (nf0 T);have n4:=t.n4;refine⟨(qpC t.ok t.n2 (by omega) (N:=N) (by omega) A (by omega) nf.nf nf.no).1,nf,fun x hx=>?_,?_⟩
 ·obtain⟨c,hc,rfl⟩:=List.mem_map.1 hx;have:=t.row c (nf.cod c (List.mem_reverse.1 hc));unfold QTb.cI;rw[List.length_map];omega
 have:=qn8 T a (16,[]);show((fmW T a).2.reverse.map T.cI).length<=300;rw[List.length_map,List.length_reverse];unfold fmW;simp only[List.length_nil]at this;omega
theorem qp2:jZ N (T.n:Int) a b=some (decide (fmW T a=fmW T b)):=by
 obtain⟨a1,a2,a3,a4⟩:=qtX t hN A la;obtain⟨b1,b2,_,_⟩:=qtX t hN B lb;unfold jZ qaU;rw[a1,ZB,b1,ZB];by_cases c:fmW T a=fmW T b
 ·rw[c,if_pos rfl,<-c,qmM (by omega) a3 a4];simp only[ZB,decide_true]
 rw[decide_eq_false c];by_cases d:(fmI T (fmW T a)).Half=(fmI T (fmW T b)).Half
 ·have f: ¬(fmI T (fmW T a)).Factors=(fmI T (fmW T b)).Factors:=fun e=>c (qsJ t.ok a2.cod b2.cod (by
   unfold fmI at d e⊢;dsimp only at d e
   rw[d,e]))
  rw[if_pos d,qmM (by omega) a3 a4,decide_eq_false f];rfl
 rw[if_neg d];rfl
end
theorem qo5 (im:List (List Int)) (c:Int):xI im c=bif decide (0<c)then(im.set (c.natAbs-1) (fred (im.getD (c.natAbs-1) []++im.getD (c.natAbs-1+1) []++zJ (im.getD (c.natAbs-1) [])))).set (c.natAbs-1+1) (im.getD (c.natAbs-1) [])else(im.set (c.natAbs-1) (im.getD (c.natAbs-1+1) [])).set (c.natAbs-1+1) (fred (zJ (im.getD (c.natAbs-1+1) [])++im.getD (c.natAbs-1) []++im.getD (c.natAbs-1+1) [])):=by
 unfold xI;dsimp only;by_cases h:0<c
 ·rw[if_pos h,decide_eq_true h,cond_true]
 rw[if_neg h,decide_eq_false h,cond_false]
def tnl (w:List Int) (t:List Nat):List Nat:=w.foldl (fun t c=>qg5 (c.natAbs-1) (decide (0<c)) t) t
theorem qi7 {n:Nat}: ∀(w:List Int) (im:List (List Int)) (t:List Nat),vD n w->im.length=n->Nzs im->qgy im t->qgy (w.foldl xI im) (tnl w t)
 |[],im,s,hw,hl,hz,h=>h
 |c::w,im,s,hw,hl,hz,h=>by
  have hc:=hw c (List.mem_cons_self ..);rw[List.foldl_cons];have st:=qgy.step (c.natAbs-1) (decide (0<c)) hz (by omega) h;rw[<-qo5]at st;exact qi7 w _ _ (fun d hd=>hw d (List.mem_cons_of_mem _ hd)) (by rw[qby,hl]) (qel (i:=c.natAbs-1) hz (by omega) (by omega)) st
theorem qll {f:Nat->List Int} {g:Nat->Nat} (h: ∀k,Lin (f k) (g k)): ∀l:List Nat,qgy (l.map f) (l.map g)
 |[]=>trivial
 |k::l=>⟨h k,qll h l⟩
theorem qjP {n:Nat} {w:List Int} (hw:vD n w):qgy (qa6 n w) (tnl w ((List.range n).map bet)):=by
 refine qi7 w _ _ hw (qdX _) (qh7 _) ?_;unfold fid;refine qll (fun k=>⟨qqL k,fun z hz=>?_⟩) _;show evl (((k:Nat):Int)+1) z=_;unfold evl;rw[if_pos (by omega),show(((k:Nat):Int)+1).natAbs-1=k by omega]
theorem qu0 {n:Nat} {a b:List Int} (ha:vD n a) (hb:vD n b) (h:BE n a b):tnl a ((List.range n).map bet)=tnl b ((List.range n).map bet):=by
 have h1:=qjP ha;have h:qa6 n a=qa6 n b:=h;rw[h]at h1;exact h1.uniq (qjP hb)
theorem qmn: ∀(i:Nat) (p:Bool) (l r:List Nat),i+1<l.length->qg5 i p (l++r)=qg5 i p l++r/\(qg5 i p l).length=l.length
 |0,true,a::b::l,r,h=>⟨rfl,rfl⟩
 |0,false,a::b::l,r,h=>⟨rfl,rfl⟩
 |i+1,p,a::l,r,h=>by
  have:=qmn i p l r (by simp at h;omega);refine⟨?_,?_⟩
  ·show a::qg5 i p (l++r)=a::qg5 i p l++r;rw[this.1];rfl
  show(a::qg5 i p l).length=_;rw[Yr,this.2];rfl
 |0,p,[],r,h=>by simp at h
 |0,p,[a],r,h=>by simp at h
 |i+1,p,[],r,h=>by simp at h
theorem qkU (r:List Nat): ∀(w:List Int) (l:List Nat),vD l.length w->tnl w (l++r)=tnl w l++r
 |[],l,h=>rfl
 |c::w,l,h=>by
  have hc:=h c (List.mem_cons_self ..);obtain⟨e1,e2⟩:=qmn (c.natAbs-1) (decide (0<c)) l r (by omega);show tnl w (qg5 (c.natAbs-1) (decide (0<c)) (l++r))=tnl w (qg5 (c.natAbs-1) (decide (0<c)) l)++r;rw[e1];exact qkU r w _ (fun d hd=>by rw[e2];exact h d (List.mem_cons_of_mem _ hd))
def P4 (k:Nat) (l:List Nat):Prop:= ∃a b c d,l=[a,b,c,d]/\(a<10007/\b<10007/\c<10007/\d<10007)/\k=kp a b c d
theorem P4.step {k:Nat} {l:List Nat} (h:P4 k l) (x:L6):P4 (kSt x k) (qg5 ((i6 x).natAbs-1) (decide (0<i6 x)) l):=by
 obtain⟨a,b,c,d,rfl,h,rfl⟩:=h;rw[qfV h,qf9];obtain⟨ha,hb,hc,hd⟩:=h;cases x
 ·exact⟨_,_,_,_,rfl,⟨qfG a b,ha,hc,hd⟩,rfl⟩
 ·exact⟨_,_,_,_,rfl,⟨hb,qgg a b,hc,hd⟩,rfl⟩
 ·exact⟨_,_,_,_,rfl,⟨ha,qfG b c,hb,hd⟩,rfl⟩
 ·exact⟨_,_,_,_,rfl,⟨ha,hc,qgg b c,hd⟩,rfl⟩
 ·exact⟨_,_,_,_,rfl,⟨ha,hb,qfG c d,hc⟩,rfl⟩
 exact⟨_,_,_,_,rfl,⟨ha,hb,hd,qgg c d⟩,rfl⟩
theorem P4.fold: ∀(u:W6) {k:Nat} {l:List Nat},P4 k l->P4 (u.foldl (fun k x=>kSt x k) k) (tnl (u.map i6) l)
 |[],k,l,h=>h
 |x::u,k,l,h=>P4.fold u (h.step x)
theorem P4.uniq {k j:Nat} {l:List Nat} (h:P4 k l) (g:P4 j l):k=j:=by
 obtain⟨a,b,c,d,rfl,_,rfl⟩:=h;obtain⟨a',b',c',d',e,_,rfl⟩:=g;injection e with e1 e;injection e with e2 e;injection e with e3 e;injection e with e4 e;rw[e1,e2,e3,e4]
theorem bets (n:Nat) (h2:2<=n) (h4:n<=4): ∃r,[1,30,500,7000]=(List.range n).map bet++r:=by
 rcases(show n=2\/n=3\/n=4 by omega)with rfl|rfl|rfl
 ·exact⟨[500,7000],rfl⟩
 ·exact⟨[7000],rfl⟩
 exact⟨[],rfl⟩
theorem kw_be {n:Nat} (h2:2<=n) (h4:n<=4) {a b:List Int} (ha:vD n a) (hb:vD n b) (h:BE n a b):kw (a.map c6)=kw (b.map c6):=by
 obtain⟨r,e⟩:=bets n h2 h4
 have lr:((List.range n).map bet).length=n:=by rw[List.length_map,List.length_range]
 have a4: ∀x∈a,x≠0/\ -4<x/\x<4:=fun x hx=>by have:=ha x hx;omega
 have b4: ∀x∈b,x≠0/\ -4<x/\x<4:=fun x hx=>by have:=hb x hx;omega
 have p0:P4 (kw []) [1,30,500,7000]:=⟨1,30,500,7000,rfl,by decide,rfl⟩;have pa:=P4.fold (a.map c6) p0;have pb:=P4.fold (b.map c6) p0;rw[qhT a4,e,qkU r a _ (by rw[lr];exact ha),qu0 ha hb h]at pa;rw[qhT b4,e,qkU r b _ (by rw[lr];exact hb)]at pb;exact pa.uniq pb
theorem qi5 {T:QTb} (t:TOK T) {a b:List Int} (ha:vD T.n a) (hb:vD T.n b) (la:a.length<=7) (lb:b.length<=7) (h:fmW T a=fmW T b): ∃J,J<=1121/\hrI J [] (a++qaM b)=some []:=by
 have h1:=qnS t.ok t.wd ha (by omega);have h2:=qnS t.ok t.wd hb (by omega);rw[h]at h1;have n4:=t.n4;have k:=kw_be t.n2 t.n4 ha hb (h1.trans h2.symm);have:=qkV (a:=a.map c6) (b:=b.map c6) (by rw[List.length_map];exact la) (by rw[List.length_map];exact lb) k;rw[qhT (fun x hx=>by have:=ha x hx;omega),qhT (fun x hx=>by have:=hb x hx;omega)]at this;exact this
end Go.Av
end
noncomputable section
namespace Go.Av
open Go.Proofs Go.RowKit
variable [Glob]
section
variable {n:Nat} (hn:n<=12) {N:Nat} (hN:2000<N)
include hn hN
end
theorem qfN:exS []=0:=rfl
theorem Mv.ex {n:Nat} {w v:List Int} (h:Mv n w v) (hw:qaf n w):exS w=exS v:=by
 have pair: ∀x:Int,x≠0->exS [x,-x]=0:=fun x hx=>by
  have hs:qbA (-x)= -qbA x:=by unfold qbA;split<;>split<;>omega
  rw[yB,yB,qfN,hs];omega
 cases h with
 |@ins u v x hx=>rw[xK,xK,xK,pair x hx.1];omega
 |@can u v x=>rw[xK,xK,xK,pair x (hw x (by simp)).1];omega
 |@swp u v x y h=>rw[xK,xK,xK,xK,yB,yB,yB,yB,qfN];omega
 |@trn u v l x y z h=>
  have hx:=(hw x (by simp)).1;have hy:=(hw y (by simp)).1;have hz:=(hw z (by simp)).1;obtain⟨_,_,r⟩:=qgB hx hy hz h;rw[xK,xK,xK,xK,yB,yB,yB,qfN];rcases r with⟨_,rfl⟩|⟨_,rfl⟩
  ·rw[yB,yB,yB,qfN,(qeQ hz hy).1];omega
  rw[yB,yB,yB,qfN,(qeQ hx hy).1];omega
structure Alike (n:Nat) (a b:List Int):Prop where
 ex:exS a=exS b
 pm:pmF SB.id a=pmF SB.id b
 lk: ∀i k,lkP a i k=lkP b i k
 mat:qgb t2 a=qgb t2 b
theorem Mv.alike {n:Nat} {w v:List Int} (h:Mv n w v) (hw:qaf n w):Alike n w v:=⟨h.ex hw,h.pm hw _,h.lk hw,h.mat (qdV (by decide)) hw⟩
section
variable {N:Nat} (hN:600000<N) {n:Nat} (n5:n<=5) {a b:List Int} (A:jT n a) (B:jT n b) (la:a.length<=26) (lb:b.length<=26) (L:Alike n a b)
include hN n5 A B la lb L
omit L B n5 lb in
theorem qsy (i k:Nat):lkF SB.id (fun _ _=>0) a i k=lkP a i k:=by
 rw[qpQ a (fun c hc=>(A.let_ c hc).1)];exact Int.zero_add _
theorem qr7:qcY n (lkF SB.id (fun _ _=>0) a)=qcY n (lkF SB.id (fun _ _=>0) b):=qiz fun i k=>by
 rw[qsy hN A la,qsy hN B lb,L.lk]
omit L B n5 lb in
theorem p28:(2:Int)^(a.length+2)<1000000000:=by
 have:=qbQ (show(1:Int)<=2 by decide) (show a.length+2<=28 by omega)
 have h:(2:Int)^28<1000000000:=by decide
 omega
theorem qpx: ∀(f:Nat->Nat->Int),(∀x∈qcY n f,x.length<=300)/\(qcY n f).length<=300:=fun f=>by
 refine⟨fun x hx=>?_,by rw[qb8];omega⟩;obtain⟨i,hi⟩:=List.getElem?_of_mem hx;have l1:=(Yb.1 hi).1;rw[qb8]at l1;rw[qcQ l1]at hi;have:=Ye hi;rw[<-this,qb4];omega
abbrev kEx:Str:=[101,120,112,111,110,101,110,116]
abbrev kPm:Str:=[112,101,114,109]
abbrev kLk:Str:=[108,105,110,107]
abbrev kBu:Str:=[98,117,114,97,117]
omit L B n5 lb in
theorem qhf:xD N a=some (exS a):=by
 have:=qnh A N 0 0 (Nat.zero_le _) (by omega) (by omega) (by omega);rw[show((0:Nat):Int)=0 from rfl,YR,Int.zero_add]at this;unfold xD;rw[this];rfl
end
abbrev kFo:Str:=[102,111,114,109]
theorem quW {p q:Rat} (hp:Q9 p) (hq:Q9 q): ∃r,yX (Fq p) (Fq q)=some r:=by
 have m1:=qdb hp.1 hq.d;have m2:=qdb hq.1 hp.d;have a1:=hp.1;have a2:=hp.2;have b1:=hq.1;have b2:=hq.2;unfold yX qbi;dsimp only[Fq];rw[qg1 (by omega) (by omega) (by omega),ZB,qg1 (by omega) (by omega) (by omega),ZB];unfold qbP;dsimp only;rw[if_pos em0,ZB,if_pos em0];generalize p.num*(q.den:Int)=x;generalize q.num*(p.den:Int)=y;by_cases c:x<y
 ·rw[if_pos c];exact⟨_,rfl⟩
 rw[if_neg c];by_cases d:x>y
 ·rw[if_pos d];exact⟨_,rfl⟩
 rw[if_neg d];exact⟨_,rfl⟩
theorem qqI {n:Nat} (h2:n<=5) {r r':List qo} {v v':Nat->Rat} (h:qdx IsF n r v) (h':qdx IsF n r' v') (hv: ∀j,Q9 (v j)) (hv': ∀j,Q9 (v' j)): ∀(K i:Nat),i<=n->n<K+i-> ∃o,qK r r' K (i:Int)=some o
 |0,i,hi,hK=>by omega
 |K+1,i,hi,hK=>by
  unfold qK;have hl:=h.1;by_cases c:i<n
  ·obtain⟨x,x1,x2⟩:=h.get c;obtain⟨y,y1,y2⟩:=h'.get c;have x2:x=Fq (v i):=x2;have y2:y=Fq (v' i):=y2;obtain⟨o,e⟩:=quW (hv i) (hv' i);rw[if_pos (by omega),qC,x1,ZB,qC,y1,ZB,x2,y2,e,ZB]
   cases o with
   |false=>exact⟨_,rfl⟩
   |true=>
    rw[if_neg (by decide),zF (by omega)];exact qqI h2 h h' hv hv' K (i+1) (by omega) (by omega)
  rw[if_neg (by omega)];exact⟨_,rfl⟩
theorem eqr_t {N n:Nat} (hN:10<N) (h2:n<=5) {r r':List qo} {v v':Nat->Rat} (h:qdx IsF n r v) (h':qdx IsF n r' v') (hv: ∀j,Q9 (v j)) (hv': ∀j,Q9 (v' j)): ∃o,zX N r r'=some o:=by
 unfold zX jv;obtain⟨o,e⟩:=qqI h2 h h' hv hv' N 0 (by omega) (by omega);rw[show((0:Nat):Int)=0 from rfl]at e;rw[decide_eq_true (by rw[h.1,h'.1]),if_neg (by decide),e]
 cases o with
 |inl u=>exact⟨_,rfl⟩
 |inr u=>exact⟨_,rfl⟩
theorem qpY {N n:Nat} (hN:10<N) (h2:n<=5) {l l':List (List qo)} {M M':Nat->Nat->Rat} (h:MR IsF n l M) (h':MR IsF n l' M') (hM: ∀i,i<n-> ∀j,Q9 (M i j)) (hM': ∀i,i<n-> ∀j,Q9 (M' i j)): ∀(K i:Nat),i<=n->n<K+i-> ∃o,qL N l l' K (i:Int)=some o
 |0,i,hi,hK=>by omega
 |K+1,i,hi,hK=>by
  unfold qL;have hl:=h.1;by_cases c:i<n
  ·obtain⟨x,x1,x2⟩:=h.get c;obtain⟨y,y1,y2⟩:=h'.get c;obtain⟨o,e⟩:=eqr_t hN h2 x2 y2 (hM i c) (hM' i c);rw[if_pos (by omega),qC,x1,ZB,qC,y1,ZB,e,ZB]
   cases o with
   |false=>exact⟨_,rfl⟩
   |true=>
    rw[if_neg (by decide),zF (by omega)];exact qpY hN h2 h h' hM hM' K (i+1) (by omega) (by omega)
  rw[if_neg (by omega)];exact⟨_,rfl⟩
theorem eqm_t {N n:Nat} (hN:10<N) (h2:n<=5) {l l':List (List qo)} {M M':Nat->Nat->Rat} (h:MR IsF n l M) (h':MR IsF n l' M') (hM: ∀i,i<n-> ∀j,Q9 (M i j)) (hM': ∀i,i<n-> ∀j,Q9 (M' i j)): ∃o,zy N l l'=some o:=by
 unfold zy;obtain⟨o,e⟩:=qpY hN h2 h h' hM hM' N 0 (by omega) (by omega);rw[show((0:Nat):Int)=0 from rfl]at e;rw[decide_eq_true (by rw[h.1,h'.1]),if_neg (by decide),e]
 cases o with
 |inl u=>exact⟨_,rfl⟩
 |inr u=>exact⟨_,rfl⟩
structure qo1 (N n:Nat) (a b:List Int) (d1 d2 d3 d4 d5:Bool):Prop where
 c1:zw N a b=some d1
 c2:zt N (n:Int) a b=some d2
 c3:zo N (n:Int) a b=some d3
 c4:zu N (n:Int) a b=some d4
 c5:zL N (n:Int) a b=some d5
section
variable {N:Nat} (hN:600000<N) {n:Nat} (n5:n<=5) {a b:List Int} (A:jT n a) (B:jT n b) (la:a.length<=26) (lb:b.length<=26)
include hN n5 A B la lb
theorem qtp {e:Bool} (E:jZ N (n:Int) a b=some e): ∃d1 d2 d3 d4,qo1 N n a b d1 d2 d3 d4 (!e):=by
 have p1:=qhp A.n2 (N:=N) (by omega) A;have p2:=qhp B.n2 (N:=N) (by omega) B;have l1:=qhi A.n2 (N:=N) (by omega) A;have l2:=qhi B.n2 (N:=N) (by omega) B;obtain⟨m,m1,m2⟩:=qga Tk2 hN A.n1 n5 A.let_ (p28 hN A la) (by omega);obtain⟨o,o1,o2⟩:=qga Tk2 hN B.n1 n5 B.let_ (p28 hN B lb) (by omega)
 have ha: ∀i,i<n-> ∀j,Q9 (qgb t2 a i j):=fun i hi j=>qnl Tk2 n5 A.let_ (p28 hN A la) hi j
 have hb: ∀i,i<n-> ∀j,Q9 (qgb t2 b i j):=fun i hi j=>qnl Tk2 n5 B.let_ (p28 hN B lb) hi j
 obtain⟨r4,e4⟩:=eqm_t (N:=N) (by omega) n5 m2 o2 ha hb
 have rows: ∀(f:Nat->Nat->Int),(∀x∈qcY n f,x.length<=1000)/\(qcY n f).length<=300:=fun f=>by
  refine⟨fun x hx=>?_,by rw[qb8];omega⟩;obtain⟨i,hi⟩:=List.getElem?_of_mem hx;have l1:=(Yb.1 hi).1;rw[qb8]at l1;rw[qcQ l1]at hi;have:=Ye hi;rw[<-this,qb4];omega
 have mr:=rows (lkF SB.id (fun _ _=>0) a)
 have c1: ∃d,zw N a b=some d:=by
  unfold zw;rw[qhf hN A la,ZB,qhf hN B lb,ZB];exact⟨_,rfl⟩
 have c2: ∃d,zt N (n:Int) a b=some d:=by
  unfold zt;rw[p1,ZB,p2,ZB,qdp (by rw[Uf];omega) (by rw[Uf];omega),ZB];exact⟨_,rfl⟩
 have c3: ∃d,zo N (n:Int) a b=some d:=by
  unfold zo;rw[l1,ZB,l2,ZB,qmM (by omega) mr.1 mr.2,ZB];exact⟨_,rfl⟩
 have c4: ∃d,zu N (n:Int) a b=some d:=by
  unfold zu;rw[F_s,ZB,m1,ZB,ZB,o1,ZB,e4,ZB];exact⟨_,rfl⟩
 obtain⟨d1,c1⟩:=c1;obtain⟨d2,c2⟩:=c2;obtain⟨d3,c3⟩:=c3;obtain⟨d4,c4⟩:=c4;refine⟨d1,d2,d3,d4,c1,c2,c3,c4,?_⟩;unfold zL;rw[E,ZB]
theorem qs2 (L:Alike n a b) (E:jZ N (n:Int) a b=some true):qo1 N n a b false false false false false:=by
 have p1:=qhp A.n2 (N:=N) (by omega) A;have p2:=qhp B.n2 (N:=N) (by omega) B;have l1:=qhi A.n2 (N:=N) (by omega) A;have l2:=qhi B.n2 (N:=N) (by omega) B;obtain⟨m,m1,m2⟩:=qga Tk2 hN A.n1 n5 A.let_ (p28 hN A la) (by omega);obtain⟨o,o1,o2⟩:=qga Tk2 hN B.n1 n5 B.let_ (p28 hN B lb) (by omega)
 have hb: ∀i,i<n-> ∀j,Q9 (qgb t2 a i j):=fun i hi j=>qnl Tk2 n5 A.let_ (p28 hN A la) hi j
 rw[<-L.mat]at o2;have mr:=qpx hN n5 A B la lb L (lkF SB.id (fun _ _=>0) b);refine⟨?_,?_,?_,?_,?_⟩
 ·unfold zw;rw[qhf hN A la,ZB,qhf hN B lb,ZB,L.ex,decide_eq_true rfl];rfl
 ·unfold zt;rw[p1,ZB,p2,ZB,L.pm,qdp (by rw[Uf];omega) (by rw[Uf];omega),ZB,decide_eq_true rfl];rfl
 ·unfold zo;rw[l1,ZB,l2,ZB,qr7 hN n5 A B la lb L,quJ (by omega) mr.1 mr.2,ZB];rfl
 ·unfold zu;rw[F_s,ZB,m1,ZB,ZB,o1,ZB,quY (by omega) n5 m2 o2 hb,ZB];rfl
 unfold zL;rw[E,ZB];rfl
end
end Go.Av
end
noncomputable section
namespace Go.Av
open Go.Proofs Go.RowKit
variable [Glob]
theorem qeM {N:Nat} (hN:2000<N) (n:Int) (w:List Int):qbb N n w 4 7=some (decide (n<=4/\w.length<=7/\qid n w=0)):=by
 unfold qbb;by_cases a:n<=4
 ·by_cases b:(w.length:Int)<=7
  ·rw[if_pos a,if_pos b,qm0 hN (by omega)];simp only[ZB];congr 1;rw[decide_eq_decide];omega
  rw[if_pos a,if_neg b,decide_eq_false (by omega)];rfl
 rw[if_neg a,decide_eq_false (by omega)];rfl
def qiM (d1 d2 d3 d4 d5:Bool):Str×Int:=if d1=true then(kEx,0)else if d2=true then(kPm,0)else if d3=true then(kLk,0)else if d4=true then(kBu,0)else if d5=true then(kFo,0)else([],7)
theorem qqE {N n:Nat} {a b:List Int} {d1 d2 d3 d4 d5:Bool} (F:qo1 N n a b d1 d2 d3 d4 d5) (K:Nat):(qZ N (n:Int) a b (K+6) 0).bind (fun
 |(.inl ())=>some (([]:Str),(7:Int))
 |(.inr q23)=>some q23)=some (qiM d1 d2 d3 d4 d5):=by
 unfold qZ;rw[if_pos (by decide),if_pos rfl,F.c1,ZB]
 cases d1 with
 |true=>rfl
 |false=>
  rw[if_neg (by decide),show w64 (0+1)=1 from rfl];unfold qZ;rw[if_pos (by decide),if_neg (by decide),if_pos rfl,F.c2,ZB]
  cases d2 with
  |true=>rfl
  |false=>
   rw[if_neg (by decide),show w64 (1+1)=2 from rfl];unfold qZ;rw[if_pos (by decide),if_neg (by decide),if_neg (by decide),if_pos rfl,F.c3,ZB]
   cases d3 with
   |true=>rfl
   |false=>
    rw[if_neg (by decide),show w64 (2+1)=3 from rfl];unfold qZ;rw[if_pos (by decide),if_neg (by decide),if_neg (by decide),if_neg (by decide),if_pos rfl,F.c4,ZB]
    cases d4 with
    |true=>rfl
    |false=>
     rw[if_neg (by decide),show w64 (3+1)=4 from rfl];unfold qZ;rw[if_pos (by decide),if_neg (by decide),if_neg (by decide),if_neg (by decide),if_neg (by decide),if_pos rfl,F.c5,ZB]
     cases d5 with
     |true=>rfl
     |false=>
      rw[if_neg (by decide),show w64 (4+1)=5 from rfl];rfl
section
variable {N:Nat} (hN:600000<N) {n:Nat} {a b:List Int} (A:jT n a) (B:jT n b) {d1 d2 d3 d4 d5:Bool} (F:qo1 N n a b d1 d2 d3 d4 d5)
include hN A B F
theorem qjH:qbe N (n:Int) a b=some (qiM d1 d2 d3 d4 d5):=by
 have inv:jW (n:Int) a b=some ():=rfl;unfold qbe;rw[qbN (by omega) A B,ZB,if_neg (by decide),inv,ZB];have:=qqE F (N-6);rw[show N-6+6=N by omega]at this;exact this
theorem qhU:qH N (n:Int) a b kEx=some (if d1=true then 0 else 21)/\qH N (n:Int) a b kPm=some (if d2=true then 0 else 21)/\qH N (n:Int) a b kLk=some (if d3=true then 0 else 21)/\qH N (n:Int) a b kBu=some (if d4=true then 0 else 21)/\qH N (n:Int) a b kFo=some (if d5=true then 0 else 21):=by
 have ix: ∀j:Nat,j<5->qE N kEx a b kPm n a b kLk n a b kBu n a b kFo n a b ([kEx,kPm,kLk,kBu,kFo].getD j [])=some (j:Int):=by
  intro j hj;obtain⟨M,rfl⟩: ∃M,N=M+10:=⟨N-10,by omega⟩;rcases(show j=0\/j=1\/j=2\/j=3\/j=4 by omega)with rfl|rfl|rfl|rfl|rfl<;>rfl
 have inv:jW (n:Int) a b=some ():=rfl;have i0:qE N kEx a b kPm n a b kLk n a b kBu n a b kFo n a b kEx=some 0:=ix 0 (by decide);have i1:qE N kEx a b kPm n a b kLk n a b kBu n a b kFo n a b kPm=some 1:=ix 1 (by decide);have i2:qE N kEx a b kPm n a b kLk n a b kBu n a b kFo n a b kLk=some 2:=ix 2 (by decide);have i3:qE N kEx a b kPm n a b kLk n a b kBu n a b kFo n a b kBu=some 3:=ix 3 (by decide);have i4:qE N kEx a b kPm n a b kLk n a b kBu n a b kFo n a b kFo=some 4:=ix 4 (by decide);refine⟨?_,?_,?_,?_,?_⟩
 ·unfold qH;rw[qbN (by omega) A B,ZB,if_neg (by decide),inv,ZB,i0,ZB,if_neg (by decide),if_pos rfl,F.c1,ZB,yA];cases d1<;>rfl
 ·unfold qH;rw[qbN (by omega) A B,ZB,if_neg (by decide),inv,ZB,i1,ZB,if_neg (by decide),if_neg (by decide),if_pos rfl,F.c2,ZB,yA];cases d2<;>rfl
 ·unfold qH;rw[qbN (by omega) A B,ZB,if_neg (by decide),inv,ZB,i2,ZB,if_neg (by decide),if_neg (by decide),if_neg (by decide),if_pos rfl,F.c3,ZB,yA];cases d3<;>rfl
 ·unfold qH;rw[qbN (by omega) A B,ZB,if_neg (by decide),inv,ZB,i3,ZB,if_neg (by decide),if_neg (by decide),if_neg (by decide),if_neg (by decide),if_pos rfl,F.c4,ZB,yA];cases d4<;>rfl
 unfold qH;rw[qbN (by omega) A B,ZB,if_neg (by decide),inv,ZB,i4,ZB,if_neg (by decide),if_neg (by decide),if_neg (by decide),if_neg (by decide),if_neg (by decide),if_pos rfl,F.c5,ZB,yA];cases d5<;>rfl
theorem lawL {d5:Bool} (F:qo1 N n a b d1 d2 d3 d4 d5) (h5:d5=true) (K:Nat):qV N (n:Int) a b (qiM d1 d2 d3 d4 d5) [kEx,kPm,kLk,kBu,kFo] (K+6) 0=some (.inr true):=by
 obtain⟨e1,e2,e3,e4,e5⟩:=qhU hN A B F;subst h5;have l5:(([kEx,kPm,kLk,kBu,kFo]:List Str).length:Int)=5:=rfl;have x0:idx ([kEx,kPm,kLk,kBu,kFo]:List Str) 0=some kEx:=rfl;have x1:idx ([kEx,kPm,kLk,kBu,kFo]:List Str) 1=some kPm:=rfl;have x2:idx ([kEx,kPm,kLk,kBu,kFo]:List Str) 2=some kLk:=rfl;have x3:idx ([kEx,kPm,kLk,kBu,kFo]:List Str) 3=some kBu:=rfl;have x4:idx ([kEx,kPm,kLk,kBu,kFo]:List Str) 4=some kFo:=rfl
 have go: ∀(i:Int) (K:Nat) (x:Str),i<5->idx ([kEx,kPm,kLk,kBu,kFo]:List Str) i=some x->(x==(qiM d1 d2 d3 d4 true).1)=false->qH N (n:Int) a b x=some 21->qV N (n:Int) a b (qiM d1 d2 d3 d4 true) [kEx,kPm,kLk,kBu,kFo] (K+1) i=qV N (n:Int) a b (qiM d1 d2 d3 d4 true) [kEx,kPm,kLk,kBu,kFo] K (w64 (i+1)):=by
  intro i K x hi hx hn hc
  conv=>lhs;unfold qV
  rw[l5,if_pos hi,hx,ZB,hn,if_neg (by decide),hc,ZB,if_neg (by decide)]
 have at_: ∀(i:Int) (K:Nat) (x:Str),i<5->idx ([kEx,kPm,kLk,kBu,kFo]:List Str) i=some x->(x==(qiM d1 d2 d3 d4 true).1)=true->qV N (n:Int) a b (qiM d1 d2 d3 d4 true) [kEx,kPm,kLk,kBu,kFo] (K+1) i=some (.inr true):=by
  intro i K x hi hx hn;unfold qV;rw[l5,if_pos hi,hx,ZB,hn,if_pos rfl]
 cases d1 with
 |true=>exact at_ 0 _ _ (by decide) x0 rfl
 |false=>
  rw[go 0 _ _ (by decide) x0 (by cases d2<;>cases d3<;>cases d4<;>rfl) e1,show w64 (0+1)=1 from rfl]
  cases d2 with
  |true=>exact at_ 1 _ _ (by decide) x1 rfl
  |false=>
   rw[go 1 _ _ (by decide) x1 (by cases d3<;>cases d4<;>rfl) e2,show w64 (1+1)=2 from rfl]
   cases d3 with
   |true=>exact at_ 2 _ _ (by decide) x2 rfl
   |false=>
    rw[go 2 _ _ (by decide) x2 (by cases d4<;>rfl) e3,show w64 (2+1)=3 from rfl]
    cases d4 with
    |true=>exact at_ 3 _ _ (by decide) x3 rfl
    |false=>
     rw[go 3 _ _ (by decide) x3 rfl e4,show w64 (3+1)=4 from rfl];exact at_ 4 _ _ (by decide) x4 rfl
end
theorem Alike.trans {n:Nat} {a b c:List Int} (h:Alike n a b) (k:Alike n b c):Alike n a c:=⟨h.ex.trans k.ex,h.pm.trans k.pm,fun i j=>(h.lk i j).trans (k.lk i j),h.mat.trans k.mat⟩
theorem Chn.alike {N n:Nat}: ∀{l:List qG} {w v:List Int},Chn N n w l v->qaf n w->Alike n w v
 |[],w,v,h,hw=>by
  obtain rfl:w=v:=h;exact⟨rfl,rfl,fun _ _=>rfl,rfl⟩
 |m::l,w,v,⟨u,_,hm,h⟩,hw=>(hm.alike hw).trans (Chn.alike h (hm.let_ hw))
section
variable {N:Nat} (hN:2000000<N) {n:Nat} (n4:n<=4) {a b:List Int} (A:jT n a) (B:jT n b) (la:a.length<=7) (lb:b.length<=7)
include hN n4 A B la lb
theorem qjh {e:Bool} (E:jZ N (n:Int) a b=some e) (H:e=true-> ∃J,J<=1121/\hrI J [] (a++qaM b)=some []):jr N (n:Int) a b=some true:=by
 have fa:qbb N (n:Int) a 4 7=some true:=by rw[qeM (by omega),decide_eq_true ⟨by omega,la,qkc A⟩]
 have fb:qbb N (n:Int) b 4 7=some true:=by rw[qeM (by omega),decide_eq_true ⟨by omega,lb,qkc B⟩]
 have be:qbR N (n:Int) a b=some (e,0):=by
  unfold qbR;rw[qbN (by omega) A B,ZB,if_neg (by decide),E,ZB]
 unfold jr awk;simp only[ZB,Bool.not_true,ZF,if_false];rw[fa];simp only[ZB,Bool.not_true,ZF,if_false];rw[fb];simp only[ZB,Bool.not_true,ZF,if_false];rw[be];simp only[ZB]
 cases e with
 |true=>
  obtain⟨J,j1,j2⟩:=H rfl;obtain⟨l,p1,p2,p3⟩:=qqN (by omega) A.n1 A.n2 A B la lb E (by omega) j2;have al:=Chn.alike p2 A.let_;have F:=qs2 (by omega) (by omega) A B (by omega) (by omega) al E;have cm:=qi2 (by omega) A.n1 A.n2 A B p3 p2;rw[p1,ZB,qjH (by omega) A B F,ZB];have k1:(qiM false false false false false)=(([]:Str),(7:Int)):=rfl;rw[k1];dsimp only;rw[cm];rfl
 |false=>
  obtain⟨d1,d2,d3,d4,F⟩:=qtp (by omega) (by omega) A B (by omega) (by omega) E;have pn:=qsh (by omega) A.n1 A.n2 A B la lb E;have F:qo1 N n a b d1 d2 d3 d4 true:=F;rw[pn,ZB,qjH (by omega) A B F,ZB]
  have k0:(qiM d1 d2 d3 d4 true).2=0:=by cases d1<;>cases d2<;>cases d3<;>cases d4<;>rfl
  have kc:qH N (n:Int) a b (qiM d1 d2 d3 d4 true).1=some 0:=by
   obtain⟨e1,e2,e3,e4,e5⟩:=qhU (by omega) A B F
   cases d1 with
   |true=>exact e1
   |false=>
    cases d2 with
    |true=>exact e2
    |false=>
     cases d3 with
     |true=>exact e3
     |false=>
      cases d4 with
      |true=>exact e4
      |false=>exact e5
  have lw:=lawL (N:=N) (by omega) A B F F rfl (N-6);rw[show N-6+6=N by omega]at lw;have kk:qc9=some [kEx,kPm,kLk,kBu,kFo]:=rfl;rw[k0,kc];simp only[ZB];rw[kk];simp only[ZB];rw[lw];rfl
end
theorem qfK {N:Nat} (hN:2000000<N) (n:Int) (a b:List Int):jr N n a b=some true:=by
 by_cases A:n<=4/\a.length<=7/\qid n a=0
 ·by_cases B:n<=4/\b.length<=7/\qid n b=0
  ·obtain⟨k,rfl,WA⟩:=qnO A.2.2;obtain⟨k',e,WB⟩:=qnO B.2.2
   obtain rfl:k=k':=by omega
   have k4:k<=4:=by have:=A.1;omega
   have k1:=WA.n1;have la:=A.2.1;have lb:=B.2.1
   have main: ∀{T:QTb},TOK T->T.n=k->jr N (k:Int) a b=some true:=fun {T} t hk=>by
    subst hk
    refine qjh hN k4 WA WB la lb (qp2 t (by omega) WA WB la lb) fun e=>?_
    exact qi5 t WA.let_ WB.let_ la lb (of_decide_eq_true e)
   have hk:k=1\/k=2\/k=3\/k=4:=by omega
   rcases hk with rfl|rfl|rfl|rfl
   ·have ha:a=[]:=by
     cases a with
     |nil=>rfl
     |cons c w=>have:=WA.let_ c (List.mem_cons_self ..);omega
    have hb:b=[]:=by
     cases b with
     |nil=>rfl
     |cons c w=>have:=WB.let_ c (List.mem_cons_self ..);omega
    subst ha;subst hb
    refine qjh hN k4 WA WB la lb (e:=true) ?_ fun _=>⟨1,by omega,rfl⟩
    obtain⟨K,rfl⟩: ∃K,N=K+10:=⟨N-10,by omega⟩;rfl
   ·exact main tok2 rfl
   ·exact main tok3 rfl
   exact main tok4 rfl
  unfold jr awk;simp only[ZB,Bool.not_true,ZF,if_false];rw[qeM (by omega),decide_eq_true A];simp only[ZB,Bool.not_true,ZF,if_false];rw[qeM (by omega),decide_eq_false B];rfl
 unfold jr awk;simp only[ZB,Bool.not_true,ZF,if_false];rw[qeM (by omega),decide_eq_false A];rfl
end Go.Av
end
