/-
  Walks of functions: what each computes, as a plain function.
-/
import Derived.Test.YthgioiakbbhonaaGreatDoorQGenEi1
open Go.IntKind(wrap)
noncomputable section
namespace Go.Av
open Go.Proofs Go.RowKit
set_option linter.unusedSectionVars false
set_option linter.unusedVariables false
set_option linter.unusedSimpArgs false
set_option maxRecDepth 100000
def jY (b:List Int) (l:Int) (g:Int):Nat->(List Int)->Int->Int->Option ((List Int)×Int)
 |0,_,_,_=>none
 |K+1,h,a,c=>
  if a<(b.length:Int)then
  (idx b a).bind λi=>
  (bits_Mul64 l i).bind λd=>
  (idx h (w64 (g+a))).bind λj=>
  (qaN d.2 j 0).bind λe=>
  (qaN e.1 c 0).bind λf=>
  (put h (w64 (g+a)) f.1).bind λk=>
  jY b l g K k (w64 (a+1)) (wrap .u64 ((wrap .u64 (d.1+e.2))+f.2))
  else
  some (h,c)
def vg (N:Nat) (a:List Int) (b:List Int):Nat->(List Int)->Int->Option (List Int)
 |0,_,_=>none
 |K+1,g,c=>
  if c<(a.length:Int)then
  (idx a c).bind λh=>
  (jY b h c N g 0 0).bind λ(d,e)=>
  (idx d (w64 (c+(b.length:Int)))).bind λi=>
  (put d (w64 (c+(b.length:Int))) e).bind λf=>
  vg N a b K f (w64 (c+1))
  else
  some g
def qba (N:Nat) (a:List Int) (b:List Int):Option (List Int):=
 (mk 8 (w64 ((a.length:Int)+(b.length:Int))) 0).bind λd=>
 (vg N a b N d 0).bind λe=>
 (qaa N e).bind λc=>
 some c
theorem qhr (N:Nat) (a:List Int) (b:List Int) {res:List Int} (h:qba N a b=some res):qf ZT (.fn 159) [vl eU a,vl eU b] [] (vl eU res) []:=by
 unfold qba at h;obtain⟨L,O,Y,g5,h⟩:=bn2 h;refine Ub Tryz.func159 rfl rfl (m:=80) rfl (rs:=[.tmp 4]) rfl (l:=[(0,vl eU a),(1,vl eU b)]) rfl<|sh fol [(0,vl eU a),(1,vl eU b)]<|sq<|gq fol [5] ((0,vl eU a)::(1,vl eU b)::(kE L [])) [.cells (L.flatMap eU.c)] (qh (hs (.run [] (jd ZT 72 (.i (w64 ((zl a)+(zl b)))) (.i (w64 ((zl a)+(zl b))))) [] (.slice 0 0 L.length L.length 1) [.cells (L.flatMap eU.c)] false) (qdf je (E:=eU) (z:=0) rfl (by kernel_rfl) O rfl)))<|sq<|sh fol ((1,vl eU b)::(kE L [(20,vl eU a),(21,.i (zl a)),(22,.i 0)]))<|Goes.block<|Goes.imp (Q:=λx s'=>(x= .exit 0/\ ∃C,C=Y/\Sub s' (ofG 80 (kE C []),[.cells (C.flatMap eU.c)]))) ?_ ?_
 ·refine Ud (λM s=> ∃(F:List Int) (d:Int),s=(ofG 80 ((1,vl eU b)::(kE F ((20,vl eU a)::(kAH (zl a) d [])))),[.cells (F.flatMap eU.c)])/\vg N a b M F d=some Y) ?_ (m:=N) ⟨_,_,rfl,g5⟩;rintro M s ⟨F,d,rfl,g5⟩
  cases M with
  |zero=>simp only[vg]at g5;cases g5
  |succ M=>
   rw[vg]at g5;refine sh fol ((1,vl eU b)::(kE F ((20,vl eU a)::(kAH (zl a) d [(23,.bool (decide (d<(zl a))))]))))<|sq<|ihD g5 (λZ g5=>?_) (λZ g5=>?_)
   ·obtain⟨p,G,P,g13,g5⟩:=bn2 g5;refine Goes.skip<|sq<|Goes.block<|sq<|gr fol [1,2] ((1,vl eU b)::(kE F ((6,.i d)::(kAf p ((20,vl eU a)::(kAH (zl a) d [])))))) (qA (iv je eU G) (lv 0 jo eU G rfl))<|sh fol ((1,vl eU b)::(kE F ((6,.i d)::(kAf p (kBZ ((20,vl eU a)::(kAH (zl a) d [])))))))<|sq<|sh fol ((1,vl eU b)::(kE F ((6,.i d)::(kAf p (kBZ ((20,vl eU a)::(kAH (zl a) d [(27,vl eU b),(28,.i (zl b)),(29,.i 0)])))))))<|Goes.block<|Goes.imp (Q:=λx s'=>(x= .exit 2/\ ∃k r,(k,r)=P/\Sub s' (ofG 80 ((1,vl eU b)::(kE k ((6,.i d)::(8,.int .u64 r)::(20,vl eU a)::(kAH (zl a) d [])))),[.cells (k.flatMap eU.c)]))) ?_ ?_
    ·refine Ud (λM s=> ∃(g:List Int) (e:Int) (j:Int),s=(ofG 80 ((1,vl eU b)::(kE g ((6,.i d)::(kAD p j ((20,vl eU a)::(kAH (zl a) d ((27,vl eU b)::(kAx (zl b) e)))))))),[.cells (g.flatMap eU.c)])/\jY b p d M g e j=some P) ?_ (m:=N) ⟨_,_,_,rfl,g13⟩;rintro M s ⟨g,e,j,rfl,g13⟩
     cases M with
     |zero=>simp only[jY]at g13;cases g13
     |succ M=>
      rw[jY]at g13;refine sh fol ((1,vl eU b)::(kE g ((6,.i d)::(kAD p j ((20,vl eU a)::(kAH (zl a) d [(27,vl eU b),(28,.i (zl b)),(29,.i e),(30,.bool (decide (e<(zl b))))]))))))<|sq<|ihD g13 (λX g13=>?_) (λX g13=>?_)
      ·obtain⟨U,t,f,H,V,n,o,I,q,J,u,v,g13⟩:=bn6 g13;exact Goes.skip<|sq<|Goes.block<|sq<|gr fol [1,2] ((1,vl eU b)::(kE g ((6,.i d)::(kAD p j ((9,.i e)::(10,.int .u64 U)::(20,vl eU a)::(kAH (zl a) d ((27,vl eU b)::(kAx (zl b) e)))))))) (qA (iv je eU t) (lv 0 jo eU t rfl))<|sq<|gr fol [2] ((1,vl eU b)::(kE g ((6,.i d)::(kAD p j ((9,.i e)::(kAA f.1 f.2 ((20,vl eU a)::(kAH (zl a) d ((27,vl eU b)::(kAx (zl b) e)))))))))) (qh (cv (qbs p U H)))<|sh fol ((1,vl eU b)::(kE g ((6,.i d)::(kAD p j ((9,.i e)::(kAA f.1 f.2 ((20,vl eU a)::(kAH (zl a) d ((27,vl eU b)::(kAx (zl b) e))))))))))<|sq<|gr fol [5,6,7] ((1,vl eU b)::(kE g ((6,.i d)::(kAD p j ((9,.i e)::(kAA f.1 o.1 ((13,.int .u64 o.2)::(20,vl eU a)::(kAH (zl a) d ((27,vl eU b)::(kAx (zl b) e)))))))))) (qI (hs (.done (.opt (qd ZT 72 (.slice 0 0 g.length g.length 1) (.i (w64 (d+e))))) (.ptr 0 ((w64 (d+e):Int).toNat*1+0))) (qad je n)) (hs (.run [0] (qX ZT 180 (.ptr 0 ((w64 (d+e):Int).toNat*1+0))) [.cells (g.flatMap eU.c)] (.int .u64 V) [.cells (g.flatMap eU.c)] false) (qdh jo (E:=eU) (l:=g) rfl rfl n (nl rfl) rfl)) (cv (qcY f.2 V 0 I)))<|sh fol ((1,vl eU b)::(kE g ((6,.i d)::(kAD p j ((9,.i e)::(kAA (wrap .u64 (f.1+o.2)) o.1 ((20,vl eU a)::(kAH (zl a) d ((27,vl eU b)::(kAx (zl b) e))))))))))<|sq<|gr fol [2] ((1,vl eU b)::(kE g ((6,.i d)::(kAf p ((9,.i e)::(kAA (wrap .u64 (f.1+o.2)) q.1 ((13,.int .u64 q.2)::(20,vl eU a)::(kAH (zl a) d ((27,vl eU b)::(kAx (zl b) e)))))))))) (qh (cv (qcY o.1 j 0 J)))<|gq fol [8,9] ((1,vl eU b)::(kE g ((6,.i d)::(kAD p (wrap .u64 ((wrap .u64 (f.1+o.2))+q.2)) ((20,vl eU a)::(kAH (zl a) d ((27,vl eU b)::(kAx (zl b) e)))))))) [.cells (u.flatMap eU.c)] (qA (hs (.done (.opt (qd ZT 72 (.slice 0 0 g.length g.length 1) (.i (w64 (d+e))))) (.ptr 0 ((w64 (d+e):Int).toNat*1+0))) (qad je n)) (hs (.run [0] (qx ZT 180 (.ptr 0 ((w64 (d+e):Int).toNat*1+0)) (.int .u64 q.1)) [.cells (g.flatMap eU.c)] .undef [.cells (u.flatMap eU.c)] true) (xS (E:=eU) (l:=g) (y:=q.1) rfl (show _=some 1 by kernel_rfl) rfl n rfl rfl rfl rfl rfl v rfl)))<|Goes.sub (show Sub _ (ofG 80 ((1,vl eU b)::(kE u ((6,.i d)::(kAD p (wrap .u64 ((wrap .u64 (f.1+o.2))+q.2)) ((20,vl eU a)::(kAH (zl a) d ((27,vl eU b)::(kAx (zl b) e)))))))),[.cells (u.flatMap eU.c)])from(Uc [] [some 0] rfl rfl (.keep (.same (qc eU _)) (.keep (.sliceE rfl (jv v)) (.keep (.same nI) (.keep (.same nI) (.keep (.same nI) (.keep (.same (qc eU _)) (.keep (.same nI) (.keep (.same nI) (.keep (.same (qc eU _)) (.keep (.same nI) (.keep (.same nI) .nil))))))))))) (.ks .nil)))<|gh fol ((1,vl eU b)::(kE u ((6,.i d)::(kAD p (wrap .u64 ((wrap .u64 (f.1+o.2))+q.2)) ((20,vl eU a)::(kAH (zl a) d ((27,vl eU b)::(kAx (zl b) (w64 (e+1))))))))))<|zo ⟨_,_,_,rfl,g13⟩
      cases g13
      exact Goes.exit<|⟨rfl,_,_,rfl,(Sub.keep [1,5,6,8,20,21,22] rfl rfl)⟩
    rintro x s' ⟨rfl,k,r,rfl,hsub⟩
    try dsimp only at g5
    obtain⟨a0,w,A,B,g5⟩:=bn2 g5;exact Goes.sub hsub<|gq fol [6,7] ((1,vl eU b)::(kE k ((20,vl eU a)::(kAH (zl a) d [])))) [.cells (A.flatMap eU.c)] (qA (hs (.done (.opt (qd ZT 72 (.slice 0 0 k.length k.length 1) (.i (w64 (d+(zl b)))))) (.ptr 0 ((w64 (d+(zl b)):Int).toNat*1+0))) (qad je w)) (hs (.run [0] (qx ZT 180 (.ptr 0 ((w64 (d+(zl b)):Int).toNat*1+0)) (.int .u64 r)) [.cells (k.flatMap eU.c)] .undef [.cells (A.flatMap eU.c)] true) (xS (E:=eU) (l:=k) (y:=r) rfl (show _=some 1 by kernel_rfl) rfl w rfl rfl rfl rfl rfl B rfl)))<|Goes.sub (show Sub _ (ofG 80 ((1,vl eU b)::(kE A ((20,vl eU a)::(kAH (zl a) d [])))),[.cells (A.flatMap eU.c)])from(Uc [] [some 0] rfl rfl (.keep (.same (qc eU _)) (.keep (.sliceE rfl (jv B)) (.keep (.same (qc eU _)) (.keep (.same nI) (.keep (.same nI) .nil))))) (.ks .nil)))<|gh fol ((1,vl eU b)::(kE A ((20,vl eU a)::(kAH (zl a) (w64 (d+1)) []))))<|zo ⟨_,_,rfl,g5⟩
   cases g5
   exact Goes.exit<|⟨rfl,_,rfl,(Sub.keep [5] rfl rfl)⟩
 rintro x s' ⟨rfl,C,rfl,hsub⟩;obtain⟨D,K,rfl⟩:=bs1 h;exact Goes.sub hsub<|sq<|gq fol [1] [(4,vl eU D)] [.frozen (C.flatMap eU.c)] (qh (hs (.callF 168 [.slice 0 0 C.length C.length 1] [.cells (C.flatMap eU.c)] [0] [vl eU C] (vl eU D)) (qa0 (FzL.cons (Fz.sl (E:=eU) rfl rfl (nl rfl)) FzL.nil) (qah N C K) (qw eU _ (nl rfl)))))<|Goes.sub (show Sub _ (ofG 80 [(4,vl eU D)],[])from(Uc [] [] rfl rfl (.keep (.same (qc eU _)) .nil) .nil))<|Goes.ret<|(gw2 [vl eU D] (Ua (qw eU _ (nl rfl))))
def qR (N:Nat) (a:qm) (b:qm):Option qm:=
 (if a.w.isEmpty=true then
 some b.w.isEmpty
 else
 some false:Option Bool).bind λj=>
 ((if j=true then
 (qdg a.s).bind λk=>
 (qdg b.s).bind λl=>
 (bits_Mul64 k l).bind λe=>
 (if e.1=0 then
 some (decide (e.2<=9223372036854775807))
 else
 some false:Option Bool).bind λf=>
 if f=true then
 if(!((decide (a.s<0))==(decide (b.s<0))))=true then
 some (.inr (⟨w64 (0-(w64 e.2)),[]⟩:qm))
 else
 some (.inr (⟨w64 e.2,[]⟩:qm))
 else
 some (.inl ())
 else
 some (.inl ()):Option (Unit⊕qm))).bind (λ
 |(.inl ())=>
 (qL a).bind λc=>
 (qL b).bind λd=>
 (qba N c.2 d.2).bind λg=>
 (yo (!(c.1==d.1)) g).bind λh=>
 some h
 |(.inr i)=>
 some i)
theorem yB (N:Nat) (a:qm) (b:qm) {res:qm} (h:qR N a b=some res):qf ZT (.fn 104) [.agg (nz1 a),.agg (nz1 b)] [] (.agg (nz1 res)) []:=by
 unfold qR at h;obtain⟨G,d,h⟩:=bnd h;refine Ub Tryz.func104 rfl rfl (m:=66) rfl (rs:=[.cell 4 74]) rfl (l:=[(0,.agg (nz1 a)),(1,.agg (nz1 b))]) rfl<|sg fol (kG []) [.cells (nz1 a),.cells (nz1 b),bZ]<|sq<|sq<|Goes.cut (s':=(ofG 66 (kG [(18,.bool G)]),[.cells (nz1 a),.cells (nz1 b),bZ])) ?_ ?_
 ·rcases wyB d with⟨y,d⟩|⟨y,d⟩
  ·cases d
   exact tr fol [2,3,6] (kG [(18,.bool b.w.isEmpty)]) (qI (hs (.done (.opt (zt ZT .eql 72 (.tmp 12) (.const (.slice none 0 0)) (nvl eU a.w) .nilslice)) (.bool a.w.isEmpty)) (qbp qbh)) (gw y) (hs (.done (.opt (zt ZT .eql 72 (.tmp 16) (.const (.slice none 0 0)) (nvl eU b.w) .nilslice)) (.bool b.w.isEmpty)) (qbp qbh)))
  cases d
  exact tr fol [2,3] (kG [(18,.bool false)]) (qA (hs (.done (.opt (zt ZT .eql 72 (.tmp 12) (.const (.slice none 0 0)) (nvl eU a.w) .nilslice)) (.bool a.w.isEmpty)) (qbp qbh)) (gw y))
 obtain⟨D,g4,h⟩:=bnd h;refine Goes.imp (Q:=λx s'=>(x= .normal/\(.inl ())=D/\Sub s' (ofG 66 (kG []),[.cells (nz1 a),.cells (nz1 b),bZ]))\/(x= .ret/\ ∃F,(.inr F)=D/\zm ZT [.cell 4 74] (.agg (nz1 F)) .ret s')) ?_ ?_
 ·refine ihB g4 (λH g4=>?_) (λH g4=>?_)
  ·obtain⟨I,t,J,u,f,v,z,c,g4⟩:=bn4 g4;refine sq<|gr fol [2,5,6] (kG ((5,.int .u64 f.1)::(kAN f.2 []))) (qI (cv (qe4 a.s t)) (cv (qe4 b.s u)) (cv (qbs I J v)))<|sq<|Goes.cut (s':=(ofG 66 (kG (kAN f.2 [(34,.bool z)])),[.cells (nz1 a),.cells (nz1 b),bZ])) ?_ ?_
   ·rcases wyD c with⟨k,c⟩|⟨k,c⟩
    ·cases c
     exact tr fol [2] (kG (kAN f.2 [(34,.bool (decide (f.2<=9223372036854775807)))])) (qh (gw k))
    cases c
    exact tr fol [2] (kG (kAN f.2 [(34,.bool false)])) (qh (gw k))
   refine ihB g4 (λA g4=>?_) (λA g4=>?_)
   ·refine sq<|sh fol ((4,.ptr 2 0)::(kAN f.2 [(41,.bool (!((decide (a.s<0))==(decide (b.s<0)))))]))<|ihB g4 (λB g4=>?_) (λB g4=>?_)
    ·cases g4
     exact sg fol kAl (.cells (nz1 a):: .cells (nz1 b)::(kA7 (w64 (0-(w64 f.2)))))<|Goes.ret<|Or.inr (⟨rfl,_,rfl,(gw2 [.agg [.i (w64 (0-(w64 f.2))),.nilslice]] (FzW.agg (qj.cons (Ua tI) (qj.cons (Ur (E:=eU)) qj.nil))))⟩)
    cases g4
    exact Goes.skip<|sg fol kAl (.cells (nz1 a):: .cells (nz1 b)::(kA7 (w64 f.2)))<|Goes.ret<|Or.inr (⟨rfl,_,rfl,(gw2 [.agg [.i (w64 f.2),.nilslice]] (FzW.agg (qj.cons (Ua tI) (qj.cons (Ur (E:=eU)) qj.nil))))⟩)
   cases g4
   exact Goes.skip<|Or.inl (⟨rfl,rfl,(Sub.keep [2,3,4] rfl rfl)⟩)
  cases g4
  exact Goes.skip<|Or.inl (⟨rfl,rfl,(Sub.keep [2,3,4] rfl rfl)⟩)
 rintro x s' (⟨rfl,rfl,hsub⟩|⟨rfl,K,rfl,hret⟩)
 ·try dsimp only at h
  obtain⟨e,o,g,p,C,q,j,r,rfl⟩:=bs4 h;exact Goes.sub hsub<|sq<|gr fol [1] [(3,.ptr 1 0),(4,.ptr 2 0),(7,.bool e.1),(8,vl eU e.2)] (qh (cv (jc a o)))<|sq<|gr fol [1] [(4,.ptr 2 0),(7,.bool e.1),(8,vl eU e.2),(9,.bool g.1),(10,vl eU g.2)] (qh (cv (jc b p)))<|sq<|gq fol [5,6,7] kAl [.cells (nz1 a),.cells (nz1 b),.cells (nz1 j)] (qI (cv (qhr N e.2 g.2 q)) (cv (qa1 (!(e.1==g.1)) C r)) (hs (.run [2] (qx ZT 74 (.ptr 2 0) (.agg (nz1 j))) [.cells (nz1 a),.cells (nz1 b),bZ] .undef [.cells (nz1 a),.cells (nz1 b),.cells (nz1 j)] true) (zq (n:=2) (by kernel_rfl) rfl rfl rfl rfl (cac rfl (cac nvc can)) rfl)))<|Goes.ret<|(gw2 [.agg (nz1 j)] (FzW.agg (qj.cons (Ua tI) (qj.cons (Ua (qp eU _ (nl rfl))) qj.nil))))
 try dsimp only at h
 cases h
 exact hret
def zW (a:qm):Option qm:=
 (if a.w.isEmpty=true then
 some (!decide (a.s=(-9223372036854775808)))
 else
 some false:Option Bool).bind λc=>
 if c=true then
 some (⟨w64 (0-a.s),[]⟩:qm)
 else
 (qL a).bind λb=>
 (yo (!b.1) b.2).bind λd=>
 some d
theorem yc (a:qm) {res:qm} (h:zW a=some res):qf ZT (.fn 107) [.agg (nz1 a)] [] (.agg (nz1 res)) []:=by
 unfold zW at h;obtain⟨j,b,h⟩:=bnd h;refine Ub Tryz.func107 rfl rfl (m:=26) rfl (rs:=[.cell 2 74]) rfl (l:=[(0,.agg (nz1 a))]) rfl<|sg fol (kAg kAz) [.cells (nz1 a),bZ]<|sq<|sq<|Goes.cut (s':=(ofG 26 (kAg ((2,.ptr 1 0)::(kBH j))),[.cells (nz1 a),bZ])) ?_ ?_
 ·rcases wyB b with⟨g,b⟩|⟨g,b⟩
  ·cases b
   exact tr fol [2,3] (kAg ((2,.ptr 1 0)::(kBH (!decide (a.s=(-9223372036854775808)))))) (qA (hs (.done (.opt (zt ZT .eql 72 (.tmp 6) (.const (.slice none 0 0)) (nvl eU a.w) .nilslice)) (.bool a.w.isEmpty)) (qbp qbh)) (gw g))
  cases b
  exact tr fol [2,3] (kAg [(2,.ptr 1 0),(12,.bool false)]) (qA (hs (.done (.opt (zt ZT .eql 72 (.tmp 6) (.const (.slice none 0 0)) (nvl eU a.w) .nilslice)) (.bool a.w.isEmpty)) (qbp qbh)) (gw g))
 refine ihB h (λk h=>?_) (λk h=>?_)
 ·cases h
  exact sg fol kAz (.cells (nz1 a)::(kA7 (w64 (0-a.s))))<|Goes.ret<|(gw2 [.agg [.i (w64 (0-a.s)),.nilslice]] (FzW.agg (qj.cons (Ua tI) (qj.cons (Ur (E:=eU)) qj.nil))))
 obtain⟨e,c,f,d,rfl⟩:=bs2 h;exact Goes.skip<|sq<|gr fol [1] [(2,.ptr 1 0),(3,.bool e.1),(4,vl eU e.2)] (qh (cv (jc a c)))<|sq<|gq fol [3,4] kAz [.cells (nz1 a),.cells (nz1 f)] (qA (cv (qa1 (!e.1) e.2 d)) (hs (.run [1] (qx ZT 74 (.ptr 1 0) (.agg (nz1 f))) [.cells (nz1 a),bZ] .undef [.cells (nz1 a),.cells (nz1 f)] true) (zq (n:=2) (by kernel_rfl) rfl rfl rfl rfl (cac rfl (cac nvc can)) rfl)))<|Goes.ret<|(gw2 [.agg (nz1 f)] (FzW.agg (qj.cons (Ua tI) (qj.cons (Ua (qp eU _ (nl rfl))) qj.nil))))
def yA (N:Nat):Nat->Int->(List Int)->Int->(List Int)->Int->Option (Int×(List Int))
 |0,_,_,_,_,_=>none
 |K+1,e,f,h,i,g=>
  if g>0 then
  ((((if(qB .i64 g 1)=1 then
  (qR N (⟨h,i⟩:qm) (⟨e,f⟩:qm)).bind λa=>
  some (a.s,a.w)
  else
  some (h,i):Option (Int×(List Int)))).bind λ(b,c)=>
  if g>1 then
  (qR N (⟨e,f⟩:qm) (⟨e,f⟩:qm)).bind λd=>
  some (d.s,d.w,b,c)
  else
  some (e,f,b,c):Option (Int×(List Int)×Int×(List Int)))).bind λ(j,k,l,m)=>
  yA N K j k l m (qz .i64 g 1)
  else
  some (h,i)
def qco (N:Nat) (a:qm) (k:Int):Option qm:=
 (qcx 1).bind λb=>
 (yA N N a.s a.w b.s b.w k).bind λ(c,d)=>
 some (⟨c,d⟩:qm)
theorem qi2 (N:Nat) (a:qm) (k:Int) {res:qm} (h:qco N a k=some res):qf ZT (.fn 117) [.agg (nz1 a),.i k] [] (.agg (nz1 res)) []:=by
 unfold qco at h;obtain⟨B,y,H,g9,h⟩:=bn2 h;refine Ub Tryz.func117 rfl rfl (m:=23) rfl (rs:=[.cell 4 74]) rfl (l:=[(0,.agg (nz1 a)),(1,.i k)]) rfl<|sg fol ((1,.i k)::(kAm kBU)) [.cells (nz1 a),bZ]<|sq<|gq fol [0,2] (kAB k []) [.cells (nz1 a),bZ,.cells (nz1 B)] (qA (cv (qcc 1 y)) (hs (.run [2] (qx ZT 74 (.ptr 2 0) (.agg (nz1 B))) [.cells (nz1 a),bZ,bZ] .undef [.cells (nz1 a),bZ,.cells (nz1 B)] true) (zq (n:=2) (by kernel_rfl) rfl rfl rfl rfl (cac rfl (cac nvc can)) rfl)))<|sq<|Goes.block<|Goes.imp (Q:=λx s'=>(x= .exit 0/\ ∃g j,(g,j)=H/\Sub s' (ofG 23 (kAs [(5,.ptr 1 0)]),[bZ,.cells (ni1 g j)]))) ?_ ?_
 ·refine Ud (λM s=> ∃(e:Int) (f:List Int) (z:Int) (A:List Int) (b:Int),s=(ofG 23 (kAB b []),[.cells (ni1 e f),bZ,.cells (ni1 z A)])/\yA N M e f z A b=some H) ?_ (m:=N) ⟨_,_,_,_,_,rfl,g9⟩;rintro M s ⟨e,f,z,A,b,rfl,g9⟩
  cases M with
  |zero=>simp only[yA]at g9;cases g9
  |succ M=>
   rw[yA]at g9;refine sq<|sh fol (kAB b (kBY (decide (b>0))))<|ihD g9 (λC g9=>?_) (λC g9=>?_)
   ·obtain⟨D,g15,g9⟩:=bnd g9;refine Goes.skip<|sq<|Goes.imp (Q:=λx s'=>(x= .normal/\ ∃o p q r,(o,p,q,r)=D/\Sub s' (ofG 23 (kAB b []),[.cells (ni1 o p),bZ,.cells (ni1 q r)]))) ?_ ?_
    ·obtain⟨E,g18,g15⟩:=bnd g15;refine Goes.block<|sq<|sh fol (kAB b (kBO (decide ((qB .i64 b 1)=1))))<|Goes.imp (Q:=λx s'=>(x= .normal/\ ∃c d,(c,d)=E/\Sub s' (ofG 23 (kAB b []),[.cells (ni1 e f),bZ,.cells (ni1 c d)]))) ?_ ?_
     ·refine ihD g18 (λF g18=>?_) (λF g18=>?_)
      ·obtain⟨t,u,rfl⟩:=bs1 g18;exact gq fol [2,3] (kAB b []) [.cells (ni1 e f),bZ,.cells (nz1 t)] (qA (cv (yB N (⟨z,A⟩:qm) (⟨e,f⟩:qm) u)) (hs (.run [2] (qx ZT 74 (.ptr 2 0) (.agg (nz1 t))) [.cells (ni1 e f),bZ,.cells (ni1 z A)] .undef [.cells (ni1 e f),bZ,.cells (nz1 t)] true) (zq (n:=2) (by kernel_rfl) rfl rfl rfl rfl (cac rfl (cac nvc can)) rfl)))<|⟨rfl,_,_,rfl,(Sub.refl _)⟩
      cases g18
      exact Goes.skip<|⟨rfl,_,_,rfl,(Sub.keep [1,2,4,5] rfl rfl)⟩
     rintro x s' ⟨rfl,c,d,rfl,hsub⟩
     try dsimp only at g15
     refine Goes.sub hsub<|sh fol (kAB b [(18,.bool (decide (b>1)))])<|ihD g15 (λG g15=>?_) (λG g15=>?_)
     ·obtain⟨v,w,rfl⟩:=bs1 g15;exact gq fol [2,3] (kAB b []) [.cells (nz1 v),bZ,.cells (ni1 c d)] (qA (cv (yB N (⟨e,f⟩:qm) (⟨e,f⟩:qm) w)) (hs (.run [0] (qx ZT 74 (.ptr 0 0) (.agg (nz1 v))) [.cells (ni1 e f),bZ,.cells (ni1 c d)] .undef [.cells (nz1 v),bZ,.cells (ni1 c d)] true) (zq (n:=2) (by kernel_rfl) rfl rfl rfl rfl (cac rfl (cac nvc can)) rfl)))<|⟨rfl,_,_,_,_,rfl,(Sub.refl _)⟩
     cases g15
     exact Goes.skip<|⟨rfl,_,_,_,_,rfl,(Sub.keep [1,2,4,5] rfl rfl)⟩
    rintro x s' ⟨rfl,o,p,q,r,rfl,hsub⟩
    try dsimp only at g9
    exact Goes.sub hsub<|gh fol (kAB (qz .i64 b 1) [])<|zo ⟨_,_,_,_,_,rfl,g9⟩
   cases g9
   exact Goes.exit<|⟨rfl,_,_,rfl,(Uc [] [some 1,some 2] rfl rfl (.drop (.drop (.kp (.kp .nil)))) (.kb rfl (.same sn) (.kb rfl (.same sn) .nil)))⟩
 rintro x s' ⟨rfl,g,j,rfl,hsub⟩
 try dsimp only at h
 cases h
 exact Goes.sub hsub<|sq<|gq fol [1] (kAs []) [.cells (ni1 g j),.cells (ni1 g j)] (qh (hs (.run [0] (qx ZT 74 (.ptr 0 0) (.agg (ni1 g j))) [bZ,.cells (ni1 g j)] .undef [.cells (ni1 g j),.cells (ni1 g j)] true) (zq (n:=2) (by kernel_rfl) rfl rfl rfl rfl (cac rfl (cac nvc can)) rfl)))<|Goes.ret<|(gw2 [.agg (ni1 g j)] (FzW.agg (qj.cons (Ua tI) (qj.cons (Ua (qp eU _ (nl rfl))) qj.nil))))
def stringslite_HasPrefix (b:Str) (a:Str):Option Bool:=
 (if(b.length:Int)>=(a.length:Int)then
 (cut b 0 (a.length:Int)).bind λc=>
 some (c==a)
 else
 some false:Option Bool).bind λd=>
 some d
theorem xQ (c:Str) (a:Str) {res:Bool} (h:stringslite_HasPrefix c a=some res):qf ZT (.fn 170) [.str c,.str a] [] (.bool res) []:=by
 unfold stringslite_HasPrefix at h;obtain⟨f,b,h⟩:=bnd h;refine Ub Tryz.func170 rfl rfl (m:=18) rfl (rs:=[.tmp 4]) rfl (l:=(kX c a [])) rfl<|sh fol (kX c a [])<|sq<|Goes.cut (s':=(ofG 18 (kBC f),[])) ?_ ?_
 ·rcases wyD b with⟨e,b⟩|⟨e,b⟩
  ·obtain⟨g,d,rfl⟩:=bs1 b;exact tr fol [5,9] (kBC (g==a)) (qA (gw e) (hs (.done (.opt (qC ZT 9 (.str c) none (some (.i (zl a))) none)) (.str g)) (jN st9 none (some (zl a)) d)))
  cases b
  exact tr fol [5] kBF (qh (gw e))
 obtain rfl:=si h;exact Goes.ret<|(gw2 [.bool f] (Ua tB))
def strings_HasPrefix (b:Str) (a:Str):Option Bool:=
 (stringslite_HasPrefix b a).bind λc=>
 some c
theorem qe3 (b:Str) (a:Str) {res:Bool} (h:strings_HasPrefix b a=some res):qf ZT (.fn 124) [.str b,.str a] [] (.bool res) []:=by
 unfold strings_HasPrefix at h;obtain⟨d,c,rfl⟩:=bs1 h;exact Ub Tryz.func124 rfl rfl (m:=8) rfl (rs:=[.tmp 4]) rfl (l:=(kX b a [])) rfl<|sh fol (kX b a [])<|sq<|gr fol [2] (kBC d) (qh (cv (xQ b a c)))<|Goes.ret<|(gw2 [.bool d] (Ua tB))
def stringslite_TrimPrefix (b:Str) (a:Str):Option Str:=
 (stringslite_HasPrefix b a).bind λc=>
 if c=true then
 (cut b (a.length:Int) (b.length:Int)).bind λd=>
 some d
 else
 some b
theorem qdr (b:Str) (a:Str) {res:Str} (h:stringslite_TrimPrefix b a=some res):qf ZT (.fn 171) [.str b,.str a] [] (.str res) []:=by
 unfold stringslite_TrimPrefix at h;obtain⟨f,c,h⟩:=bnd h;refine Ub Tryz.func171 rfl rfl (m:=13) rfl (rs:=[.tmp 4]) rfl (l:=(kX b a [])) rfl<|sh fol (kX b a [])<|sq<|sq<|gr fol [2] (kX b a [(7,.bool f)]) (qh (cv (xQ b a c)))<|ihB h (λg h=>?_) (λg h=>?_)
 ·obtain⟨e,d,rfl⟩:=bs1 h;exact sq<|gr fol [3] (kBi e) (qh (hs (.done (.opt (qC ZT 9 (.str b) (some (.i (zl a))) none none)) (.str e)) (jN st9 (some (zl a)) none d)))<|Goes.ret<|(gw2 [.str e] (Ua tS))
 cases h
 exact Goes.skip<|sh fol (kBi b)<|Goes.ret<|(gw2 [.str b] (Ua tS))
def strings_TrimPrefix (b:Str) (a:Str):Option Str:=
 (stringslite_TrimPrefix b a).bind λc=>
 some c
theorem qb7 (b:Str) (a:Str) {res:Str} (h:strings_TrimPrefix b a=some res):qf ZT (.fn 125) [.str b,.str a] [] (.str res) []:=by
 unfold strings_TrimPrefix at h;obtain⟨d,c,rfl⟩:=bs1 h;exact Ub Tryz.func125 rfl rfl (m:=8) rfl (rs:=[.tmp 4]) rfl (l:=(kX b a [])) rfl<|sh fol (kX b a [])<|sq<|gr fol [2] (kBi d) (qh (cv (qdr b a c)))<|Goes.ret<|(gw2 [.str d] (Ua tS))
def qae (N:Nat):Nat->Int->(List Int)->Str->Option (Int×(List Int))
 |0,_,_,_=>none
 |K+1,j,k,a=>
  if(a.length:Int)>0 then
  (cut a 0 (if(a.length:Int)<18 then(a.length:Int)else 18)).bind λc=>
  (qli c).bind λd=>
  (qcx 10).bind λe=>
  (qco N e (if(a.length:Int)<18 then(a.length:Int)else 18)).bind λf=>
  (qR N (⟨j,k⟩:qm) f).bind λg=>
  (qcx d.1).bind λh=>
  (yC N g h).bind λb=>
  (cut a (if(a.length:Int)<18 then(a.length:Int)else 18) (a.length:Int)).bind λi=>
  qae N K b.s b.w i
  else
  some (j,k)
def qbQ (N:Nat) (b:Str):Option qm:=
 (strings_HasPrefix b [45]).bind λe=>
 (strings_TrimPrefix b [45]).bind λf=>
 (qae N N 0 [] f).bind λ(c,d)=>
 if e=true then
 (zW (⟨c,d⟩:qm)).bind λa=>
 some a
 else
 some (⟨c,d⟩:qm)
theorem qcn (N:Nat) (f:Str) {res:qm} (h:qbQ N f=some res):qf ZT (.fn 70) [.str f] [] (.agg (nz1 res)) []:=by
 unfold qbQ at h;obtain⟨d,w,J,y,K,g8,h⟩:=bn3 h;refine Ub Tryz.func70 rfl rfl (m:=41) rfl (rs:=[.cell 2 74]) rfl (l:=(kAn f)) rfl<|sg fol ((0,.str f)::(kAm [])) [bZ]<|sq<|gr fol [1] (kU f d []) (qh (cv (qe3 f [45] w)))<|sq<|gr fol [1] (kU J d []) (qh (cv (qb7 f [45] y)))<|sg fol (kU J d kBU) [bZ,bZ]<|sq<|Goes.block<|Goes.imp (Q:=λx s'=>(x= .exit 0/\ ∃b c,(b,c)=K/\Sub s' (ofG 41 (kAm ((3,.bool d)::kBU)),[bZ,.cells (ni1 b c)]))) ?_ ?_
 ·refine Ud (λM s=> ∃(z:Int) (A:List Int) (a:Str),s=(ofG 41 (kU a d kBU),[bZ,.cells (ni1 z A)])/\qae N M z A a=some K) ?_ (m:=N) ⟨_,_,_,rfl,g8⟩;rintro M s ⟨z,A,a,rfl,g8⟩
  cases M with
  |zero=>simp only[qae]at g8;cases g8
  |succ M=>
   rw[qae]at g8;refine sq<|sh fol (kU a d ((4,.ptr 1 0)::(kBP (decide ((zl a)>0)))))<|ihD g8 (λL g8=>?_) (λL g8=>?_)
   ·obtain⟨B,g,C,j,E,k,F,o,G,p,H,q,r,t,D,u,g8⟩:=bn8 g8;exact Goes.skip<|Goes.block<|sh fol (kU a d ((4,.ptr 1 0)::(kA8 (if(zl a)<18 then(zl a)else 18))))<|sq<|gr fol [2,3] (kU a d ((4,.ptr 1 0)::(kBT (if(zl a)<18 then(zl a)else 18) C.1 []))) (qA (hs (.done (.opt (qC ZT 9 (.str a) none (some (.i (if(zl a)<18 then(zl a)else 18))) none)) (.str B)) (jN st9 none (some (if(zl a)<18 then(zl a)else 18)) g)) (cv (qql B j)))<|sq<|gq fol [1,3,4,6,7,8] (kU a d ((4,.ptr 1 0)::(kA8 (if(zl a)<18 then(zl a)else 18)))) [bZ,.cells (nz1 r)] (qcE (cv (qcc 10 k)) (cv (qi2 N E (if(zl a)<18 then(zl a)else 18) o)) (cv (yB N (⟨z,A⟩:qm) F p)) (cv (qcc C.1 q)) (cv (qaU N G H t)) (hs (.run [1] (qx ZT 74 (.ptr 1 0) (.agg (nz1 r))) [bZ,.cells (ni1 z A)] .undef [bZ,.cells (nz1 r)] true) (zq (n:=2) (by kernel_rfl) rfl rfl rfl rfl (cac rfl (cac nvc can)) rfl)))<|gr fol [2] (kU D d kBU) (qh (hs (.done (.opt (qC ZT 9 (.str a) (some (.i (if(zl a)<18 then(zl a)else 18))) none none)) (.str D)) (jN st9 (some (if(zl a)<18 then(zl a)else 18)) none u)))<|zo ⟨_,_,_,rfl,g8⟩
   cases g8
   exact Goes.exit<|⟨rfl,_,_,rfl,(Sub.keep [2,3,4] rfl rfl)⟩
 rintro x s' ⟨rfl,b,c,rfl,hsub⟩
 try dsimp only at h
 refine Goes.sub hsub<|sq<|sh fol (kAm [(4,.ptr 1 0),(37,.bool d)])<|ihB h (λI h=>?_) (λI h=>?_)
 ·obtain⟨e,v,rfl⟩:=bs1 h;exact sq<|gq fol [1,2] (kAm []) [.cells (nz1 e),.cells (ni1 b c)] (qA (cv (yc (⟨b,c⟩:qm) v)) (hs (.run [0] (qx ZT 74 (.ptr 0 0) (.agg (nz1 e))) [bZ,.cells (ni1 b c)] .undef [.cells (nz1 e),.cells (ni1 b c)] true) (zq (n:=2) (by kernel_rfl) rfl rfl rfl rfl (cac rfl (cac nvc can)) rfl)))<|Goes.ret<|(gw2 [.agg (nz1 e)] (FzW.agg (qj.cons (Ua tI) (qj.cons (Ua (qp eU _ (nl rfl))) qj.nil))))
 cases h
 exact Goes.skip<|sq<|gq fol [1] (kAm []) [.cells (ni1 b c),.cells (ni1 b c)] (qh (hs (.run [0] (qx ZT 74 (.ptr 0 0) (.agg (ni1 b c))) [bZ,.cells (ni1 b c)] .undef [.cells (ni1 b c),.cells (ni1 b c)] true) (zq (n:=2) (by kernel_rfl) rfl rfl rfl rfl (cac rfl (cac nvc can)) rfl)))<|Goes.ret<|(gw2 [.agg (ni1 b c)] (FzW.agg (qj.cons (Ua tI) (qj.cons (Ua (qp eU _ (nl rfl))) qj.nil))))
def stringslite_IndexByte (a:Str) (c:Int):Option Int:=
 (qkJ a c).bind λb=>
 some b
theorem qdD (a:Str) (c:Int) {res:Int} (h:stringslite_IndexByte a c=some res):qf ZT (.fn 208) [.str a,.int .u8 c] [] (.i res) []:=by
 unfold stringslite_IndexByte at h;obtain⟨d,b,rfl⟩:=bs1 h;exact Ub Tryz.func208 rfl rfl (m:=8) rfl (rs:=[.tmp 4]) rfl (l:=[(0,.str a),(1,.int .u8 c)]) rfl<|sh fol [(0,.str a),(1,.int .u8 c)]<|sq<|gr fol [2] [(4,.i d)] (qh (cv (qnG a c b)))<|Goes.ret<|(gw2 [.i d] (Ua tI))
def stringslite_Index (a:Str) (substr:Str):Option Int:=
 (if(substr.length:Int)=0 then
 some true
 else
 some (substr==a):Option Bool).bind λb=>
 if b=true then
 some 0
 else
 if(substr.length:Int)=1 then
 (idx substr 0).bind λc=>
 (stringslite_IndexByte a (c.toNat:Int)).bind λd=>
 some d
 else
 if(substr.length:Int)>=(a.length:Int)then
 some (-1)
 else
 none
theorem qfk (b:Str) (substr:Str) {res:Int} (h:stringslite_Index b substr=some res):qf ZT (.fn 181) [.str b,.str substr] [] (.i res) []:=by
 unfold stringslite_Index at h;obtain⟨j,a,h⟩:=bnd h;refine Ub Tryz.func181 rfl rfl (m:=143) rfl (rs:=[.tmp 4]) rfl (l:=(kX b substr [])) rfl<|sh fol (kX b substr [])<|sh fol (kX b substr (kA8 (zl substr)))<|sq<|Goes.block<|sq<|Goes.cut (s':=(ofG 143 (kX b substr [(5,.i (zl substr)),(16,.bool j)]),[])) ?_ ?_
 ·rcases wyD a with⟨e,a⟩|⟨e,a⟩
  ·cases a
   exact tr fol [2] (kX b substr [(5,.i (zl substr)),(16,.bool true)]) (qh (gw e))
  cases a
  exact tr fol [2] (kX b substr [(5,.i (zl substr)),(16,.bool (substr==b))]) (qh (gw e))
 refine ihB h (λk h=>?_) (λk h=>?_)
 ·cases h
  exact sh fol [(4,.i 0)]<|Goes.ret<|(gw2 [.i 0] (Ua tI))
 refine sh fol (kX b substr [(5,.i (zl substr)),(24,.bool (decide ((zl substr)=1)))])<|ihD h (λn h=>?_) (λn h=>?_)
 ·obtain⟨f,c,g,d,rfl⟩:=bs2 h;exact sq<|gr fol [2,3] [(4,.i g)] (qA (hs (.done (.opt (xw ZT 9 (.str substr) (.i 0))) (.int .u8 (f.toNat:Int))) (qbm st9 c)) (cv (qdD b (f.toNat:Int) d)))<|Goes.ret<|(gw2 [.i g] (Ua tI))
 refine sh fol (kX b substr [(5,.i (zl substr)),(31,.bool (decide ((zl substr)>=(zl b))))])<|ihD h (λo h=>?_) (λo h=>?_)
 ·cases h
  exact sh fol kBg<|Goes.ret<|(gw2 [.i (-1)] (Ua tI))
 cases h
def stringslite_Cut (a:Str) (sep:Str):Option (Str×Str×Bool):=
 (stringslite_Index a sep).bind λb=>
 if b>=0 then
 (cut a 0 b).bind λc=>
 (cut a (w64 (b+(sep.length:Int))) (a.length:Int)).bind λd=>
 some (c,d,true)
 else
 some (a,[],false)
theorem qfX (a:Str) (sep:Str) {res:Str×Str×Bool} (h:stringslite_Cut a sep=some res):qf ZT (.fn 142) [.str a,.str sep] [] (.tuple [.str res.1,.str res.2.1,.bool res.2.2]) []:=by
 unfold stringslite_Cut at h;obtain⟨b,c,h⟩:=bnd h;refine Ub Tryz.func142 rfl rfl (m:=23) rfl (rs:=[.tmp 4,.tmp 5,.tmp 6]) rfl (l:=(kX a sep [])) rfl<|sh fol (kX a sep [])<|sq<|sq<|gr fol [2] (kX a sep [(7,.i b)]) (qh (cv (qfk a sep c)))<|sh fol (kX a sep ((7,.i b)::(kBH (decide (b>=0)))))<|ihD h (λj h=>?_) (λj h=>?_)
 ·obtain⟨f,d,g,e,rfl⟩:=bs2 h;exact sq<|gr fol [2,8] [(4,.str f),(5,.str g),(6,.bool true)] (qA (hs (.done (.opt (qC ZT 9 (.str a) none (some (.i b)) none)) (.str f)) (jN st9 none (some b) d)) (hs (.done (.opt (qC ZT 9 (.str a) (some (.i (w64 (b+(zl sep))))) none none)) (.str g)) (jN st9 (some (w64 (b+(zl sep)))) none e)))<|Goes.ret<|(gw2 [.str f,.str g,.bool true] (FzW.tuple (qj.cons (Ua tS) (qj.cons (Ua tS) (qj.cons (Ua tB) qj.nil)))))
 cases h
 exact Goes.skip<|sh fol ((4,.str a)::(5,.str [])::kAy)<|Goes.ret<|(gw2 [.str a,.str [],.bool false] (FzW.tuple (qj.cons (Ua tS) (qj.cons (Ua tS) (qj.cons (Ua tB) qj.nil)))))
def strings_Cut (b:Str) (sep:Str):Option (Str×Str×Bool):=
 (stringslite_Cut b sep).bind λa=>
 some (a.1,a.2.1,a.2.2)
theorem qeS (b:Str) (sep:Str) {res:Str×Str×Bool} (h:strings_Cut b sep=some res):qf ZT (.fn 90) [.str b,.str sep] [] (.tuple [.str res.1,.str res.2.1,.bool res.2.2]) []:=by
 unfold strings_Cut at h;obtain⟨a,c,rfl⟩:=bs1 h;exact Ub Tryz.func90 rfl rfl (m:=13) rfl (rs:=[.tmp 4,.tmp 5,.tmp 6]) rfl (l:=(kX b sep [])) rfl<|sh fol (kX b sep [])<|sq<|gr fol [2] ((4,.str a.1)::(kA5 a.2.1 a.2.2 [])) (qh (cv (qfX b sep c)))<|Goes.ret<|(gw2 [.str a.1,.str a.2.1,.bool a.2.2] (FzW.tuple (qj.cons (Ua tS) (qj.cons (Ua tS) (qj.cons (Ua tB) qj.nil)))))
def zi (a:qm):Option Int:=
 some (if(if a.s<1 then a.s else 1)>(-1)then(if a.s<1 then a.s else 1)else(-1))
theorem xy (a:qm) {res:Int} (h:zi a=some res):qf ZT (.fn 91) [.agg (nz1 a)] [] (.i res) []:=by
 unfold zi at h;cases h
 exact Ub Tryz.func91 rfl rfl (m:=7) rfl (rs:=[.tmp 2]) rfl (l:=[(0,.agg (nz1 a))]) rfl<|sg fol (kAg []) [.cells (nz1 a)]<|sh fol (kBv (if(if a.s<1 then a.s else 1)>(-1)then(if a.s<1 then a.s else 1)else(-1)))<|Goes.ret<|(gw2 [.i (if(if a.s<1 then a.s else 1)>(-1)then(if a.s<1 then a.s else 1)else(-1))] (Ua tI))
def qaf (N:Nat) (a:qm) (b:qm):Option qm:=
 (zW b).bind λc=>
 (yC N a c).bind λd=>
 some d
theorem qeZ (N:Nat) (a:qm) (b:qm) {res:qm} (h:qaf N a b=some res):qf ZT (.fn 164) [.agg (nz1 a),.agg (nz1 b)] [] (.agg (nz1 res)) []:=by
 unfold qaf at h;obtain⟨f,c,e,d,rfl⟩:=bs2 h;exact Ub Tryz.func164 rfl rfl (m:=9) rfl (rs:=[.cell 4 74]) rfl (l:=[(0,.agg (nz1 a)),(1,.agg (nz1 b))]) rfl<|sg fol (kG []) [.cells (nz1 a),.cells (nz1 b),bZ]<|sq<|gq fol [2,3,4] kAl [.cells (nz1 a),.cells (nz1 b),.cells (nz1 e)] (qI (cv (yc b c)) (cv (qaU N a f d)) (hs (.run [2] (qx ZT 74 (.ptr 2 0) (.agg (nz1 e))) [.cells (nz1 a),.cells (nz1 b),bZ] .undef [.cells (nz1 a),.cells (nz1 b),.cells (nz1 e)] true) (zq (n:=2) (by kernel_rfl) rfl rfl rfl rfl (cac rfl (cac nvc can)) rfl)))<|Goes.ret<|(gw2 [.agg (nz1 e)] (FzW.agg (qj.cons (Ua tI) (qj.cons (Ua (qp eU _ (nl rfl))) qj.nil))))
def bits_Len64 (a:Int):Option Int:=
 ((if a>=4294967296 then
 some (qz .u64 a 32,32)
 else
 some (a,0):Option (Int×Int))).bind λ(b,f)=>
 ((if b>=65536 then
 some (qz .u64 b 16,w64 (f+16))
 else
 some (b,f):Option (Int×Int))).bind λ(c,g)=>
 ((if c>=256 then
 some (qz .u64 c 8,w64 (g+8))
 else
 some (c,g):Option (Int×Int))).bind λ(h,d)=>
 (idx ([0,1,2,2,3,3,3,3,4,4,4,4,4,4,4,4,5,5,5,5,5,5,5,5,5,5,5,5,5,5,5,5,6,6,6,6,6,6,6,6,6,6,6,6,6,6,6,6,6,6,6,6,6,6,6,6,6,6,6,6,6,6,6,6,7,7,7,7,7,7,7,7,7,7,7,7,7,7,7,7,7,7,7,7,7,7,7,7,7,7,7,7,7,7,7,7,7,7,7,7,7,7,7,7,7,7,7,7,7,7,7,7,7,7,7,7,7,7,7,7,7,7,7,7,7,7,7,7,8,8,8,8,8,8,8,8,8,8,8,8,8,8,8,8,8,8,8,8,8,8,8,8,8,8,8,8,8,8,8,8,8,8,8,8,8,8,8,8,8,8,8,8,8,8,8,8,8,8,8,8,8,8,8,8,8,8,8,8,8,8,8,8,8,8,8,8,8,8,8,8,8,8,8,8,8,8,8,8,8,8,8,8,8,8,8,8,8,8,8,8,8,8,8,8,8,8,8,8,8,8,8,8,8,8,8,8,8,8,8,8,8,8,8,8,8,8,8,8,8,8,8,8,8,8,8,8]:Str) (wrap .u8 h)).bind λe=>
 some (w64 (d+(w64 (e.toNat:Int))))
theorem qfP (b:Int) {res:Int} (h:bits_Len64 b=some res):qf ZT (.fn 166) [.int .u64 b] [] (.i res) []:=by
 unfold bits_Len64 at h;obtain⟨p,g3,h⟩:=bnd h;refine Ub Tryz.func166 rfl rfl (m:=25) rfl (rs:=[.tmp 2]) rfl (l:=[(0,.int .u64 b)]) rfl<|sh fol [(0,.int .u64 b),(2,.i 0)]<|sq<|sh fol ((0,.int .u64 b)::(2,.i 0)::(kBC (decide (b>=4294967296))))<|Goes.imp (Q:=λx s'=>(x= .normal/\ ∃c g,(c,g)=p/\Sub s' (ofG 25 (kBE c g []),[]))) ?_ ?_
 ·refine ihD g3 (λq g3=>?_) (λq g3=>?_)
  ·cases g3
   exact sh fol [(0,.int .u64 (qz .u64 b 32))]<|gh fol [(0,.int .u64 (qz .u64 b 32)),(2,.i 32)]<|⟨rfl,_,_,rfl,(Sub.refl _)⟩
  cases g3
  exact Goes.skip<|⟨rfl,_,_,rfl,(Sub.keep [0,2] rfl rfl)⟩
 rintro x s' ⟨rfl,c,g,rfl,hsub⟩
 try dsimp only at h
 obtain⟨r,g7,h⟩:=bnd h;refine Goes.sub hsub<|sq<|sh fol (kBE c g (kBY (decide (c>=65536))))<|Goes.imp (Q:=λx s'=>(x= .normal/\ ∃d j,(d,j)=r/\Sub s' (ofG 25 (kBE d j []),[]))) ?_ ?_
 ·refine ihD g7 (λs g7=>?_) (λs g7=>?_)
  ·cases g7
   exact sh fol (kBE (qz .u64 c 16) g [])<|gh fol (kBE (qz .u64 c 16) (w64 (g+16)) [])<|⟨rfl,_,_,rfl,(Sub.refl _)⟩
  cases g7
  exact Goes.skip<|⟨rfl,_,_,rfl,(Sub.keep [0,2] rfl rfl)⟩
 rintro x s' ⟨rfl,d,j,rfl,hsub⟩
 try dsimp only at h
 obtain⟨n,g11,h⟩:=bnd h;refine Goes.sub hsub<|sq<|sh fol (kBE d j [(14,.bool (decide (d>=256)))])<|Goes.imp (Q:=λx s'=>(x= .normal/\ ∃k a,(k,a)=n/\Sub s' (ofG 25 (kBE k a []),[]))) ?_ ?_
 ·refine ihD g11 (λo g11=>?_) (λo g11=>?_)
  ·cases g11
   exact sh fol (kBE (qz .u64 d 8) j [])<|gh fol (kBE (qz .u64 d 8) (w64 (j+8)) [])<|⟨rfl,_,_,rfl,(Sub.refl _)⟩
  cases g11
  exact Goes.skip<|⟨rfl,_,_,rfl,(Sub.keep [0,2] rfl rfl)⟩
 rintro x s' ⟨rfl,k,a,rfl,hsub⟩
 try dsimp only at h
 obtain⟨e,f,rfl⟩:=bs1 h;exact Goes.sub hsub<|sq<|gr fol [3] (kBv (w64 (a+(w64 (e.toNat:Int))))) (qh (hs (.done (.opt (xw ZT 9 (.str [0,1,2,2,3,3,3,3,4,4,4,4,4,4,4,4,5,5,5,5,5,5,5,5,5,5,5,5,5,5,5,5,6,6,6,6,6,6,6,6,6,6,6,6,6,6,6,6,6,6,6,6,6,6,6,6,6,6,6,6,6,6,6,6,7,7,7,7,7,7,7,7,7,7,7,7,7,7,7,7,7,7,7,7,7,7,7,7,7,7,7,7,7,7,7,7,7,7,7,7,7,7,7,7,7,7,7,7,7,7,7,7,7,7,7,7,7,7,7,7,7,7,7,7,7,7,7,7,8,8,8,8,8,8,8,8,8,8,8,8,8,8,8,8,8,8,8,8,8,8,8,8,8,8,8,8,8,8,8,8,8,8,8,8,8,8,8,8,8,8,8,8,8,8,8,8,8,8,8,8,8,8,8,8,8,8,8,8,8,8,8,8,8,8,8,8,8,8,8,8,8,8,8,8,8,8,8,8,8,8,8,8,8,8,8,8,8,8,8,8,8,8,8,8,8,8,8,8,8,8,8,8,8,8,8,8,8,8,8,8,8,8,8,8,8,8,8,8,8,8,8,8,8,8,8,8]) (.int .u8 (wrap .u8 k)))) (.int .u8 (e.toNat:Int))) (qbm st9 f)))<|Goes.ret<|(gw2 [.i (w64 (a+(w64 (e.toNat:Int))))] (Ua tI))
def bits_LeadingZeros64 (a:Int):Option Int:=
 (bits_Len64 a).bind λb=>
 some (w64 (64-b))
theorem qbS (a:Int) {res:Int} (h:bits_LeadingZeros64 a=some res):qf ZT (.fn 196) [.int .u64 a] [] (.i res) []:=by
 unfold bits_LeadingZeros64 at h;obtain⟨c,b,rfl⟩:=bs1 h;exact Ub Tryz.func196 rfl rfl (m:=6) rfl (rs:=[.tmp 2]) rfl (l:=[(0,.int .u64 a)]) rfl<|sh fol [(0,.int .u64 a)]<|sq<|gr fol [1] (kBv (w64 (64-c))) (qh (cv (qfP a b)))<|Goes.ret<|(gw2 [.i (w64 (64-c))] (Ua tI))
def xK (d:Int) (c:Int):Nat->Int->Int->Option Int
 |0,_,_=>none
 |K+1,a,b=>
  (if a>=4294967296 then
  some true
  else
  some (decide ((wrap .u64 (a*(qB .u64 d 4294967295)))>(wrap .u64 ((wrap .u64 (4294967296*b))+(qz .u64 c 32))))):Option Bool).bind λe=>
  if e=true then
  if(wrap .u64 (b+(qz .u64 d 32)))>=4294967296 then
  some (wrap .u64 (a-1))
  else
  xK d c K (wrap .u64 (a-1)) (wrap .u64 (b+(qz .u64 d 32)))
  else
  some a
def xO (d:Int) (c:Int):Nat->Int->Int->Option Int
 |0,_,_=>none
 |K+1,b,a=>
  (if a>=4294967296 then
  some true
  else
  some (decide ((wrap .u64 (a*(qB .u64 d 4294967295)))>(wrap .u64 ((wrap .u64 (4294967296*b))+(qB .u64 c 4294967295))))):Option Bool).bind λe=>
  if e=true then
  if(wrap .u64 (b+(qz .u64 d 32)))>=4294967296 then
  some (wrap .u64 (a-1))
  else
  xO d c K (wrap .u64 (b+(qz .u64 d 32))) (wrap .u64 (a-1))
  else
  some a
def qby (N:Nat) (hi:Int) (lo:Int) (y:Int):Option (Int×Int):=
 ((if y=0 then
 none
 else
 some ():Option Unit)).bind λ_=>
 ((if y<=hi then
 none
 else
 some ():Option Unit)).bind λ_=>
 if hi=0 then
 (qc7 .u64 lo y).bind λk=>
 (qfc .u64 lo y).bind λl=>
 some (k,l)
 else
 (bits_LeadingZeros64 y).bind λf=>
 (qh0 .u64 y (wrap .u64 f)).bind λd=>
 (qh0 .u64 hi (wrap .u64 f)).bind λb=>
 (qk3 .u64 lo (wrap .u64 (64-(wrap .u64 f)))).bind λc=>
 (qh0 .u64 lo (wrap .u64 f)).bind λa=>
 (qc7 .u64 (orI .u64 b c) (qz .u64 d 32)).bind λg=>
 (xK d a N g (wrap .u64 ((orI .u64 b c)-(wrap .u64 (g*(qz .u64 d 32)))))).bind λe=>
 (qc7 .u64 (wrap .u64 ((wrap .u64 ((wrap .u64 ((orI .u64 b c)*4294967296))+(qz .u64 a 32)))-(wrap .u64 (e*d)))) (qz .u64 d 32)).bind λh=>
 (xO d a N (wrap .u64 ((wrap .u64 ((wrap .u64 ((wrap .u64 ((orI .u64 b c)*4294967296))+(qz .u64 a 32)))-(wrap .u64 (e*d))))-(wrap .u64 (h*(qz .u64 d 32))))) h).bind λi=>
 (qk3 .u64 (wrap .u64 ((wrap .u64 ((wrap .u64 ((wrap .u64 ((wrap .u64 ((wrap .u64 ((orI .u64 b c)*4294967296))+(qz .u64 a 32)))-(wrap .u64 (e*d))))*4294967296))+(qB .u64 a 4294967295)))-(wrap .u64 (i*d)))) (wrap .u64 f)).bind λj=>
 some (wrap .u64 ((wrap .u64 (e*4294967296))+i),j)
theorem qfN (N:Nat) (hi:Int) (lo:Int) (y:Int) {res:Int×Int} (h:qby N hi lo y=some res):qf ZT (.fn 195) (.int .u64 hi::(kA3 lo y)) [] (.tuple (kA3 res.1 res.2)) []:=by
 unfold qby at h;obtain⟨Z,g1,h⟩:=bnd h;refine Ub Tryz.func195 rfl rfl (m:=135) rfl (rs:=[.tmp 6,.tmp 7]) rfl (l:=(kV hi lo (kBf y []))) rfl<|sh fol (kV hi lo (kBf y []))<|sq<|sh fol (kV hi lo (kBf y (kBe (decide (y=0)))))<|Goes.imp (Q:=λx s'=>(x= .normal/\()=Z/\Sub s' (ofG 135 (kV hi lo (kBf y [])),[]))) ?_ ?_
 ·refine ihD g1 (λc2 g1=>?_) (λc2 g1=>?_)
  ·cases g1
  cases g1
  exact Goes.skip<|⟨rfl,rfl,(Sub.keep [0,1,2] rfl rfl)⟩
 rintro x s' ⟨rfl,rfl,hsub⟩;obtain⟨r3,g3,h⟩:=bnd h;refine Goes.sub hsub<|sq<|sh fol (kV hi lo (kBf y [(24,.bool (decide (y<=hi)))]))<|Goes.imp (Q:=λx s'=>(x= .normal/\()=r3/\Sub s' (ofG 135 (kV hi lo (kBf y [])),[]))) ?_ ?_
 ·refine ihD g3 (λc4 g3=>?_) (λc4 g3=>?_)
  ·cases g3
  cases g3
  exact Goes.skip<|⟨rfl,rfl,(Sub.keep [0,1,2] rfl rfl)⟩
 rintro x s' ⟨rfl,rfl,hsub⟩;refine Goes.sub hsub<|sq<|sh fol (kV hi lo (kBf y [(27,.bool (decide (hi=0)))]))<|ihD h (λc5 h=>?_) (λc5 h=>?_)
 ·obtain⟨K,E,L,F,rfl⟩:=bs2 h;exact sq<|gr fol [2,5] (kAN K (kAf L [])) (qA (hs (.done (.opt (zt ZT .quo 180 (.tmp 28) (.tmp 29) (.int .u64 lo) (.int .u64 y))) (.int .u64 K)) (qcJ E)) (hs (.done (.opt (zt ZT .rem 180 (.tmp 31) (.tmp 32) (.int .u64 lo) (.int .u64 y))) (.int .u64 L)) (qgg F)))<|Goes.ret<|(gw2 (kA3 K L) (FzW.tuple (qj.cons (Ua tI) (qj.cons (Ua tI) qj.nil))))
 obtain⟨f,G,b,H,c,t,d,u,a,v,q,w,I,g17,h⟩:=bn7 h;refine Goes.skip<|sq<|gr fol [1] (kV hi lo (kBf y [(8,.int .u64 (wrap .u64 f))])) (qh (cv (qbS y G)))<|sq<|gr fol [2] (kV hi lo (kBf b [(8,.int .u64 (wrap .u64 f))])) (qh (hs (.done (.opt (zt ZT .shl 180 (.tmp 37) (.tmp 38) (.int .u64 y) (.int .u64 (wrap .u64 f)))) (.int .u64 b)) (qgD H)))<|sh fol (kV hi lo (kBf b [(8,.int .u64 (wrap .u64 f)),(9,.int .u64 (qz .u64 b 32))]))<|sh fol (kV hi lo (kK b (wrap .u64 f) (qz .u64 b 32) (qB .u64 b 4294967295) []))<|sq<|gr fol [2,6] ((1,.int .u64 lo)::(kK b (wrap .u64 f) (qz .u64 b 32) (qB .u64 b 4294967295) [(11,.int .u64 (orI .u64 c d))])) (qA (hs (.done (.opt (zt ZT .shl 180 (.tmp 44) (.tmp 45) (.int .u64 hi) (.int .u64 (wrap .u64 f)))) (.int .u64 c)) (qgD t)) (hs (.done (.opt (zt ZT .shr 180 (.tmp 47) (.tmp 49) (.int .u64 lo) (.int .u64 (wrap .u64 (64-(wrap .u64 f)))))) (.int .u64 d)) (qhJ u)))<|sq<|gr fol [2] (kK b (wrap .u64 f) (qz .u64 b 32) (qB .u64 b 4294967295) (kAA (orI .u64 c d) a [])) (qh (hs (.done (.opt (zt ZT .shl 180 (.tmp 52) (.tmp 53) (.int .u64 lo) (.int .u64 (wrap .u64 f)))) (.int .u64 a)) (qgD v)))<|sh fol (kK b (wrap .u64 f) (qz .u64 b 32) (qB .u64 b 4294967295) (kAA (orI .u64 c d) a [(13,.int .u64 (qz .u64 a 32))]))<|sh fol (kK b (wrap .u64 f) (qz .u64 b 32) (qB .u64 b 4294967295) (kAX (orI .u64 c d) (qz .u64 a 32) [(14,.int .u64 (qB .u64 a 4294967295))]))<|sq<|gr fol [2] (kK b (wrap .u64 f) (qz .u64 b 32) (qB .u64 b 4294967295) (kAX (orI .u64 c d) (qz .u64 a 32) (kA9 (qB .u64 a 4294967295) q []))) (qh (hs (.done (.opt (zt ZT .quo 180 (.tmp 59) (.tmp 60) (.int .u64 (orI .u64 c d)) (.int .u64 (qz .u64 b 32)))) (.int .u64 q)) (qcJ w)))<|sh fol (kK b (wrap .u64 f) (qz .u64 b 32) (qB .u64 b 4294967295) (kAX (orI .u64 c d) (qz .u64 a 32) (kN (qB .u64 a 4294967295) q (wrap .u64 ((orI .u64 c d)-(wrap .u64 (q*(qz .u64 b 32))))) [])))<|sq<|Goes.block<|Goes.imp (Q:=λx s'=>(x= .exit 0/\ ∃e,e=I/\Sub s' (ofG 135 (kK b (wrap .u64 f) (qz .u64 b 32) (qB .u64 b 4294967295) (kAX (orI .u64 c d) (qz .u64 a 32) (kA9 (qB .u64 a 4294967295) e []))),[]))) ?_ ?_
 ·refine Ud (λM s=> ∃(j:Int) (g:Int),s=(ofG 135 (kK b (wrap .u64 f) (qz .u64 b 32) (qB .u64 b 4294967295) (kAX (orI .u64 c d) (qz .u64 a 32) (kN (qB .u64 a 4294967295) j g []))),[])/\xK b a M j g=some I) ?_ (m:=N) ⟨_,_,rfl,g17⟩;rintro M s ⟨j,g,rfl,g17⟩
  cases M with
  |zero=>simp only[xK]at g17;cases g17
  |succ M=>
   rw[xK]at g17;obtain⟨O,k,g17⟩:=bnd g17;refine sq<|sq<|Goes.cut (s':=(ofG 135 (kK b (wrap .u64 f) (qz .u64 b 32) (qB .u64 b 4294967295) (kAX (orI .u64 c d) (qz .u64 a 32) (kN (qB .u64 a 4294967295) j g [(78,.bool O)]))),[])) ?_ ?_
   ·rcases wyD k with⟨z,k⟩|⟨z,k⟩
    ·cases k
     exact tr fol [2] (kK b (wrap .u64 f) (qz .u64 b 32) (qB .u64 b 4294967295) (kAX (orI .u64 c d) (qz .u64 a 32) (kN (qB .u64 a 4294967295) j g [(78,.bool true)]))) (qh (gw z))
    cases k
    exact tr fol [2] (kK b (wrap .u64 f) (qz .u64 b 32) (qB .u64 b 4294967295) (kAX (orI .u64 c d) (qz .u64 a 32) (kN (qB .u64 a 4294967295) j g [(78,.bool (decide ((wrap .u64 (j*(qB .u64 b 4294967295)))>(wrap .u64 ((wrap .u64 (4294967296*g))+(qz .u64 a 32))))))]))) (qh (gw z))
   refine ihB g17 (λP g17=>?_) (λP g17=>?_)
   ·refine Goes.skip<|Goes.block<|sh fol (kK b (wrap .u64 f) (qz .u64 b 32) (qB .u64 b 4294967295) (kAX (orI .u64 c d) (qz .u64 a 32) (kN (qB .u64 a 4294967295) (wrap .u64 (j-1)) g [])))<|sh fol (kK b (wrap .u64 f) (qz .u64 b 32) (qB .u64 b 4294967295) (kAX (orI .u64 c d) (qz .u64 a 32) (kN (qB .u64 a 4294967295) (wrap .u64 (j-1)) (wrap .u64 (g+(qz .u64 b 32))) [])))<|sh fol (kK b (wrap .u64 f) (qz .u64 b 32) (qB .u64 b 4294967295) (kAX (orI .u64 c d) (qz .u64 a 32) (kN (qB .u64 a 4294967295) (wrap .u64 (j-1)) (wrap .u64 (g+(qz .u64 b 32))) [(85,.bool (decide ((wrap .u64 (g+(qz .u64 b 32)))>=4294967296)))])))<|ihD g17 (λU g17=>?_) (λU g17=>?_)
    ·cases g17
     exact Goes.exit<|⟨rfl,_,rfl,(Sub.keep [2,8,9,10,11,13,14,15] rfl rfl)⟩
    exact Goes.skip<|⟨M,(ofG 135 (kK b (wrap .u64 f) (qz .u64 b 32) (qB .u64 b 4294967295) (kAX (orI .u64 c d) (qz .u64 a 32) (kN (qB .u64 a 4294967295) (wrap .u64 (j-1)) (wrap .u64 (g+(qz .u64 b 32))) []))),[]),aQ _,(Sub.keep [2,8,9,10,11,13,14,15,16] rfl rfl),_,_,rfl,g17⟩
   cases g17
   exact Goes.exit<|⟨rfl,_,rfl,(Sub.keep [2,8,9,10,11,13,14,15] rfl rfl)⟩
 rintro x s' ⟨rfl,e,rfl,hsub⟩;obtain⟨r,A,J,g27,h⟩:=bn2 h;refine Goes.sub hsub<|sh fol (kK b (wrap .u64 f) (qz .u64 b 32) (qB .u64 b 4294967295) (kA9 (qB .u64 a 4294967295) e [(17,.int .u64 (wrap .u64 ((wrap .u64 ((wrap .u64 ((orI .u64 c d)*4294967296))+(qz .u64 a 32)))-(wrap .u64 (e*b)))))]))<|sq<|gr fol [2] (kK b (wrap .u64 f) (qz .u64 b 32) (qB .u64 b 4294967295) (kA9 (qB .u64 a 4294967295) e (kAc (wrap .u64 ((wrap .u64 ((wrap .u64 ((orI .u64 c d)*4294967296))+(qz .u64 a 32)))-(wrap .u64 (e*b)))) r []))) (qh (hs (.done (.opt (zt ZT .quo 180 (.tmp 94) (.tmp 95) (.int .u64 (wrap .u64 ((wrap .u64 ((wrap .u64 ((orI .u64 c d)*4294967296))+(qz .u64 a 32)))-(wrap .u64 (e*b))))) (.int .u64 (qz .u64 b 32)))) (.int .u64 r)) (qcJ A)))<|sh fol (kK b (wrap .u64 f) (qz .u64 b 32) (qB .u64 b 4294967295) (kN (qB .u64 a 4294967295) e (wrap .u64 ((wrap .u64 ((wrap .u64 ((wrap .u64 ((orI .u64 c d)*4294967296))+(qz .u64 a 32)))-(wrap .u64 (e*b))))-(wrap .u64 (r*(qz .u64 b 32))))) (kAc (wrap .u64 ((wrap .u64 ((wrap .u64 ((orI .u64 c d)*4294967296))+(qz .u64 a 32)))-(wrap .u64 (e*b)))) r [])))<|sq<|Goes.block<|Goes.imp (Q:=λx s'=>(x= .exit 2/\ ∃p,p=J/\Sub s' (ofG 135 (kBf b ((8,.int .u64 (wrap .u64 f))::(kA9 (qB .u64 a 4294967295) e (kAc (wrap .u64 ((wrap .u64 ((wrap .u64 ((orI .u64 c d)*4294967296))+(qz .u64 a 32)))-(wrap .u64 (e*b)))) p [])))),[]))) ?_ ?_
 ·refine Ud (λM s=> ∃(i:Int) (n:Int),s=(ofG 135 (kK b (wrap .u64 f) (qz .u64 b 32) (qB .u64 b 4294967295) (kN (qB .u64 a 4294967295) e i (kAc (wrap .u64 ((wrap .u64 ((wrap .u64 ((orI .u64 c d)*4294967296))+(qz .u64 a 32)))-(wrap .u64 (e*b)))) n []))),[])/\xO b a M i n=some J) ?_ (m:=N) ⟨_,_,rfl,g27⟩;rintro M s ⟨i,n,rfl,g27⟩
  cases M with
  |zero=>simp only[xO]at g27;cases g27
  |succ M=>
   rw[xO]at g27;obtain⟨V,o,g27⟩:=bnd g27;refine sq<|sq<|Goes.cut (s':=(ofG 135 (kK b (wrap .u64 f) (qz .u64 b 32) (qB .u64 b 4294967295) (kN (qB .u64 a 4294967295) e i (kAc (wrap .u64 ((wrap .u64 ((wrap .u64 ((orI .u64 c d)*4294967296))+(qz .u64 a 32)))-(wrap .u64 (e*b)))) n [(113,.bool V)]))),[])) ?_ ?_
   ·rcases wyD o with⟨B,o⟩|⟨B,o⟩
    ·cases o
     exact tr fol [2] (kK b (wrap .u64 f) (qz .u64 b 32) (qB .u64 b 4294967295) (kN (qB .u64 a 4294967295) e i (kAc (wrap .u64 ((wrap .u64 ((wrap .u64 ((orI .u64 c d)*4294967296))+(qz .u64 a 32)))-(wrap .u64 (e*b)))) n [(113,.bool true)]))) (qh (gw B))
    cases o
    exact tr fol [2] (kK b (wrap .u64 f) (qz .u64 b 32) (qB .u64 b 4294967295) (kN (qB .u64 a 4294967295) e i (kAc (wrap .u64 ((wrap .u64 ((wrap .u64 ((orI .u64 c d)*4294967296))+(qz .u64 a 32)))-(wrap .u64 (e*b)))) n [(113,.bool (decide ((wrap .u64 (n*(qB .u64 b 4294967295)))>(wrap .u64 ((wrap .u64 (4294967296*i))+(qB .u64 a 4294967295))))))]))) (qh (gw B))
   refine ihB g27 (λX g27=>?_) (λX g27=>?_)
   ·refine Goes.skip<|Goes.block<|sh fol (kK b (wrap .u64 f) (qz .u64 b 32) (qB .u64 b 4294967295) (kN (qB .u64 a 4294967295) e i (kAc (wrap .u64 ((wrap .u64 ((wrap .u64 ((orI .u64 c d)*4294967296))+(qz .u64 a 32)))-(wrap .u64 (e*b)))) (wrap .u64 (n-1)) [])))<|sh fol (kK b (wrap .u64 f) (qz .u64 b 32) (qB .u64 b 4294967295) (kN (qB .u64 a 4294967295) e (wrap .u64 (i+(qz .u64 b 32))) (kAc (wrap .u64 ((wrap .u64 ((wrap .u64 ((orI .u64 c d)*4294967296))+(qz .u64 a 32)))-(wrap .u64 (e*b)))) (wrap .u64 (n-1)) [])))<|sh fol (kK b (wrap .u64 f) (qz .u64 b 32) (qB .u64 b 4294967295) (kN (qB .u64 a 4294967295) e (wrap .u64 (i+(qz .u64 b 32))) (kAc (wrap .u64 ((wrap .u64 ((wrap .u64 ((orI .u64 c d)*4294967296))+(qz .u64 a 32)))-(wrap .u64 (e*b)))) (wrap .u64 (n-1)) [(120,.bool (decide ((wrap .u64 (i+(qz .u64 b 32)))>=4294967296)))])))<|ihD g27 (λY g27=>?_) (λY g27=>?_)
    ·cases g27
     exact Goes.exit<|⟨rfl,_,rfl,(Sub.keep [2,8,14,15,17,18] rfl rfl)⟩
    exact Goes.skip<|⟨M,(ofG 135 (kK b (wrap .u64 f) (qz .u64 b 32) (qB .u64 b 4294967295) (kN (qB .u64 a 4294967295) e (wrap .u64 (i+(qz .u64 b 32))) (kAc (wrap .u64 ((wrap .u64 ((wrap .u64 ((orI .u64 c d)*4294967296))+(qz .u64 a 32)))-(wrap .u64 (e*b)))) (wrap .u64 (n-1)) []))),[]),aQ _,(Sub.keep [2,8,9,10,14,15,16,17,18] rfl rfl),_,_,rfl,g27⟩
   cases g27
   exact Goes.exit<|⟨rfl,_,rfl,(Sub.keep [2,8,14,15,17,18] rfl rfl)⟩
 rintro x s' ⟨rfl,p,rfl,hsub⟩;obtain⟨C,D,rfl⟩:=bs1 h;exact Goes.sub hsub<|sq<|gr fol [13] (kAN (wrap .u64 ((wrap .u64 (e*4294967296))+p)) (kAf C [])) (qh (hs (.done (.opt (zt ZT .shr 180 (.tmp 132) (.tmp 133) (.int .u64 (wrap .u64 ((wrap .u64 ((wrap .u64 ((wrap .u64 ((wrap .u64 ((wrap .u64 ((orI .u64 c d)*4294967296))+(qz .u64 a 32)))-(wrap .u64 (e*b))))*4294967296))+(qB .u64 a 4294967295)))-(wrap .u64 (p*b))))) (.int .u64 (wrap .u64 f)))) (.int .u64 C)) (qhJ D)))<|Goes.ret<|(gw2 (kA3 (wrap .u64 ((wrap .u64 (e*4294967296))+p)) C) (FzW.tuple (qj.cons (Ua tI) (qj.cons (Ua tI) qj.nil))))
def jh (b:List Int) (a:Int):Nat->(List Int)->Int->Option (List Int)
 |0,_,_=>none
 |K+1,f,c=>
  if c<(b.length:Int)then
  (((idx b c).bind λe=>
  (idx f c).bind λg=>
  (qh0 .u64 e a).bind λh=>
  (put f c (orI .u64 g h)).bind λd=>
  if a>0 then
  (qk3 .u64 e (w64 (64-a))).bind λi=>
  (idx d (w64 (c+1))).bind λk=>
  (put d (w64 (c+1)) i).bind λj=>
  some j
  else
  some d:Option (List Int))).bind λl=>
  jh b a K l (w64 (c+1))
  else
  some f
def xW (N:Nat) (a:List Int) (b:Int):Option (List Int):=
 (mk 8 (w64 ((a.length:Int)+1)) 0).bind λc=>
 (jh a b N c 0).bind λd=>
 some d
theorem qdC (N:Nat) (a:List Int) (b:Int) {G:List Int} (h:xW N a b=some G):qf ZT (.fn 197) [vl eU a,.i b] [] (.slice 0 0 G.length G.length 1) [.cells (G.flatMap eU.c)]:=by
 unfold xW at h;refine Uu Tryz.func197 rfl rfl (m:=40) rfl (rs:=[.tmp 4]) rfl (l:=[(0,vl eU a),(1,.i b)]) rfl ?_;intro B hB;obtain⟨C,D,I,g6,h⟩:=bn2 h;refine sh fol [(0,vl eU a),(1,.i b)]<|sq<|gq fol [3] ((0,vl eU a)::(1,.i b)::(kE C [])) [.cells (C.flatMap eU.c)] (qh (hs (.run [] (jd ZT 72 (.i (w64 ((zl a)+1))) (.i (w64 ((zl a)+1)))) [] (.slice 0 0 C.length C.length 1) [.cells (C.flatMap eU.c)] false) (qdf je (E:=eU) (z:=0) rfl (by kernel_rfl) D rfl)))<|sq<|sh fol ((1,.i b)::(kE C [(12,vl eU a),(13,.i (zl a)),(14,.i 0)]))<|Goes.block<|Goes.imp (Q:=λx s'=>(x= .exit 0/\ ∃r,r=I/\Sub s' (ofG 40 (kE r []),[.cells (r.flatMap eU.c)]))) ?_ ?_
 ·refine Ud (λM s=> ∃(g:List Int) (d:Int),s=(ofG 40 ((1,.i b)::(kE g ((12,vl eU a)::(kAS (zl a) d)))),[.cells (g.flatMap eU.c)])/\jh a b M g d=some I) ?_ (m:=N) ⟨_,_,rfl,g6⟩;rintro M s ⟨g,d,rfl,g6⟩
  cases M with
  |zero=>simp only[jh]at g6;cases g6
  |succ M=>
   rw[jh]at g6;refine sh fol ((1,.i b)::(kE g ((12,vl eU a)::(13,.i (zl a))::(14,.i d)::(kBP (decide (d<(zl a)))))))<|sq<|ihD g6 (λJ g6=>?_) (λJ g6=>?_)
   ·obtain⟨K,g9,g6⟩:=bnd g6;refine Goes.skip<|sq<|Goes.imp (Q:=λx s'=>(x= .normal/\ ∃F,F=K/\Sub s' (ofG 40 ((1,.i b)::(kE F ((12,vl eU a)::(kAS (zl a) d)))),[.cells (F.flatMap eU.c)]))) ?_ ?_
    ·obtain⟨j,k,t,f,u,v,e,n,g9⟩:=bn4 g9;refine Goes.block<|sq<|gr fol [1,2] ((1,.i b)::(kE g ((6,.i d)::(kAf j ((12,vl eU a)::(kAS (zl a) d)))))) (qA (iv je eU k) (lv 0 jo eU k rfl))<|sq<|gq fol [2,3,6,8,9] ((1,.i b)::(kE g ((6,.i d)::(kAf j ((12,vl eU a)::(kAS (zl a) d)))))) [.cells (e.flatMap eU.c)] (qbj (hs (.done (.opt (qd ZT 72 (.slice 0 0 g.length g.length 1) (.i d))) (.ptr 0 ((d:Int).toNat*1+0))) (qad je f)) (hs (.run [0] (qX ZT 180 (.ptr 0 ((d:Int).toNat*1+0))) [.cells (g.flatMap eU.c)] (.int .u64 t) [.cells (g.flatMap eU.c)] false) (qdh jo (E:=eU) (l:=g) rfl rfl f (nl rfl) rfl)) (hs (.done (.opt (zt ZT .shl 180 (.tmp 23) (.tmp 24) (.int .u64 j) (.i b))) (.int .u64 u)) (qgD v)) (hs (.done (.opt (qd ZT 72 (.slice 0 0 g.length g.length 1) (.i d))) (.ptr 0 ((d:Int).toNat*1+0))) (qad je f)) (hs (.run [0] (qx ZT 180 (.ptr 0 ((d:Int).toNat*1+0)) (.int .u64 (orI .u64 t u))) [.cells (g.flatMap eU.c)] .undef [.cells (e.flatMap eU.c)] true) (xS (E:=eU) (l:=g) (y:=orI .u64 t u) rfl (show _=some 1 by kernel_rfl) rfl f rfl rfl rfl rfl rfl n rfl)))<|Goes.sub (show Sub _ (ofG 40 ((1,.i b)::(kE e ((6,.i d)::(kAf j ((12,vl eU a)::(kAS (zl a) d)))))),[.cells (e.flatMap eU.c)])from(Uc [] [some 0] (by rw[hB];rfl) rfl (.keep (.same nI) (.keep (.sliceE rfl (jv n)) (.keep (.same nI) (.keep (.same nI) (.keep (.same (qc eU _)) (.keep (.same nI) (.keep (.same nI) .nil))))))) (.ks .nil)))<|sh fol ((1,.i b)::(kE e ((6,.i d)::(kAf j [(12,vl eU a),(13,.i (zl a)),(14,.i d),(29,.bool (decide (b>0)))]))))<|ihD g9 (λH g9=>?_) (λH g9=>?_)
     ·obtain⟨w,A,L,o,q,p,rfl⟩:=bs3 g9;exact gq fol [6,7,8] ((1,.i b)::(kE e ((12,vl eU a)::(kAS (zl a) d)))) [.cells (q.flatMap eU.c)] (qI (hs (.done (.opt (zt ZT .shr 180 (.tmp 33) (.tmp 35) (.int .u64 j) (.i (w64 (64-b))))) (.int .u64 w)) (qhJ A)) (hs (.done (.opt (qd ZT 72 (.slice 0 0 e.length e.length 1) (.i (w64 (d+1))))) (.ptr 0 ((w64 (d+1):Int).toNat*1+0))) (qad je o)) (hs (.run [0] (qx ZT 180 (.ptr 0 ((w64 (d+1):Int).toNat*1+0)) (.int .u64 w)) [.cells (e.flatMap eU.c)] .undef [.cells (q.flatMap eU.c)] true) (xS (E:=eU) (l:=e) (y:=w) rfl (show _=some 1 by kernel_rfl) rfl o rfl rfl rfl rfl rfl p rfl)))<|⟨rfl,_,rfl,((show Sub _ (ofG 40 ((1,.i b)::(kE q ((12,vl eU a)::(kAS (zl a) d)))),[.cells (q.flatMap eU.c)])from(Uc [] [some 0] (by rw[hB];rfl) rfl (.keep (.same nI) (.keep (.sliceE rfl (jv p)) (.keep (.same (qc eU _)) (.keep (.same nI) (.keep (.same nI) .nil))))) (.ks .nil))).trans (Sub.refl _))⟩
     cases g9
     exact Goes.skip<|⟨rfl,_,rfl,(Sub.keep [1,5,12,13,14] rfl rfl)⟩
    rintro x s' ⟨rfl,F,rfl,hsub⟩;exact Goes.sub hsub<|gh fol ((1,.i b)::(kE F ((12,vl eU a)::(kAS (zl a) (w64 (d+1))))))<|zo ⟨_,_,rfl,g6⟩
   cases g6
   exact Goes.exit<|⟨rfl,_,rfl,(Sub.keep [5] rfl rfl)⟩
 rintro x s' ⟨rfl,r,rfl,hsub⟩;obtain rfl:=si h;exact Goes.sub hsub<|sh fol [(4,.slice 0 0 r.length r.length 1)]<|Goes.ret<|(gh2 [.slice 0 0 r.length r.length 1] (qfZ.refl _ _))
def xk (e:List Int) (f:Nat) (g:Nat) (a:List Int):Nat->Int->Int->Int->Option Int
 |0,_,_,_=>none
 |K+1,b,c,i=>
  if i=0 then
  (idx a (w64 ((a.length:Int)-2))).bind λj=>
  (bits_Mul64 b j).bind λd=>
  (if d.1<c then
  some true
  else
  if d.1=c then
  (qgu e f g (w64 ((a.length:Int)-2))).bind λk=>
  some (decide (d.2<=k))
  else
  some false:Option Bool).bind λl=>
  if l=true then
  some b
  else
  (idx a (w64 ((a.length:Int)-1))).bind λm=>
  (qaN c m 0).bind λh=>
  xk e f g a K (wrap .u64 (b-1)) h.1 h.2
  else
  some b
def yf (b:Nat) (e:Nat) (c:List Int) (f:Int):Nat->(List Int)->Int->Int->Int->Option ((List Int)×Int×Int)
 |0,_,_,_,_=>none
 |K+1,d,a,g,h=>
  if a<(c.length:Int)then
  (idx c a).bind λl=>
  (bits_Mul64 f l).bind λi=>
  (qaN i.2 h 0).bind λj=>
  (qgu d b e a).bind λm=>
  (qfa m j.1 g).bind λk=>
  (put d ((b+(a:Int).toNat:Nat):Int) k.1).bind λn=>
  yf b e c f K n (w64 (a+1)) k.2 (wrap .u64 (i.1+j.2))
  else
  some (d,g,h)
def yg (b:Nat) (e:Nat) (c:List Int):Nat->(List Int)->Int->Int->Option ((List Int)×Int)
 |0,_,_,_=>none
 |K+1,d,a,f=>
  if a<(c.length:Int)then
  (qgu d b e a).bind λh=>
  (idx c a).bind λi=>
  (qaN h i f).bind λg=>
  (put d ((b+(a:Int).toNat:Nat):Int) g.1).bind λj=>
  yg b e c K j (w64 (a+1)) g.2
  else
  some (d,f)
def qcp (N:Nat) (d:List Int) (b:Nat) (c:Nat) (v:Nat) (a:List Int):Option ((List Int)×Int):=
 (qgu d b c (a.length:Int)).bind λu=>
 (idx a (w64 ((a.length:Int)-1))).bind λl=>
 ((if u>=l then
 (qgu d b c (w64 ((a.length:Int)-1))).bind λm=>
 (qaN m l 0).bind λf=>
 some (18446744073709551615,f.1,f.2)
 else
 (qgu d b c (w64 ((a.length:Int)-1))).bind λn=>
 (qby N u n l).bind λg=>
 some (g.1,g.2,0):Option (Int×Int×Int))).bind λ(w,x,y)=>
 (xk d b c a N w x y).bind λe=>
 (yf b c a e N d 0 0 0).bind λ(h,o,p)=>
 (qgu h b c (a.length:Int)).bind λq=>
 (qfa q p o).bind λi=>
 (put h ((b+((a.length:Int):Int).toNat:Nat):Int) i.1).bind λj=>
 if i.2=0 then
 some (j,e)
 else
 (yg b c a N j 0 0).bind λ(k,r)=>
 (qgu k b c (a.length:Int)).bind λs=>
 (put k ((b+((a.length:Int):Int).toNat:Nat):Int) (wrap .u64 (s+r))).bind λt=>
 some (t,wrap .u64 (e-1))
theorem qi7 (N:Nat) (j:List Int) (b:Nat) (d:Nat) (e:Nat) (a:List Int) {l1:List Int} {n2:Int} (h:qcp N j b d e a=some (l1,n2)):qf ZT (.fn 198) [.slice 0 b d e 1,vl eU a] [.cells (j.flatMap eU.c)] (.int .u64 n2) [.cells (l1.flatMap eU.c)]:=by
 unfold qcp at h;refine Uu Tryz.func198 rfl rfl (m:=186) rfl (rs:=[.tmp 4]) rfl (l:=[(0,.slice 0 b d e 1),(1,vl eU a)]) rfl ?_;intro B hB;obtain⟨x3,I,x4,t,r8,g8,h⟩:=bn3 h;refine sh fol [(0,.slice 0 b d e 1),(1,vl eU a)]<|sh fol ((0,.slice 0 b d e 1)::(1,vl eU a)::(kA8 (zl a)))<|sh fol ((0,.slice 0 b d e 1)::(1,vl eU a)::(kA8 (zl a)))<|sh fol ((0,.slice 0 b d e 1)::(1,vl eU a)::(5,.i (zl a))::(kBZ []))<|sq<|sq<|gr fol [2,3,7,8] ((0,.slice 0 b d e 1)::(1,vl eU a)::(5,.i (zl a))::(kBZ [(30,.bool (decide (x3>=x4)))])) (zM (hs (.done (.opt (qd ZT 72 (.slice 0 b d e 1) (.i (zl a)))) (.ptr 0 ((((b+((zl a):Int).toNat:Nat):Int):Int).toNat*1+0))) (qdU je I)) (hs (.run [0] (qX ZT 180 (.ptr 0 ((((b+((zl a):Int).toNat:Nat):Int):Int).toNat*1+0))) [.cells (j.flatMap eU.c)] (.int .u64 x3) [.cells (j.flatMap eU.c)] false) (qdh jo (E:=eU) (l:=j) rfl rfl (wI I) (nl rfl) rfl)) (iv je eU t) (lv 0 jo eU t rfl))<|Goes.imp (Q:=λx s'=>(x= .normal/\ ∃n5 n6 n7,(n5,n6,n7)=r8/\Sub s' (ofG 186 ((0,.slice 0 b d e 1)::(1,vl eU a)::(kR (zl a) n5 (kAD n6 n7 []))),[.cells (j.flatMap eU.c)]))) ?_ ?_
 ·refine ihD g8 (λc9 g8=>?_) (λc9 g8=>?_)
  ·obtain⟨c6,K,c7,a6,rfl⟩:=bs2 g8;exact sh fol [(0,.slice 0 b d e 1),(1,vl eU a),(5,.i (zl a)),(6,.int .u64 18446744073709551615)]<|gr fol [3,4,8,9,10] ((0,.slice 0 b d e 1)::(1,vl eU a)::(5,.i (zl a))::(6,.int .u64 18446744073709551615)::(kAD c7.1 c7.2 [])) (qbj (hs (.done (.opt (qd ZT 72 (.slice 0 b d e 1) (.i (w64 ((zl a)-1))))) (.ptr 0 ((((b+(w64 ((zl a)-1):Int).toNat:Nat):Int):Int).toNat*1+0))) (qdU je K)) (hs (.run [0] (qX ZT 180 (.ptr 0 ((((b+(w64 ((zl a)-1):Int).toNat:Nat):Int):Int).toNat*1+0))) [.cells (j.flatMap eU.c)] (.int .u64 c6) [.cells (j.flatMap eU.c)] false) (qdh jo (E:=eU) (l:=j) rfl rfl (wI K) (nl rfl) rfl)) (iv je eU t) (lv 0 jo eU t rfl) (cv (qcY c6 x4 0 a6)))<|⟨rfl,_,_,_,rfl,(Sub.refl _)⟩
  obtain⟨c8,L,d0,a7,rfl⟩:=bs2 g8;exact gr fol [2,3,7,8,12,13,14] ((0,.slice 0 b d e 1)::(1,vl eU a)::(kR (zl a) d0.1 (kAf d0.2 (kBZ [])))) (qhi (hs (.done (.opt (qd ZT 72 (.slice 0 b d e 1) (.i (zl a)))) (.ptr 0 ((((b+((zl a):Int).toNat:Nat):Int):Int).toNat*1+0))) (qdU je I)) (hs (.run [0] (qX ZT 180 (.ptr 0 ((((b+((zl a):Int).toNat:Nat):Int):Int).toNat*1+0))) [.cells (j.flatMap eU.c)] (.int .u64 x3) [.cells (j.flatMap eU.c)] false) (qdh jo (E:=eU) (l:=j) rfl rfl (wI I) (nl rfl) rfl)) (hs (.done (.opt (qd ZT 72 (.slice 0 b d e 1) (.i (w64 ((zl a)-1))))) (.ptr 0 ((((b+(w64 ((zl a)-1):Int).toNat:Nat):Int):Int).toNat*1+0))) (qdU je L)) (hs (.run [0] (qX ZT 180 (.ptr 0 ((((b+(w64 ((zl a)-1):Int).toNat:Nat):Int):Int).toNat*1+0))) [.cells (j.flatMap eU.c)] (.int .u64 c8) [.cells (j.flatMap eU.c)] false) (qdh jo (E:=eU) (l:=j) rfl rfl (wI L) (nl rfl) rfl)) (iv je eU t) (lv 0 jo eU t rfl) (cv (qfN N x3 c8 x4 a7)))<|⟨rfl,_,_,_,rfl,(Sub.refl _)⟩
 rintro x s' ⟨rfl,n5,n6,n7,rfl,hsub⟩
 try dsimp only at h
 obtain⟨d1,g19,h⟩:=bnd h;refine Goes.sub hsub<|sq<|Goes.block<|Goes.imp (Q:=λx s'=>(x= .exit 0/\ ∃f,f=d1/\Sub s' (ofG 186 ((0,.slice 0 b d e 1)::(1,vl eU a)::(kR (zl a) f [])),[.cells (j.flatMap eU.c)]))) ?_ ?_
 ·refine Ud (λM s=> ∃(o:Int) (p:Int) (a2:Int),s=(ofG 186 ((0,.slice 0 b d e 1)::(1,vl eU a)::(kR (zl a) o (kAD p a2 []))),[.cells (j.flatMap eU.c)])/\xk j b d a M o p a2=some d1) ?_ (m:=N) ⟨_,_,_,rfl,g19⟩;rintro M s ⟨o,p,a2,rfl,g19⟩
  cases M with
  |zero=>simp only[xk]at g19;cases g19
  |succ M=>
   rw[xk]at g19;refine sq<|sh fol ((0,.slice 0 b d e 1)::(1,vl eU a)::(kR (zl a) o (kAf p [(64,.bool (decide (a2=0)))])))<|ihD g19 (λc20 g19=>?_) (λc20 g19=>?_)
   ·obtain⟨x21,O,a8,a9,b26,k,g19⟩:=bn3 g19;refine Goes.skip<|Goes.block<|sq<|gr fol [4,5,6] ((0,.slice 0 b d e 1)::(1,vl eU a)::(kR (zl a) o (kAf p [(9,.int .u64 a8.1),(10,.int .u64 a8.2)]))) (qI (iv je eU O) (lv 0 jo eU O rfl) (cv (qbs o x21 a9)))<|sq<|sq<|Goes.cut (s':=(ofG 186 ((0,.slice 0 b d e 1)::(1,vl eU a)::(kR (zl a) o (kAf p [(91,.bool b26)]))),[.cells (j.flatMap eU.c)])) ?_ ?_
    ·rcases wyD k with⟨a3,k⟩|⟨a3,k⟩
     ·cases k
      exact tr fol [3] ((0,.slice 0 b d e 1)::(1,vl eU a)::(kR (zl a) o (kAf p [(91,.bool true)]))) (qh (gw a3))
     rcases wyD k with⟨b0,k⟩|⟨b0,k⟩
     ·obtain⟨d2,P,rfl⟩:=bs1 k;exact tr fol [3,7,12,13] ((0,.slice 0 b d e 1)::(1,vl eU a)::(kR (zl a) o (kAf p [(91,.bool (decide (a8.2<=d2)))]))) (zM (gw a3) (gw b0) (hs (.done (.opt (qd ZT 72 (.slice 0 b d e 1) (.i (w64 ((zl a)-2))))) (.ptr 0 ((((b+(w64 ((zl a)-2):Int).toNat:Nat):Int):Int).toNat*1+0))) (qdU je P)) (hs (.run [0] (qX ZT 180 (.ptr 0 ((((b+(w64 ((zl a)-2):Int).toNat:Nat):Int):Int).toNat*1+0))) [.cells (j.flatMap eU.c)] (.int .u64 d2) [.cells (j.flatMap eU.c)] false) (qdh jo (E:=eU) (l:=j) rfl rfl (wI P) (nl rfl) rfl)))
     cases k
     exact tr fol [3,7] ((0,.slice 0 b d e 1)::(1,vl eU a)::(kR (zl a) o (kAf p [(91,.bool false)]))) (qA (gw a3) (gw b0))
    refine ihB g19 (λc28 g19=>?_) (λc28 g19=>?_)
    ·cases g19
     exact Goes.exit<|⟨rfl,_,rfl,(Sub.keep [0,1,5,6] rfl rfl)⟩
    obtain⟨x29,U,d3,b1,g19⟩:=bn2 g19;exact Goes.skip<|sh fol ((0,.slice 0 b d e 1)::(1,vl eU a)::(kR (zl a) (wrap .u64 (o-1)) (kAf p [])))<|gr fol [4,5,6] ((0,.slice 0 b d e 1)::(1,vl eU a)::(kR (zl a) (wrap .u64 (o-1)) (kAD d3.1 d3.2 []))) (qI (iv je eU U) (lv 0 jo eU U rfl) (cv (qcY p x29 0 b1)))<|zo ⟨_,_,_,rfl,g19⟩
   cases g19
   exact Goes.exit<|⟨rfl,_,rfl,(Sub.keep [0,1,5,6] rfl rfl)⟩
 rintro x s' ⟨rfl,f,rfl,hsub⟩;obtain⟨d4,g38,h⟩:=bnd h;refine Goes.sub hsub<|sh fol ((0,.slice 0 b d e 1)::(1,vl eU a)::(kR (zl a) f [(11,.int .u64 0),(12,.int .u64 0)]))<|sq<|sh fol ((0,.slice 0 b d e 1)::(1,vl eU a)::(kR (zl a) f [(11,.int .u64 0),(12,.int .u64 0),(104,.i (zl a)),(105,.i 0)]))<|Goes.block<|Goes.imp (Q:=λx s'=>(x= .exit 2/\ ∃A a4 a5,(A,a4,a5)=d4/\Sub s' (ofG 186 ((0,.slice 0 b d e 1)::(1,vl eU a)::(kR (zl a) f (kAA a4 a5 []))),[.cells (A.flatMap eU.c)]))) ?_ ?_
 ·refine Ud (λM s=> ∃(C:List Int) (g:Int) (q:Int) (D:Int),s=(ofG 186 ((0,.slice 0 b d e 1)::(1,vl eU a)::(kR (zl a) f (kAA q D (kAw (zl a) g)))),[.cells (C.flatMap eU.c)])/\yf b d a f M C g q D=some d4) ?_ (m:=N) ⟨_,_,_,_,rfl,g38⟩;rintro M s ⟨C,g,q,D,rfl,g38⟩
  cases M with
  |zero=>simp only[yf]at g38;cases g38
  |succ M=>
   rw[yf]at g38;refine sh fol ((0,.slice 0 b d e 1)::(1,vl eU a)::(kR (zl a) f (kAA q D [(104,.i (zl a)),(105,.i g),(106,.bool (decide (g<(zl a))))])))<|sq<|ihD g38 (λc39 g38=>?_) (λc39 g38=>?_)
   ·obtain⟨x40,V,r,b2,F,b3,d5,u,X,b4,b5,b6,g38⟩:=bn6 g38;exact Goes.skip<|sq<|Goes.block<|sh fol ((0,.slice 0 b d e 1)::(1,vl eU a)::(kR (zl a) f (kAA q D ((13,.i g)::(kAw (zl a) g)))))<|sq<|gr fol [3,4,5] ((0,.slice 0 b d e 1)::(1,vl eU a)::(kR (zl a) f (kAA q D ((13,.i g)::(kA9 r.1 r.2 (kAw (zl a) g)))))) (qI (iv je eU V) (lv 0 jo eU V rfl) (cv (qbs f x40 b2)))<|sh fol ((0,.slice 0 b d e 1)::(1,vl eU a)::(kR (zl a) f (kAA q D ((13,.i g)::(kA9 r.1 r.2 (kAw (zl a) g))))))<|sq<|gr fol [2] ((0,.slice 0 b d e 1)::(1,vl eU a)::(kR (zl a) f ((11,.int .u64 q)::(13,.i g)::(kN r.1 F.1 F.2 (kAw (zl a) g))))) (qh (cv (qcY r.2 D 0 b3)))<|sh fol ((0,.slice 0 b d e 1)::(1,vl eU a)::(kR (zl a) f (kAA q (wrap .u64 (r.1+F.2)) ((13,.i g)::(15,.int .u64 F.1)::(kAw (zl a) g)))))<|gq fol [4,5,8,12,13] ((0,.slice 0 b d e 1)::(1,vl eU a)::(kR (zl a) f (kAA X.2 (wrap .u64 (r.1+F.2)) (kAw (zl a) g)))) [.cells (b5.flatMap eU.c)] (qbj (hs (.done (.opt (qd ZT 72 (.slice 0 b d e 1) (.i g))) (.ptr 0 ((((b+(g:Int).toNat:Nat):Int):Int).toNat*1+0))) (qdU je u)) (hs (.run [0] (qX ZT 180 (.ptr 0 ((((b+(g:Int).toNat:Nat):Int):Int).toNat*1+0))) [.cells (C.flatMap eU.c)] (.int .u64 d5) [.cells (C.flatMap eU.c)] false) (qdh jo (E:=eU) (l:=C) rfl rfl (wI u) (nl rfl) rfl)) (cv (qiz d5 F.1 q b4)) (hs (.done (.opt (qd ZT 72 (.slice 0 b d e 1) (.i g))) (.ptr 0 ((((b+(g:Int).toNat:Nat):Int):Int).toNat*1+0))) (qdU je u)) (hs (.run [0] (qx ZT 180 (.ptr 0 ((((b+(g:Int).toNat:Nat):Int):Int).toNat*1+0)) (.int .u64 X.1)) [.cells (C.flatMap eU.c)] .undef [.cells (b5.flatMap eU.c)] true) (xS (E:=eU) (l:=C) (y:=X.1) rfl (show _=some 1 by kernel_rfl) rfl (wI u) rfl rfl rfl rfl rfl b6 rfl)))<|Goes.sub (show Sub _ (ofG 186 ((0,.slice 0 b d e 1)::(1,vl eU a)::(kR (zl a) f (kAA X.2 (wrap .u64 (r.1+F.2)) (kAw (zl a) g)))),[.cells (b5.flatMap eU.c)])from(Uc [] [some 0] (by rw[hB];rfl) rfl (.keep (.slice rfl) (.keep (.same (qc eU _)) (.keep (.same nI) (.keep (.same nI) (.keep (.same nI) (.keep (.same nI) (.keep (.same nI) (.keep (.same nI) .nil)))))))) (.ks .nil)))<|gh fol ((0,.slice 0 b d e 1)::(1,vl eU a)::(kR (zl a) f (kAA X.2 (wrap .u64 (r.1+F.2)) (kAw (zl a) (w64 (g+1))))))<|zo ⟨_,_,_,_,rfl,g38⟩
   cases g38
   exact Goes.exit<|⟨rfl,_,_,_,rfl,(Sub.keep [0,1,5,6,11,12] rfl rfl)⟩
 rintro x s' ⟨rfl,A,a4,a5,rfl,hsub⟩
 try dsimp only at h
 obtain⟨d6,v,Y,b7,b8,b9,h⟩:=bn3 h;refine Goes.sub hsub<|sq<|gq fol [4,5,8,12,13] ((0,.slice 0 b d e 1)::(1,vl eU a)::(kR (zl a) f [(11,.int .u64 Y.2)])) [.cells (b8.flatMap eU.c)] (qbj (hs (.done (.opt (qd ZT 72 (.slice 0 b d e 1) (.i (zl a)))) (.ptr 0 ((((b+((zl a):Int).toNat:Nat):Int):Int).toNat*1+0))) (qdU je v)) (hs (.run [0] (qX ZT 180 (.ptr 0 ((((b+((zl a):Int).toNat:Nat):Int):Int).toNat*1+0))) [.cells (A.flatMap eU.c)] (.int .u64 d6) [.cells (A.flatMap eU.c)] false) (qdh jo (E:=eU) (l:=A) rfl rfl (wI v) (nl rfl) rfl)) (cv (qiz d6 a5 a4 b7)) (hs (.done (.opt (qd ZT 72 (.slice 0 b d e 1) (.i (zl a)))) (.ptr 0 ((((b+((zl a):Int).toNat:Nat):Int):Int).toNat*1+0))) (qdU je v)) (hs (.run [0] (qx ZT 180 (.ptr 0 ((((b+((zl a):Int).toNat:Nat):Int):Int).toNat*1+0)) (.int .u64 Y.1)) [.cells (A.flatMap eU.c)] .undef [.cells (b8.flatMap eU.c)] true) (xS (E:=eU) (l:=A) (y:=Y.1) rfl (show _=some 1 by kernel_rfl) rfl (wI v) rfl rfl rfl rfl rfl b9 rfl)))<|Goes.sub (show Sub _ (ofG 186 ((0,.slice 0 b d e 1)::(1,vl eU a)::(kR (zl a) f [(11,.int .u64 Y.2)])),[.cells (b8.flatMap eU.c)])from(Uc [] [some 0] (by rw[hB];rfl) rfl (.keep (.slice rfl) (.keep (.same (qc eU _)) (.keep (.same nI) (.keep (.same nI) (.keep (.same nI) .nil))))) (.ks .nil)))<|sq<|sh fol ((0,.slice 0 b d e 1)::(1,vl eU a)::(kR (zl a) f [(154,.bool (decide (Y.2=0)))]))<|ihD h (λc51 h=>?_) (λc51 h=>?_)
 ·refine sh fol [(4,.int .u64 f)]<|Goes.ret ?_;simp only[ZI,ZP]at h;obtain⟨rfl,rfl⟩:=h;exact(gh2 [.int .u64 f] (qfZ.refl _ _))
 obtain⟨d7,g57,h⟩:=bnd h;refine Goes.skip<|sh fol ((0,.slice 0 b d e 1)::(1,vl eU a)::(kR (zl a) f [(17,.int .u64 0)]))<|sq<|sh fol ((0,.slice 0 b d e 1)::(1,vl eU a)::(kR (zl a) f [(17,.int .u64 0),(156,.i (zl a)),(157,.i 0)]))<|Goes.block<|Goes.imp (Q:=λx s'=>(x= .exit 4/\ ∃G Z,(G,Z)=d7/\Sub s' (ofG 186 ((0,.slice 0 b d e 1)::(kR (zl a) f [(17,.int .u64 Z)])),[.cells (G.flatMap eU.c)]))) ?_ ?_
 ·refine Ud (λM s=> ∃(H:List Int) (n:Int) (J:Int),s=(ofG 186 ((0,.slice 0 b d e 1)::(1,vl eU a)::(kR (zl a) f (kA0 J (zl a) n []))),[.cells (H.flatMap eU.c)])/\yg b d a M H n J=some d7) ?_ (m:=N) ⟨_,_,_,rfl,g57⟩;rintro M s ⟨H,n,J,rfl,g57⟩
  cases M with
  |zero=>simp only[yg]at g57;cases g57
  |succ M=>
   rw[yg]at g57;refine sh fol ((0,.slice 0 b d e 1)::(1,vl eU a)::(kR (zl a) f (kA0 J (zl a) n [(158,.bool (decide (n<(zl a))))])))<|sq<|ihD g57 (λc58 g57=>?_) (λc58 g57=>?_)
   ·obtain⟨d8,w,x60,a0,a1,c0,c1,c2,g57⟩:=bn4 g57;exact Goes.skip<|sq<|Goes.block<|sh fol ((0,.slice 0 b d e 1)::(1,vl eU a)::(kR (zl a) f [(17,.int .u64 J),(18,.i n),(156,.i (zl a)),(157,.i n)]))<|gq fol [4,5,8,9,11,15,16] ((0,.slice 0 b d e 1)::(1,vl eU a)::(kR (zl a) f (kA0 a1.2 (zl a) n []))) [.cells (c1.flatMap eU.c)] (qhi (hs (.done (.opt (qd ZT 72 (.slice 0 b d e 1) (.i n))) (.ptr 0 ((((b+(n:Int).toNat:Nat):Int):Int).toNat*1+0))) (qdU je w)) (hs (.run [0] (qX ZT 180 (.ptr 0 ((((b+(n:Int).toNat:Nat):Int):Int).toNat*1+0))) [.cells (H.flatMap eU.c)] (.int .u64 d8) [.cells (H.flatMap eU.c)] false) (qdh jo (E:=eU) (l:=H) rfl rfl (wI w) (nl rfl) rfl)) (iv je eU a0) (lv 0 jo eU a0 rfl) (cv (qcY d8 x60 J c0)) (hs (.done (.opt (qd ZT 72 (.slice 0 b d e 1) (.i n))) (.ptr 0 ((((b+(n:Int).toNat:Nat):Int):Int).toNat*1+0))) (qdU je w)) (hs (.run [0] (qx ZT 180 (.ptr 0 ((((b+(n:Int).toNat:Nat):Int):Int).toNat*1+0)) (.int .u64 a1.1)) [.cells (H.flatMap eU.c)] .undef [.cells (c1.flatMap eU.c)] true) (xS (E:=eU) (l:=H) (y:=a1.1) rfl (show _=some 1 by kernel_rfl) rfl (wI w) rfl rfl rfl rfl rfl c2 rfl)))<|Goes.sub (show Sub _ (ofG 186 ((0,.slice 0 b d e 1)::(1,vl eU a)::(kR (zl a) f (kA0 a1.2 (zl a) n []))),[.cells (c1.flatMap eU.c)])from(Uc [] [some 0] (by rw[hB];rfl) rfl (.keep (.slice rfl) (.keep (.same (qc eU _)) (.keep (.same nI) (.keep (.same nI) (.keep (.same nI) (.keep (.same nI) (.keep (.same nI) .nil))))))) (.ks .nil)))<|gh fol ((0,.slice 0 b d e 1)::(1,vl eU a)::(kR (zl a) f (kA0 a1.2 (zl a) (w64 (n+1)) [])))<|zo ⟨_,_,_,rfl,g57⟩
   cases g57
   exact Goes.exit<|⟨rfl,_,_,rfl,(Sub.keep [0,5,6,17] rfl rfl)⟩
 rintro x s' ⟨rfl,G,Z,rfl,hsub⟩
 try dsimp only at h
 obtain⟨c3,z,c4,c5,h⟩:=bn2 h;refine Goes.sub hsub<|sq<|gq fol [2,3,6,7] (kAN f []) [.cells (c4.flatMap eU.c)] (zM (hs (.done (.opt (qd ZT 72 (.slice 0 b d e 1) (.i (zl a)))) (.ptr 0 ((((b+((zl a):Int).toNat:Nat):Int):Int).toNat*1+0))) (qdU je z)) (hs (.run [0] (qX ZT 180 (.ptr 0 ((((b+((zl a):Int).toNat:Nat):Int):Int).toNat*1+0))) [.cells (G.flatMap eU.c)] (.int .u64 c3) [.cells (G.flatMap eU.c)] false) (qdh jo (E:=eU) (l:=G) rfl rfl (wI z) (nl rfl) rfl)) (hs (.done (.opt (qd ZT 72 (.slice 0 b d e 1) (.i (zl a)))) (.ptr 0 ((((b+((zl a):Int).toNat:Nat):Int):Int).toNat*1+0))) (qdU je z)) (hs (.run [0] (qx ZT 180 (.ptr 0 ((((b+((zl a):Int).toNat:Nat):Int):Int).toNat*1+0)) (.int .u64 (wrap .u64 (c3+Z)))) [.cells (G.flatMap eU.c)] .undef [.cells (c4.flatMap eU.c)] true) (xS (E:=eU) (l:=G) (y:=wrap .u64 (c3+Z)) rfl (show _=some 1 by kernel_rfl) rfl (wI z) rfl rfl rfl rfl rfl c5 rfl)))<|Goes.sub (show Sub _ (ofG 186 (kAN f []),[.cells (c4.flatMap eU.c)])from(Uc [] [some 0] (by rw[hB];rfl) rfl (.keep (.same nI) .nil) (.ks .nil)))<|sh fol [(4,.int .u64 (wrap .u64 (f-1)))]<|Goes.ret ?_;simp only[ZI,ZP]at h;obtain⟨rfl,rfl⟩:=h;exact(gh2 [.int .u64 (wrap .u64 (f-1))] (qfZ.refl _ _))
def yT (N:Nat) (a:List Int) (b:List Int):Nat->(List Int)->Int->Int->Option ((List Int)×Int)
 |0,_,_,_=>none
 |K+1,e,i,c=>
  if c>=0 then
  (idx a c).bind λf=>
  (idx b 0).bind λg=>
  (qby N i f g).bind λd=>
  (idx e c).bind λj=>
  (put e c d.1).bind λh=>
  yT N a b K h d.2 (w64 (c-1))
  else
  some (e,i)
def yR (N:Nat) (c:List Int):Nat->(List Int)->(List Int)->Int->Option ((List Int)×(List Int))
 |0,_,_,_=>none
 |K+1,b,d,a=>
  if a>=0 then
  (win b a (w64 ((w64 (a+(c.length:Int)))+1))).bind λ(e,g)=>
  (qcp N b e g (b.length-e) c).bind λ(f,h)=>
  ((if b.length=f.length then some ()else none:Option Unit)).bind λj=>
  (idx d a).bind λk=>
  (put d a h).bind λi=>
  yR N c K f i (w64 (a-1))
  else
  some (b,d)
def vV (c:Int) (e:List Int):Nat->(List Int)->Int->Option (List Int)
 |0,_,_=>none
 |K+1,d,a=>
  if a<(e.length:Int)then
  (((idx d a).bind λf=>
  (qk3 .u64 f c).bind λg=>
  (put d a g).bind λb=>
  (if c>0 then
  some (decide ((w64 (a+1))<(b.length:Int)))
  else
  some false:Option Bool).bind λh=>
  if h=true then
  (idx b a).bind λi=>
  (idx b (w64 (a+1))).bind λj=>
  (qh0 .u64 j (w64 (64-c))).bind λk=>
  (put b a (orI .u64 i k)).bind λl=>
  some l
  else
  some b:Option (List Int))).bind λm=>
  vV c e K m (w64 (a+1))
  else
  some d
def qbE (N:Nat) (a:List Int) (b:List Int):Option ((List Int)×(List Int)):=
 (vI N a b).bind λq=>
 if q<0 then
 some ([],a)
 else
 if(b.length:Int)=1 then
 (mk 8 (a.length:Int) 0).bind λr=>
 (yT N a b N r 0 (w64 ((a.length:Int)-1))).bind λ(s,t)=>
 (qaa N s).bind λe=>
 (qaa N ([t]:List Int)).bind λf=>
 some (e,f)
 else
 (idx b (w64 ((b.length:Int)-1))).bind λg=>
 (bits_LeadingZeros64 g).bind λd=>
 (xW N b d).bind λh=>
 (qaa N h).bind λc=>
 (xW N a d).bind λi=>
 (mk 8 (w64 ((w64 ((a.length:Int)-(c.length:Int)))+1)) 0).bind λj=>
 (yR N c N i j (w64 ((a.length:Int)-(c.length:Int)))).bind λ(k,l)=>
 (vV d c N k 0).bind λm=>
 (qaa N l).bind λn=>
 (cut m 0 (c.length:Int)).bind λo=>
 (qaa N o).bind λp=>
 some (n,p)
theorem qfQ (N:Nat) (a:List Int) (b:List Int) {res:(List Int)×(List Int)} (h:qbE N a b=some res):qf ZT (.fn 165) [vl eU a,vl eU b] [] (.tuple [vl eU res.1,vl eU res.2]) []:=by
 unfold qbE at h;obtain⟨r1,e_r1,h⟩:=bnd h;refine Ub Tryz.func165 rfl rfl (m:=137) rfl (rs:=[.tmp 4,.tmp 5]) rfl (l:=[(0,vl eU a),(1,vl eU b)]) rfl<|sh fol [(0,vl eU a),(1,vl eU b)]<|sq<|sq<|gr fol [2] [(0,vl eU a),(1,vl eU b),(19,.bool (decide (r1<0)))] (qh (cv (qcD N a b e_r1)))<|ihD h (λc2 h=>?_) (λc2 h=>?_)
 ·cases h
  exact sh fol [(4,.nilslice),(5,vl eU a)]<|Goes.ret<|(gw2 [.nilslice,vl eU a] (FzW.tuple (qj.cons (FzW.nilv (E:=eU)) (qj.cons (Ua (qw eU _ (nl rfl))) qj.nil))))
 refine Goes.skip<|sq<|sh fol [(0,vl eU a),(1,vl eU b),(23,.bool (decide ((zl b)=1)))]<|ihD h (λc3 h=>?_) (λc3 h=>?_)
 ·obtain⟨l4,e_l4,r10,g10,h⟩:=bn2 h;refine sq<|gq fol [2] ((0,vl eU a)::(1,vl eU b)::(kT l4 [])) [.cells (l4.flatMap eU.c)] (qh (hs (.run [] (jd ZT 72 (.i (zl a)) (.i (zl a))) [] (.slice 0 0 l4.length l4.length 1) [.cells (l4.flatMap eU.c)] false) (qdf je (E:=eU) (z:=0) rfl (by kernel_rfl) e_l4 rfl)))<|sh fol ((0,vl eU a)::(1,vl eU b)::(kT l4 [(7,.int .u64 0)]))<|sq<|sh fol ((0,vl eU a)::(1,vl eU b)::(kT l4 [(7,.int .u64 0),(8,.i (w64 ((zl a)-1)))]))<|Goes.block<|Goes.imp (Q:=λx s'=>(x= .exit 0/\ ∃D n9,(D,n9)=r10/\Sub s' (ofG 137 (kT D (kAf n9 [])),[.cells (D.flatMap eU.c)]))) ?_ ?_
  ·refine Ud (λM s=> ∃(l5:List Int) (n6:Int) (F:Int),s=(ofG 137 ((0,vl eU a)::(1,vl eU b)::(kT l5 (kAf n6 [(8,.i F)]))),[.cells (l5.flatMap eU.c)])/\yT N a b M l5 n6 F=some r10) ?_ (m:=N) ⟨_,_,_,rfl,g10⟩;rintro M s ⟨l5,n6,F,rfl,g10⟩
   cases M with
   |zero=>simp only[yT]at g10;cases g10
   |succ M=>
    rw[yT]at g10;refine sq<|sh fol ((0,vl eU a)::(1,vl eU b)::(kT l5 (kAf n6 [(8,.i F),(31,.bool (decide (F>=0)))])))<|ihD g10 (λc11 g10=>?_) (λc11 g10=>?_)
    ·obtain⟨x12,G,x13,H,I,e_r14,x15,J,K,L,g10⟩:=bn5 g10;exact Goes.skip<|sq<|Goes.block<|gq fol [5,6,8,9,10,14,15] ((0,vl eU a)::(1,vl eU b)::(kT l5 (kAf I.2 [(8,.i F)]))) [.cells (K.flatMap eU.c)] (qhi (iv je eU G) (lv 0 jo eU G rfl) (iv je eU H) (lv 0 jo eU H rfl) (cv (qfN N n6 x12 x13 e_r14)) (hs (.done (.opt (qd ZT 72 (.slice 0 0 l5.length l5.length 1) (.i F))) (.ptr 0 ((F:Int).toNat*1+0))) (qad je J)) (hs (.run [0] (qx ZT 180 (.ptr 0 ((F:Int).toNat*1+0)) (.int .u64 I.1)) [.cells (l5.flatMap eU.c)] .undef [.cells (K.flatMap eU.c)] true) (xS (E:=eU) (l:=l5) (y:=I.1) rfl (show _=some 1 by kernel_rfl) rfl J rfl rfl rfl rfl rfl L rfl)))<|Goes.sub (show Sub _ (ofG 137 ((0,vl eU a)::(1,vl eU b)::(kT K (kAf I.2 [(8,.i F)]))),[.cells (K.flatMap eU.c)])from(Uc [] [some 0] rfl rfl (.keep (.same (qc eU _)) (.keep (.same (qc eU _)) (.keep (.sliceE rfl (jv L)) (.keep (.same nI) (.keep (.same nI) .nil))))) (.ks .nil)))<|gh fol ((0,vl eU a)::(1,vl eU b)::(kT K (kAf I.2 [(8,.i (w64 (F-1)))])))<|zo ⟨_,_,_,rfl,g10⟩
    cases g10
    exact Goes.exit<|⟨rfl,_,_,rfl,(Sub.keep [6,7] rfl rfl)⟩
  rintro x s' ⟨rfl,D,n9,rfl,hsub⟩
  try dsimp only at h
  obtain⟨r17,e_r17,r18,e_r18,rfl⟩:=bs2 h;exact Goes.sub hsub<|sq<|gq fol [1,4] [(4,vl eU r17),(5,vl eU r18)] [.frozen (D.flatMap eU.c),.frozen [.int .u64 n9]] (qA (hs (.callF 168 [.slice 0 0 D.length D.length 1] [.cells (D.flatMap eU.c)] [0] [vl eU D] (vl eU r17)) (qa0 (FzL.cons (Fz.sl (E:=eU) rfl rfl (nl rfl)) FzL.nil) (qah N D e_r17) (qw eU _ (nl rfl)))) (hs (.callF 168 [.slice 1 0 1 1 1] [.frozen (D.flatMap eU.c),.cells [.int .u64 n9]] [1] [vl eU ([n9]:List Int)] (vl eU r18)) (qa0 (FzL.cons (Fz.lit rfl rfl (Uf (AllST.cons tI AllST.nil))) FzL.nil) (qah N ([n9]:List Int) e_r18) (qw eU _ (nl rfl)))))<|Goes.sub (show Sub _ (ofG 137 [(4,vl eU r17),(5,vl eU r18)],[])from(Uc [] [] rfl rfl (.keep (.same (qc eU _)) (.keep (.same (qc eU _)) .nil)) .nil))<|Goes.ret<|(gw2 [vl eU r17,vl eU r18] (FzW.tuple (qj.cons (Ua (qw eU _ (nl rfl))) (qj.cons (Ua (qw eU _ (nl rfl))) qj.nil))))
 obtain⟨x19,O,g,e_r20,t,e_r21,d,e_r23,n,e_r24,A,e_l26,r32,g32,h⟩:=bn7 h;refine Goes.skip<|sq<|gr fol [4,5,6] [(0,vl eU a),(1,vl eU b),(9,.i g)] (qI (iv je eU O) (lv 0 jo eU O rfl) (cv (qbS x19 e_r20)))<|sq<|gq fol [2,3] [(0,vl eU a),(9,.i g),(10,vl eU d)] [.frozen (t.flatMap eU.c)] (qA (hs (.callH 197 [vl eU b,.i g] [] [] (.slice 0 0 t.length t.length 1) [.cells (t.flatMap eU.c)]) (qbA [] [some 0] (qdC N b g e_r21) .nil rfl rfl (.new rfl rfl (.same fa) rfl .nil) (rc (.same (qc eU _)) (rc (.same nI) rn)) (.slice rfl) rfl)) (hs (.callF 168 [.slice 0 0 t.length t.length 1] [.cells (t.flatMap eU.c)] [0] [vl eU t] (vl eU d)) (qa0 (FzL.cons (Fz.sl (E:=eU) rfl rfl (nl rfl)) FzL.nil) (qah N t e_r23) (qw eU _ (nl rfl)))))<|Goes.sub (show Sub _ (ofG 137 [(0,vl eU a),(9,.i g),(10,vl eU d)],[])from(Uc [] [] rfl rfl (.keep (.same (qc eU _)) (.keep (.same nI) (.keep (.same (qc eU _)) .nil))) .nil))<|sq<|gq fol [2] [(0,vl eU a),(9,.i g),(10,vl eU d),(11,.slice 0 0 n.length n.length 1)] [.cells (n.flatMap eU.c)] (qh (hs (.callH 197 [vl eU a,.i g] [] [] (.slice 0 0 n.length n.length 1) [.cells (n.flatMap eU.c)]) (qbA [] [some 0] (qdC N a g e_r24) .nil rfl rfl (.new rfl rfl (.same fa) rfl .nil) (rc (.same (qc eU _)) (rc (.same nI) rn)) (.slice rfl) rfl)))<|sh fol [(0,vl eU a),(9,.i g),(10,vl eU d),(11,.slice 0 0 n.length n.length 1),(12,.i (zl d))]<|sq<|gq fol [5] ((0,vl eU a)::(9,.i g)::(10,vl eU d)::(kF n (zl d) A [])) [.cells (n.flatMap eU.c),.cells (A.flatMap eU.c)] (qh (hs (.run [] (jd ZT 72 (.i (w64 ((w64 ((zl a)-(zl d)))+1))) (.i (w64 ((w64 ((zl a)-(zl d)))+1)))) [.cells (n.flatMap eU.c)] (.slice 1 0 A.length A.length 1) [.cells (n.flatMap eU.c),.cells (A.flatMap eU.c)] false) (qdf je (E:=eU) (z:=0) rfl (by kernel_rfl) e_l26 rfl)))<|sq<|sh fol ((9,.i g)::(10,vl eU d)::(kF n (zl d) A (kBV (w64 ((zl a)-(zl d))))))<|Goes.block<|Goes.imp (Q:=λx s'=>(x= .exit 2/\ ∃P e,(P,e)=r32/\Sub s' (ofG 137 ((9,.i g)::(kF P (zl d) e [])),[.cells (P.flatMap eU.c),.cells (e.flatMap eU.c)]))) ?_ ?_
 ·refine Ud (λM s=> ∃(o:List Int) (q:List Int) (p:Int),s=(ofG 137 ((9,.i g)::(10,vl eU d)::(kF o (zl d) q (kBV p))),[.cells (o.flatMap eU.c),.cells (q.flatMap eU.c)])/\yR N d M o q p=some r32) ?_ (m:=N) ⟨_,_,_,rfl,g32⟩;rintro M s ⟨o,q,p,rfl,g32⟩
  cases M with
  |zero=>simp only[yR]at g32;cases g32
  |succ M=>
   rw[yR]at g32;refine sq<|sh fol ((9,.i g)::(10,vl eU d)::(kF o (zl d) q [(14,.i p),(81,.bool (decide (p>=0)))]))<|ihD g32 (λc33 g32=>?_) (λc33 g32=>?_)
   ·refine Goes.skip<|sq (Goes.block ?_);obtain⟨⟨B,n36⟩,e_w34,g32⟩:=bnd g32
    try dsimp only at g32
    obtain⟨⟨w,n39⟩,e_r37,g32⟩:=bnd g32
    try dsimp only at g32
    obtain⟨u40,e_u40,x41,U,V,X,g32⟩:=bn3 g32;exact gq fol [8,10,11,12] ((9,.i g)::(10,vl eU d)::(kF o (zl d) q (kBV p))) [.cells (w.flatMap eU.c),.cells (V.flatMap eU.c)] (zM (hs (.done (.opt (qC ZT 72 (.slice 0 0 o.length o.length 1) (some (.i p)) (some (.i (w64 ((w64 (p+(zl d)))+1)))) none)) (.slice 0 B n36 (o.length-B) 1)) (wn_ix je e_w34)) (hs (.callH 198 [.slice 0 B n36 (o.length-B) 1,vl eU d] [.cells (o.flatMap eU.c),.cells (q.flatMap eU.c)] [0] (.int .u64 n39) [.cells (w.flatMap eU.c),.cells (q.flatMap eU.c)]) (qbA [some 0] [some 0,none] (qi7 N o B n36 (o.length-B) d e_r37) (.ks .nil) rfl rfl (.back rfl rfl (.same fa) rfl (.old rfl rfl .nil)) (rc (.slice rfl) (rc (.same (qc eU _)) rn)) (.same nI) rfl)) (hs (.done (.opt (qd ZT 72 (.slice 1 0 q.length q.length 1) (.i p))) (.ptr 1 ((p:Int).toNat*1+0))) (qad je U)) (hs (.run [1] (qx ZT 180 (.ptr 1 ((p:Int).toNat*1+0)) (.int .u64 n39)) [.cells (w.flatMap eU.c),.cells (q.flatMap eU.c)] .undef [.cells (w.flatMap eU.c),.cells (V.flatMap eU.c)] true) (xS (E:=eU) (l:=q) (y:=n39) rfl (show _=some 1 by kernel_rfl) rfl U rfl rfl rfl rfl rfl X rfl)))<|Goes.sub (show Sub _ (ofG 137 ((9,.i g)::(10,vl eU d)::(kF w (zl d) V (kBV p))),[.cells (w.flatMap eU.c),.cells (V.flatMap eU.c)])from(Uc [] [some 0,some 1] rfl rfl (.keep (.same nI) (.keep (.same (qc eU _)) (.keep (.sliceE rfl (qka e_u40)) (.keep (.same nI) (.keep (.sliceE rfl (jv X)) (.keep (.same nI) .nil)))))) (.ks (.ks .nil))))<|gh fol ((9,.i g)::(10,vl eU d)::(kF w (zl d) V (kBV (w64 (p-1)))))<|zo ⟨_,_,_,rfl,g32⟩
   cases g32
   exact Goes.exit<|⟨rfl,_,_,rfl,(Sub.keep [9,11,12,13] rfl rfl)⟩
 rintro x s' ⟨rfl,P,e,rfl,hsub⟩
 try dsimp only at h
 obtain⟨r46,g46,h⟩:=bnd h;refine Goes.sub hsub<|sq<|sh fol ((9,.i g)::(kF P (zl d) e [(96,.i (zl d)),(97,.i 0)]))<|Goes.block<|Goes.imp (Q:=λx s'=>(x= .exit 4/\ ∃C,C=r46/\Sub s' (ofG 137 (kF C (zl d) e []),[.cells (C.flatMap eU.c),.cells (e.flatMap eU.c)]))) ?_ ?_
 ·refine Ud (λM s=> ∃(k:List Int) (f:Int),s=(ofG 137 ((9,.i g)::(kF k (zl d) e (kA6 (zl d) f))),[.cells (k.flatMap eU.c),.cells (e.flatMap eU.c)])/\vV g d M k f=some r46) ?_ (m:=N) ⟨_,_,rfl,g46⟩;rintro M s ⟨k,f,rfl,g46⟩
  cases M with
  |zero=>simp only[vV]at g46;cases g46
  |succ M=>
   rw[vV]at g46;refine sh fol ((9,.i g)::(kF k (zl d) e [(96,.i (zl d)),(97,.i f),(98,.bool (decide (f<(zl d))))]))<|sq<|ihD g46 (λc47 g46=>?_) (λc47 g46=>?_)
   ·obtain⟨r49,g49,g46⟩:=bnd g46;refine Goes.skip<|sq<|Goes.imp (Q:=λx s'=>(x= .normal/\ ∃Y,Y=r49/\Sub s' (ofG 137 ((9,.i g)::(kF Y (zl d) e (kA6 (zl d) f))),[.cells (Y.flatMap eU.c),.cells (e.flatMap eU.c)]))) ?_ ?_
    ·obtain⟨x50,u,q51,e_q51,j,Z,b54,r,g49⟩:=bn4 g49;refine Goes.block<|sh fol ((9,.i g)::(kF k (zl d) e ((15,.i f)::(kA6 (zl d) f))))<|sq<|gq fol [2,3,5,6,7] ((9,.i g)::(kF k (zl d) e ((15,.i f)::(kA6 (zl d) f)))) [.cells (j.flatMap eU.c),.cells (e.flatMap eU.c)] (qbj (hs (.done (.opt (qd ZT 72 (.slice 0 0 k.length k.length 1) (.i f))) (.ptr 0 ((f:Int).toNat*1+0))) (qad je u)) (hs (.run [0] (qX ZT 180 (.ptr 0 ((f:Int).toNat*1+0))) [.cells (k.flatMap eU.c),.cells (e.flatMap eU.c)] (.int .u64 x50) [.cells (k.flatMap eU.c),.cells (e.flatMap eU.c)] false) (qdh jo (E:=eU) (l:=k) rfl rfl u (nl rfl) rfl)) (hs (.done (.opt (zt ZT .shr 180 (.tmp 103) (.tmp 104) (.int .u64 x50) (.i g))) (.int .u64 q51)) (qhJ e_q51)) (hs (.done (.opt (qd ZT 72 (.slice 0 0 k.length k.length 1) (.i f))) (.ptr 0 ((f:Int).toNat*1+0))) (qad je u)) (hs (.run [0] (qx ZT 180 (.ptr 0 ((f:Int).toNat*1+0)) (.int .u64 q51)) [.cells (k.flatMap eU.c),.cells (e.flatMap eU.c)] .undef [.cells (j.flatMap eU.c),.cells (e.flatMap eU.c)] true) (xS (E:=eU) (l:=k) (y:=q51) rfl (show _=some 1 by kernel_rfl) rfl u rfl rfl rfl rfl rfl Z rfl)))<|Goes.sub (show Sub _ (ofG 137 ((9,.i g)::(kF j (zl d) e ((15,.i f)::(kA6 (zl d) f)))),[.cells (j.flatMap eU.c),.cells (e.flatMap eU.c)])from(Uc [] [some 0,some 1] rfl rfl (.keep (.same nI) (.keep (.sliceE rfl (jv Z)) (.keep (.same nI) (.keep (.slice rfl) (.keep (.same nI) (.keep (.same nI) (.keep (.same nI) .nil))))))) (.ks (.ks .nil))))<|sq<|Goes.cut (s':=(ofG 137 ((9,.i g)::(kF j (zl d) e [(15,.i f),(96,.i (zl d)),(97,.i f),(115,.bool b54)])),[.cells (j.flatMap eU.c),.cells (e.flatMap eU.c)])) ?_ ?_
     ·rcases wyD r with⟨c53,r⟩|⟨c53,r⟩
      ·cases r
       exact tr fol [2] ((9,.i g)::(kF j (zl d) e [(15,.i f),(96,.i (zl d)),(97,.i f),(115,.bool (decide ((w64 (f+1))<(zl j))))])) (qh (gw c53))
      cases r
      exact tr fol [2] ((9,.i g)::(kF j (zl d) e [(15,.i f),(96,.i (zl d)),(97,.i f),(115,.bool false)])) (qh (gw c53))
     refine ihB g49 (λc56 g49=>?_) (λc56 g49=>?_)
     ·obtain⟨x57,v,x58,a0,q59,e_q59,l60,a1,rfl⟩:=bs4 g49;exact gq fol [2,3,7,8,11,13,14] ((9,.i g)::(kF j (zl d) e (kA6 (zl d) f))) [.cells (l60.flatMap eU.c),.cells (e.flatMap eU.c)] (qhi (hs (.done (.opt (qd ZT 72 (.slice 0 0 j.length j.length 1) (.i f))) (.ptr 0 ((f:Int).toNat*1+0))) (qad je v)) (hs (.run [0] (qX ZT 180 (.ptr 0 ((f:Int).toNat*1+0))) [.cells (j.flatMap eU.c),.cells (e.flatMap eU.c)] (.int .u64 x57) [.cells (j.flatMap eU.c),.cells (e.flatMap eU.c)] false) (qdh jo (E:=eU) (l:=j) rfl rfl v (nl rfl) rfl)) (hs (.done (.opt (qd ZT 72 (.slice 0 0 j.length j.length 1) (.i (w64 (f+1))))) (.ptr 0 ((w64 (f+1):Int).toNat*1+0))) (qad je a0)) (hs (.run [0] (qX ZT 180 (.ptr 0 ((w64 (f+1):Int).toNat*1+0))) [.cells (j.flatMap eU.c),.cells (e.flatMap eU.c)] (.int .u64 x58) [.cells (j.flatMap eU.c),.cells (e.flatMap eU.c)] false) (qdh jo (E:=eU) (l:=j) rfl rfl a0 (nl rfl) rfl)) (hs (.done (.opt (zt ZT .shl 180 (.tmp 124) (.tmp 126) (.int .u64 x58) (.i (w64 (64-g))))) (.int .u64 q59)) (qgD e_q59)) (hs (.done (.opt (qd ZT 72 (.slice 0 0 j.length j.length 1) (.i f))) (.ptr 0 ((f:Int).toNat*1+0))) (qad je v)) (hs (.run [0] (qx ZT 180 (.ptr 0 ((f:Int).toNat*1+0)) (.int .u64 (orI .u64 x57 q59))) [.cells (j.flatMap eU.c),.cells (e.flatMap eU.c)] .undef [.cells (l60.flatMap eU.c),.cells (e.flatMap eU.c)] true) (xS (E:=eU) (l:=j) (y:=orI .u64 x57 q59) rfl (show _=some 1 by kernel_rfl) rfl v rfl rfl rfl rfl rfl a1 rfl)))<|⟨rfl,_,rfl,((show Sub _ (ofG 137 ((9,.i g)::(kF l60 (zl d) e (kA6 (zl d) f))),[.cells (l60.flatMap eU.c),.cells (e.flatMap eU.c)])from(Uc [] [some 0,some 1] rfl rfl (.keep (.same nI) (.keep (.sliceE rfl (jv a1)) (.keep (.same nI) (.keep (.slice rfl) (.keep (.same nI) (.keep (.same nI) .nil)))))) (.ks (.ks .nil)))).trans (Sub.refl _))⟩
     cases g49
     exact Goes.skip<|⟨rfl,_,rfl,(Sub.keep [9,11,12,13,96,97] rfl rfl)⟩
    rintro x s' ⟨rfl,Y,rfl,hsub⟩;exact Goes.sub hsub<|gh fol ((9,.i g)::(kF Y (zl d) e (kA6 (zl d) (w64 (f+1)))))<|zo ⟨_,_,rfl,g46⟩
   cases g46
   exact Goes.exit<|⟨rfl,_,rfl,(Sub.keep [11,12,13] rfl rfl)⟩
 rintro x s' ⟨rfl,C,rfl,hsub⟩;obtain⟨r62,e_r62,s63,e_s63,r64,e_r64,rfl⟩:=bs3 h;exact Goes.sub hsub<|sq<|Goes.sub (s':=(ofG 137 [(11,vl eU C),(12,.i (zl d)),(13,.slice 0 0 e.length e.length 1)],[.cells (e.flatMap eU.c)])) (Uc [0] [some 1] rfl rfl (.keep (.frz (Fz.sl (E:=eU) rfl rfl (nl rfl)) (qc eU _)) (.keep (.same nI) (.keep (.slice rfl) .nil))) (.ks .nil))<|gq fol [1,4,5] [(4,vl eU r62),(5,vl eU r64)] [.frozen (e.flatMap eU.c)] (qI (hs (.callF 168 [.slice 0 0 e.length e.length 1] [.cells (e.flatMap eU.c)] [0] [vl eU e] (vl eU r62)) (qa0 (FzL.cons (Fz.sl (E:=eU) rfl rfl (nl rfl)) FzL.nil) (qah N e e_r62) (qw eU _ (nl rfl)))) (hs (.done (.opt (qC ZT 72 (vl eU C) none (some (.i (zl d))) none)) (vl eU s63)) (qjL je (E:=eU) rfl none (some (zl d)) e_s63)) (cv (qah N s63 e_r64)))<|Goes.sub (show Sub _ (ofG 137 [(4,vl eU r62),(5,vl eU r64)],[])from(Uc [] [] rfl rfl (.keep (.same (qc eU _)) (.keep (.same (qc eU _)) .nil)) .nil))<|Goes.ret<|(gw2 [vl eU r62,vl eU r64] (FzW.tuple (qj.cons (Ua (qw eU _ (nl rfl))) (qj.cons (Ua (qw eU _ (nl rfl))) qj.nil))))
def jT (N:Nat) (a:qm) (b:qm):Option (qm×qm):=
 (if a.w.isEmpty=true then
 if b.w.isEmpty=true then
 some (!decide (a.s=(-9223372036854775808)))
 else
 some false
 else
 some false:Option Bool).bind λr=>
 if r=true then
 (qc7 .i64 a.s b.s).bind λq=>
 (qfc .i64 a.s b.s).bind λi=>
 ((if i<0 then
 some (w64 (q-1),w64 (i+b.s))
 else
 some (q,i):Option (Int×Int))).bind λ(t,u)=>
 some ((⟨t,[]⟩:qm),(⟨u,[]⟩:qm))
 else
 (qL a).bind λd=>
 (qL b).bind λj=>
 (qbE N d.2 j.2).bind λf=>
 (yo d.1 f.1).bind λe=>
 (yo d.1 f.2).bind λc=>
 (zi c).bind λk=>
 ((if k<0 then
 (qcx 1).bind λl=>
 (qaf N e l).bind λg=>
 (yC N c b).bind λh=>
 some (g.s,g.w,h.s,h.w)
 else
 some (e.s,e.w,c.s,c.w):Option (Int×(List Int)×Int×(List Int)))).bind λ(m,n,o,p)=>
 some ((⟨m,n⟩:qm),(⟨o,p⟩:qm))
theorem qdt (N:Nat) (a:qm) (b:qm) {res:qm×qm} (h:jT N a b=some res):qf ZT (.fn 113) [.agg (nz1 a),.agg (nz1 b)] [] (.tuple [.agg (nz1 res.1),.agg (nz1 res.2)]) []:=by
 unfold jT at h;obtain⟨b3,c,h⟩:=bnd h;refine Ub Tryz.func113 rfl rfl (m:=84) rfl (rs:=[.cell 4 74,.cell 5 74]) rfl (l:=[(0,.agg (nz1 a)),(1,.agg (nz1 b))]) rfl<|sg fol (kG [(5,.ptr 3 0)]) [.cells (nz1 a),.cells (nz1 b),bZ,bZ]<|sq<|sq<|Goes.cut (s':=(ofG 84 (kG [(5,.ptr 3 0),(28,.bool b3)]),[.cells (nz1 a),.cells (nz1 b),bZ,bZ])) ?_ ?_
 ·rcases wyB c with⟨L,c⟩|⟨L,c⟩
  ·rcases wyB c with⟨O,c⟩|⟨O,c⟩
   ·cases c
    exact tr fol [2,3,6,8] (kG [(5,.ptr 3 0),(28,.bool (!decide (a.s=(-9223372036854775808))))]) (zM (hs (.done (.opt (zt ZT .eql 72 (.tmp 17) (.const (.slice none 0 0)) (nvl eU a.w) .nilslice)) (.bool a.w.isEmpty)) (qbp qbh)) (gw L) (hs (.done (.opt (zt ZT .eql 72 (.tmp 21) (.const (.slice none 0 0)) (nvl eU b.w) .nilslice)) (.bool b.w.isEmpty)) (qbp qbh)) (gw O))
   cases c
   exact tr fol [2,3,6,8] (kG [(5,.ptr 3 0),(28,.bool false)]) (zM (hs (.done (.opt (zt ZT .eql 72 (.tmp 17) (.const (.slice none 0 0)) (nvl eU a.w) .nilslice)) (.bool a.w.isEmpty)) (qbp qbh)) (gw L) (hs (.done (.opt (zt ZT .eql 72 (.tmp 21) (.const (.slice none 0 0)) (nvl eU b.w) .nilslice)) (.bool b.w.isEmpty)) (qbp qbh)) (gw O))
  cases c
  exact tr fol [2,3] (kG [(5,.ptr 3 0),(28,.bool false)]) (qA (hs (.done (.opt (zt ZT .eql 72 (.tmp 17) (.const (.slice none 0 0)) (nvl eU a.w) .nilslice)) (.bool a.w.isEmpty)) (qbp qbh)) (gw L))
 refine ihB h (λc5 h=>?_) (λc5 h=>?_)
 ·obtain⟨M,F,G,H,P,g10,h⟩:=bn3 h;refine sq<|gr fol [4,9] (kAd (kAj M G [])) (qA (hs (.done (.opt (zt ZT .quo 3 (.tmp 30) (.tmp 32) (.i a.s) (.i b.s))) (.i M)) (qcJ F)) (hs (.done (.opt (zt ZT .rem 3 (.tmp 35) (.tmp 37) (.i a.s) (.i b.s))) (.i G)) (qgg H)))<|sq<|sh fol (kAd (kAj M G [(40,.bool (decide (G<0)))]))<|Goes.imp (Q:=λx s'=>(x= .normal/\ ∃I J,(I,J)=P/\Sub s' (ofG 84 (kAs ((5,.ptr 1 0)::(kAj I J []))),[bZ,bZ]))) ?_ ?_
  ·refine ihD g10 (λU g10=>?_) (λU g10=>?_)
   ·cases g10
    exact gh fol ((4,.ptr 2 0)::(5,.ptr 3 0)::(kAj (w64 (M-1)) (w64 (G+b.s)) []))<|⟨rfl,_,_,rfl,(Uc [] [some 2,some 3] rfl rfl (.kp (.kp (.keep (.same nI) (.keep (.same nI) .nil)))) (.kb rfl (.same sn) (.kb rfl (.same sn) .nil)))⟩
   cases g10
   exact Goes.skip<|⟨rfl,_,_,rfl,(Uc [] [some 2,some 3] rfl rfl (.drop (.kp (.kp (.keep (.same nI) (.keep (.same nI) .nil))))) (.kb rfl (.same sn) (.kb rfl (.same sn) .nil)))⟩
  rintro x s' ⟨rfl,I,J,rfl,hsub⟩
  try dsimp only at h
  cases h
  exact Goes.sub hsub<|sg fol (kAs [(5,.ptr 1 0)]) (.cells [.i I,.nilslice]::(kA7 J))<|Goes.ret<|(gw2 [.agg [.i I,.nilslice],.agg [.i J,.nilslice]] (FzW.tuple (qj.cons (FzW.agg (qj.cons (Ua tI) (qj.cons (Ur (E:=eU)) qj.nil))) (qj.cons (FzW.agg (qj.cons (Ua tI) (qj.cons (Ur (E:=eU)) qj.nil))) qj.nil))))
 obtain⟨j,r,K,t,q,u,o,v,k,y,V,z,X,g22,h⟩:=bn7 h;refine Goes.skip<|sq<|gr fol [1] (kAd [(8,.bool j.1),(9,vl eU j.2)]) (qh (cv (jc a r)))<|sq<|gr fol [1] (kAd [(8,.bool j.1),(9,vl eU j.2),(11,vl eU K.2)]) (qh (cv (jc b t)))<|sq<|gr fol [2] (kAd [(8,.bool j.1),(12,vl eU q.1),(13,vl eU q.2)]) (qh (cv (qfQ N j.2 K.2 u)))<|sq<|gq fol [2,5,8,9] (kAd [(14,.ptr 4 0),(15,.ptr 5 0)]) [.cells (nz1 a),.cells (nz1 b),bZ,bZ,.cells (nz1 o),.cells (nz1 k)] (zM (cv (qa1 j.1 q.1 v)) (cv (qa1 j.1 q.2 y)) (hs (.run [4] (qx ZT 74 (.ptr 4 0) (.agg (nz1 o))) [.cells (nz1 a),.cells (nz1 b),bZ,bZ,bZ,bZ] .undef [.cells (nz1 a),.cells (nz1 b),bZ,bZ,.cells (nz1 o),bZ] true) (zq (n:=2) (by kernel_rfl) rfl rfl rfl rfl (cac rfl (cac nvc can)) rfl)) (hs (.run [5] (qx ZT 74 (.ptr 5 0) (.agg (nz1 k))) [.cells (nz1 a),.cells (nz1 b),bZ,bZ,.cells (nz1 o),bZ] .undef [.cells (nz1 a),.cells (nz1 b),bZ,bZ,.cells (nz1 o),.cells (nz1 k)] true) (zq (n:=2) (by kernel_rfl) rfl rfl rfl rfl (cac rfl (cac nvc can)) rfl)))<|sq<|sq<|gr fol [1] (kAd [(14,.ptr 4 0),(15,.ptr 5 0),(75,.bool (decide (V<0)))]) (qh (cv (xy k z)))<|Goes.imp (Q:=λx s'=>(x= .normal/\ ∃d e f g,(d,e,f,g)=X/\Sub s' (ofG 84 (kAs [(5,.ptr 1 0),(14,.ptr 2 0),(15,.ptr 3 0)]),[bZ,bZ,.cells (ni1 d e),.cells (ni1 f g)]))) ?_ ?_
 ·refine ihD g22 (λY g22=>?_) (λY g22=>?_)
  ·obtain⟨Z,A,p,B,C,D,rfl⟩:=bs3 g22;exact gq fol [1,2,5,6,7] [(4,.ptr 2 0),(5,.ptr 3 0),(14,.ptr 4 0),(15,.ptr 5 0)] [.cells (nz1 a),.cells (nz1 b),bZ,bZ,.cells (nz1 p),.cells (nz1 C)] (qbj (cv (qcc 1 A)) (cv (qeZ N o Z B)) (cv (qaU N k b D)) (hs (.run [4] (qx ZT 74 (.ptr 4 0) (.agg (nz1 p))) [.cells (nz1 a),.cells (nz1 b),bZ,bZ,.cells (nz1 o),.cells (nz1 k)] .undef [.cells (nz1 a),.cells (nz1 b),bZ,bZ,.cells (nz1 p),.cells (nz1 k)] true) (zq (n:=2) (by kernel_rfl) rfl rfl rfl rfl (cac rfl (cac nvc can)) rfl)) (hs (.run [5] (qx ZT 74 (.ptr 5 0) (.agg (nz1 C))) [.cells (nz1 a),.cells (nz1 b),bZ,bZ,.cells (nz1 p),.cells (nz1 k)] .undef [.cells (nz1 a),.cells (nz1 b),bZ,bZ,.cells (nz1 p),.cells (nz1 C)] true) (zq (n:=2) (by kernel_rfl) rfl rfl rfl rfl (cac rfl (cac nvc can)) rfl)))<|⟨rfl,_,_,_,_,rfl,(Uc [] [some 2,some 3,some 4,some 5] rfl rfl (.kp (.kp (.kp (.kp .nil)))) (.kb rfl (.same sn) (.kb rfl (.same sn) (.kb rfl (.same sn) (.kb rfl (.same sn) .nil)))))⟩
  cases g22
  exact Goes.skip<|⟨rfl,_,_,_,_,rfl,(Uc [] [some 2,some 3,some 4,some 5] rfl rfl (.drop (.kp (.kp (.kp (.kp .nil))))) (.kb rfl (.same sn) (.kb rfl (.same sn) (.kb rfl (.same sn) (.kb rfl (.same sn) .nil)))))⟩
 rintro x s' ⟨rfl,d,e,f,g,rfl,hsub⟩
 try dsimp only at h
 cases h
 exact Goes.sub hsub<|sq<|gq fol [2,3] (kAs [(5,.ptr 1 0)]) [.cells (ni1 d e),.cells (ni1 f g),.cells (ni1 d e),.cells (ni1 f g)] (qA (hs (.run [0] (qx ZT 74 (.ptr 0 0) (.agg (ni1 d e))) [bZ,bZ,.cells (ni1 d e),.cells (ni1 f g)] .undef [.cells (ni1 d e),bZ,.cells (ni1 d e),.cells (ni1 f g)] true) (zq (n:=2) (by kernel_rfl) rfl rfl rfl rfl (cac rfl (cac nvc can)) rfl)) (hs (.run [1] (qx ZT 74 (.ptr 1 0) (.agg (ni1 f g))) [.cells (ni1 d e),bZ,.cells (ni1 d e),.cells (ni1 f g)] .undef [.cells (ni1 d e),.cells (ni1 f g),.cells (ni1 d e),.cells (ni1 f g)] true) (zq (n:=2) (by kernel_rfl) rfl rfl rfl rfl (cac rfl (cac nvc can)) rfl)))<|Goes.ret<|(gw2 [.agg (ni1 d e),.agg (ni1 f g)] (FzW.tuple (qj.cons (FzW.agg (qj.cons (Ua tI) (qj.cons (Ua (qp eU _ (nl rfl))) qj.nil))) (qj.cons (FzW.agg (qj.cons (Ua tI) (qj.cons (Ua (qp eU _ (nl rfl))) qj.nil))) qj.nil))))
def qbH (a:qm):Option qm:=
 if a.s<0 then
 (zW a).bind λb=>
 some b
 else
 some a
theorem qeW (a:qm) {res:qm} (h:qbH a=some res):qf ZT (.fn 161) [.agg (nz1 a)] [] (.agg (nz1 res)) []:=by
 unfold qbH at h;refine Ub Tryz.func161 rfl rfl (m:=9) rfl (rs:=[.cell 2 74]) rfl (l:=[(0,.agg (nz1 a))]) rfl<|sg fol (kAg kAz) [.cells (nz1 a),bZ]<|sq<|sh fol (kAg [(2,.ptr 1 0),(5,.bool (decide (a.s<0)))])<|ihD h (λd h=>?_) (λd h=>?_)
 ·obtain⟨c,b,rfl⟩:=bs1 h;exact sq<|gq fol [1,2] kAz [.cells (nz1 a),.cells (nz1 c)] (qA (cv (yc a b)) (hs (.run [1] (qx ZT 74 (.ptr 1 0) (.agg (nz1 c))) [.cells (nz1 a),bZ] .undef [.cells (nz1 a),.cells (nz1 c)] true) (zq (n:=2) (by kernel_rfl) rfl rfl rfl rfl (cac rfl (cac nvc can)) rfl)))<|Goes.ret<|(gw2 [.agg (nz1 c)] (FzW.agg (qj.cons (Ua tI) (qj.cons (Ua (qp eU _ (nl rfl))) qj.nil))))
 cases h
 exact Goes.skip<|sq<|gq fol [1] kAz [.cells (nz1 a),.cells (nz1 a)] (qh (hs (.run [1] (qx ZT 74 (.ptr 1 0) (.agg (nz1 a))) [.cells (nz1 a),bZ] .undef [.cells (nz1 a),.cells (nz1 a)] true) (zq (n:=2) (by kernel_rfl) rfl rfl rfl rfl (cac rfl (cac nvc can)) rfl)))<|Goes.ret<|(gw2 [.agg (nz1 a)] (FzW.agg (qj.cons (Ua tI) (qj.cons (Ua (qp eU _ (nl rfl))) qj.nil))))
def y8 (N:Nat):Nat->Int->(List Int)->Int->(List Int)->Option (Int×(List Int))
 |0,_,_,_,_=>none
 |K+1,e,f,b,c=>
  (zi (⟨b,c⟩:qm)).bind λd=>
  if(!decide (d=0))=true then
  (jT N (⟨e,f⟩:qm) (⟨b,c⟩:qm)).bind λa=>
  y8 N K b c a.2.s a.2.w
  else
  some (e,f)
def qdw (N:Nat) (a:qm) (b:qm):Option qm:=
 (qbH a).bind λc=>
 (qbH b).bind λd=>
 (y8 N N c.s c.w d.s d.w).bind λ(e,f)=>
 some (⟨e,f⟩:qm)
theorem qii (N:Nat) (a:qm) (b:qm) {res:qm} (h:qdw N a b=some res):qf ZT (.fn 108) [.agg (nz1 a),.agg (nz1 b)] [] (.agg (nz1 res)) []:=by
 unfold qdw at h;obtain⟨p,q,t,r,w,g9,h⟩:=bn3 h;refine Ub Tryz.func108 rfl rfl (m:=23) rfl (rs:=[.cell 4 74]) rfl (l:=[(0,.agg (nz1 a)),(1,.agg (nz1 b))]) rfl<|sg fol (kG []) [.cells (nz1 a),.cells (nz1 b),bZ]<|sq<|gq fol [1,3,4,5] (kG []) [.cells (nz1 p),.cells (nz1 t),bZ] (zM (cv (qeW a q)) (cv (qeW b r)) (hs (.run [0] (qx ZT 74 (.ptr 0 0) (.agg (nz1 p))) [.cells (nz1 a),.cells (nz1 b),bZ] .undef [.cells (nz1 p),.cells (nz1 b),bZ] true) (zq (n:=2) (by kernel_rfl) rfl rfl rfl rfl (cac rfl (cac nvc can)) rfl)) (hs (.run [1] (qx ZT 74 (.ptr 1 0) (.agg (nz1 t))) [.cells (nz1 p),.cells (nz1 b),bZ] .undef [.cells (nz1 p),.cells (nz1 t),bZ] true) (zq (n:=2) (by kernel_rfl) rfl rfl rfl rfl (cac rfl (cac nvc can)) rfl)))<|sq<|Goes.block<|Goes.imp (Q:=λx s'=>(x= .exit 0/\ ∃f g,(f,g)=w/\Sub s' (ofG 23 (kAm kBU),[.cells (ni1 f g),bZ]))) ?_ ?_
 ·refine Ud (λM s=> ∃(i:Int) (j:List Int) (d:Int) (e:List Int),s=(ofG 23 (kG []),[.cells (ni1 i j),.cells (ni1 d e),bZ])/\y8 N M i j d e=some w) ?_ (m:=N) ⟨_,_,_,_,rfl,g9⟩;rintro M s ⟨i,j,d,e,rfl,g9⟩
  cases M with
  |zero=>simp only[y8]at g9;cases g9
  |succ M=>
   rw[y8]at g9;obtain⟨u,k,g9⟩:=bnd g9;refine sq<|sq<|gr fol [1] (kG (kBO (!decide (u=0)))) (qh (cv (xy (⟨d,e⟩:qm) k)))<|ihB g9 (λv g9=>?_) (λv g9=>?_)
   ·obtain⟨c,o,g9⟩:=bnd g9;exact Goes.skip<|Goes.block<|sq<|gq fol [2,8,9] (kG [(6,.ptr 4 0)]) [.cells (ni1 i j),.cells (ni1 d e),bZ,.cells (nz1 c.1),.cells (nz1 c.2)] (qI (cv (qdt N (⟨i,j⟩:qm) (⟨d,e⟩:qm) o)) (hs (.run [3] (qx ZT 74 (.ptr 3 0) (.agg (nz1 c.1))) [.cells (ni1 i j),.cells (ni1 d e),bZ,bZ,bZ] .undef [.cells (ni1 i j),.cells (ni1 d e),bZ,.cells (nz1 c.1),bZ] true) (zq (n:=2) (by kernel_rfl) rfl rfl rfl rfl (cac rfl (cac nvc can)) rfl)) (hs (.run [4] (qx ZT 74 (.ptr 4 0) (.agg (nz1 c.2))) [.cells (ni1 i j),.cells (ni1 d e),bZ,.cells (nz1 c.1),bZ] .undef [.cells (ni1 i j),.cells (ni1 d e),bZ,.cells (nz1 c.1),.cells (nz1 c.2)] true) (zq (n:=2) (by kernel_rfl) rfl rfl rfl rfl (cac rfl (cac nvc can)) rfl)))<|gq fol [2,3] (kG []) [.cells (ni1 d e),.cells (nz1 c.2),bZ,.cells (nz1 c.1),.cells (nz1 c.2)] (qA (hs (.run [0] (qx ZT 74 (.ptr 0 0) (.agg (ni1 d e))) [.cells (ni1 i j),.cells (ni1 d e),bZ,.cells (nz1 c.1),.cells (nz1 c.2)] .undef [.cells (ni1 d e),.cells (ni1 d e),bZ,.cells (nz1 c.1),.cells (nz1 c.2)] true) (zq (n:=2) (by kernel_rfl) rfl rfl rfl rfl (cac rfl (cac nvc can)) rfl)) (hs (.run [1] (qx ZT 74 (.ptr 1 0) (.agg (nz1 c.2))) [.cells (ni1 d e),.cells (ni1 d e),bZ,.cells (nz1 c.1),.cells (nz1 c.2)] .undef [.cells (ni1 d e),.cells (nz1 c.2),bZ,.cells (nz1 c.1),.cells (nz1 c.2)] true) (zq (n:=2) (by kernel_rfl) rfl rfl rfl rfl (cac rfl (cac nvc can)) rfl)))<|⟨M,(ofG 23 (kG []),[.cells (ni1 d e),.cells (nz1 c.2),bZ]),aQ _,(Uc [] [some 0,some 1,some 2] rfl rfl (.kp (.kp (.kp .nil))) (.kb rfl (.same sn) (.kb rfl (.same sn) (.kb rfl (.same sn) .nil)))),_,_,_,_,rfl,g9⟩
   cases g9
   exact Goes.exit<|⟨rfl,_,_,rfl,(Uc [] [some 0,some 2] rfl rfl (.kp (.drop (.kp .nil))) (.kb rfl (.same sn) (.kb rfl (.same sn) .nil)))⟩
 rintro x s' ⟨rfl,f,g,rfl,hsub⟩
 try dsimp only at h
 cases h
 exact Goes.sub hsub<|sq<|gq fol [1] kBU [.cells (ni1 f g),.cells (ni1 f g)] (qh (hs (.run [1] (qx ZT 74 (.ptr 1 0) (.agg (ni1 f g))) [.cells (ni1 f g),bZ] .undef [.cells (ni1 f g),.cells (ni1 f g)] true) (zq (n:=2) (by kernel_rfl) rfl rfl rfl rfl (cac rfl (cac nvc can)) rfl)))<|Goes.ret<|(gw2 [.agg (ni1 f g)] (FzW.agg (qj.cons (Ua tI) (qj.cons (Ua (qp eU _ (nl rfl))) qj.nil))))
def stringslite_CutPrefix (b:Str) (a:Str):Option (Str×Bool):=
 (stringslite_HasPrefix b a).bind λc=>
 if(!c)=true then
 some (b,false)
 else
 (cut b (a.length:Int) (b.length:Int)).bind λd=>
 some (d,true)
theorem qdH (b:Str) (a:Str) {res:Str×Bool} (h:stringslite_CutPrefix b a=some res):qf ZT (.fn 162) [.str b,.str a] [] (.tuple [.str res.1,.bool res.2]) []:=by
 unfold stringslite_CutPrefix at h;obtain⟨f,c,h⟩:=bnd h;refine Ub Tryz.func162 rfl rfl (m:=15) rfl (rs:=[.tmp 4,.tmp 5]) rfl (l:=(kX b a [])) rfl<|sh fol (kX b a [])<|sq<|sq<|gr fol [2] (kX b a (kBs (!f))) (qh (cv (xQ b a c)))<|ihB h (λg h=>?_) (λg h=>?_)
 ·cases h
  exact sh fol [(4,.str b),(5,.bool false)]<|Goes.ret<|(gw2 [.str b,.bool false] (FzW.tuple (qj.cons (Ua tS) (qj.cons (Ua tB) qj.nil))))
 obtain⟨e,d,rfl⟩:=bs1 h;exact Goes.skip<|sq<|gr fol [3] [(4,.str e),(5,.bool true)] (qh (hs (.done (.opt (qC ZT 9 (.str b) (some (.i (zl a))) none none)) (.str e)) (jN st9 (some (zl a)) none d)))<|Goes.ret<|(gw2 [.str e,.bool true] (FzW.tuple (qj.cons (Ua tS) (qj.cons (Ua tB) qj.nil))))
def strings_CutPrefix (c:Str) (a:Str):Option (Str×Bool):=
 (stringslite_CutPrefix c a).bind λb=>
 some (b.1,b.2)
theorem qfd (b:Str) (a:Str) {res:Str×Bool} (h:strings_CutPrefix b a=some res):qf ZT (.fn 110) [.str b,.str a] [] (.tuple [.str res.1,.bool res.2]) []:=by
 unfold strings_CutPrefix at h;obtain⟨d,c,rfl⟩:=bs1 h;exact Ub Tryz.func110 rfl rfl (m:=11) rfl (rs:=[.tmp 4,.tmp 5]) rfl (l:=(kX b a [])) rfl<|sh fol (kX b a [])<|sq<|gr fol [2] [(4,.str d.1),(5,.bool d.2)] (qh (cv (qdH b a c)))<|Goes.ret<|(gw2 [.str d.1,.bool d.2] (FzW.tuple (qj.cons (Ua tS) (qj.cons (Ua tB) qj.nil))))
def vJ (a:Str):Option Bool:=
 (if(!(a==[]))=true then
 (qlb a [48,49,50,51,52,53,54,55,56,57]).bind λb=>
 if(b==[])=true then
 (idx a 0).bind λc=>
 if(!decide ((c.toNat:Int)=48))=true then
 some true
 else
 some (a==[48])
 else
 some false
 else
 some false:Option Bool).bind λd=>
 some d
theorem jV (c:Str) {res:Bool} (h:vJ c=some res):qf ZT (.fn 111) [.str c] [] (.bool res) []:=by
 unfold vJ at h;obtain⟨j,a,h⟩:=bnd h;refine Ub Tryz.func111 rfl rfl (m:=19) rfl (rs:=[.tmp 2]) rfl (l:=(kAn c)) rfl<|sh fol (kAn c)<|sq<|Goes.cut (s':=(ofG 19 (kBr j),[])) ?_ ?_
 ·rcases wyB a with⟨e,a⟩|⟨e,a⟩
  ·obtain⟨n,b,a⟩:=bnd a;rcases wyB a with⟨f,a⟩|⟨f,a⟩
   ·obtain⟨k,d,a⟩:=bnd a;rcases wyB a with⟨g,a⟩|⟨g,a⟩
    ·cases a
     exact tr fol [2,4,7,9,11] [(2,.bool true)] (qbj (gw e) (cv (qi6 c [48,49,50,51,52,53,54,55,56,57] b)) (gw f) (hs (.done (.opt (xw ZT 9 (.str c) (.i 0))) (.int .u8 (k.toNat:Int))) (qbm st9 d)) (gw g))
    cases a
    exact tr fol [2,4,7,9,11] (kBr (c==[48])) (qbj (gw e) (cv (qi6 c [48,49,50,51,52,53,54,55,56,57] b)) (gw f) (hs (.done (.opt (xw ZT 9 (.str c) (.i 0))) (.int .u8 (k.toNat:Int))) (qbm st9 d)) (gw g))
   cases a
   exact tr fol [2,4,7] kBb (qI (gw e) (cv (qi6 c [48,49,50,51,52,53,54,55,56,57] b)) (gw f))
  cases a
  exact tr fol [2] kBb (qh (gw e))
 obtain rfl:=si h;exact Goes.ret<|(gw2 [.bool j] (Ua tB))
def qct (N:Nat) (a:qm) (b:qm):Option Int:=
 (if a.w.isEmpty=true then
 some b.w.isEmpty
 else
 some false:Option Bool).bind λc=>
 if c=true then
 if a.s<b.s then
 some (-1)
 else
 if a.s>b.s then
 some 1
 else
 some 0
 else
 (qaf N a b).bind λd=>
 (zi d).bind λe=>
 some e
theorem qjc (N:Nat) (a:qm) (b:qm) {res:Int} (h:qct N a b=some res):qf ZT (.fn 112) [.agg (nz1 a),.agg (nz1 b)] [] (.i res) []:=by
 unfold qct at h;obtain⟨j,c,h⟩:=bnd h;refine Ub Tryz.func112 rfl rfl (m:=29) rfl (rs:=[.tmp 4]) rfl (l:=[(0,.agg (nz1 a)),(1,.agg (nz1 b))]) rfl<|sg fol (kAL []) [.cells (nz1 a),.cells (nz1 b)]<|sq<|sq<|Goes.cut (s':=(ofG 29 (kAL (kBH j)),[.cells (nz1 a),.cells (nz1 b)])) ?_ ?_
 ·rcases wyB c with⟨f,c⟩|⟨f,c⟩
  ·cases c
   exact tr fol [2,3,6] (kAL (kBH b.w.isEmpty)) (qI (hs (.done (.opt (zt ZT .eql 72 (.tmp 6) (.const (.slice none 0 0)) (nvl eU a.w) .nilslice)) (.bool a.w.isEmpty)) (qbp qbh)) (gw f) (hs (.done (.opt (zt ZT .eql 72 (.tmp 10) (.const (.slice none 0 0)) (nvl eU b.w) .nilslice)) (.bool b.w.isEmpty)) (qbp qbh)))
  cases c
  exact tr fol [2,3] (kAL [(12,.bool false)]) (qA (hs (.done (.opt (zt ZT .eql 72 (.tmp 6) (.const (.slice none 0 0)) (nvl eU a.w) .nilslice)) (.bool a.w.isEmpty)) (qbp qbh)) (gw f))
 refine ihB h (λk h=>?_) (λk h=>?_)
 ·refine sq<|Goes.block<|sh fol (kAL (kBO (decide (a.s<b.s))))<|ihD h (λn h=>?_) (λn h=>?_)
  ·cases h
   exact sh fol kBg<|Goes.ret<|(gw2 [.i (-1)] (Ua tI))
  refine sh fol [(19,.bool (decide (a.s>b.s)))]<|ihD h (λo h=>?_) (λo h=>?_)
  ·cases h
   exact sh fol [(4,.i 1)]<|Goes.ret<|(gw2 [.i 1] (Ua tI))
  cases h
  exact Goes.skip<|sh fol [(4,.i 0)]<|Goes.ret<|(gw2 [.i 0] (Ua tI))
 obtain⟨p,d,g,e,rfl⟩:=bs2 h;exact Goes.skip<|sq<|gr fol [2,3] [(4,.i g)] (qA (cv (qeZ N a b d)) (cv (xy p e)))<|Goes.ret<|(gw2 [.i g] (Ua tI))
def qbR (N:Nat) (a:Str):Option Int:=
 (strings_CutPrefix a [45]).bind λr=>
 (strings_Cut r.1 [47]).bind λb=>
 ((vJ b.1).bind λt=>
 if t=true then
 if(!r.2)=true then
 some true
 else
 some (!(b.1==[48]))
 else
 some false:Option Bool).bind λs=>
 ((if b.2.2=true then
 (if s=true then
 (vJ b.2.1).bind λg=>
 if g=true then
 if(!(b.2.1==[48]))=true then
 some (!(b.2.1==[49]))
 else
 some false
 else
 some false
 else
 some false:Option Bool).bind λh=>
 some h
 else
 some s:Option Bool)).bind λu=>
 ((qN (!u) 1).bind λc=>
 if(b.1.length:Int)>600 then
 (qN true 4).bind λd=>
 (jy N ([c,d]:List Int)).bind λi=>
 some (c,d,i)
 else
 (qN (decide ((b.2.1.length:Int)>600)) 4).bind λe=>
 (jy N ([c,e]:List Int)).bind λj=>
 some (c,e,j):Option (Int×Int×Int)).bind λ(v,w,f)=>
 if(!decide (f=0))=true then
 some f
 else
 (if b.2.2=true then
 (qbQ N b.1).bind λk=>
 (qbQ N b.2.1).bind λl=>
 (qdw N k l).bind λm=>
 (qcx 1).bind λn=>
 (qct N m n).bind λo=>
 some (!decide (o=0))
 else
 some false:Option Bool).bind λp=>
 (qN p 1).bind λq=>
 some q
theorem qhv (N:Nat) (a:Str) {res:Int} (h:qbR N a=some res):qf ZT (.fn 58) [.str a] [] (.i res) []:=by
 unfold qbR at h;obtain⟨V,H,c,I,b6,e,h⟩:=bn3 h;refine Ub Tryz.func58 rfl rfl (m:=76) rfl (rs:=[.tmp 2]) rfl (l:=(kAn a)) rfl<|sh fol (kAn a)<|sq<|gr fol [1] ((3,.str V.1)::(kBC V.2)) (qh (cv (qfd a [45] H)))<|sq<|gr fol [1] ((4,.bool V.2)::(kAM c.1 c.2.1 c.2.2 [])) (qh (cv (qeS V.1 [47] I)))<|sq<|Goes.cut (s':=(ofG 76 (kAM c.1 c.2.1 c.2.2 (kBY b6)),[])) ?_ ?_
 ·obtain⟨r3,k,e⟩:=bnd e;rcases wyB e with⟨X,e⟩|⟨X,e⟩
  ·rcases wyB e with⟨Y,e⟩|⟨Y,e⟩
   ·cases e
    exact tr fol [1,2,5] (kAM c.1 c.2.1 c.2.2 [(8,.bool true)]) (qI (cv (jV c.1 k)) (gw X) (gw Y))
   cases e
   exact tr fol [1,2,5] (kAM c.1 c.2.1 c.2.2 (kBY (!(c.1==[48])))) (qI (cv (jV c.1 k)) (gw X) (gw Y))
  cases e
  exact tr fol [1,2] (kAM c.1 c.2.1 c.2.2 kBc) (qA (cv (jV c.1 k)) (gw X))
 obtain⟨r9,g9,h⟩:=bnd h;refine sq<|sh fol (kAM c.1 c.2.1 c.2.2 [(8,.bool b6),(32,.bool c.2.2)])<|Goes.imp (Q:=λx s'=>(x= .normal/\ ∃J,J=r9/\Sub s' (ofG 76 (kAM c.1 c.2.1 c.2.2 (kBY J)),[]))) ?_ ?_
 ·refine ihB g9 (λZ g9=>?_) (λZ g9=>?_)
  ·obtain⟨a0,b,g9⟩:=bnd g9;refine Goes.cut (s':=(ofG 76 (kAM c.1 c.2.1 c.2.2 (kBY a0)),[])) ?_ ?_
   ·rcases wyB b with⟨n,b⟩|⟨n,b⟩
    ·obtain⟨r12,j,b⟩:=bnd b;rcases wyB b with⟨q,b⟩|⟨q,b⟩
     ·rcases wyB b with⟨t,b⟩|⟨t,b⟩
      ·cases b
       exact tr fol [1,3,5,9] (kAM c.1 c.2.1 c.2.2 (kBY (!(c.2.1==[49])))) (zM (gw n) (cv (jV c.2.1 j)) (gw q) (gw t))
      cases b
      exact tr fol [1,3,5,9] (kAM c.1 c.2.1 c.2.2 kBc) (zM (gw n) (cv (jV c.2.1 j)) (gw q) (gw t))
     cases b
     exact tr fol [1,3,5] (kAM c.1 c.2.1 c.2.2 kBc) (qI (gw n) (cv (jV c.2.1 j)) (gw q))
    cases b
    exact tr fol [1] (kAM c.1 c.2.1 c.2.2 kBc) (qh (gw n))
   cases g9
   exact⟨rfl,_,rfl,(Sub.refl _)⟩
  cases g9
  exact Goes.skip<|⟨rfl,_,rfl,(Sub.keep [5,6,7,8] rfl rfl)⟩
 rintro x s' ⟨rfl,J,rfl,hsub⟩;refine Goes.sub hsub<|sq<|sq ?_;obtain⟨⟨K,L,o⟩,d,h⟩:=bnd h;refine Goes.cut (s':=(ofG 76 (kAM c.1 c.2.1 c.2.2 [(9,.i o)]),(kBR K L))) ?_ ?_
 ·obtain⟨g,p,d⟩:=bnd d;rcases wyD d with⟨u,d⟩|⟨u,d⟩
  ·obtain⟨r,v,M,w,d⟩:=bn2 d;simp only[ZI,ZP]at d;obtain⟨rfl,rfl,rfl⟩:=d;exact qbg.rq fol [2,6,11,13] (kAM c.1 c.2.1 c.2.2 [(9,.i M)]) (kBR g r) (zM (cv (ji (!J) 1 p)) (gw u) (cv (ji true 4 v)) (hs (.call 48 [.slice 0 0 2 2 1] (kBR g r) [0] [vl encI ([g,r]:List Int)] (.i M)) (qgT (FzL.cons (Fz.lit rfl rfl (Uf (AllST.cons tI (AllST.cons tI AllST.nil)))) FzL.nil) (qaA N ([g,r]:List Int) w) tI rfl)))
  obtain⟨s,y,O,z,d⟩:=bn2 d;simp only[ZI,ZP]at d;obtain⟨rfl,rfl,rfl⟩:=d;exact qbg.rq fol [2,6,11,13] (kAM c.1 c.2.1 c.2.2 [(9,.i O)]) (kBR g s) (zM (cv (ji (!J) 1 p)) (gw u) (cv (ji (decide ((zl c.2.1)>600)) 4 y)) (hs (.call 48 [.slice 0 0 2 2 1] (kBR g s) [0] [vl encI ([g,s]:List Int)] (.i O)) (qgT (FzL.cons (Fz.lit rfl rfl (Uf (AllST.cons tI (AllST.cons tI AllST.nil)))) FzL.nil) (qaA N ([g,s]:List Int) z) tI rfl)))
 try dsimp only at h
 refine sh fol (kAM c.1 c.2.1 c.2.2 [(9,.i o),(61,.bool (!decide (o=0)))])<|ihB h (λa1 h=>?_) (λa1 h=>?_)
 ·obtain rfl:=si h;exact sh fol (kBv o)<|Goes.ret<|(gw2 [.i o] (Ua tI))
 obtain⟨P,f,h⟩:=bnd h;refine Goes.skip<|sq<|Goes.cut (s':=(ofG 76 (kBI P),(kBR K L))) ?_ ?_
 ·rcases wyB f with⟨A,f⟩|⟨A,f⟩
  ·obtain⟨a2,B,a3,C,a4,D,a5,E,a6,F,rfl⟩:=bs5 f;exact tr fol [1,3,5,6,7,8] (kBI (!decide (a6=0))) (qcE (gw A) (cv (qcn N c.1 B)) (cv (qcn N c.2.1 C)) (cv (qii N a2 a3 D)) (cv (qcc 1 E)) (cv (qjc N a4 a5 F)))
  cases f
  exact tr fol [1] [(10,.bool false)] (qh (gw A))
 obtain⟨U,G,rfl⟩:=bs1 h;exact sq<|gr fol [1] (kBv U) (qh (cv (ji P 1 G)))<|Goes.ret<|(gw2 [.i U] (Ua tI))
end Go.Av
