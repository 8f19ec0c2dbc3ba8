/-
  Walks of functions: what each computes, as a plain function.
-/
import Derived.Test.YthgioiakbbhonaaGreatDoorQGenEi2
noncomputable section
namespace Go.Av
open Go.Proofs Go.RowKit
set_option linter.unusedSectionVars false
set_option linter.unusedVariables false
set_option linter.unusedSimpArgs false
set_option maxRecDepth 100000
def jF (N:Nat) (l:List Str):Nat->Int->Option (Unit⊕Int)
 |0,_=>none
 |K+1,a=>
  if a<(l.length:Int)then
  (idx l a).bind λc=>
  (qbR N c).bind λb=>
  if(!decide (b=0))=true then
  some (.inr b)
  else
  jF N l K (w64 (a+1))
  else
  some (.inl ())
def yL (N:Nat) (l:List Str):Option Int:=
 (jF N l N 0).bind (λ
 |(.inl ())=>
 some 0
 |(.inr a)=>
 some a)
theorem qbB (N:Nat) (l:List Str) {res:Int} (h:yL N l=some res):qf ZT (.fn 50) [vl encS l] [] (.i res) []:=by
 unfold yL at h;obtain⟨e,g2,h⟩:=bnd h;refine Ub Tryz.func50 rfl rfl (m:=18) rfl (rs:=[.tmp 2]) rfl (l:=(kAk l [])) rfl<|sh fol (kAk l [])<|sq<|sh fol (kBk l [(7,.i (zl l)),(8,.i 0)])<|Goes.block<|Goes.imp (Q:=λx s'=>(x= .exit 0/\(.inl ())=e/\Sub s' (ofG 18 [],[]))\/(x= .ret/\ ∃f,(.inr f)=e/\zm ZT [.tmp 2] (.i f) .ret s')) ?_ ?_
 ·refine Ud (λM s=> ∃(a:Int),s=(ofG 18 (kBk l (kAE (zl l) a)),[])/\jF N l M a=some e) ?_ (m:=N) ⟨_,rfl,g2⟩;rintro M s ⟨a,rfl,g2⟩
  cases M with
  |zero=>simp only[jF]at g2;cases g2
  |succ M=>
   rw[jF]at g2;refine sh fol (kBk l (kBt (zl l) a (kBs (decide (a<(zl l))))))<|sq<|ihD g2 (λj g2=>?_) (λj g2=>?_)
   ·obtain⟨g,b,c,d,g2⟩:=bn2 g2;refine Goes.skip<|sq<|Goes.block<|sq<|gr fol [0,1] ((4,.str g)::(kBk l (kAE (zl l) a))) (qA (iv qeI encS b) (lv 0 qf8 encS b rfl))<|sq<|gr fol [1] ((5,.i c)::(kBk l (kAE (zl l) a))) (qh (cv (qhv N g d)))<|sh fol ((5,.i c)::(kBk l (kBt (zl l) a (kBP (!decide (c=0))))))<|ihB g2 (λk g2=>?_) (λk g2=>?_)
    ·cases g2
     exact sh fol (kBv c)<|Goes.ret<|Or.inr (⟨rfl,_,rfl,(gw2 [.i c] (Ua tI))⟩)
    exact Goes.skip<|gh fol (kBk l (kAE (zl l) (w64 (a+1))))<|zo ⟨_,rfl,g2⟩
   cases g2
   exact Goes.exit<|Or.inl (⟨rfl,rfl,(Sub.keep [] rfl rfl)⟩)
 rintro x s' (⟨rfl,rfl,hsub⟩|⟨rfl,n,rfl,hret⟩)
 ·try dsimp only at h
  cases h
  exact Goes.sub hsub<|sh fol [(2,.i 0)]<|Goes.ret<|(gw2 [.i 0] (Ua tI))
 try dsimp only at h
 cases h
 exact hret
def zf (N:Nat) (m:List (List Str)):Nat->Int->Option (Unit⊕Int)
 |0,_=>none
 |K+1,c=>
  if c<(m.length:Int)then
  (idx m c).bind λa=>
  (idx m 0).bind λd=>
  (qN (!decide ((a.length:Int)=(d.length:Int))) 2).bind λe=>
  (yL N a).bind λf=>
  (jy N ([e,f]:List Int)).bind λb=>
  if(!decide (b=0))=true then
  some (.inr b)
  else
  zf N m K (w64 (c+1))
  else
  some (.inl ())
def za (N:Nat) (m:List (List Str)) (b:List Str):Option Int:=
 if(m.length:Int)=0 then
 some 12
 else
 (if(m.length:Int)>24 then
 some true
 else
 (idx m 0).bind λf=>
 some (decide ((f.length:Int)>24)):Option Bool).bind λg=>
 if g=true then
 some 5
 else
 (zf N m N 0).bind (λ
 |(.inl ())=>
 (qN (!decide ((b.length:Int)=(m.length:Int))) 2).bind λa=>
 (yL N b).bind λc=>
 (jy N ([a,c]:List Int)).bind λd=>
 some d
 |(.inr e)=>
 some e)
theorem xJ (N:Nat) (m:List (List Str)) (b:List Str) {res:Int} (h:za N m b=some res):qf ZT (.fn 35) [vl eSS m,vl encS b] [] (.i res) []:=by
 unfold za at h;refine Ub Tryz.func35 rfl rfl (m:=53) rfl (rs:=[.tmp 4]) rfl (l:=((0,vl eSS m)::(kAJ b []))) rfl<|sh fol ((0,vl eSS m)::(kAJ b []))<|sq<|sh fol ((0,vl eSS m)::(kAJ b (kBI (decide ((zl m)=0)))))<|ihD h (λF h=>?_) (λF h=>?_)
 ·cases h
  exact sh fol [(4,.i 12)]<|Goes.ret<|(gw2 [.i 12] (Ua tI))
 obtain⟨G,a,h⟩:=bnd h;refine Goes.skip<|sq<|sq<|Goes.cut (s':=(ofG 53 ((0,vl eSS m)::(kAJ b (kBe G))),[])) ?_ ?_
 ·rcases wyD a with⟨z,a⟩|⟨z,a⟩
  ·cases a
   exact tr fol [3] ((0,vl eSS m)::(kAJ b [(20,.bool true)])) (qh (gw z))
  obtain⟨H,o,rfl⟩:=bs1 a;exact tr fol [3,5,6] ((0,vl eSS m)::(kAJ b (kBe (decide ((zl H)>24))))) (qI (gw z) (iv qcA eSS o) (lv 0 qcz eSS o rfl))
 refine ihB h (λI h=>?_) (λI h=>?_)
 ·cases h
  exact sh fol [(4,.i 5)]<|Goes.ret<|(gw2 [.i 5] (Ua tI))
 obtain⟨A,g8,h⟩:=bnd h;refine Goes.skip<|sq<|sh fol ((0,vl eSS m)::(kAJ b [(21,vl eSS m),(22,.i (zl m)),(23,.i 0)]))<|Goes.block<|Goes.imp (Q:=λx s'=>(x= .exit 0/\(.inl ())=A/\Sub s' (ofG 53 ((0,vl eSS m)::(kAJ b [])),[]))\/(x= .ret/\ ∃E,(.inr E)=A/\zm ZT [.tmp 4] (.i E) .ret s')) ?_ ?_
 ·refine Ud (λM s=> ∃(f:Int),s=(ofG 53 ((0,vl eSS m)::(kAJ b [(21,vl eSS m),(22,.i (zl m)),(23,.i f)])),[])/\zf N m M f=some A) ?_ (m:=N) ⟨_,rfl,g8⟩;rintro M s ⟨f,rfl,g8⟩
  cases M with
  |zero=>simp only[zf]at g8;cases g8
  |succ M=>
   rw[zf]at g8;refine sh fol ((0,vl eSS m)::(kAJ b [(21,vl eSS m),(22,.i (zl m)),(23,.i f),(24,.bool (decide (f<(zl m))))]))<|sq<|ihD g8 (λB g8=>?_) (λB g8=>?_)
   ·obtain⟨p,d,C,e,g,q,j,r,c,t,g8⟩:=bn5 g8;refine Goes.skip<|sq<|Goes.block<|sq<|gr fol [0,1] ((0,vl eSS m)::(kAJ b (kBk p [(21,vl eSS m),(22,.i (zl m)),(23,.i f)]))) (qA (iv qcA eSS d) (lv 0 qcz eSS d rfl))<|sq<|gq fol [3,4,7,9,11] ((0,vl eSS m)::(kAJ b [(7,.i c),(21,vl eSS m),(22,.i (zl m)),(23,.i f)])) (kBR g j) (qbj (iv qcA eSS e) (lv 0 qcz eSS e rfl) (cv (ji (!decide ((zl p)=(zl C))) 2 q)) (cv (qbB N p r)) (hs (.call 48 [.slice 0 0 2 2 1] (kBR g j) [0] [vl encI ([g,j]:List Int)] (.i c)) (qgT (FzL.cons (Fz.lit rfl rfl (Uf (AllST.cons tI (AllST.cons tI AllST.nil)))) FzL.nil) (qaA N ([g,j]:List Int) t) tI rfl)))<|sh fol ((0,vl eSS m)::(kAJ b [(7,.i c),(21,vl eSS m),(22,.i (zl m)),(23,.i f),(40,.bool (!decide (c=0)))]))<|ihB g8 (λD g8=>?_) (λD g8=>?_)
    ·cases g8
     exact sh fol [(4,.i c)]<|Goes.ret<|Or.inr (⟨rfl,_,rfl,(gw2 [.i c] (Ua tI))⟩)
    exact Goes.skip<|gh fol ((0,vl eSS m)::(kAJ b [(21,vl eSS m),(22,.i (zl m)),(23,.i (w64 (f+1)))]))<|⟨M,(ofG 53 ((0,vl eSS m)::(kAJ b [(21,vl eSS m),(22,.i (zl m)),(23,.i (w64 (f+1)))])),[]),aQ _,(Uc [] [] rfl rfl (.keep (.same (qc eSS _)) (.keep (.same (qc encS _)) (.keep (.same (qc eSS _)) (.keep (.same nI) (.keep (.same nI) .nil))))) .nil),_,rfl,g8⟩
   cases g8
   exact Goes.exit<|Or.inl (⟨rfl,rfl,(Sub.keep [0,1] rfl rfl)⟩)
 rintro x s' (⟨rfl,rfl,hsub⟩|⟨rfl,J,rfl,hret⟩)
 ·try dsimp only at h
  obtain⟨k,u,n,v,w,y,rfl⟩:=bs3 h;exact Goes.sub hsub<|sq<|gq fol [5,7,9] [(4,.i w)] (kBR k n) (qI (cv (ji (!decide ((zl b)=(zl m))) 2 u)) (cv (qbB N b v)) (hs (.call 48 [.slice 0 0 2 2 1] (kBR k n) [0] [vl encI ([k,n]:List Int)] (.i w)) (qgT (FzL.cons (Fz.lit rfl rfl (Uf (AllST.cons tI (AllST.cons tI AllST.nil)))) FzL.nil) (qaA N ([k,n]:List Int) y) tI rfl)))<|Goes.ret<|(gw2 [.i w] (Ua tI))
 try dsimp only at h
 cases h
 exact hret
def bits_Mul (b:Int) (y:Int):Option (Int×Int):=
 (bits_Mul64 b y).bind λa=>
 some (a.1,a.2)
theorem qlQ (d:Int) (y:Int) {res:Int×Int} (h:bits_Mul d y=some res):qf ZT (.fn 88) (kA3 d y) [] (.tuple (kA3 res.1 res.2)) []:=by
 unfold bits_Mul at h;refine Ub Tryz.func88 rfl rfl (m:=30) rfl (rs:=[.tmp 4,.tmp 5]) rfl (l:=(kV d y [])) rfl<|sh fol (kV d y [])<|sq<|Goes.ifB (b:=false) (by kernel_rfl) (λc=>(by cases c)) (λ_=>?_);obtain⟨a,e,rfl⟩:=bs1 h;exact Goes.skip<|sq<|gr fol [2] [(8,.int .u64 a.1),(9,.int .u64 a.2)] (qh (cv (qbs d y e)))<|sh fol [(4,.int .u64 a.1),(5,.int .u64 a.2)]<|Goes.ret<|(gw2 (kA3 a.1 a.2) (FzW.tuple (qj.cons (Ua tI) (qj.cons (Ua tI) qj.nil))))
def qcb (n:qm):Option qb:=
 (qcx 1).bind λa=>
 some (⟨n,a⟩:qb)
theorem qem (n:qm) {res:qb} (h:qcb n=some res):qf ZT (.fn 59) [.agg (nz1 n)] [] (.agg (nq1 res)) []:=by
 unfold qcb at h;obtain⟨a,b,rfl⟩:=bs1 h;exact Ub Tryz.func59 rfl rfl (m:=6) rfl (rs:=[.cell 2 76]) rfl (l:=[(0,.agg (nz1 n))]) rfl<|sg fol (kAg kAz) (.cells (nz1 n)::(kL []))<|sq<|gq fol [1,3] kAz [.cells (nz1 n),.cells (ni2 n.s n.w a.s a.w)] (qA (cv (qcc 1 b)) (hs (.run [1] (qx ZT 76 (.ptr 1 0) (.agg (ni2 n.s n.w a.s a.w))) (.cells (nz1 n)::(kL [])) .undef [.cells (nz1 n),.cells (ni2 n.s n.w a.s a.w)] true) (zq (n:=4) (by kernel_rfl) rfl rfl rfl rfl (cac rfl (cac nvc (cac rfl (cac nvc can)))) rfl)))<|Goes.ret<|(gw2 [.agg (ni2 n.s n.w a.s a.w)] (FzW.agg (qj.cons (Ua tI) (qj.cons (Ua (qp eU _ (nl rfl))) (qj.cons (Ua tI) (qj.cons (Ua (qp eU _ (nl rfl))) qj.nil))))))
def qgC (n:Int):Option qb:=
 (qcx n).bind λa=>
 (qcb a).bind λb=>
 some b
theorem qis (n:Int) {res:qb} (h:qgC n=some res):qf ZT (.fn 37) [.i n] [] (.agg (nq1 res)) []:=by
 unfold qgC at h;obtain⟨d,a,c,b,rfl⟩:=bs2 h;exact Ub Tryz.func37 rfl rfl (m:=6) rfl (rs:=[.cell 2 76]) rfl (l:=[(0,.i n)]) rfl<|sg fol ((0,.i n)::(kAm [])) (kL [])<|sq<|gq fol [1,2,3] (kAm []) [.cells (nq1 c)] (qI (cv (qcc n a)) (cv (qem d b)) (hs (.run [0] (qx ZT 76 (.ptr 0 0) (.agg (nq1 c))) (kL []) .undef [.cells (nq1 c)] true) (zq (n:=4) (by kernel_rfl) rfl rfl rfl rfl (cac rfl (cac nvc (cac rfl (cac nvc can)))) rfl)))<|Goes.ret<|(gw2 [.agg (nq1 c)] (FzW.agg (qj.cons (Ua tI) (qj.cons (Ua (qp eU _ (nl rfl))) (qj.cons (Ua tI) (qj.cons (Ua (qp eU _ (nl rfl))) qj.nil))))))
def qb1 (N:Nat) (a:Str):Option qb:=
 (strings_Cut a [47]).bind λb=>
 if(!b.2.2)=true then
 (qbQ N b.1).bind λc=>
 (qcb c).bind λd=>
 some d
 else
 (qbQ N b.1).bind λe=>
 (qbQ N b.2.1).bind λf=>
 some (⟨e,f⟩:qb)
theorem qcm (N:Nat) (a:Str) {res:qb} (h:qb1 N a=some res):qf ZT (.fn 40) [.str a] [] (.agg (nq1 res)) []:=by
 unfold qb1 at h;obtain⟨b,e,h⟩:=bnd h;refine Ub Tryz.func40 rfl rfl (m:=22) rfl (rs:=[.cell 2 76]) rfl (l:=(kAn a)) rfl<|sg fol ((0,.str a)::(kAm [])) (kL [])<|sq<|gr fol [1] (kAm [(3,.str b.1),(4,.str b.2.1),(5,.bool b.2.2)]) (qh (cv (qeS a [47] e)))<|sq<|sh fol (kAm ((3,.str b.1)::(4,.str b.2.1)::(kBO (!b.2.2))))<|ihB h (λo h=>?_) (λo h=>?_)
 ·obtain⟨p,f,k,g,rfl⟩:=bs2 h;exact sq<|gq fol [1,2,3] (kAm []) [.cells (nq1 k)] (qI (cv (qcn N b.1 f)) (cv (qem p g)) (hs (.run [0] (qx ZT 76 (.ptr 0 0) (.agg (nq1 k))) (kL []) .undef [.cells (nq1 k)] true) (zq (n:=4) (by kernel_rfl) rfl rfl rfl rfl (cac rfl (cac nvc (cac rfl (cac nvc can)))) rfl)))<|Goes.ret<|(gw2 [.agg (nq1 k)] (FzW.agg (qj.cons (Ua tI) (qj.cons (Ua (qp eU _ (nl rfl))) (qj.cons (Ua tI) (qj.cons (Ua (qp eU _ (nl rfl))) qj.nil))))))
 obtain⟨c,i,d,j,rfl⟩:=bs2 h;exact Goes.skip<|sq<|gq fol [1,3,5] (kAm []) [.cells (ni2 c.s c.w d.s d.w)] (qI (cv (qcn N b.1 i)) (cv (qcn N b.2.1 j)) (hs (.run [0] (qx ZT 76 (.ptr 0 0) (.agg (ni2 c.s c.w d.s d.w))) (kL []) .undef [.cells (ni2 c.s c.w d.s d.w)] true) (zq (n:=4) (by kernel_rfl) rfl rfl rfl rfl (cac rfl (cac nvc (cac rfl (cac nvc can)))) rfl)))<|Goes.ret<|(gw2 [.agg (ni2 c.s c.w d.s d.w)] (FzW.agg (qj.cons (Ua tI) (qj.cons (Ua (qp eU _ (nl rfl))) (qj.cons (Ua tI) (qj.cons (Ua (qp eU _ (nl rfl))) qj.nil))))))
def jO (a:qb):Option Int:=
 (zi a.Num).bind λb=>
 some b
theorem yV (a:qb) {res:Int} (h:jO a=some res):qf ZT (.fn 42) [.agg (nq1 a)] [] (.i res) []:=by
 unfold jO at h;obtain⟨c,b,rfl⟩:=bs1 h;exact Ub Tryz.func42 rfl rfl (m:=6) rfl (rs:=[.tmp 2]) rfl (l:=[(0,.agg (nq1 a))]) rfl<|sg fol (kAg []) [.cells (nq1 a)]<|sq<|gr fol [2] (kBv c) (qh (cv (xy a.Num b)))<|Goes.ret<|(gw2 [.i c] (Ua tI))
def yU (N:Nat) (a:qm) (b:qm):Option qm:=
 (zi b).bind λf=>
 ((if f<0 then
 (zW a).bind λd=>
 (zW b).bind λe=>
 some (d.s,d.w,e.s,e.w)
 else
 some (a.s,a.w,b.s,b.w):Option (Int×(List Int)×Int×(List Int)))).bind λ(g,h,i,j)=>
 (jT N (⟨g,h⟩:qm) (⟨i,j⟩:qm)).bind λc=>
 some c.1
theorem qeX (N:Nat) (a:qm) (b:qm) {res:qm} (h:yU N a b=some res):qf ZT (.fn 109) [.agg (nz1 a),.agg (nz1 b)] [] (.agg (nz1 res)) []:=by
 unfold yU at h;obtain⟨r,j,s,g6,h⟩:=bn2 h;refine Ub Tryz.func109 rfl rfl (m:=21) rfl (rs:=[.cell 4 74]) rfl (l:=[(0,.agg (nz1 a)),(1,.agg (nz1 b))]) rfl<|sg fol (kG []) [.cells (nz1 a),.cells (nz1 b),bZ]<|sq<|sq<|gr fol [1] (kG (kBs (decide (r<0)))) (qh (cv (xy b j)))<|Goes.imp (Q:=λx s'=>(x= .normal/\ ∃d e f g,(d,e,f,g)=s/\Sub s' (ofG 21 (kG []),[.cells (ni1 d e),.cells (ni1 f g),bZ]))) ?_ ?_
 ·refine ihD g6 (λt g6=>?_) (λt g6=>?_)
  ·obtain⟨k,o,q,p,rfl⟩:=bs2 g6;exact gq fol [1,3,4,5] (kG []) [.cells (nz1 k),.cells (nz1 q),bZ] (zM (cv (yc a o)) (cv (yc b p)) (hs (.run [0] (qx ZT 74 (.ptr 0 0) (.agg (nz1 k))) [.cells (nz1 a),.cells (nz1 b),bZ] .undef [.cells (nz1 k),.cells (nz1 b),bZ] true) (zq (n:=2) (by kernel_rfl) rfl rfl rfl rfl (cac rfl (cac nvc can)) rfl)) (hs (.run [1] (qx ZT 74 (.ptr 1 0) (.agg (nz1 q))) [.cells (nz1 k),.cells (nz1 b),bZ] .undef [.cells (nz1 k),.cells (nz1 q),bZ] true) (zq (n:=2) (by kernel_rfl) rfl rfl rfl rfl (cac rfl (cac nvc can)) rfl)))<|⟨rfl,_,_,_,_,rfl,(Sub.refl _)⟩
  cases g6
  exact Goes.skip<|⟨rfl,_,_,_,_,rfl,(Sub.keep [2,3,4] rfl rfl)⟩
 rintro x s' ⟨rfl,d,e,f,g,rfl,hsub⟩
 try dsimp only at h
 obtain⟨c,i,rfl⟩:=bs1 h;exact Goes.sub hsub<|sq<|gq fol [2,8,9] [(4,.ptr 2 0),(5,.ptr 3 0)] [.cells (ni1 d e),.cells (ni1 f g),bZ,.cells (nz1 c.1),.cells (nz1 c.2)] (qI (cv (qdt N (⟨d,e⟩:qm) (⟨f,g⟩:qm) i)) (hs (.run [3] (qx ZT 74 (.ptr 3 0) (.agg (nz1 c.1))) [.cells (ni1 d e),.cells (ni1 f g),bZ,bZ,bZ] .undef [.cells (ni1 d e),.cells (ni1 f g),bZ,.cells (nz1 c.1),bZ] true) (zq (n:=2) (by kernel_rfl) rfl rfl rfl rfl (cac rfl (cac nvc can)) rfl)) (hs (.run [4] (qx ZT 74 (.ptr 4 0) (.agg (nz1 c.2))) [.cells (ni1 d e),.cells (ni1 f g),bZ,.cells (nz1 c.1),bZ] .undef [.cells (ni1 d e),.cells (ni1 f g),bZ,.cells (nz1 c.1),.cells (nz1 c.2)] true) (zq (n:=2) (by kernel_rfl) rfl rfl rfl rfl (cac rfl (cac nvc can)) rfl)))<|sq<|gq fol [1] kAl [.cells (ni1 d e),.cells (ni1 f g),.cells (nz1 c.1),.cells (nz1 c.1),.cells (nz1 c.2)] (qh (hs (.run [2] (qx ZT 74 (.ptr 2 0) (.agg (nz1 c.1))) [.cells (ni1 d e),.cells (ni1 f g),bZ,.cells (nz1 c.1),.cells (nz1 c.2)] .undef [.cells (ni1 d e),.cells (ni1 f g),.cells (nz1 c.1),.cells (nz1 c.1),.cells (nz1 c.2)] true) (zq (n:=2) (by kernel_rfl) rfl rfl rfl rfl (cac rfl (cac nvc can)) rfl)))<|Goes.ret<|(gw2 [.agg (nz1 c.1)] (FzW.agg (qj.cons (Ua tI) (qj.cons (Ua (qp eU _ (nl rfl))) qj.nil))))
def qcq (N:Nat) (num:qm) (den:qm):Option qb:=
 (zi den).bind λk=>
 ((if k<0 then
 (zW num).bind λi=>
 (zW den).bind λj=>
 some (i.s,i.w,j.s,j.w)
 else
 some (num.s,num.w,den.s,den.w):Option (Int×(List Int)×Int×(List Int)))).bind λ(d,e,b,c)=>
 (if c.isEmpty=true then
 some (decide (b=1))
 else
 some false:Option Bool).bind λf=>
 if f=true then
 some (⟨(⟨d,e⟩:qm),(⟨b,c⟩:qm)⟩:qb)
 else
 (qdw N (⟨d,e⟩:qm) (⟨b,c⟩:qm)).bind λa=>
 (yU N (⟨d,e⟩:qm) a).bind λg=>
 (yU N (⟨b,c⟩:qm) a).bind λh=>
 some (⟨g,h⟩:qb)
theorem qeU (N:Nat) (num:qm) (den:qm) {res:qb} (h:qcq N num den=some res):qf ZT (.fn 56) [.agg (nz1 num),.agg (nz1 den)] [] (.agg (nq1 res)) []:=by
 unfold qcq at h;obtain⟨A,q,B,g6,h⟩:=bn2 h;refine Ub Tryz.func56 rfl rfl (m:=34) rfl (rs:=[.cell 4 76]) rfl (l:=[(0,.agg (nz1 num)),(1,.agg (nz1 den))]) rfl<|sg fol (kG []) (.cells (nz1 num):: .cells (nz1 den)::(kL []))<|sq<|sq<|gr fol [1] (kG (kBY (decide (A<0)))) (qh (cv (xy den q)))<|Goes.imp (Q:=λx s'=>(x= .normal/\ ∃d e c a,(d,e,c,a)=B/\Sub s' (ofG 34 (kG []),(.cells (ni1 d e):: .cells (ni1 c a)::(kL []))))) ?_ ?_
 ·refine ihD g6 (λC g6=>?_) (λC g6=>?_)
  ·obtain⟨r,t,v,u,rfl⟩:=bs2 g6;exact gq fol [1,3,4,5] (kG []) (.cells (nz1 r):: .cells (nz1 v)::(kL [])) (zM (cv (yc num t)) (cv (yc den u)) (hs (.run [0] (qx ZT 74 (.ptr 0 0) (.agg (nz1 r))) (.cells (nz1 num):: .cells (nz1 den)::(kL [])) .undef (.cells (nz1 r):: .cells (nz1 den)::(kL [])) true) (zq (n:=2) (by kernel_rfl) rfl rfl rfl rfl (cac rfl (cac nvc can)) rfl)) (hs (.run [1] (qx ZT 74 (.ptr 1 0) (.agg (nz1 v))) (.cells (nz1 r):: .cells (nz1 den)::(kL [])) .undef (.cells (nz1 r):: .cells (nz1 v)::(kL [])) true) (zq (n:=2) (by kernel_rfl) rfl rfl rfl rfl (cac rfl (cac nvc can)) rfl)))<|⟨rfl,_,_,_,_,rfl,(Sub.refl _)⟩
  cases g6
  exact Goes.skip<|⟨rfl,_,_,_,_,rfl,(Sub.keep [2,3,4] rfl rfl)⟩
 rintro x s' ⟨rfl,d,e,c,a,rfl,hsub⟩
 try dsimp only at h
 obtain⟨y,b,h⟩:=bnd h;refine Goes.sub hsub<|sq<|sq<|Goes.cut (s':=(ofG 34 (kG (kBe y)),(.cells (ni1 d e):: .cells (ni1 c a)::(kL [])))) ?_ ?_
 ·rcases wyB b with⟨j,b⟩|⟨j,b⟩
  ·cases b
   exact tr fol [2,3] (kG (kBe (decide (c=1)))) (qA (hs (.done (.opt (zt ZT .eql 72 (.tmp 14) (.const (.slice none 0 0)) (nvl eU a) .nilslice)) (.bool a.isEmpty)) (qbp qbh)) (gw j))
  cases b
  exact tr fol [2,3] (kG [(20,.bool false)]) (qA (hs (.done (.opt (zt ZT .eql 72 (.tmp 14) (.const (.slice none 0 0)) (nvl eU a) .nilslice)) (.bool a.isEmpty)) (qbp qbh)) (gw j))
 refine ihB h (λz h=>?_) (λz h=>?_)
 ·cases h
  exact sq<|gq fol [3] kAl [.cells (ni1 d e),.cells (ni1 c a),.cells (ni2 d e c a)] (qh (hs (.run [2] (qx ZT 76 (.ptr 2 0) (.agg (ni2 d e c a))) (.cells (ni1 d e):: .cells (ni1 c a)::(kL [])) .undef [.cells (ni1 d e),.cells (ni1 c a),.cells (ni2 d e c a)] true) (zq (n:=4) (by kernel_rfl) rfl rfl rfl rfl (cac rfl (cac nvc (cac rfl (cac nvc can)))) rfl)))<|Goes.ret<|(gw2 [.agg (ni2 d e c a)] (FzW.agg (qj.cons (Ua tI) (qj.cons (Ua (qp eU _ (nl rfl))) (qj.cons (Ua tI) (qj.cons (Ua (qp eU _ (nl rfl))) qj.nil))))))
 obtain⟨f,k,g,o,i,p,rfl⟩:=bs3 h;exact Goes.skip<|sq<|gq fol [2,4] (kG [(5,.ptr 3 0)]) (.cells (ni1 d e):: .cells (ni1 c a)::(kL [.cells (nz1 f)])) (qA (cv (qii N (⟨d,e⟩:qm) (⟨c,a⟩:qm) k)) (hs (.run [3] (qx ZT 74 (.ptr 3 0) (.agg (nz1 f))) (.cells (ni1 d e):: .cells (ni1 c a)::(kL [bZ])) .undef (.cells (ni1 d e):: .cells (ni1 c a)::(kL [.cells (nz1 f)])) true) (zq (n:=2) (by kernel_rfl) rfl rfl rfl rfl (cac rfl (cac nvc can)) rfl)))<|sq<|gq fol [2,5,7] kAl [.cells (ni1 d e),.cells (ni1 c a),.cells (ni2 g.s g.w i.s i.w),.cells (nz1 f)] (qI (cv (qeX N (⟨d,e⟩:qm) f o)) (cv (qeX N (⟨c,a⟩:qm) f p)) (hs (.run [2] (qx ZT 76 (.ptr 2 0) (.agg (ni2 g.s g.w i.s i.w))) (.cells (ni1 d e):: .cells (ni1 c a)::(kL [.cells (nz1 f)])) .undef [.cells (ni1 d e),.cells (ni1 c a),.cells (ni2 g.s g.w i.s i.w),.cells (nz1 f)] true) (zq (n:=4) (by kernel_rfl) rfl rfl rfl rfl (cac rfl (cac nvc (cac rfl (cac nvc can)))) rfl)))<|Goes.ret<|(gw2 [.agg (ni2 g.s g.w i.s i.w)] (FzW.agg (qj.cons (Ua tI) (qj.cons (Ua (qp eU _ (nl rfl))) (qj.cons (Ua tI) (qj.cons (Ua (qp eU _ (nl rfl))) qj.nil))))))
def qal (N:Nat) (a:qb) (b:qb):Option qb:=
 (qR N a.Num b.Num).bind λc=>
 (qR N a.Den b.Den).bind λd=>
 (qcq N c d).bind λe=>
 some e
theorem qcw (N:Nat) (a:qb) (b:qb) {res:qb} (h:qal N a b=some res):qf ZT (.fn 52) [.agg (nq1 a),.agg (nq1 b)] [] (.agg (nq1 res)) []:=by
 unfold qal at h;obtain⟨g,c,i,d,f,e,rfl⟩:=bs3 h;exact Ub Tryz.func52 rfl rfl (m:=16) rfl (rs:=[.cell 4 76]) rfl (l:=[(0,.agg (nq1 a)),(1,.agg (nq1 b))]) rfl<|sg fol (kG []) (.cells (nq1 a):: .cells (nq1 b)::(kL []))<|sq<|gq fol [4,9,10,11] kAl [.cells (nq1 a),.cells (nq1 b),.cells (nq1 f)] (zM (cv (yB N a.Num b.Num c)) (cv (yB N a.Den b.Den d)) (cv (qeU N g i e)) (hs (.run [2] (qx ZT 76 (.ptr 2 0) (.agg (nq1 f))) (.cells (nq1 a):: .cells (nq1 b)::(kL [])) .undef [.cells (nq1 a),.cells (nq1 b),.cells (nq1 f)] true) (zq (n:=4) (by kernel_rfl) rfl rfl rfl rfl (cac rfl (cac nvc (cac rfl (cac nvc can)))) rfl)))<|Goes.ret<|(gw2 [.agg (nq1 f)] (FzW.agg (qj.cons (Ua tI) (qj.cons (Ua (qp eU _ (nl rfl))) (qj.cons (Ua tI) (qj.cons (Ua (qp eU _ (nl rfl))) qj.nil))))))
def vM (a:qb):Option Bool:=
 (if a.Den.w.isEmpty=true then
 some (decide (a.Den.s=1))
 else
 some false:Option Bool).bind λb=>
 some b
theorem xV (a:qb) {res:Bool} (h:vM a=some res):qf ZT (.fn 103) [.agg (nq1 a)] [] (.bool res) []:=by
 unfold vM at h;obtain⟨d,b,h⟩:=bnd h;refine Ub Tryz.func103 rfl rfl (m:=13) rfl (rs:=[.tmp 2]) rfl (l:=[(0,.agg (nq1 a))]) rfl<|sg fol (kAg []) [.cells (nq1 a)]<|sq<|Goes.cut (s':=(ofG 13 (kBr d),[.cells (nq1 a)])) ?_ ?_
 ·rcases wyB b with⟨c,b⟩|⟨c,b⟩
  ·cases b
   exact tr fol [3,4] (kBr (decide (a.Den.s=1))) (qA (hs (.done (.opt (zt ZT .eql 72 (.tmp 5) (.const (.slice none 0 0)) (nvl eU a.Den.w) .nilslice)) (.bool a.Den.w.isEmpty)) (qbp qbh)) (gw c))
  cases b
  exact tr fol [3,4] kBb (qA (hs (.done (.opt (zt ZT .eql 72 (.tmp 5) (.const (.slice none 0 0)) (nvl eU a.Den.w) .nilslice)) (.bool a.Den.w.isEmpty)) (qbp qbh)) (gw c))
 obtain rfl:=si h;exact Goes.ret<|(gw2 [.bool d] (Ua tB))
def qbd (N:Nat) (a:qb) (b:qb):Option qb:=
 ((vM a).bind λg=>
 if g=true then
 (vM b).bind λh=>
 some h
 else
 some false:Option Bool).bind λi=>
 if i=true then
 (yC N a.Num b.Num).bind λj=>
 (qcb j).bind λk=>
 some k
 else
 (qR N a.Num b.Den).bind λl=>
 (qR N b.Num a.Den).bind λc=>
 (yC N l c).bind λd=>
 (qR N a.Den b.Den).bind λe=>
 (qcq N d e).bind λf=>
 some f
theorem qey (N:Nat) (a:qb) (b:qb) {res:qb} (h:qbd N a b=some res):qf ZT (.fn 51) [.agg (nq1 a),.agg (nq1 b)] [] (.agg (nq1 res)) []:=by
 unfold qbd at h;obtain⟨w,c,h⟩:=bnd h;refine Ub Tryz.func51 rfl rfl (m:=34) rfl (rs:=[.cell 4 76]) rfl (l:=[(0,.agg (nq1 a)),(1,.agg (nq1 b))]) rfl<|sg fol (kG []) (.cells (nq1 a):: .cells (nq1 b)::(kL []))<|sq<|sq<|Goes.cut (s':=(ofG 34 (kG (kBI w)),(.cells (nq1 a):: .cells (nq1 b)::(kL [])))) ?_ ?_
 ·obtain⟨B,e,c⟩:=bnd c;rcases wyB c with⟨s,c⟩|⟨s,c⟩
  ·obtain⟨x,k,rfl⟩:=bs1 c;exact tr fol [1,2,4] (kG (kBI x)) (qI (cv (xV a e)) (gw s) (cv (xV b k)))
  cases c
  exact tr fol [1,2] (kG [(10,.bool false)]) (qA (cv (xV a e)) (gw s))
 refine ihB h (λy h=>?_) (λy h=>?_)
 ·obtain⟨z,o,r,p,rfl⟩:=bs2 h;exact sq<|gq fol [4,5,6] kAl [.cells (nq1 a),.cells (nq1 b),.cells (nq1 r)] (qI (cv (qaU N a.Num b.Num o)) (cv (qem z p)) (hs (.run [2] (qx ZT 76 (.ptr 2 0) (.agg (nq1 r))) (.cells (nq1 a):: .cells (nq1 b)::(kL [])) .undef [.cells (nq1 a),.cells (nq1 b),.cells (nq1 r)] true) (zq (n:=4) (by kernel_rfl) rfl rfl rfl rfl (cac rfl (cac nvc (cac rfl (cac nvc can)))) rfl)))<|Goes.ret<|(gw2 [.agg (nq1 r)] (FzW.agg (qj.cons (Ua tI) (qj.cons (Ua (qp eU _ (nl rfl))) (qj.cons (Ua tI) (qj.cons (Ua (qp eU _ (nl rfl))) qj.nil))))))
 obtain⟨A,q,t,f,u,g,v,i,d,j,rfl⟩:=bs5 h;exact Goes.skip<|sq<|gq fol [4,9,10,15,16,17] kAl [.cells (nq1 a),.cells (nq1 b),.cells (nq1 d)] (qcE (cv (yB N a.Num b.Den q)) (cv (yB N b.Num a.Den f)) (cv (qaU N A t g)) (cv (yB N a.Den b.Den i)) (cv (qeU N u v j)) (hs (.run [2] (qx ZT 76 (.ptr 2 0) (.agg (nq1 d))) (.cells (nq1 a):: .cells (nq1 b)::(kL [])) .undef [.cells (nq1 a),.cells (nq1 b),.cells (nq1 d)] true) (zq (n:=4) (by kernel_rfl) rfl rfl rfl rfl (cac rfl (cac nvc (cac rfl (cac nvc can)))) rfl)))<|Goes.ret<|(gw2 [.agg (nq1 d)] (FzW.agg (qj.cons (Ua tI) (qj.cons (Ua (qp eU _ (nl rfl))) (qj.cons (Ua tI) (qj.cons (Ua (qp eU _ (nl rfl))) qj.nil))))))
def qb0 (a:qb):Option qb:=
 (zW a.Num).bind λb=>
 some (⟨b,a.Den⟩:qb)
theorem qhx (a:qb) {res:qb} (h:qb0 a=some res):qf ZT (.fn 132) [.agg (nq1 a)] [] (.agg (nq1 res)) []:=by
 unfold qb0 at h;obtain⟨b,c,rfl⟩:=bs1 h;exact Ub Tryz.func132 rfl rfl (m:=9) rfl (rs:=[.cell 2 76]) rfl (l:=[(0,.agg (nq1 a))]) rfl<|sg fol (kAg kAz) (.cells (nq1 a)::(kL []))<|sq<|gq fol [2,6] kAz [.cells (nq1 a),.cells (ni2 b.s b.w a.Den.s a.Den.w)] (qA (cv (yc a.Num c)) (hs (.run [1] (qx ZT 76 (.ptr 1 0) (.agg (ni2 b.s b.w a.Den.s a.Den.w))) (.cells (nq1 a)::(kL [])) .undef [.cells (nq1 a),.cells (ni2 b.s b.w a.Den.s a.Den.w)] true) (zq (n:=4) (by kernel_rfl) rfl rfl rfl rfl (cac rfl (cac nvc (cac rfl (cac nvc can)))) rfl)))<|Goes.ret<|(gw2 [.agg (ni2 b.s b.w a.Den.s a.Den.w)] (FzW.agg (qj.cons (Ua tI) (qj.cons (Ua (qp eU _ (nl rfl))) (qj.cons (Ua tI) (qj.cons (Ua (qp eU _ (nl rfl))) qj.nil))))))
def qbY (N:Nat) (a:qb) (b:qb):Option qb:=
 (qb0 b).bind λc=>
 (qbd N a c).bind λd=>
 some d
theorem qhy (N:Nat) (a:qb) (b:qb) {res:qb} (h:qbY N a b=some res):qf ZT (.fn 77) [.agg (nq1 a),.agg (nq1 b)] [] (.agg (nq1 res)) []:=by
 unfold qbY at h;obtain⟨f,c,e,d,rfl⟩:=bs2 h;exact Ub Tryz.func77 rfl rfl (m:=9) rfl (rs:=[.cell 4 76]) rfl (l:=[(0,.agg (nq1 a)),(1,.agg (nq1 b))]) rfl<|sg fol (kG []) (.cells (nq1 a):: .cells (nq1 b)::(kL []))<|sq<|gq fol [2,3,4] kAl [.cells (nq1 a),.cells (nq1 b),.cells (nq1 e)] (qI (cv (qhx b c)) (cv (qey N a f d)) (hs (.run [2] (qx ZT 76 (.ptr 2 0) (.agg (nq1 e))) (.cells (nq1 a):: .cells (nq1 b)::(kL [])) .undef [.cells (nq1 a),.cells (nq1 b),.cells (nq1 e)] true) (zq (n:=4) (by kernel_rfl) rfl rfl rfl rfl (cac rfl (cac nvc (cac rfl (cac nvc can)))) rfl)))<|Goes.ret<|(gw2 [.agg (nq1 e)] (FzW.agg (qj.cons (Ua tI) (qj.cons (Ua (qp eU _ (nl rfl))) (qj.cons (Ua tI) (qj.cons (Ua (qp eU _ (nl rfl))) qj.nil))))))
def qbX (N:Nat) (a:qb):Option qb:=
 (qcq N a.Den a.Num).bind λb=>
 some b
theorem qhw (N:Nat) (a:qb) {res:qb} (h:qbX N a=some res):qf ZT (.fn 78) [.agg (nq1 a)] [] (.agg (nq1 res)) []:=by
 unfold qbX at h;obtain⟨c,b,rfl⟩:=bs1 h;exact Ub Tryz.func78 rfl rfl (m:=8) rfl (rs:=[.cell 2 76]) rfl (l:=[(0,.agg (nq1 a))]) rfl<|sg fol (kAg kAz) (.cells (nq1 a)::(kL []))<|sq<|gq fol [4,5] kAz [.cells (nq1 a),.cells (nq1 c)] (qA (cv (qeU N a.Den a.Num b)) (hs (.run [1] (qx ZT 76 (.ptr 1 0) (.agg (nq1 c))) (.cells (nq1 a)::(kL [])) .undef [.cells (nq1 a),.cells (nq1 c)] true) (zq (n:=4) (by kernel_rfl) rfl rfl rfl rfl (cac rfl (cac nvc (cac rfl (cac nvc can)))) rfl)))<|Goes.ret<|(gw2 [.agg (nq1 c)] (FzW.agg (qj.cons (Ua tI) (qj.cons (Ua (qp eU _ (nl rfl))) (qj.cons (Ua tI) (qj.cons (Ua (qp eU _ (nl rfl))) qj.nil))))))
def qbT (a:qm):Option Int:=
 (qL a).bind λb=>
 if(b.2.length:Int)=0 then
 some 0
 else
 (idx b.2 (w64 ((b.2.length:Int)-1))).bind λc=>
 (bits_Len64 c).bind λd=>
 some (w64 ((w64 (64*(w64 ((b.2.length:Int)-1))))+d))
theorem qeE (a:qm) {res:Int} (h:qbT a=some res):qf ZT (.fn 118) [.agg (nz1 a)] [] (.i res) []:=by
 unfold qbT at h;obtain⟨c,d,h⟩:=bnd h;refine Ub Tryz.func118 rfl rfl (m:=25) rfl (rs:=[.tmp 2]) rfl (l:=[(0,.agg (nz1 a))]) rfl<|sg fol (kAg []) [.cells (nz1 a)]<|sq<|gr fol [1] [(4,vl eU c.2)] (qh (cv (jc a d)))<|sq<|sh fol ((4,vl eU c.2)::(kBH (decide ((zl c.2)=0))))<|ihD h (λg h=>?_) (λg h=>?_)
 ·cases h
  exact sh fol [(2,.i 0)]<|Goes.ret<|(gw2 [.i 0] (Ua tI))
 obtain⟨j,b,f,e,rfl⟩:=bs2 h;exact Goes.skip<|sq<|gr fol [8,9,10] (kBv (w64 ((w64 (64*(w64 ((zl c.2)-1))))+f))) (qI (iv je eU b) (lv 0 jo eU b rfl) (cv (qfP j e)))<|Goes.ret<|(gw2 [.i (w64 ((w64 (64*(w64 ((zl c.2)-1))))+f))] (Ua tI))
def jS (N:Nat):Nat->(List Str)->(List Int)->Option (List Str)
 |0,_,_=>none
 |K+1,i,j=>
  if(j.length:Int)>0 then
  (qbE N j ([1000000000000000000]:List Int)).bind λb=>
  ((if(b.2.length:Int)>0 then
  (idx b.2 0).bind λc=>
  (qil c 10).bind λd=>
  some d
  else
  some [48]:Option Str)).bind λa=>
  ((if(b.1.length:Int)>0 then
  (qfx [48] (w64 (18-(a.length:Int)))).bind λe=>
  (cat e a).bind λf=>
  some f
  else
  some a:Option Str)).bind λg=>
  (app 16 i [g]).bind λh=>
  jS N K h b.1
  else
  some i
def zN (e:List Str):Nat->Bool->(Option (List Int))->Int->Option (Bool×(Option (List Int)))
 |0,_,_,_=>none
 |K+1,ok27,b,a=>
  if a>=0 then
  (idx e a).bind λc=>
  (bWr ok27 b c).bind λd=>
  zN e K true (some d) (w64 (a-1))
  else
  some (ok27,b)
def yG (N:Nat) (a:qm):Option Str:=
 if a.w.isEmpty=true then
 (qnr a.s).bind λh=>
 some h
 else
 (qL a).bind λf=>
 (jS N N ([]:List Str) f.2).bind λg=>
 ((if f.1=true then
 (bWr false (none:Option (List Int)) [45]).bind λb=>
 some (true,(some b))
 else
 some (false,(none:Option (List Int))):Option (Bool×(Option (List Int))))).bind λ(ok21,c)=>
 (zN g N ok21 c (w64 ((g.length:Int)-1))).bind λ(ok30,d)=>
 (qnX ok30 d).bind λe=>
 some e
theorem qaJ (N:Nat) (a:qm) {res:Str} (h:yG N a=some res):qf ZT (.fn 160) [.agg (nz1 a)] [] (.str res) []:=by
 unfold yG at h;refine Ub Tryz.func160 rfl rfl (m:=69) rfl (rs:=[.tmp 2]) rfl (l:=[(0,.agg (nz1 a))]) rfl<|sg fol (kAg []) [.cells (nz1 a)]<|sq<|sq<|gr fol [2] (kAg [(14,.bool a.w.isEmpty)]) (qh (hs (.done (.opt (zt ZT .eql 72 (.tmp 13) (.const (.slice none 0 0)) (nvl eU a.w) .nilslice)) (.bool a.w.isEmpty)) (qbp qbh)))<|ihB h (λc1 h=>?_) (λc1 h=>?_)
 ·obtain⟨r2,J,rfl⟩:=bs1 h;exact sq<|gr fol [2] [(2,.str r2)] (qh (cv (qoH a.s J)))<|Goes.ret<|(gw2 [.str r2] (Ua tS))
 obtain⟨d,K,r7,g7,h⟩:=bn2 h;refine Goes.skip<|sq<|gr fol [1] [(3,.bool d.1),(4,vl eU d.2)] (qh (cv (jc a K)))<|sg fol [(3,.bool d.1),(4,vl eU d.2),(5,.slice 1 0 1 1 1)] [.cells (nz1 a),.cells [.int .u64 1000000000000000000]]<|sh fol [(3,.bool d.1),(4,vl eU d.2),(5,.slice 1 0 1 1 1),(6,.nilslice)]<|sq<|Goes.block<|Goes.imp (Q:=λx s'=>(x= .exit 0/\ ∃b,b=r7/\Sub s' (ofG 69 ((3,.bool d.1)::(kAI b [])),(kS b [])))) ?_ ?_
 ·refine Goes.sub (s':=(ofG 69 [(3,.bool d.1),(4,vl eU d.2),(5,vl eU ([1000000000000000000]:List Int)),(6,.gslice 0 ([]:List Str).length 1)],[.cells (([]:List Str).flatMap encS.c)])) (Uc [1] [none] rfl rfl (.keep (.same nB) (.keep (.same (qc eU _)) (.keep (.frz (Fz.lit rfl rfl (Uf (AllST.cons tI AllST.nil))) (qc eU _)) (.keep .nil .nil)))) (.fresh .nil))<|Ud (λM s=> ∃(g:List Str) (I:List Int),s=(ofG 69 ((3,.bool d.1)::(4,vl eU I)::(5,vl eU ([1000000000000000000]:List Int))::(kAI g [])),(kS g []))/\jS N M g I=some r7) ?_ (m:=N) ⟨_,_,rfl,g7⟩;rintro M s ⟨g,I,rfl,g7⟩
  cases M with
  |zero=>simp only[jS]at g7;cases g7
  |succ M=>
   rw[jS]at g7;refine sq<|sh fol ((3,.bool d.1)::(4,vl eU I)::(5,vl eU ([1000000000000000000]:List Int))::(kAI g [(26,.bool (decide ((zl I)>0)))]))<|ihD g7 (λc8 g7=>?_) (λc8 g7=>?_)
   ·obtain⟨j,L,U,g11,g7⟩:=bn2 g7;refine Goes.skip<|Goes.block<|sq<|gr fol [2] ((3,.bool d.1)::(5,vl eU ([1000000000000000000]:List Int))::(kAI g [(7,vl eU j.1),(8,vl eU j.2)])) (qh (cv (qfQ N I ([1000000000000000000]:List Int) L)))<|sh fol ((3,.bool d.1)::(5,vl eU ([1000000000000000000]:List Int))::(kAI g [(7,vl eU j.1),(8,vl eU j.2),(9,.str [48])]))<|sq<|sh fol ((3,.bool d.1)::(5,vl eU ([1000000000000000000]:List Int))::(kAI g [(7,vl eU j.1),(8,vl eU j.2),(9,.str [48]),(35,.bool (decide ((zl j.2)>0)))]))<|Goes.imp (Q:=λx s'=>(x= .normal/\ ∃p,p=U/\Sub s' (ofG 69 ((3,.bool d.1)::(5,vl eU ([1000000000000000000]:List Int))::(kAI g [(7,vl eU j.1),(9,.str p)])),(kS g [])))) ?_ ?_
    ·refine ihD g11 (λV g11=>?_) (λV g11=>?_)
     ·obtain⟨X,r,Y,z,rfl⟩:=bs2 g11;exact gr fol [1,2,3] ((3,.bool d.1)::(5,vl eU ([1000000000000000000]:List Int))::(kAI g [(7,vl eU j.1),(9,.str Y)])) (qI (iv je eU r) (lv 0 jo eU r rfl) (cv (qqf X 10 z)))<|⟨rfl,_,rfl,(Sub.refl _)⟩
     cases g11
     exact Goes.skip<|⟨rfl,_,rfl,(Sub.keep [3,5,6,7,9] rfl rfl)⟩
    rintro x s' ⟨rfl,p,rfl,hsub⟩;obtain⟨Z,g16,g7⟩:=bnd g7;refine Goes.sub hsub<|sq<|sh fol ((3,.bool d.1)::(5,vl eU ([1000000000000000000]:List Int))::(kAI g [(7,vl eU j.1),(9,.str p),(42,.bool (decide ((zl j.1)>0)))]))<|Goes.imp (Q:=λx s'=>(x= .normal/\ ∃k,k=Z/\Sub s' (ofG 69 ((3,.bool d.1)::(5,vl eU ([1000000000000000000]:List Int))::(kAI g [(7,vl eU j.1),(9,.str k)])),(kS g [])))) ?_ ?_
    ·refine ihD g16 (λa0 g16=>?_) (λa0 g16=>?_)
     ·obtain⟨a1,A,O,B,rfl⟩:=bs2 g16;exact gr fol [3,5] ((3,.bool d.1)::(5,vl eU ([1000000000000000000]:List Int))::(kAI g [(7,vl eU j.1),(9,.str O)])) (qA (cv (qmi [48] (w64 (18-(zl p))) A)) (hs (.done (.opt (zt ZT .add 9 (.tmp 46) (.tmp 47) (.str a1) (.str p))) (.str O)) (qbV B)))<|⟨rfl,_,rfl,(Sub.refl _)⟩
     cases g16
     exact Goes.skip<|⟨rfl,_,rfl,(Sub.keep [3,5,6,7,9] rfl rfl)⟩
    rintro x s' ⟨rfl,k,rfl,hsub⟩;obtain⟨n,C,g7⟩:=bnd g7;exact Goes.sub hsub<|sq<|gq fol [3] [(3,.bool d.1),(5,vl eU ([1000000000000000000]:List Int)),(6,.gslice 2 n.length 1),(7,vl eU j.1)] (.dead:: .cells [.str k]::(kS n [])) (qh (hs (.run [0,1] (zO ZT [211,211] (.gslice 0 g.length 1) (.slice 1 0 1 1 1)) (kS g [.cells [.str k]]) (.gslice 2 n.length 1) (.dead:: .cells [.str k]::(kS n [])) true) (qaq qrE (E:=encS) rfl (qdy (E:=encS) (ys:=[k]) rfl rfl rfl rfl) (qex (E:=encS) (l:=g) rfl rfl rfl C rfl))))<|gh fol [(3,.bool d.1),(4,vl eU j.1),(5,vl eU ([1000000000000000000]:List Int)),(6,.gslice 2 n.length 1)]<|⟨M,(ofG 69 ((3,.bool d.1)::(4,vl eU j.1)::(5,vl eU ([1000000000000000000]:List Int))::(kAI n [])),(kS n [])),aQ _,(Uc [] [some 2] rfl rfl (.keep (.same nB) (.keep (.same (qc eU _)) (.keep (.same (qc eU _)) (.keep (.gslice rfl) .nil)))) (.ks .nil)),_,_,rfl,g7⟩
   cases g7
   exact Goes.exit<|⟨rfl,_,rfl,(Sub.keep [3,6] rfl rfl)⟩
 rintro x s' ⟨rfl,b,rfl,hsub⟩;obtain⟨a2,g23,h⟩:=bnd h;refine Goes.sub hsub<|sg fol ((3,.bool d.1)::(kAI b (kBS []))) (kS b [.bld 164 5 [.nilptr,.nilslice]])<|sq<|sh fol (kAI b (kBS [(54,.bool d.1)]))<|Goes.imp (Q:=λx s'=>(x= .normal/\ ∃ok21 u,(ok21,u)=a2/\Sub s' (ofG 69 (kAI b (kBS [])),(kS b [.bld 164 5 [pz ok21 1 0,hsl 2 1 u],.cells ((hof u).flatMap (qbk .u8).c)])))) ?_ ?_
 ·refine ihB g23 (λa3 g23=>?_) (λa3 g23=>?_)
  ·obtain⟨v,D,rfl⟩:=bs1 g23;exact Goes.sub (s':=(ofG 69 (kAI b (kBS [(54,.bool d.1)])),(kS b [.bld 164 5 [pz false 1 0,.nilslice]]))) (Uc [] [some 0,some 1] rfl rfl (.keep (.gslice rfl) (.kp (.keep (.same nB) .nil))) (.ks (.kb rfl (.bld (rc (jm.pz0) (rc (.same (qO.nilslice)) rn))) .nil)))<|Goes.sub (s':=(ofG 69 (kAI b (kBS [(54,.bool d.1)])),(kS b [.bld 164 5 [pz false 1 0,hsl 2 1 (none:Option (List Int))],.cells ((hof (none:Option (List Int))).flatMap (qbk .u8).c)]))) (Uc [] [some 0,some 1,none] rfl rfl (.keep (.gslice rfl) (.kp (.keep (.same nB) .nil))) (.ks (.kb rfl (.bld (rc (jm.pz0) (rc .hs0 rn))) (.fresh .nil))))<|gq fol [0] (kAI b (kBS [])) (kS b [.bld 164 5 [pz true 1 0,hsl 3 1 (some v)],.dead,.cells ((hof (some v)).flatMap (qbk .u8).c)]) (qh (hs (.callH 128 [.ptr 1 0,.str [45]] (kS b [.bld 164 5 [pz false 1 0,hsl 2 1 (none:Option (List Int))],.cells ((hof (none:Option (List Int))).flatMap (qbk .u8).c)]) [1,2] (.tuple [.i (([45].length:Nat):Int),.niliface]) (kS b [.bld 164 5 [pz true 1 0,hsl 3 1 (some v)],.dead,.cells ((hof (some v)).flatMap (qbk .u8).c)])) (qbA [some 1,some 2] [none,some 0,none,some 2] (qp1 false (none:Option (List Int)) [45] D) (.kb rfl (.bld (rc (jm.pz0) (rc .hs0 rn))) (.ks .nil)) rfl rfl (.old rfl rfl (.back rfl rfl (.bld (rc ((jm.pz rfl)) (rc (.hs rfl) rn))) rfl (.dead (.new rfl rfl (.same fa) rfl .nil)))) (rc (.ptr rfl) (rc (.same nS) rn)) (.same (qO.tuple sn)) rfl)))<|⟨rfl,_,_,rfl,(Uc [] [some 0,some 1,some 3] rfl rfl (.keep (.gslice rfl) (.kp .nil)) (.ks (.kb rfl (.bld (rc ((jm.pz rfl)) (rc (.hs rfl) rn))) (.ks .nil))))⟩
  cases g23
  exact Goes.skip<|⟨rfl,_,_,rfl,(Uc [] [some 0,some 1,none] rfl rfl (.keep (.gslice rfl) (.kp .nil)) (.ks (.kb rfl (.bld (rc (jm.pz0) (rc .hs0 rn))) (.fresh .nil))))⟩
 rintro x s' ⟨rfl,ok21,u,rfl,hsub⟩
 try dsimp only at h
 obtain⟨P,g32,h⟩:=bnd h;refine Goes.sub hsub<|sq<|sh fol (kAI b (kBS [(11,.i (w64 ((zl b)-1)))]))<|Goes.block<|Goes.imp (Q:=λx s'=>(x= .exit 2/\ ∃ok30 o,(ok30,o)=P/\Sub s' (ofG 69 [(10,.ptr 0 0)],[.bld 164 5 [pz ok30 0 0,hsl 1 1 o],.cells ((hof o).flatMap (qbk .u8).c)]))) ?_ ?_
 ·refine Ud (λM s=> ∃(ok27:Bool) (e:Option (List Int)) (f:Int),s=(ofG 69 (kAI b (kBS [(11,.i f)])),(kS b [.bld 164 5 [pz ok27 1 0,hsl 2 1 e],.cells ((hof e).flatMap (qbk .u8).c)]))/\zN b M ok27 e f=some P) ?_ (m:=N) ⟨_,_,_,rfl,g32⟩;rintro M s ⟨ok27,e,f,rfl,g32⟩
  cases M with
  |zero=>simp only[zN]at g32;cases g32
  |succ M=>
   rw[zN]at g32;refine sq<|sh fol (kAI b (kBS [(11,.i f),(60,.bool (decide (f>=0)))]))<|ihD g32 (λa4 g32=>?_) (λa4 g32=>?_)
   ·obtain⟨y,t,q,F,g32⟩:=bn2 g32;exact Goes.skip<|sq<|Goes.block<|gq fol [2,3,4] (kAI b (kBS [(11,.i f)])) (kS b [.bld 164 5 [pz true 1 0,hsl 3 1 (some q)],.dead,.cells ((hof (some q)).flatMap (qbk .u8).c)]) (qI (hs (.done (.opt (qd ZT 211 (.gslice 0 b.length 1) (.i f))) (.ptr 0 ((f:Int).toNat*1+0))) (xG qrE t)) (hs (.run [0] (qX ZT 9 (.ptr 0 ((f:Int).toNat*1+0))) (kS b [.bld 164 5 [pz ok27 1 0,hsl 2 1 e],.cells ((hof e).flatMap (qbk .u8).c)]) (.str y) (kS b [.bld 164 5 [pz ok27 1 0,hsl 2 1 e],.cells ((hof e).flatMap (qbk .u8).c)]) false) (qdh ce9 (E:=encS) (l:=b) rfl rfl t (nl rfl) rfl)) (hs (.callH 128 [.ptr 1 0,.str y] (kS b [.bld 164 5 [pz ok27 1 0,hsl 2 1 e],.cells ((hof e).flatMap (qbk .u8).c)]) [1,2] (.tuple [.i ((y.length:Nat):Int),.niliface]) (kS b [.bld 164 5 [pz true 1 0,hsl 3 1 (some q)],.dead,.cells ((hof (some q)).flatMap (qbk .u8).c)])) (qbA [some 1,some 2] [none,some 0,none,some 2] (qp1 ok27 e y F) (.kb rfl (.bld (rc ((jm.pz rfl)) (rc (.hs rfl) rn))) (.ks .nil)) rfl rfl (.old rfl rfl (.back rfl rfl (.bld (rc ((jm.pz rfl)) (rc (.hs rfl) rn))) rfl (.dead (.new rfl rfl (.same fa) rfl .nil)))) (rc (.ptr rfl) (rc (.same nS) rn)) (.same (qO.tuple sn)) rfl)))<|gh fol (kAI b (kBS [(11,.i (w64 (f-1)))]))<|⟨M,(ofG 69 (kAI b (kBS [(11,.i (w64 (f-1)))])),(kS b [.bld 164 5 [pz true 1 0,hsl 2 1 (some q)],.cells ((hof (some q)).flatMap (qbk .u8).c)])),aQ _,(Uc [] [some 0,some 1,some 3] rfl rfl (.keep (.gslice rfl) (.kp (.keep (.same nI) .nil))) (.ks (.kb rfl (.bld (rc ((jm.pz rfl)) (rc (.hs rfl) rn))) (.ks .nil)))),_,_,_,rfl,g32⟩
   cases g32
   exact Goes.exit<|⟨rfl,_,_,rfl,(Uc [] [some 1,some 2] rfl rfl (.drop (.kp .nil)) (.kb rfl (.bld (rc ((jm.pz rfl)) (rc (.hs rfl) rn))) (.ks .nil)))⟩
 rintro x s' ⟨rfl,ok30,o,rfl,hsub⟩
 try dsimp only at h
 obtain⟨G,H,rfl⟩:=bs1 h;exact Goes.sub hsub<|sq<|gq fol [0] [(2,.str G)] (kBy []) (qh (hs (.callH 130 [.ptr 0 0] [.bld 164 5 [pz ok30 0 0,hsl 1 1 o],.cells ((hof o).flatMap (qbk .u8).c)] [0,1] (.str G) (kBy [])) (qbA [some 0,some 1] [none,none] (qrv ok30 o H) (.kb rfl (.bld (rc ((jm.pz rfl)) (rc (.hs rfl) rn))) (.ks .nil)) rfl rfl (.dead (.dead .nil)) (rc (.ptr rfl) rn) (.same nS) rfl)))<|Goes.ret<|(gw2 [.str G] (Ua tS))
def qdR (N:Nat) (n:qm):Option Bool:=
 ((qbT n).bind λa=>
 if a>1800 then
 (yG N n).bind λb=>
 (strings_TrimPrefix b [45]).bind λc=>
 some (decide ((c.length:Int)>600))
 else
 some false:Option Bool).bind λd=>
 some d
theorem qe8 (N:Nat) (n:qm) {res:Bool} (h:qdR N n=some res):qf ZT (.fn 143) [.agg (nz1 n)] [] (.bool res) []:=by
 unfold qdR at h;obtain⟨f,a,h⟩:=bnd h;refine Ub Tryz.func143 rfl rfl (m:=13) rfl (rs:=[.tmp 2]) rfl (l:=[(0,.agg (nz1 n))]) rfl<|sg fol (kAg []) [.cells (nz1 n)]<|sq<|Goes.cut (s':=(ofG 13 (kBr f),[.cells (nz1 n)])) ?_ ?_
 ·obtain⟨j,b,a⟩:=bnd a;rcases wyD a with⟨e,a⟩|⟨e,a⟩
  ·obtain⟨g,c,i,d,rfl⟩:=bs2 a;exact tr fol [1,3,5,6] (kBr (decide ((zl i)>600))) (zM (cv (qeE n b)) (gw e) (cv (qaJ N n c)) (cv (qb7 g [45] d)))
  cases a
  exact tr fol [1,3] kBb (qA (cv (qeE n b)) (gw e))
 obtain rfl:=si h;exact Goes.ret<|(gw2 [.bool f] (Ua tB))
def qaS (N:Nat) (a:qb):Option Bool:=
 ((qdR N a.Num).bind λb=>
 if b=true then
 some true
 else
 (qdR N a.Den).bind λc=>
 some c:Option Bool).bind λd=>
 some d
theorem qgt (N:Nat) (a:qb) {res:Bool} (h:qaS N a=some res):qf ZT (.fn 92) [.agg (nq1 a)] [] (.bool res) []:=by
 unfold qaS at h;obtain⟨f,b,h⟩:=bnd h;refine Ub Tryz.func92 rfl rfl (m:=11) rfl (rs:=[.tmp 2]) rfl (l:=[(0,.agg (nq1 a))]) rfl<|sg fol (kAg []) [.cells (nq1 a)]<|sq<|Goes.cut (s':=(ofG 11 (kBr f),[.cells (nq1 a)])) ?_ ?_
 ·obtain⟨i,c,b⟩:=bnd b;rcases wyB b with⟨e,b⟩|⟨e,b⟩
  ·cases b
   exact tr fol [2,3] [(2,.bool true)] (qA (cv (qe8 N a.Num c)) (gw e))
  obtain⟨g,d,rfl⟩:=bs1 b;exact tr fol [2,3,6] (kBr g) (qI (cv (qe8 N a.Num c)) (gw e) (cv (qe8 N a.Den d)))
 obtain rfl:=si h;exact Goes.ret<|(gw2 [.bool f] (Ua tB))
def qbr (N:Nat) (a:qb):Option Str:=
 (vM a).bind λb=>
 if b=true then
 (yG N a.Num).bind λc=>
 some c
 else
 (yG N a.Num).bind λd=>
 (cat d [47]).bind λe=>
 (yG N a.Den).bind λf=>
 (cat e f).bind λg=>
 some g
theorem qg3 (N:Nat) (a:qb) {res:Str} (h:qbr N a=some res):qf ZT (.fn 106) [.agg (nq1 a)] [] (.str res) []:=by
 unfold qbr at h;obtain⟨n,b,h⟩:=bnd h;refine Ub Tryz.func106 rfl rfl (m:=16) rfl (rs:=[.tmp 2]) rfl (l:=[(0,.agg (nq1 a))]) rfl<|sg fol (kAg []) [.cells (nq1 a)]<|sq<|sq<|gr fol [1] (kAg (kBC n)) (qh (cv (xV a b)))<|ihB h (λo h=>?_) (λo h=>?_)
 ·obtain⟨j,c,rfl⟩:=bs1 h;exact sq<|gr fol [2] [(2,.str j)] (qh (cv (qaJ N a.Num c)))<|Goes.ret<|(gw2 [.str j] (Ua tS))
 obtain⟨p,d,k,e,q,f,i,g,rfl⟩:=bs4 h;exact Goes.skip<|sq<|gr fol [2,3,6,7] [(2,.str i)] (zM (cv (qaJ N a.Num d)) (hs (.done (.opt (zt ZT .add 9 (.tmp 10) (.const (.string ⟨#[47]⟩)) (.str p) (.str [47]))) (.str k)) (qbV e)) (cv (qaJ N a.Den f)) (hs (.done (.opt (zt ZT .add 9 (.tmp 11) (.tmp 14) (.str k) (.str q))) (.str i)) (qbV g)))<|Goes.ret<|(gw2 [.str i] (Ua tS))
def qak (N:Nat) (l:List qb):Nat->(List Str)->Int->Option (List Str)
 |0,_,_=>none
 |K+1,b,a=>
  if a<(l.length:Int)then
  (idx l a).bind λd=>
  (qbr N d).bind λe=>
  (idx b a).bind λf=>
  (put b a e).bind λc=>
  qak N l K c (w64 (a+1))
  else
  some b
def qfr (N:Nat) (l:List qb):Option (List Str):=
 (mk 16 (l.length:Int) []).bind λa=>
 (qak N l N a 0).bind λb=>
 some b
theorem qjZ (N:Nat) (l:List qb) {res:List Str} (h:qfr N l=some res):qf ZT (.fn 93) [vl qa l] [] (vl encS res) []:=by
 unfold qfr at h;obtain⟨j,o,q,g5,h⟩:=bn2 h;refine Ub Tryz.func93 rfl rfl (m:=23) rfl (rs:=[.tmp 2]) rfl (l:=(kAZ l [])) rfl<|sh fol (kAZ l [])<|sq<|gq fol [2] (kAZ l [(3,.slice 0 0 j.length j.length 1)]) (kS j []) (qh (hs (.run [] (jd ZT 23 (.i (zl l)) (.i (zl l))) [] (.slice 0 0 j.length j.length 1) (kS j []) false) (qdf qeI (E:=encS) (z:=[]) rfl (by kernel_rfl) o rfl)))<|sq<|sh fol (kAK j l (zl l) [(11,.i 0)])<|Goes.block<|Goes.imp (Q:=λx s'=>(x= .exit 0/\ ∃e,e=q/\Sub s' (ofG 23 [(3,.slice 0 0 e.length e.length 1)],(kS e [])))) ?_ ?_
 ·refine Ud (λM s=> ∃(a:List Str) (b:Int),s=(ofG 23 (kAK a l (zl l) [(11,.i b)]),(kS a []))/\qak N l M a b=some q) ?_ (m:=N) ⟨_,_,rfl,g5⟩;rintro M s ⟨a,b,rfl,g5⟩
  cases M with
  |zero=>simp only[qak]at g5;cases g5
  |succ M=>
   rw[qak]at g5;refine sh fol (kAK a l (zl l) ((11,.i b)::(kBH (decide (b<(zl l))))))<|sq<|ihD g5 (λt g5=>?_) (λt g5=>?_)
   ·obtain⟨k,f,r,p,u,g,c,d,g5⟩:=bn4 g5;exact Goes.skip<|sq<|Goes.block<|sq<|gq fol [1,2,5] [(3,.slice 0 0 a.length a.length 1),(4,.i b),(5,.ptr 1 0),(9,vl qa l),(10,.i (zl l)),(11,.i b)] (kS a [.cells (nq1 k)]) (qI (iv qaP qa f) (la qfG qa f) (hs (.run [1] (qx ZT 76 (.ptr 1 0) (.agg (nq1 k))) (kS a (kL [])) .undef (kS a [.cells (nq1 k)]) true) (zq (n:=4) (by kernel_rfl) rfl rfl rfl rfl (cac rfl (cac nvc (cac rfl (cac nvc can)))) rfl)))<|gq fol [3,4,5] (kAK a l (zl l) [(11,.i b)]) (kS c [.cells (nq1 k)]) (qI (cv (qg3 N k p)) (hs (.done (.opt (qd ZT 23 (.slice 0 0 a.length a.length 1) (.i b))) (.ptr 0 ((b:Int).toNat*1+0))) (qad qeI g)) (hs (.run [0] (qx ZT 34 (.ptr 0 ((b:Int).toNat*1+0)) (.str r)) (kS a [.cells (nq1 k)]) .undef (kS c [.cells (nq1 k)]) true) (xS (E:=encS) (l:=a) (y:=r) rfl (show _=some 1 by kernel_rfl) rfl g rfl rfl rfl rfl rfl d rfl)))<|Goes.sub (show Sub _ (ofG 23 (kAK c l (zl l) [(11,.i b)]),(kS c []))from(Uc [] [some 0] rfl rfl (.keep (.sliceE rfl (jv d)) (.keep (.same (qc qa _)) (.keep (.same nI) (.keep (.same nI) .nil)))) (.ks .nil)))<|gh fol (kAK c l (zl l) [(11,.i (w64 (b+1)))])<|zo ⟨_,_,rfl,g5⟩
   cases g5
   exact Goes.exit<|⟨rfl,_,rfl,(Sub.keep [3] rfl rfl)⟩
 rintro x s' ⟨rfl,e,rfl,hsub⟩;obtain rfl:=si h;exact Goes.sub hsub<|sh fol [(2,.slice 0 0 e.length e.length 1)]<|Goes.ret<|(gw2 [.slice 0 0 e.length e.length 1] (FzW.fz (Fz.sl (E:=encS) rfl rfl (nl rfl))))
def kr (N:Nat) (a:List qb):Nat->Int->Option (Unit⊕Int)
 |0,_=>none
 |K+1,b=>
  if b<(a.length:Int)then
  (idx a b).bind λc=>
  (qaS N c).bind λd=>
  if d=true then
  some (.inr b)
  else
  kr N a K (w64 (b+1))
  else
  some (.inl ())
def vX (N:Nat) (a:List qb):Option Int:=
 (kr N a N 0).bind (λ
 |(.inl ())=>
 some (-1)
 |(.inr b)=>
 some b)
theorem qcM (N:Nat) (a:List qb) {res:Int} (h:vX N a=some res):qf ZT (.fn 105) [vl qa a,.func (.func 92) [] []] [] (.i res) []:=by
 unfold vX at h;obtain⟨e,g2,h⟩:=bnd h;refine Ub Tryz.func105 rfl rfl (m:=19) rfl (rs:=[.tmp 4]) rfl (l:=(kAZ a [(1,.func (.func 92) [] [])])) rfl<|sh fol (kAZ a [(1,.func (.func 92) [] [])])<|sq<|sh fol (kAZ a [(1,.func (.func 92) [] []),(7,.i (zl a)),(8,.i 0)])<|Goes.block<|Goes.imp (Q:=λx s'=>(x= .exit 0/\(.inl ())=e/\Sub s' (ofG 19 [],[]))\/(x= .ret/\ ∃f,(.inr f)=e/\zm ZT [.tmp 4] (.i f) .ret s')) ?_ ?_
 ·refine Ud (λM s=> ∃(b:Int),s=(ofG 19 (kAZ a ((1,.func (.func 92) [] [])::(kAE (zl a) b))),[])/\kr N a M b=some e) ?_ (m:=N) ⟨_,rfl,g2⟩;rintro M s ⟨b,rfl,g2⟩
  cases M with
  |zero=>simp only[kr]at g2;cases g2
  |succ M=>
   rw[kr]at g2;refine sh fol (kAZ a ((1,.func (.func 92) [] [])::(kBt (zl a) b (kBs (decide (b<(zl a)))))))<|sq<|ihD g2 (λg g2=>?_) (λg g2=>?_)
   ·obtain⟨j,c,k,d,g2⟩:=bn2 g2;refine Goes.skip<|sq<|Goes.block<|sh fol (kAZ a ((1,.func (.func 92) [] [])::(5,.i b)::(kAE (zl a) b)))<|sq<|gr fol [3,4,5] (kAZ a ((1,.func (.func 92) [] [])::(5,.i b)::(kBt (zl a) b [(16,.bool k)]))) (qI (iv qaP qa c) (la qfG qa c) (cv (qgt N j d)))<|ihB g2 (λn g2=>?_) (λn g2=>?_)
    ·cases g2
     exact sh fol [(4,.i b)]<|Goes.ret<|Or.inr (⟨rfl,_,rfl,(gw2 [.i b] (Ua tI))⟩)
    exact Goes.skip<|gh fol (kAZ a ((1,.func (.func 92) [] [])::(kAE (zl a) (w64 (b+1)))))<|zo ⟨_,rfl,g2⟩
   cases g2
   exact Goes.exit<|Or.inl (⟨rfl,rfl,(Sub.keep [] rfl rfl)⟩)
 rintro x s' (⟨rfl,rfl,hsub⟩|⟨rfl,o,rfl,hret⟩)
 ·try dsimp only at h
  cases h
  exact Goes.sub hsub<|sh fol kBg<|Goes.ret<|(gw2 [.i (-1)] (Ua tI))
 try dsimp only at h
 cases h
 exact hret
def jK (N:Nat) (a:List qb):Option Bool:=
 (vX N a).bind λb=>
 some (decide (b>=0))
theorem qb8 (N:Nat) (a:List qb) {res:Bool} (h:jK N a=some res):qf ZT (.fn 53) [vl qa a,.func (.func 92) [] []] [] (.bool res) []:=by
 unfold jK at h;obtain⟨c,b,rfl⟩:=bs1 h;exact Ub Tryz.func53 rfl rfl (m:=9) rfl (rs:=[.tmp 4]) rfl (l:=(kAZ a [(1,.func (.func 92) [] [])])) rfl<|sh fol (kAZ a [(1,.func (.func 92) [] [])])<|sq<|gr fol [2] (kBC (decide (c>=0))) (qh (hs (.call 105 [vl qa a,.func (.func 92) [] []] [] [] [vl qa a,.func (.func 92) [] []] (.i c)) (qkq (FzL.cons (Un (qw qa _ (nl rfl))) (FzL.cons (Fz.func FzL.nil FzL.nil) FzL.nil)) (qcM N a b) tI)))<|Goes.ret<|(gw2 [.bool (decide (c>=0))] (Ua tB))
def qa9 (N:Nat) (l:List qb):Option ((List Str)×Int):=
 (jK N l).bind λa=>
 if a=true then
 some ([],4)
 else
 (qfr N l).bind λb=>
 some (b,0)
theorem qeF (N:Nat) (l:List qb) {res:(List Str)×Int} (h:qa9 N l=some res):qf ZT (.fn 43) [vl qa l] [] (.tuple [vl encS res.1,.i res.2]) []:=by
 unfold qa9 at h;obtain⟨c,a,h⟩:=bnd h;refine Ub Tryz.func43 rfl rfl (m:=8) rfl (rs:=[.tmp 2,.tmp 3]) rfl (l:=(kAZ l [])) rfl<|sh fol (kAZ l [])<|sq<|sq<|gr fol [1] (kAZ l [(5,.bool c)]) (qh (hs (.call 53 [vl qa l,.func (.func 92) [] []] [] [] [vl qa l,.func (.func 92) [] []] (.bool c)) (qkq (FzL.cons (Un (qw qa _ (nl rfl))) (FzL.cons (Fz.func FzL.nil FzL.nil) FzL.nil)) (qb8 N l a) tB)))<|ihB h (λe h=>?_) (λe h=>?_)
 ·cases h
  exact sh fol [(2,.nilslice),(3,.i 4)]<|Goes.ret<|(gw2 [.nilslice,.i 4] (FzW.tuple (qj.cons (FzW.nilv (E:=encS)) (qj.cons (Ua tI) qj.nil))))
 obtain⟨d,b,rfl⟩:=bs1 h;exact Goes.skip<|sq<|gr fol [1] [(2,vl encS d),(3,.i 0)] (qh (cv (qjZ N l b)))<|Goes.ret<|(gw2 [vl encS d,.i 0] (FzW.tuple (qj.cons (Ua (qw encS _ (nl rfl))) (qj.cons (Ua tI) qj.nil))))
end Go.Av
