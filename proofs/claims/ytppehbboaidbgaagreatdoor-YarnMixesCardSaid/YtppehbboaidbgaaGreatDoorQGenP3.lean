/-
  Walks of functions: what each computes, as a plain function.
-/
import Derived.Test.YtppehbboaidbgaaGreatDoorQGenP2
noncomputable section
namespace Go.Av
open Go.Proofs Go.RowKit
set_option linter.unusedSectionVars false
set_option linter.unusedVariables false
set_option linter.unusedSimpArgs false
set_option maxRecDepth 100000
def qN (N:Nat) (y:qh) (k:Int) (l:List Int) (m:Int) (n:List Int):Nat->Int->(List Int)->Int->(List Int)->Int->Int->Option (Int×(List Int)×Int×(List Int)×Int)
 |0,_,_,_,_,_,_=>none
 |K+1,c,d,e,f,b,g=>
  if b<(y.Strength.length:Int)then
  (idx y.Strength b).bind fun h=>
  (je N h.X).bind fun i=>
  (yc N i (⟨(⟨k,l⟩:qp),(⟨m,n⟩:qp)⟩:qC)).bind fun j=>
  if j>0 then
  some (c,d,e,f,g)
  else
  (je N h.Y).bind fun a=>
  qN N y k l m n K a.Num.s a.Num.w a.Den.s a.Den.w (w64 (b+1)) 0
  else
  some (c,d,e,f,g)
def jm (N:Nat) (y:qh) (twist:qC):Option (qC×Int):=
 (qac twist).bind fun h=>
 ((if h<0 then
 (qbB twist).bind fun a=>
 some (a.Num.s,a.Num.w,a.Den.s,a.Den.w)
 else
 some (twist.Num.s,twist.Num.w,twist.Den.s,twist.Den.w):Option (Int×(List Int)×Int×(List Int)))).bind fun(i,j,k,l)=>
 (qhb 0).bind fun b=>
 (qN N y i j k l N b.Num.s b.Num.w b.Den.s b.Den.w 0 7).bind fun(c,d,e,f,g)=>
 some ((⟨(⟨c,d⟩:qp),(⟨e,f⟩:qp)⟩:qC),g)
theorem qai (N:Nat) (y:qh) (twist:qC) {res:qC×Int} (h:jm N y twist=some res):qb ZT (.fn 52) (kAD y.Name y.Density y.Twist y.Strength y.Dye [.agg (nq1 twist)]) [] (.tuple [.agg (nq1 res.1),.i res.2]) []:=by
 unfold jm at h;refine Ub Tryz.func52 rfl rfl (m:=35) rfl (rs:=[.cell 4 100,.tmp 5]) rfl (l:=(kAE y.Name y.Density y.Twist y.Strength y.Dye [(1,.agg (nq1 twist))])) rfl ?_;refine sg fol (kG []) (kA y.Name y.Density y.Twist y.Strength y.Dye (.cells (nq1 twist)::(kC []))) ?_;refine Goes.scope ?_;refine sq ?_;obtain⟨P,D,h⟩:=bnd h;refine sq (gr fol [1] (kG (kBD (decide (P<0)))) (ac (cv (qdB twist D)) az) ?_);obtain⟨U,g6,h⟩:=bnd h;refine Goes.imp (Q:=fun x s'=>(x= .normal/\ ∃g j k o,(g,j,k,o)=U/\Sub s' (ofG 35 (kG []),(kA y.Name y.Density y.Twist y.Strength y.Dye (.cells (ni2 g j k o)::(kC [])))))) ?_ ?_
 ·refine ihD g6 (fun V g6=>?_) (fun V g6=>?_)
  ·obtain⟨I,E,g6⟩:=bnd g6;refine gq fol [1,2] (kG []) (kA y.Name y.Density y.Twist y.Strength y.Dye (.cells (nq1 I)::(kC []))) (ac (cv (qhh twist E)) (ac (hs (.run [1] (qx ZT 100 (.ptr 1 0) (.agg (nq1 I))) (kA y.Name y.Density y.Twist y.Strength y.Dye (.cells (nq1 twist)::(kC []))) .undef (kA y.Name y.Density y.Twist y.Strength y.Dye (.cells (nq1 I)::(kC []))) true) (qV (n:=4) (by kernel_rfl) rfl rfl rfl rfl (cac rfl (cac nvc (cac rfl (cac nvc can)))) rfl)) az)) ?_;obtain rfl:=si g6;exact⟨rfl,_,_,_,_,rfl,(Sub.refl _)⟩
  refine Goes.skip ?_;obtain rfl:=si g6;exact⟨rfl,_,_,_,_,rfl,(Sub.keep [2,3,4] rfl rfl)⟩
 rintro x s' ⟨rfl,g,j,k,o,rfl,hsub⟩
 try dsimp only at h
 refine Goes.sub hsub ?_;obtain⟨H,F,h⟩:=bnd h;refine sq (gq fol [0,2] (kG [(6,.ptr 3 0),(7,.i 7)]) (kA y.Name y.Density y.Twist y.Strength y.Dye (.cells (ni2 g j k o)::(kC [.cells (nq1 H)]))) (ac (cv (qf3 0 F)) (ac (hs (.run [3] (qx ZT 100 (.ptr 3 0) (.agg (nq1 H))) (kA y.Name y.Density y.Twist y.Strength y.Dye (.cells (ni2 g j k o)::(kC (kC [])))) .undef (kA y.Name y.Density y.Twist y.Strength y.Dye (.cells (ni2 g j k o)::(kC [.cells (nq1 H)]))) true) (qV (n:=4) (by kernel_rfl) rfl rfl rfl rfl (cac rfl (cac nvc (cac rfl (cac nvc can)))) rfl)) az)) ?_);refine sq (Goes.label ?_);refine sq ?_;refine sh fol (kAN (kAg [(6,.ptr 3 0),(7,.i 7),(17,vl qg y.Strength),(18,.i (y.Strength.length:Int)),(19,.i 0)])) ?_;refine Goes.block ?_;obtain⟨G,g21,h⟩:=bnd h;refine Goes.imp (Q:=fun x s'=>(x= .exit 0/\ ∃a b c d q,(a,b,c,d,q)=G/\Sub s' (ofG 35 (kAs [(6,.ptr 1 0),(7,.i q)]),(kC [.cells (ni2 a b c d)])))) ?_ ?_
 ·refine Goes.sub (s':=(ofG 35 ((3,.ptr 0 0)::(kAT [(6,.ptr 2 0),(7,.i 7),(17,vl qg y.Strength),(18,.i (y.Strength.length:Int)),(19,.i 0)])),(.cells (ni2 g j k o)::(kC [.cells (nq1 H)])))) (Uc [] [some 1,some 2,some 3] rfl rfl (.kp (.kp (.kp (.keep (.same nI) (.keep (.same (qf qg _)) (.keep (.same nI) (.keep (.same nI) .nil))))))) (.kb rfl (.same sn) (.kb rfl (.same sn) (.kb rfl (.same sn) .nil)))) ?_;refine Ud (fun M s=> ∃(r:Int) (t:List Int) (u:Int) (v:List Int) (e:Int) (p:Int),s=(ofG 35 ((3,.ptr 0 0)::(kAT ((6,.ptr 2 0)::(7,.i p)::(kA6 y.Strength (y.Strength.length:Int) e [])))),(.cells (ni2 g j k o)::(kC [.cells (ni2 r t u v)])))/\qN N y g j k o M r t u v e p=some G) ?_ (m:=N) ⟨_,_,_,_,_,_,rfl,g21⟩;rintro M s ⟨r,t,u,v,e,p,rfl,g21⟩
  cases M with
  |zero=>simp only[qN]at g21;cases g21
  |succ M=>
   rw[qN]at g21;refine sh fol ((3,.ptr 0 0)::(kAT ((6,.ptr 2 0)::(7,.i p)::(kA6 y.Strength (y.Strength.length:Int) e [(20,.bool (decide (e<(y.Strength.length:Int))))])))) ?_;refine sq ?_;refine ihD g21 (fun J g21=>?_) (fun J g21=>?_)
   ·refine Goes.skip ?_;refine sq (Goes.block ?_);obtain⟨f,w,g21⟩:=bnd g21;refine sq (gq fol [0,1] ((3,.ptr 0 0)::(kAT ((6,.ptr 2 0)::(7,.i p)::(9,.ptr 3 0)::(kA6 y.Strength (y.Strength.length:Int) e [])))) (.cells (ni2 g j k o)::(kC (.cells (ni2 r t u v)::(kA9 f.X f.Y [])))) (ac (iv qeR qg w) (ac (la qnS qg w) az)) ?_);refine sq ?_;obtain⟨K,A,g21⟩:=bnd g21;obtain⟨L,B,g21⟩:=bnd g21;refine sq (gr fol [2,4] ((3,.ptr 0 0)::(kAT ((6,.ptr 2 0)::(7,.i p)::(9,.ptr 3 0)::(kA6 y.Strength (y.Strength.length:Int) e [(28,.bool (decide (L>0)))])))) (ac (cv (jA N f.X A)) (ac (cv (qcg N K (⟨(⟨g,j⟩:qp),(⟨k,o⟩:qp)⟩:qC) B)) az)) ?_);refine ihD g21 (fun O g21=>?_) (fun O g21=>?_)
    ·refine Goes.exit ?_;obtain rfl:=si g21;exact⟨rfl,_,_,_,_,_,rfl,(Uc [] [some 1,some 2] rfl rfl (.drop (.kp (.kp (.keep (.same nI) .nil)))) (.kb rfl (.same sn) (.kb rfl (.same sn) .nil)))⟩
    refine Goes.skip ?_;obtain⟨z,C,g21⟩:=bnd g21;refine gq fol [2,3] ((3,.ptr 0 0)::(kAT ((6,.ptr 2 0)::(7,.i 0)::(kA6 y.Strength (y.Strength.length:Int) e [])))) (.cells (ni2 g j k o)::(kC (.cells (nq1 z)::(kA9 f.X f.Y [])))) (ac (cv (jA N f.Y C)) (ac (hs (.run [2] (qx ZT 100 (.ptr 2 0) (.agg (nq1 z))) (.cells (ni2 g j k o)::(kC (.cells (ni2 r t u v)::(kA9 f.X f.Y [])))) .undef (.cells (ni2 g j k o)::(kC (.cells (nq1 z)::(kA9 f.X f.Y [])))) true) (qV (n:=4) (by kernel_rfl) rfl rfl rfl rfl (cac rfl (cac nvc (cac rfl (cac nvc can)))) rfl)) az)) ?_;refine gh fol ((3,.ptr 0 0)::(kAT ((6,.ptr 2 0)::(7,.i 0)::(kA6 y.Strength (y.Strength.length:Int) (w64 (e+1)) [])))) ?_;exact⟨M,(ofG 35 ((3,.ptr 0 0)::(kAT ((6,.ptr 2 0)::(7,.i 0)::(kA6 y.Strength (y.Strength.length:Int) (w64 (e+1)) [])))),(.cells (ni2 g j k o)::(kC [.cells (nq1 z)]))),Nat.lt_succ_self _,(Uc [] [some 0,some 1,some 2] rfl rfl (.kp (.kp (.kp (.keep (.same nI) (.keep (.same (qf qg _)) (.keep (.same nI) (.keep (.same nI) .nil))))))) (.kb rfl (.same sn) (.kb rfl (.same sn) (.kb rfl (.same sn) .nil)))),_,_,_,_,_,_,rfl,g21⟩
   refine Goes.exit ?_;obtain rfl:=si g21;exact⟨rfl,_,_,_,_,_,rfl,(Uc [] [some 1,some 2] rfl rfl (.drop (.kp (.kp (.keep (.same nI) .nil)))) (.kb rfl (.same sn) (.kb rfl (.same sn) .nil)))⟩
 rintro x s' ⟨rfl,a,b,c,d,q,rfl,hsub⟩
 try dsimp only at h
 refine Goes.sub hsub ?_;refine sq (gq fol [2] (kAs (kA8 q)) [.cells (ni2 a b c d),.cells (ni2 a b c d)] (ac (hs (.run [0] (qx ZT 100 (.ptr 0 0) (.agg (ni2 a b c d))) (kC [.cells (ni2 a b c d)]) .undef [.cells (ni2 a b c d),.cells (ni2 a b c d)] true) (qV (n:=4) (by kernel_rfl) rfl rfl rfl rfl (cac rfl (cac nvc (cac rfl (cac nvc can)))) rfl)) az) ?_);refine Goes.ret ?_;obtain rfl:=si h;exact(gw2 [.agg (ni2 a b c d),.i q] (FzW.tuple (qd.cons (FzW.agg (qd.cons (Ua tI) (qd.cons (Ua (qD ZU _ (nl rfl))) (qd.cons (Ua tI) (qd.cons (Ua (qD ZU _ (nl rfl))) qd.nil))))) (qd.cons (Ua tI) qd.nil))))
def jT (a:qC):Option Bool:=
 (if a.Den.w.isEmpty=true then
 some (decide (a.Den.s=1))
 else
 some false:Option Bool).bind fun b=>
 some b
theorem xk (a:qC) {res:Bool} (h:jT a=some res):qb ZT (.fn 124) [.agg (nq1 a)] [] (.bool res) []:=by
 unfold jT at h;refine Ub Tryz.func124 rfl rfl (m:=13) rfl (rs:=[.tmp 2]) rfl (l:=[(0,.agg (nq1 a))]) rfl ?_;refine sg fol (kV []) [.cells (nq1 a)] ?_;refine sq ?_;obtain⟨d,b,h⟩:=bnd h;refine Ue (s':=(ofG 13 (kBT d),[.cells (nq1 a)])) ?_ ?_
 ·rcases wyB b with⟨c,b⟩|⟨c,b⟩
  ·obtain rfl:=si b;exact tr fol [3,4] (kBT (decide (a.Den.s=1))) (ac (hs (.done (.opt (ku ZT .eql 96 (.tmp 5) (.const (.slice none 0 0)) (nvl ZU a.Den.w) .nilslice)) (.bool a.Den.w.isEmpty)) (qaX qaU)) (ac (gw c) az))
  obtain rfl:=si b;exact tr fol [3,4] kAo (ac (hs (.done (.opt (ku ZT .eql 96 (.tmp 5) (.const (.slice none 0 0)) (nvl ZU a.Den.w) .nilslice)) (.bool a.Den.w.isEmpty)) (qaX qaU)) (ac (gw c) az))
 refine Goes.ret ?_;obtain rfl:=si h;exact(gw2 [.bool d] (Ua tB))
def yl (N:Nat) (a:qp) (b:qp):Option qp:=
 (kw b).bind fun f=>
 ((if f<0 then
 (zL a).bind fun d=>
 (zL b).bind fun e=>
 some (d.s,d.w,e.s,e.w)
 else
 some (a.s,a.w,b.s,b.w):Option (Int×(List Int)×Int×(List Int)))).bind fun(g,h,i,j)=>
 (jI N (⟨g,h⟩:qp) (⟨i,j⟩:qp)).bind fun c=>
 some c.1
theorem qeO (N:Nat) (a:qp) (b:qp) {res:qp} (h:yl N a b=some res):qb ZT (.fn 197) [.agg (nz1 a),.agg (nz1 b)] [] (.agg (nz1 res)) []:=by
 unfold yl at h;refine Ub Tryz.func197 rfl rfl (m:=21) rfl (rs:=[.cell 4 98]) rfl (l:=[(0,.agg (nz1 a)),(1,.agg (nz1 b))]) rfl ?_;refine sg fol (kG []) [.cells (nz1 a),.cells (nz1 b),bZ] ?_;refine sq ?_;obtain⟨r,j,h⟩:=bnd h;refine sq (gr fol [1] (kG [(9,.bool (decide (r<0)))]) (ac (cv (yI b j)) az) ?_);obtain⟨s,g6,h⟩:=bnd h;refine Goes.imp (Q:=fun x s'=>(x= .normal/\ ∃d e f g,(d,e,f,g)=s/\Sub s' (ofG 21 (kG []),[.cells (ni1 d e),.cells (ni1 f g),bZ]))) ?_ ?_
 ·refine ihD g6 (fun t g6=>?_) (fun t g6=>?_)
  ·obtain⟨k,o,g6⟩:=bnd g6;obtain⟨q,p,g6⟩:=bnd g6;refine gq fol [1,3,4,5] (kG []) [.cells (nz1 k),.cells (nz1 q),bZ] (ac (cv (vP a o)) (ac (cv (vP b p)) (ac (hs (.run [0] (qx ZT 98 (.ptr 0 0) (.agg (nz1 k))) [.cells (nz1 a),.cells (nz1 b),bZ] .undef [.cells (nz1 k),.cells (nz1 b),bZ] true) (qV (n:=2) (by kernel_rfl) rfl rfl rfl rfl (cac rfl (cac nvc can)) rfl)) (ac (hs (.run [1] (qx ZT 98 (.ptr 1 0) (.agg (nz1 q))) [.cells (nz1 k),.cells (nz1 b),bZ] .undef [.cells (nz1 k),.cells (nz1 q),bZ] true) (qV (n:=2) (by kernel_rfl) rfl rfl rfl rfl (cac rfl (cac nvc can)) rfl)) az)))) ?_;obtain rfl:=si g6;exact⟨rfl,_,_,_,_,rfl,(Sub.refl _)⟩
  refine Goes.skip ?_;obtain rfl:=si g6;exact⟨rfl,_,_,_,_,rfl,(Sub.keep [2,3,4] rfl rfl)⟩
 rintro x s' ⟨rfl,d,e,f,g,rfl,hsub⟩
 try dsimp only at h
 refine Goes.sub hsub ?_;obtain⟨c,i,h⟩:=bnd h;refine sq (gq fol [2,8,9] (kAg (kBX [])) [.cells (ni1 d e),.cells (ni1 f g),bZ,.cells (nz1 c.1),.cells (nz1 c.2)] (ac (cv (qcS N (⟨d,e⟩:qp) (⟨f,g⟩:qp) i)) (ac (hs (.run [3] (qx ZT 98 (.ptr 3 0) (.agg (nz1 c.1))) [.cells (ni1 d e),.cells (ni1 f g),bZ,bZ,bZ] .undef [.cells (ni1 d e),.cells (ni1 f g),bZ,.cells (nz1 c.1),bZ] true) (qV (n:=2) (by kernel_rfl) rfl rfl rfl rfl (cac rfl (cac nvc can)) rfl)) (ac (hs (.run [4] (qx ZT 98 (.ptr 4 0) (.agg (nz1 c.2))) [.cells (ni1 d e),.cells (ni1 f g),bZ,.cells (nz1 c.1),bZ] .undef [.cells (ni1 d e),.cells (ni1 f g),bZ,.cells (nz1 c.1),.cells (nz1 c.2)] true) (qV (n:=2) (by kernel_rfl) rfl rfl rfl rfl (cac rfl (cac nvc can)) rfl)) az))) ?_);refine sq (gq fol [1] (kAg []) [.cells (ni1 d e),.cells (ni1 f g),.cells (nz1 c.1),.cells (nz1 c.1),.cells (nz1 c.2)] (ac (hs (.run [2] (qx ZT 98 (.ptr 2 0) (.agg (nz1 c.1))) [.cells (ni1 d e),.cells (ni1 f g),bZ,.cells (nz1 c.1),.cells (nz1 c.2)] .undef [.cells (ni1 d e),.cells (ni1 f g),.cells (nz1 c.1),.cells (nz1 c.1),.cells (nz1 c.2)] true) (qV (n:=2) (by kernel_rfl) rfl rfl rfl rfl (cac rfl (cac nvc can)) rfl)) az) ?_);refine Goes.ret ?_;obtain rfl:=si h;exact(gw2 [.agg (nz1 c.1)] (FzW.agg (qd.cons (Ua tI) (qd.cons (Ua (qD ZU _ (nl rfl))) qd.nil))))
def qcb (N:Nat) (num:qp) (den:qp):Option qC:=
 (kw den).bind fun k=>
 ((if k<0 then
 (zL num).bind fun i=>
 (zL den).bind fun j=>
 some (i.s,i.w,j.s,j.w)
 else
 some (num.s,num.w,den.s,den.w):Option (Int×(List Int)×Int×(List Int)))).bind fun(d,e,b,c)=>
 (if c.isEmpty=true then
 some (decide (b=1))
 else
 some false:Option Bool).bind fun f=>
 if f=true then
 some (⟨(⟨d,e⟩:qp),(⟨b,c⟩:qp)⟩:qC)
 else
 (qcZ N (⟨d,e⟩:qp) (⟨b,c⟩:qp)).bind fun a=>
 (yl N (⟨d,e⟩:qp) a).bind fun g=>
 (yl N (⟨b,c⟩:qp) a).bind fun h=>
 some (⟨g,h⟩:qC)
theorem qez (N:Nat) (num:qp) (den:qp) {res:qC} (h:qcb N num den=some res):qb ZT (.fn 126) [.agg (nz1 num),.agg (nz1 den)] [] (.agg (nq1 res)) []:=by
 unfold qcb at h;refine Ub Tryz.func126 rfl rfl (m:=34) rfl (rs:=[.cell 4 100]) rfl (l:=[(0,.agg (nz1 num)),(1,.agg (nz1 den))]) rfl ?_;refine sg fol (kG []) (.cells (nz1 num):: .cells (nz1 den)::(kC [])) ?_;refine sq ?_;obtain⟨A,q,h⟩:=bnd h;refine sq (gr fol [1] (kG (kBe (decide (A<0)))) (ac (cv (yI den q)) az) ?_);obtain⟨B,g6,h⟩:=bnd h;refine Goes.imp (Q:=fun x s'=>(x= .normal/\ ∃d e c a,(d,e,c,a)=B/\Sub s' (ofG 34 (kG []),(.cells (ni1 d e):: .cells (ni1 c a)::(kC []))))) ?_ ?_
 ·refine ihD g6 (fun C g6=>?_) (fun C g6=>?_)
  ·obtain⟨r,t,g6⟩:=bnd g6;obtain⟨v,u,g6⟩:=bnd g6;refine gq fol [1,3,4,5] (kG []) (.cells (nz1 r):: .cells (nz1 v)::(kC [])) (ac (cv (vP num t)) (ac (cv (vP den u)) (ac (hs (.run [0] (qx ZT 98 (.ptr 0 0) (.agg (nz1 r))) (.cells (nz1 num):: .cells (nz1 den)::(kC [])) .undef (.cells (nz1 r):: .cells (nz1 den)::(kC [])) true) (qV (n:=2) (by kernel_rfl) rfl rfl rfl rfl (cac rfl (cac nvc can)) rfl)) (ac (hs (.run [1] (qx ZT 98 (.ptr 1 0) (.agg (nz1 v))) (.cells (nz1 r):: .cells (nz1 den)::(kC [])) .undef (.cells (nz1 r):: .cells (nz1 v)::(kC [])) true) (qV (n:=2) (by kernel_rfl) rfl rfl rfl rfl (cac rfl (cac nvc can)) rfl)) az)))) ?_;obtain rfl:=si g6;exact⟨rfl,_,_,_,_,rfl,(Sub.refl _)⟩
  refine Goes.skip ?_;obtain rfl:=si g6;exact⟨rfl,_,_,_,_,rfl,(Sub.keep [2,3,4] rfl rfl)⟩
 rintro x s' ⟨rfl,d,e,c,a,rfl,hsub⟩
 try dsimp only at h
 refine Goes.sub hsub ?_;refine sq ?_;refine sq ?_;obtain⟨y,b,h⟩:=bnd h;refine Ue (s':=(ofG 34 (kG [(20,.bool y)]),(.cells (ni1 d e):: .cells (ni1 c a)::(kC [])))) ?_ ?_
 ·rcases wyB b with⟨j,b⟩|⟨j,b⟩
  ·obtain rfl:=si b;exact tr fol [2,3] (kG [(20,.bool (decide (c=1)))]) (ac (hs (.done (.opt (ku ZT .eql 96 (.tmp 14) (.const (.slice none 0 0)) (nvl ZU a) .nilslice)) (.bool a.isEmpty)) (qaX qaU)) (ac (gw j) az))
  obtain rfl:=si b;exact tr fol [2,3] (kG [(20,.bool false)]) (ac (hs (.done (.opt (ku ZT .eql 96 (.tmp 14) (.const (.slice none 0 0)) (nvl ZU a) .nilslice)) (.bool a.isEmpty)) (qaX qaU)) (ac (gw j) az))
 refine ihB h (fun z h=>?_) (fun z h=>?_)
 ·refine sq (gq fol [3] (kAg []) [.cells (ni1 d e),.cells (ni1 c a),.cells (ni2 d e c a)] (ac (hs (.run [2] (qx ZT 100 (.ptr 2 0) (.agg (ni2 d e c a))) (.cells (ni1 d e):: .cells (ni1 c a)::(kC [])) .undef [.cells (ni1 d e),.cells (ni1 c a),.cells (ni2 d e c a)] true) (qV (n:=4) (by kernel_rfl) rfl rfl rfl rfl (cac rfl (cac nvc (cac rfl (cac nvc can)))) rfl)) az) ?_);refine Goes.ret ?_;obtain rfl:=si h;exact(gw2 [.agg (ni2 d e c a)] (FzW.agg (qd.cons (Ua tI) (qd.cons (Ua (qD ZU _ (nl rfl))) (qd.cons (Ua tI) (qd.cons (Ua (qD ZU _ (nl rfl))) qd.nil))))))
 refine Goes.skip ?_;obtain⟨f,k,h⟩:=bnd h;refine sq (gq fol [2,4] (kG (kBX [])) (.cells (ni1 d e):: .cells (ni1 c a)::(kC [.cells (nz1 f)])) (ac (cv (qiL N (⟨d,e⟩:qp) (⟨c,a⟩:qp) k)) (ac (hs (.run [3] (qx ZT 98 (.ptr 3 0) (.agg (nz1 f))) (.cells (ni1 d e):: .cells (ni1 c a)::(kC [bZ])) .undef (.cells (ni1 d e):: .cells (ni1 c a)::(kC [.cells (nz1 f)])) true) (qV (n:=2) (by kernel_rfl) rfl rfl rfl rfl (cac rfl (cac nvc can)) rfl)) az)) ?_);obtain⟨g,o,h⟩:=bnd h;obtain⟨i,p,h⟩:=bnd h;refine sq (gq fol [2,5,7] (kAg []) [.cells (ni1 d e),.cells (ni1 c a),.cells (ni2 g.s g.w i.s i.w),.cells (nz1 f)] (ac (cv (qeO N (⟨d,e⟩:qp) f o)) (ac (cv (qeO N (⟨c,a⟩:qp) f p)) (ac (hs (.run [2] (qx ZT 100 (.ptr 2 0) (.agg (ni2 g.s g.w i.s i.w))) (.cells (ni1 d e):: .cells (ni1 c a)::(kC [.cells (nz1 f)])) .undef [.cells (ni1 d e),.cells (ni1 c a),.cells (ni2 g.s g.w i.s i.w),.cells (nz1 f)] true) (qV (n:=4) (by kernel_rfl) rfl rfl rfl rfl (cac rfl (cac nvc (cac rfl (cac nvc can)))) rfl)) az))) ?_);refine Goes.ret ?_;obtain rfl:=si h;exact(gw2 [.agg (ni2 g.s g.w i.s i.w)] (FzW.agg (qd.cons (Ua tI) (qd.cons (Ua (qD ZU _ (nl rfl))) (qd.cons (Ua tI) (qd.cons (Ua (qD ZU _ (nl rfl))) qd.nil))))))
def yP (N:Nat) (a:qC) (b:qC):Option qC:=
 ((jT a).bind fun g=>
 if g=true then
 (jT b).bind fun h=>
 some h
 else
 some false:Option Bool).bind fun i=>
 if i=true then
 (vO N a.Num b.Num).bind fun j=>
 (qbT j).bind fun k=>
 some k
 else
 (qJ N a.Num b.Den).bind fun l=>
 (qJ N b.Num a.Den).bind fun c=>
 (vO N l c).bind fun d=>
 (qJ N a.Den b.Den).bind fun e=>
 (qcb N d e).bind fun f=>
 some f
theorem qa5 (N:Nat) (a:qC) (b:qC) {res:qC} (h:yP N a b=some res):qb ZT (.fn 53) [.agg (nq1 a),.agg (nq1 b)] [] (.agg (nq1 res)) []:=by
 unfold yP at h;refine Ub Tryz.func53 rfl rfl (m:=34) rfl (rs:=[.cell 4 100]) rfl (l:=[(0,.agg (nq1 a)),(1,.agg (nq1 b))]) rfl ?_;refine sg fol (kG []) (.cells (nq1 a):: .cells (nq1 b)::(kC [])) ?_;refine sq ?_;refine sq ?_;obtain⟨w,c,h⟩:=bnd h;refine Ue (s':=(ofG 34 (kG (kBh w)),(.cells (nq1 a):: .cells (nq1 b)::(kC [])))) ?_ ?_
 ·obtain⟨B,e,c⟩:=bnd c;rcases wyB c with⟨s,c⟩|⟨s,c⟩
  ·obtain⟨x,k,c⟩:=bnd c;obtain rfl:=si c;exact tr fol [1,2,4] (kG (kBh x)) (ac (cv (xk a e)) (ac (gw s) (ac (cv (xk b k)) az)))
  obtain rfl:=si c;exact tr fol [1,2] (kG [(10,.bool false)]) (ac (cv (xk a e)) (ac (gw s) az))
 refine ihB h (fun y h=>?_) (fun y h=>?_)
 ·obtain⟨z,o,h⟩:=bnd h;obtain⟨r,p,h⟩:=bnd h;refine sq (gq fol [4,5,6] (kAg []) [.cells (nq1 a),.cells (nq1 b),.cells (nq1 r)] (ac (cv (qaL N a.Num b.Num o)) (ac (cv (qeb z p)) (ac (hs (.run [2] (qx ZT 100 (.ptr 2 0) (.agg (nq1 r))) (.cells (nq1 a):: .cells (nq1 b)::(kC [])) .undef [.cells (nq1 a),.cells (nq1 b),.cells (nq1 r)] true) (qV (n:=4) (by kernel_rfl) rfl rfl rfl rfl (cac rfl (cac nvc (cac rfl (cac nvc can)))) rfl)) az))) ?_);refine Goes.ret ?_;obtain rfl:=si h;exact(gw2 [.agg (nq1 r)] (FzW.agg (qd.cons (Ua tI) (qd.cons (Ua (qD ZU _ (nl rfl))) (qd.cons (Ua tI) (qd.cons (Ua (qD ZU _ (nl rfl))) qd.nil))))))
 refine Goes.skip ?_;obtain⟨A,q,h⟩:=bnd h;obtain⟨t,f,h⟩:=bnd h;obtain⟨u,g,h⟩:=bnd h;obtain⟨v,i,h⟩:=bnd h;obtain⟨d,j,h⟩:=bnd h;refine sq (gq fol [4,9,10,15,16,17] (kAg []) [.cells (nq1 a),.cells (nq1 b),.cells (nq1 d)] (ac (cv (zZ N a.Num b.Den q)) (ac (cv (zZ N b.Num a.Den f)) (ac (cv (qaL N A t g)) (ac (cv (zZ N a.Den b.Den i)) (ac (cv (qez N u v j)) (ac (hs (.run [2] (qx ZT 100 (.ptr 2 0) (.agg (nq1 d))) (.cells (nq1 a):: .cells (nq1 b)::(kC [])) .undef [.cells (nq1 a),.cells (nq1 b),.cells (nq1 d)] true) (qV (n:=4) (by kernel_rfl) rfl rfl rfl rfl (cac rfl (cac nvc (cac rfl (cac nvc can)))) rfl)) az)))))) ?_);refine Goes.ret ?_;obtain rfl:=si h;exact(gw2 [.agg (nq1 d)] (FzW.agg (qd.cons (Ua tI) (qd.cons (Ua (qD ZU _ (nl rfl))) (qd.cons (Ua tI) (qd.cons (Ua (qD ZU _ (nl rfl))) qd.nil))))))
def jE (N:Nat):Nat->(List Str)->(List Int)->Option (List Str)
 |0,_,_=>none
 |K+1,i,j=>
  if(j.length:Int)>0 then
  (qbf N j ([1000000000000000000]:List Int)).bind fun b=>
  ((if(b.2.length:Int)>0 then
  (idx b.2 0).bind fun c=>
  (qia c 10).bind fun d=>
  some d
  else
  some [48]:Option Str)).bind fun a=>
  ((if(b.1.length:Int)>0 then
  (qfk [48] (w64 (18-(a.length:Int)))).bind fun e=>
  (cat e a).bind fun f=>
  some f
  else
  some a:Option Str)).bind fun g=>
  (app 16 i [g]).bind fun h=>
  jE N K h b.1
  else
  some i
def zx (e:List Str):Nat->Bool->(Option (List Int))->Int->Option (Bool×(Option (List Int)))
 |0,_,_,_=>none
 |K+1,ok27,b,a=>
  if a>=0 then
  (idx e a).bind fun c=>
  (bWr ok27 b c).bind fun d=>
  zx e K true (some d) (w64 (a-1))
  else
  some (ok27,b)
def vQ (N:Nat) (a:qp):Option Str:=
 if a.w.isEmpty=true then
 (qmu a.s).bind fun h=>
 some h
 else
 (qK a).bind fun f=>
 (jE N N ([]:List Str) f.2).bind fun g=>
 ((if f.1=true then
 (bWr false (none:Option (List Int)) [45]).bind fun b=>
 some (true,(some b))
 else
 some (false,(none:Option (List Int))):Option (Bool×(Option (List Int))))).bind fun(ok21,c)=>
 (zx g N ok21 c (w64 ((g.length:Int)-1))).bind fun(ok30,d)=>
 (qnE ok30 d).bind fun e=>
 some e
theorem qan (N:Nat) (a:qp) {res:Str} (h:vQ N a=some res):qb ZT (.fn 199) [.agg (nz1 a)] [] (.str res) []:=by
 unfold vQ at h;refine Ub Tryz.func199 rfl rfl (m:=69) rfl (rs:=[.tmp 2]) rfl (l:=[(0,.agg (nz1 a))]) rfl ?_;refine sg fol (kV []) [.cells (nz1 a)] ?_;refine sq ?_;refine sq (gr fol [2] (kV [(14,.bool a.w.isEmpty)]) (ac (hs (.done (.opt (ku ZT .eql 96 (.tmp 13) (.const (.slice none 0 0)) (nvl ZU a.w) .nilslice)) (.bool a.w.isEmpty)) (qaX qaU)) az) ?_);refine ihB h (fun c1 h=>?_) (fun c1 h=>?_)
 ·obtain⟨r2,J,h⟩:=bnd h;refine sq (gr fol [2] [(2,.str r2)] (ac (cv (qpo a.s J)) az) ?_);refine Goes.ret ?_;obtain rfl:=si h;exact(gw2 [.str r2] (Ua tS))
 refine Goes.skip ?_;obtain⟨d,K,h⟩:=bnd h;refine sq (gr fol [1] (kBO d.1 [(4,vl ZU d.2)]) (ac (cv (zQ a K)) az) ?_);refine sg fol (kBO d.1 [(4,vl ZU d.2),(5,.slice 1 0 1 1 1)]) [.cells (nz1 a),.cells [.int .u64 1000000000000000000]] ?_;refine sh fol (kBO d.1 [(4,vl ZU d.2),(5,.slice 1 0 1 1 1),(6,.nilslice)]) ?_;refine sq (Goes.block ?_);obtain⟨r7,g7,h⟩:=bnd h;refine Goes.imp (Q:=fun x s'=>(x= .exit 0/\ ∃b,b=r7/\Sub s' (ofG 69 (kBO d.1 (kAJ b [])),(kAB b [])))) ?_ ?_
 ·refine Goes.sub (s':=(ofG 69 (kBO d.1 [(4,vl ZU d.2),(5,vl ZU ([1000000000000000000]:List Int)),(6,.gslice 0 ([]:List Str).length 1)]),[.cells (([]:List Str).flatMap encS.c)])) (Uc [1] [none] rfl rfl (.keep (.same nB) (.keep (.same (qf ZU _)) (.keep (.frz (Fz.lit rfl rfl (Ug (AllST.cons tI AllST.nil))) (qf ZU _)) (.keep .nil .nil)))) (.fresh .nil)) ?_;refine Ud (fun M s=> ∃(g:List Str) (I:List Int),s=(ofG 69 (kBO d.1 ((4,vl ZU I)::(5,vl ZU ([1000000000000000000]:List Int))::(kAJ g []))),(kAB g []))/\jE N M g I=some r7) ?_ (m:=N) ⟨_,_,rfl,g7⟩;rintro M s ⟨g,I,rfl,g7⟩
  cases M with
  |zero=>simp only[jE]at g7;cases g7
  |succ M=>
   rw[jE]at g7;refine sq ?_;refine sh fol (kBO d.1 ((4,vl ZU I)::(5,vl ZU ([1000000000000000000]:List Int))::(kAJ g [(26,.bool (decide ((I.length:Int)>0)))]))) ?_;refine ihD g7 (fun c8 g7=>?_) (fun c8 g7=>?_)
   ·refine Goes.skip ?_;refine Goes.block ?_;obtain⟨j,L,g7⟩:=bnd g7;refine sq (gr fol [2] (kBO d.1 ((5,vl ZU ([1000000000000000000]:List Int))::(kAJ g [(7,vl ZU j.1),(8,vl ZU j.2)]))) (ac (cv (qfs N I ([1000000000000000000]:List Int) L)) az) ?_);refine sh fol (kBO d.1 ((5,vl ZU ([1000000000000000000]:List Int))::(kAJ g [(7,vl ZU j.1),(8,vl ZU j.2),(9,.str [48])]))) ?_;refine sq ?_;refine sh fol (kBO d.1 ((5,vl ZU ([1000000000000000000]:List Int))::(kAJ g [(7,vl ZU j.1),(8,vl ZU j.2),(9,.str [48]),(35,.bool (decide ((j.2.length:Int)>0)))]))) ?_;obtain⟨U,g11,g7⟩:=bnd g7;refine Goes.imp (Q:=fun x s'=>(x= .normal/\ ∃p,p=U/\Sub s' (ofG 69 (kBO d.1 ((5,vl ZU ([1000000000000000000]:List Int))::(kAJ g [(7,vl ZU j.1),(9,.str p)]))),(kAB g [])))) ?_ ?_
    ·refine ihD g11 (fun V g11=>?_) (fun V g11=>?_)
     ·obtain⟨X,r,g11⟩:=bnd g11;obtain⟨Y,z,g11⟩:=bnd g11;refine gr fol [1,2,3] (kBO d.1 ((5,vl ZU ([1000000000000000000]:List Int))::(kAJ g [(7,vl ZU j.1),(9,.str Y)]))) (ac (iv zU ZU r) (ac (lv 0 z8 ZU r rfl) (ac (cv (qoG X 10 z)) az))) ?_;obtain rfl:=si g11;exact⟨rfl,_,rfl,(Sub.refl _)⟩
     refine Goes.skip ?_;obtain rfl:=si g11;exact⟨rfl,_,rfl,(Sub.keep [3,5,6,7,9] rfl rfl)⟩
    rintro x s' ⟨rfl,p,rfl,hsub⟩;refine Goes.sub hsub ?_;refine sq ?_;refine sh fol (kBO d.1 ((5,vl ZU ([1000000000000000000]:List Int))::(kAJ g [(7,vl ZU j.1),(9,.str p),(42,.bool (decide ((j.1.length:Int)>0)))]))) ?_;obtain⟨Z,g16,g7⟩:=bnd g7;refine Goes.imp (Q:=fun x s'=>(x= .normal/\ ∃k,k=Z/\Sub s' (ofG 69 (kBO d.1 ((5,vl ZU ([1000000000000000000]:List Int))::(kAJ g [(7,vl ZU j.1),(9,.str k)]))),(kAB g [])))) ?_ ?_
    ·refine ihD g16 (fun a0 g16=>?_) (fun a0 g16=>?_)
     ·obtain⟨a1,A,g16⟩:=bnd g16;obtain⟨O,B,g16⟩:=bnd g16;refine gr fol [3,5] (kBO d.1 ((5,vl ZU ([1000000000000000000]:List Int))::(kAJ g [(7,vl ZU j.1),(9,.str O)]))) (ac (cv (qlH [48] (w64 (18-(p.length:Int))) A)) (ac (hs (.done (.opt (ku ZT .add 9 (.tmp 46) (.tmp 47) (.str a1) (.str p))) (.str O)) (qa2 B)) az)) ?_;obtain rfl:=si g16;exact⟨rfl,_,rfl,(Sub.refl _)⟩
     refine Goes.skip ?_;obtain rfl:=si g16;exact⟨rfl,_,rfl,(Sub.keep [3,5,6,7,9] rfl rfl)⟩
    rintro x s' ⟨rfl,k,rfl,hsub⟩;refine Goes.sub hsub ?_;obtain⟨n,C,g7⟩:=bnd g7;refine sq (gq fol [3] (kBO d.1 [(5,vl ZU ([1000000000000000000]:List Int)),(6,.gslice 2 n.length 1),(7,vl ZU j.1)]) (.dead:: .cells [.str k]::(kAB n [])) (ac (hs (.run [0,1] (yF ZT [267,267] (.gslice 0 g.length 1) (.slice 1 0 1 1 1)) (kAB g [.cells [.str k]]) (.gslice 2 n.length 1) (.dead:: .cells [.str k]::(kAB n [])) true) (qa4 qrt (E:=encS) rfl (qgj (E:=encS) (ys:=[k]) rfl rfl rfl rfl) (qi6 (E:=encS) (l:=g) rfl rfl rfl C rfl))) az) ?_);refine gh fol (kBO d.1 [(4,vl ZU j.1),(5,vl ZU ([1000000000000000000]:List Int)),(6,.gslice 2 n.length 1)]) ?_;exact⟨M,(ofG 69 (kBO d.1 ((4,vl ZU j.1)::(5,vl ZU ([1000000000000000000]:List Int))::(kAJ n []))),(kAB n [])),Nat.lt_succ_self _,(Uc [] [some 2] rfl rfl (.keep (.same nB) (.keep (.same (qf ZU _)) (.keep (.same (qf ZU _)) (.keep (.gslice rfl) .nil)))) (.ks .nil)),_,_,rfl,g7⟩
   refine Goes.exit ?_;obtain rfl:=si g7;exact⟨rfl,_,rfl,(Sub.keep [3,6] rfl rfl)⟩
 rintro x s' ⟨rfl,b,rfl,hsub⟩;refine Goes.sub hsub ?_;refine sg fol (kBO d.1 (kAJ b (kBf []))) (kAB b [.bld 273 5 [.nilptr,.nilslice]]) ?_;refine sq ?_;refine sh fol (kAJ b (kBf [(54,.bool d.1)])) ?_;obtain⟨a2,g23,h⟩:=bnd h;refine Goes.imp (Q:=fun x s'=>(x= .normal/\ ∃ok21 u,(ok21,u)=a2/\Sub s' (ofG 69 (kAJ b (kBf [])),(kAB b [.bld 273 5 [pz ok21 1 0,hsl 2 1 u],.cells ((hof u).flatMap (qa .u8).c)])))) ?_ ?_
 ·refine ihB g23 (fun a3 g23=>?_) (fun a3 g23=>?_)
  ·refine Goes.sub (s':=(ofG 69 (kAJ b (kBf [(54,.bool d.1)])),(kAB b [.bld 273 5 [pz false 1 0,.nilslice]]))) (Uc [] [some 0,some 1] rfl rfl (.keep (.gslice rfl) (.kp (.keep (.same nB) .nil))) (.ks (.kb rfl (.bld (rc (jk.pz0) (rc (.same (qF.nilslice)) rn))) .nil))) ?_;refine Goes.sub (s':=(ofG 69 (kAJ b (kBf [(54,.bool d.1)])),(kAB b [.bld 273 5 [pz false 1 0,hsl 2 1 (none:Option (List Int))],.cells ((hof (none:Option (List Int))).flatMap (qa .u8).c)]))) (Uc [] [some 0,some 1,none] rfl rfl (.keep (.gslice rfl) (.kp (.keep (.same nB) .nil))) (.ks (.kb rfl (.bld (rc (jk.pz0) (rc .hs0 rn))) (.fresh .nil)))) ?_;obtain⟨v,D,g23⟩:=bnd g23;refine gq fol [0] (kAJ b (kBf [])) (kAB b [.bld 273 5 [pz true 1 0,hsl 3 1 (some v)],.dead,.cells ((hof (some v)).flatMap (qa .u8).c)]) (ac (hs (.callH 250 [.ptr 1 0,.str [45]] (kAB b [.bld 273 5 [pz false 1 0,hsl 2 1 (none:Option (List Int))],.cells ((hof (none:Option (List Int))).flatMap (qa .u8).c)]) [1,2] (.tuple [.i (([45].length:Nat):Int),.niliface]) (kAB b [.bld 273 5 [pz true 1 0,hsl 3 1 (some v)],.dead,.cells ((hof (some v)).flatMap (qa .u8).c)])) (qbL [some 1,some 2] [none,some 0,none,some 2] (qpR false (none:Option (List Int)) [45] D) (.kb rfl (.bld (rc (jk.pz0) (rc .hs0 rn))) (.ks .nil)) rfl rfl (.old rfl rfl (.back rfl rfl (.bld (rc ((jk.pz rfl)) (rc (.hs rfl) rn))) rfl (.dead (.new rfl rfl (.same fa) rfl .nil)))) (rc (.ptr rfl) (rc (.same nS) rn)) (.same (qF.tuple sn)) rfl)) az) ?_;obtain rfl:=si g23;exact⟨rfl,_,_,rfl,(Uc [] [some 0,some 1,some 3] rfl rfl (.keep (.gslice rfl) (.kp .nil)) (.ks (.kb rfl (.bld (rc ((jk.pz rfl)) (rc (.hs rfl) rn))) (.ks .nil))))⟩
  refine Goes.skip ?_;obtain rfl:=si g23;exact⟨rfl,_,_,rfl,(Uc [] [some 0,some 1,none] rfl rfl (.keep (.gslice rfl) (.kp .nil)) (.ks (.kb rfl (.bld (rc (jk.pz0) (rc .hs0 rn))) (.fresh .nil))))⟩
 rintro x s' ⟨rfl,ok21,u,rfl,hsub⟩
 try dsimp only at h
 refine Goes.sub hsub ?_;refine sq ?_;refine sh fol (kAJ b (kBf [(11,.i (w64 ((b.length:Int)-1)))])) ?_;refine Goes.block ?_;obtain⟨P,g32,h⟩:=bnd h;refine Goes.imp (Q:=fun x s'=>(x= .exit 2/\ ∃ok30 o,(ok30,o)=P/\Sub s' (ofG 69 [(10,.ptr 0 0)],[.bld 273 5 [pz ok30 0 0,hsl 1 1 o],.cells ((hof o).flatMap (qa .u8).c)]))) ?_ ?_
 ·refine Ud (fun M s=> ∃(ok27:Bool) (e:Option (List Int)) (f:Int),s=(ofG 69 (kAJ b (kBf [(11,.i f)])),(kAB b [.bld 273 5 [pz ok27 1 0,hsl 2 1 e],.cells ((hof e).flatMap (qa .u8).c)]))/\zx b M ok27 e f=some P) ?_ (m:=N) ⟨_,_,_,rfl,g32⟩;rintro M s ⟨ok27,e,f,rfl,g32⟩
  cases M with
  |zero=>simp only[zx]at g32;cases g32
  |succ M=>
   rw[zx]at g32;refine sq ?_;refine sh fol (kAJ b (kBf [(11,.i f),(60,.bool (decide (f>=0)))])) ?_;refine ihD g32 (fun a4 g32=>?_) (fun a4 g32=>?_)
   ·refine Goes.skip ?_;refine sq (Goes.block ?_);obtain⟨y,t,g32⟩:=bnd g32;obtain⟨q,F,g32⟩:=bnd g32;refine gq fol [2,3,4] (kAJ b (kBf [(11,.i f)])) (kAB b [.bld 273 5 [pz true 1 0,hsl 3 1 (some q)],.dead,.cells ((hof (some q)).flatMap (qa .u8).c)]) (ac (hs (.done (.opt (ql ZT 267 (.gslice 0 b.length 1) (.i f))) (.ptr 0 ((f:Int).toNat*1+0))) (ix_gs qrt t)) (ac (hs (.run [0] (jD ZT 9 (.ptr 0 ((f:Int).toNat*1+0))) (kAB b [.bld 273 5 [pz ok27 1 0,hsl 2 1 e],.cells ((hof e).flatMap (qa .u8).c)]) (.str y) (kAB b [.bld 273 5 [pz ok27 1 0,hsl 2 1 e],.cells ((hof e).flatMap (qa .u8).c)]) false) (qcR ce9 (E:=encS) (l:=b) rfl rfl t (nl rfl) rfl)) (ac (hs (.callH 250 [.ptr 1 0,.str y] (kAB b [.bld 273 5 [pz ok27 1 0,hsl 2 1 e],.cells ((hof e).flatMap (qa .u8).c)]) [1,2] (.tuple [.i ((y.length:Nat):Int),.niliface]) (kAB b [.bld 273 5 [pz true 1 0,hsl 3 1 (some q)],.dead,.cells ((hof (some q)).flatMap (qa .u8).c)])) (qbL [some 1,some 2] [none,some 0,none,some 2] (qpR ok27 e y F) (.kb rfl (.bld (rc ((jk.pz rfl)) (rc (.hs rfl) rn))) (.ks .nil)) rfl rfl (.old rfl rfl (.back rfl rfl (.bld (rc ((jk.pz rfl)) (rc (.hs rfl) rn))) rfl (.dead (.new rfl rfl (.same fa) rfl .nil)))) (rc (.ptr rfl) (rc (.same nS) rn)) (.same (qF.tuple sn)) rfl)) az))) ?_;refine gh fol (kAJ b (kBf [(11,.i (w64 (f-1)))])) ?_;exact⟨M,(ofG 69 (kAJ b (kBf [(11,.i (w64 (f-1)))])),(kAB b [.bld 273 5 [pz true 1 0,hsl 2 1 (some q)],.cells ((hof (some q)).flatMap (qa .u8).c)])),Nat.lt_succ_self _,(Uc [] [some 0,some 1,some 3] rfl rfl (.keep (.gslice rfl) (.kp (.keep (.same nI) .nil))) (.ks (.kb rfl (.bld (rc ((jk.pz rfl)) (rc (.hs rfl) rn))) (.ks .nil)))),_,_,_,rfl,g32⟩
   refine Goes.exit ?_;obtain rfl:=si g32;exact⟨rfl,_,_,rfl,(Uc [] [some 1,some 2] rfl rfl (.drop (.kp .nil)) (.kb rfl (.bld (rc ((jk.pz rfl)) (rc (.hs rfl) rn))) (.ks .nil)))⟩
 rintro x s' ⟨rfl,ok30,o,rfl,hsub⟩
 try dsimp only at h
 refine Goes.sub hsub ?_;obtain⟨G,H,h⟩:=bnd h;refine sq (gq fol [0] [(2,.str G)] [.dead,.dead] (ac (hs (.callH 251 [.ptr 0 0] [.bld 273 5 [pz ok30 0 0,hsl 1 1 o],.cells ((hof o).flatMap (qa .u8).c)] [0,1] (.str G) [.dead,.dead]) (qbL [some 0,some 1] [none,none] (qrf ok30 o H) (.kb rfl (.bld (rc ((jk.pz rfl)) (rc (.hs rfl) rn))) (.ks .nil)) rfl rfl (.dead (.dead .nil)) (rc (.ptr rfl) rn) (.same nS) rfl)) az) ?_);refine Goes.ret ?_;obtain rfl:=si h;exact(gw2 [.str G] (Ua tS))
def qbq (a:qp):Option Int:=
 (qK a).bind fun b=>
 if(b.2.length:Int)=0 then
 some 0
 else
 (idx b.2 (w64 ((b.2.length:Int)-1))).bind fun c=>
 (bits_Len64 c).bind fun d=>
 some (w64 ((w64 (64*(w64 ((b.2.length:Int)-1))))+d))
theorem qej (a:qp) {res:Int} (h:qbq a=some res):qb ZT (.fn 246) [.agg (nz1 a)] [] (.i res) []:=by
 unfold qbq at h;refine Ub Tryz.func246 rfl rfl (m:=25) rfl (rs:=[.tmp 2]) rfl (l:=[(0,.agg (nz1 a))]) rfl ?_;refine sg fol (kV []) [.cells (nz1 a)] ?_;obtain⟨c,d,h⟩:=bnd h;refine sq (gr fol [1] [(4,vl ZU c.2)] (ac (cv (zQ a d)) az) ?_);refine sq ?_;refine sh fol ((4,vl ZU c.2)::(kBD (decide ((c.2.length:Int)=0)))) ?_;refine ihD h (fun g h=>?_) (fun g h=>?_)
 ·refine sh fol [(2,.i 0)] ?_;refine Goes.ret ?_;obtain rfl:=si h;exact(gw2 [.i 0] (Ua tI))
 refine Goes.skip ?_;obtain⟨j,b,h⟩:=bnd h;obtain⟨f,e,h⟩:=bnd h;refine sq (gr fol [8,9,10] (kBL (w64 ((w64 (64*(w64 ((c.2.length:Int)-1))))+f))) (ac (iv zU ZU b) (ac (lv 0 z8 ZU b rfl) (ac (cv (qfF j e)) az))) ?_);refine Goes.ret ?_;obtain rfl:=si h;exact(gw2 [.i (w64 ((w64 (64*(w64 ((c.2.length:Int)-1))))+f))] (Ua tI))
def qdw (N:Nat) (n:qp):Option Bool:=
 ((qbq n).bind fun a=>
 if a>1800 then
 (vQ N n).bind fun b=>
 (strings_TrimPrefix b [45]).bind fun c=>
 some (decide ((c.length:Int)>600))
 else
 some false:Option Bool).bind fun d=>
 some d
theorem qeZ (N:Nat) (n:qp) {res:Bool} (h:qdw N n=some res):qb ZT (.fn 198) [.agg (nz1 n)] [] (.bool res) []:=by
 unfold qdw at h;refine Ub Tryz.func198 rfl rfl (m:=13) rfl (rs:=[.tmp 2]) rfl (l:=[(0,.agg (nz1 n))]) rfl ?_;refine sg fol (kV []) [.cells (nz1 n)] ?_;refine sq ?_;obtain⟨f,a,h⟩:=bnd h;refine Ue (s':=(ofG 13 (kBT f),[.cells (nz1 n)])) ?_ ?_
 ·obtain⟨j,b,a⟩:=bnd a;rcases wyD a with⟨e,a⟩|⟨e,a⟩
  ·obtain⟨g,c,a⟩:=bnd a;obtain⟨i,d,a⟩:=bnd a;obtain rfl:=si a;exact tr fol [1,3,5,6] (kBT (decide ((i.length:Int)>600))) (ac (cv (qej n b)) (ac (gw e) (ac (cv (qan N n c)) (ac (cv (qbI g [45] d)) az))))
  obtain rfl:=si a;exact tr fol [1,3] kAo (ac (cv (qej n b)) (ac (gw e) az))
 refine Goes.ret ?_;obtain rfl:=si h;exact(gw2 [.bool f] (Ua tB))
def qaw (N:Nat) (a:qC):Option Bool:=
 ((qdw N a.Num).bind fun b=>
 if b=true then
 some true
 else
 (qdw N a.Den).bind fun c=>
 some c:Option Bool).bind fun d=>
 some d
theorem qgd (N:Nat) (a:qC) {res:Bool} (h:qaw N a=some res):qb ZT (.fn 127) [.agg (nq1 a)] [] (.bool res) []:=by
 unfold qaw at h;refine Ub Tryz.func127 rfl rfl (m:=11) rfl (rs:=[.tmp 2]) rfl (l:=[(0,.agg (nq1 a))]) rfl ?_;refine sg fol (kV []) [.cells (nq1 a)] ?_;refine sq ?_;obtain⟨f,b,h⟩:=bnd h;refine Ue (s':=(ofG 11 (kBT f),[.cells (nq1 a)])) ?_ ?_
 ·obtain⟨i,c,b⟩:=bnd b;rcases wyB b with⟨e,b⟩|⟨e,b⟩
  ·obtain rfl:=si b;exact tr fol [2,3] kBg (ac (cv (qeZ N a.Num c)) (ac (gw e) az))
  obtain⟨g,d,b⟩:=bnd b;obtain rfl:=si b;exact tr fol [2,3,6] (kBT g) (ac (cv (qeZ N a.Num c)) (ac (gw e) (ac (cv (qeZ N a.Den d)) az)))
 refine Goes.ret ?_;obtain rfl:=si h;exact(gw2 [.bool f] (Ua tB))
def qaZ (N:Nat) (a:qC):Option Str:=
 (jT a).bind fun b=>
 if b=true then
 (vQ N a.Num).bind fun c=>
 some c
 else
 (vQ N a.Num).bind fun d=>
 (cat d [47]).bind fun e=>
 (vQ N a.Den).bind fun f=>
 (cat e f).bind fun g=>
 some g
theorem qgJ (N:Nat) (a:qC) {res:Str} (h:qaZ N a=some res):qb ZT (.fn 128) [.agg (nq1 a)] [] (.str res) []:=by
 unfold qaZ at h;refine Ub Tryz.func128 rfl rfl (m:=16) rfl (rs:=[.tmp 2]) rfl (l:=[(0,.agg (nq1 a))]) rfl ?_;refine sg fol (kV []) [.cells (nq1 a)] ?_;refine sq ?_;obtain⟨n,b,h⟩:=bnd h;refine sq (gr fol [1] (kV (kBR n)) (ac (cv (xk a b)) az) ?_);refine ihB h (fun o h=>?_) (fun o h=>?_)
 ·obtain⟨j,c,h⟩:=bnd h;refine sq (gr fol [2] [(2,.str j)] (ac (cv (qan N a.Num c)) az) ?_);refine Goes.ret ?_;obtain rfl:=si h;exact(gw2 [.str j] (Ua tS))
 refine Goes.skip ?_;obtain⟨p,d,h⟩:=bnd h;obtain⟨k,e,h⟩:=bnd h;obtain⟨q,f,h⟩:=bnd h;obtain⟨i,g,h⟩:=bnd h;refine sq (gr fol [2,3,6,7] [(2,.str i)] (ac (cv (qan N a.Num d)) (ac (hs (.done (.opt (ku ZT .add 9 (.tmp 10) (.const (.string ⟨#[47]⟩)) (.str p) (.str [47]))) (.str k)) (qa2 e)) (ac (cv (qan N a.Den f)) (ac (hs (.done (.opt (ku ZT .add 9 (.tmp 11) (.tmp 14) (.str k) (.str q))) (.str i)) (qa2 g)) az)))) ?_);refine Goes.ret ?_;obtain rfl:=si h;exact(gw2 [.str i] (Ua tS))
def xH (N:Nat) (a:qC):Option (Str×Int):=
 (qaw N a).bind fun b=>
 if b=true then
 some ([],4)
 else
 (qaZ N a).bind fun c=>
 some (c,0)
theorem qbt (N:Nat) (a:qC) {res:Str×Int} (h:xH N a=some res):qb ZT (.fn 54) [.agg (nq1 a)] [] (.tuple [.str res.1,.i res.2]) []:=by
 unfold xH at h;refine Ub Tryz.func54 rfl rfl (m:=8) rfl (rs:=[.tmp 2,.tmp 3]) rfl (l:=[(0,.agg (nq1 a))]) rfl ?_;refine sg fol (kV []) [.cells (nq1 a)] ?_;refine sq ?_;obtain⟨e,b,h⟩:=bnd h;refine sq (gr fol [1] (kV [(5,.bool e)]) (ac (cv (qgd N a b)) az) ?_);refine ihB h (fun f h=>?_) (fun f h=>?_)
 ·refine sh fol [(2,.str []),(3,.i 4)] ?_;refine Goes.ret ?_;obtain rfl:=si h;exact(gw2 [.str [],.i 4] (FzW.tuple (qd.cons (Ua tS) (qd.cons (Ua tI) qd.nil))))
 refine Goes.skip ?_;obtain⟨d,c,h⟩:=bnd h;refine sq (gr fol [1] [(2,.str d),(3,.i 0)] (ac (cv (qgJ N a c)) az) ?_);refine Goes.ret ?_;obtain rfl:=si h;exact(gw2 [.str d,.i 0] (FzW.tuple (qd.cons (Ua tS) (qd.cons (Ua tI) qd.nil))))
def qc8 (N:Nat) (y:qh):Option qC:=
 (je N y.Density).bind fun a=>
 some a
theorem qhO (N:Nat) (y:qh) {res:qC} (h:qc8 N y=some res):qb ZT (.fn 57) [.agg (kAn y.Name y.Density y.Twist y.Strength y.Dye)] [] (.agg (nq1 res)) []:=by
 unfold qc8 at h;refine Ub Tryz.func57 rfl rfl (m:=6) rfl (rs:=[.cell 2 100]) rfl (l:=(kAE y.Name y.Density y.Twist y.Strength y.Dye [])) rfl ?_;refine sg fol (kV kAw) (kA y.Name y.Density y.Twist y.Strength y.Dye (kC [])) ?_;obtain⟨b,a,h⟩:=bnd h;refine sq (gq fol [2,3] kAw (kA y.Name y.Density y.Twist y.Strength y.Dye [.cells (nq1 b)]) (ac (cv (jA N y.Density a)) (ac (hs (.run [1] (qx ZT 100 (.ptr 1 0) (.agg (nq1 b))) (kA y.Name y.Density y.Twist y.Strength y.Dye (kC [])) .undef (kA y.Name y.Density y.Twist y.Strength y.Dye [.cells (nq1 b)]) true) (qV (n:=4) (by kernel_rfl) rfl rfl rfl rfl (cac rfl (cac nvc (cac rfl (cac nvc can)))) rfl)) az)) ?_);refine Goes.ret ?_;obtain rfl:=si h;exact(gw2 [.agg (nq1 b)] (FzW.agg (qd.cons (Ua tI) (qd.cons (Ua (qD ZU _ (nl rfl))) (qd.cons (Ua tI) (qd.cons (Ua (qD ZU _ (nl rfl))) qd.nil))))))
def qbk (N:Nat) (a:qC) (b:qC):Option qC:=
 (qJ N a.Num b.Num).bind fun c=>
 (qJ N a.Den b.Den).bind fun d=>
 (qcb N c d).bind fun e=>
 some e
theorem qhf (N:Nat) (a:qC) (b:qC) {res:qC} (h:qbk N a b=some res):qb ZT (.fn 80) [.agg (nq1 a),.agg (nq1 b)] [] (.agg (nq1 res)) []:=by
 unfold qbk at h;refine Ub Tryz.func80 rfl rfl (m:=16) rfl (rs:=[.cell 4 100]) rfl (l:=[(0,.agg (nq1 a)),(1,.agg (nq1 b))]) rfl ?_;refine sg fol (kG []) (.cells (nq1 a):: .cells (nq1 b)::(kC [])) ?_;obtain⟨g,c,h⟩:=bnd h;obtain⟨i,d,h⟩:=bnd h;obtain⟨f,e,h⟩:=bnd h;refine sq (gq fol [4,9,10,11] (kAg []) [.cells (nq1 a),.cells (nq1 b),.cells (nq1 f)] (ac (cv (zZ N a.Num b.Num c)) (ac (cv (zZ N a.Den b.Den d)) (ac (cv (qez N g i e)) (ac (hs (.run [2] (qx ZT 100 (.ptr 2 0) (.agg (nq1 f))) (.cells (nq1 a):: .cells (nq1 b)::(kC [])) .undef [.cells (nq1 a),.cells (nq1 b),.cells (nq1 f)] true) (qV (n:=4) (by kernel_rfl) rfl rfl rfl rfl (cac rfl (cac nvc (cac rfl (cac nvc can)))) rfl)) az)))) ?_);refine Goes.ret ?_;obtain rfl:=si h;exact(gw2 [.agg (nq1 f)] (FzW.agg (qd.cons (Ua tI) (qd.cons (Ua (qD ZU _ (nl rfl))) (qd.cons (Ua tI) (qd.cons (Ua (qD ZU _ (nl rfl))) qd.nil))))))
def qbz (N:Nat) (a:qC):Option qC:=
 (qcb N a.Den a.Num).bind fun b=>
 some b
theorem qhk (N:Nat) (a:qC) {res:qC} (h:qbz N a=some res):qb ZT (.fn 130) [.agg (nq1 a)] [] (.agg (nq1 res)) []:=by
 unfold qbz at h;refine Ub Tryz.func130 rfl rfl (m:=8) rfl (rs:=[.cell 2 100]) rfl (l:=[(0,.agg (nq1 a))]) rfl ?_;refine sg fol (kV kAw) (.cells (nq1 a)::(kC [])) ?_;obtain⟨c,b,h⟩:=bnd h;refine sq (gq fol [4,5] kAw [.cells (nq1 a),.cells (nq1 c)] (ac (cv (qez N a.Den a.Num b)) (ac (hs (.run [1] (qx ZT 100 (.ptr 1 0) (.agg (nq1 c))) (.cells (nq1 a)::(kC [])) .undef [.cells (nq1 a),.cells (nq1 c)] true) (qV (n:=4) (by kernel_rfl) rfl rfl rfl rfl (cac rfl (cac nvc (cac rfl (cac nvc can)))) rfl)) az)) ?_);refine Goes.ret ?_;obtain rfl:=si h;exact(gw2 [.agg (nq1 c)] (FzW.agg (qd.cons (Ua tI) (qd.cons (Ua (qD ZU _ (nl rfl))) (qd.cons (Ua tI) (qd.cons (Ua (qD ZU _ (nl rfl))) qd.nil))))))
def qbA (N:Nat) (a:qC) (b:qC):Option qC:=
 (qbz N b).bind fun c=>
 (qbk N a c).bind fun d=>
 some d
theorem qhq (N:Nat) (a:qC) (b:qC) {res:qC} (h:qbA N a b=some res):qb ZT (.fn 58) [.agg (nq1 a),.agg (nq1 b)] [] (.agg (nq1 res)) []:=by
 unfold qbA at h;refine Ub Tryz.func58 rfl rfl (m:=9) rfl (rs:=[.cell 4 100]) rfl (l:=[(0,.agg (nq1 a)),(1,.agg (nq1 b))]) rfl ?_;refine sg fol (kG []) (.cells (nq1 a):: .cells (nq1 b)::(kC [])) ?_;obtain⟨f,c,h⟩:=bnd h;obtain⟨e,d,h⟩:=bnd h;refine sq (gq fol [2,3,4] (kAg []) [.cells (nq1 a),.cells (nq1 b),.cells (nq1 e)] (ac (cv (qhk N b c)) (ac (cv (qhf N a f d)) (ac (hs (.run [2] (qx ZT 100 (.ptr 2 0) (.agg (nq1 e))) (.cells (nq1 a):: .cells (nq1 b)::(kC [])) .undef [.cells (nq1 a),.cells (nq1 b),.cells (nq1 e)] true) (qV (n:=4) (by kernel_rfl) rfl rfl rfl rfl (cac rfl (cac nvc (cac rfl (cac nvc can)))) rfl)) az))) ?_);refine Goes.ret ?_;obtain rfl:=si h;exact(gw2 [.agg (nq1 e)] (FzW.agg (qd.cons (Ua tI) (qd.cons (Ua (qD ZU _ (nl rfl))) (qd.cons (Ua tI) (qd.cons (Ua (qD ZU _ (nl rfl))) qd.nil))))))
def qR (N:Nat) (a:List qh):Nat->Int->Option (Unit⊕Int)
 |0,_=>none
 |K+1,b=>
  if b<(a.length:Int)then
  (idx a b).bind fun d=>
  (cut a 0 b).bind fun e=>
  (qce N d e).bind fun c=>
  if(!decide (c=0))=true then
  some (.inr c)
  else
  qR N a K (w64 (b+1))
  else
  some (.inl ())
def zX (N:Nat) (a:List qh) (b:Int):Option Int:=
 if(a.length:Int)>b then
 some 5
 else
 (qR N a N 0).bind (fun
 |(.inl ())=>
 some 0
 |(.inr c)=>
 some c)
theorem qeC (N:Nat) (a:List qh) (c:Int) {res:Int} (h:zX N a c=some res):qb ZT (.fn 44) [vl qc a,.i c,.func (.func 45) [] []] [] (.i res) []:=by
 unfold zX at h;refine Ub Tryz.func44 rfl rfl (m:=31) rfl (rs:=[.tmp 6]) rfl (l:=(kAP a [(1,.i c),(2,.func (.func 45) [] [])])) rfl ?_;refine sh fol (kAP a [(1,.i c),(2,.func (.func 45) [] [])]) ?_;refine sq ?_;refine sh fol (kAP a ((2,.func (.func 45) [] [])::(kBC (decide ((a.length:Int)>c))))) ?_;refine ihD h (fun p h=>?_) (fun p h=>?_)
 ·refine sh fol [(6,.i 5)] ?_;refine Goes.ret ?_;obtain rfl:=si h;exact(gw2 [.i 5] (Ua tI))
 refine Goes.skip ?_;refine sq ?_;refine sh fol (kAP a [(2,.func (.func 45) [] []),(14,vl qc a),(15,.i (a.length:Int)),(16,.i 0)]) ?_;refine Goes.block ?_;obtain⟨k,g3,h⟩:=bnd h;refine Goes.imp (Q:=fun x s'=>(x= .exit 0/\(.inl ())=k/\Sub s' (ofG 31 [],[]))\/(x= .ret/\ ∃n,(.inr n)=k/\zh ZT [.tmp 6] (.i n) .ret s')) ?_ ?_
 ·refine Ud (fun M s=> ∃(b:Int),s=(ofG 31 (kAP a ((2,.func (.func 45) [] [])::(14,vl qc a)::(kAZ (a.length:Int) b []))),[])/\qR N a M b=some k) ?_ (m:=N) ⟨_,rfl,g3⟩;rintro M s ⟨b,rfl,g3⟩
  cases M with
  |zero=>simp only[qR]at g3;cases g3
  |succ M=>
   rw[qR]at g3;refine sh fol (kAP a ((2,.func (.func 45) [] [])::(14,vl qc a)::(kAZ (a.length:Int) b [(17,.bool (decide (b<(a.length:Int))))]))) ?_;refine sq ?_;refine ihD g3 (fun q g3=>?_) (fun q g3=>?_)
   ·refine Goes.skip ?_;refine sq (Goes.block ?_);obtain⟨e,d,g3⟩:=bnd g3;refine sq (gq fol [1,2] (kAP a ((2,.func (.func 45) [] [])::(7,.i b)::(kAz ((14,vl qc a)::(kAZ (a.length:Int) b []))))) (kA e.Name e.Density e.Twist e.Strength e.Dye []) (ac (iv qho qc d) (ac (la qme qc d) az)) ?_);obtain⟨o,f,g3⟩:=bnd g3;obtain⟨g,j,g3⟩:=bnd g3;refine sq (gr fol [4,5] (kAP a ((2,.func (.func 45) [] [])::(9,.i g)::(14,vl qc a)::(kAZ (a.length:Int) b []))) (ac (hs (.done (.opt (kg ZT 22 (vl qc a) none (some (.i b)) none)) (vl qc o)) (qjn qho (E:=qc) rfl none (some b) f)) (ac (cv (qiZ N e o j)) az)) ?_);refine sh fol (kAP a ((2,.func (.func 45) [] [])::(9,.i g)::(14,vl qc a)::(kAZ (a.length:Int) b [(28,.bool (!decide (g=0)))]))) ?_;refine ihB g3 (fun r g3=>?_) (fun r g3=>?_)
    ·refine sh fol [(6,.i g)] ?_;refine Goes.ret ?_;obtain rfl:=si g3;exact Or.inr (⟨rfl,_,rfl,(gw2 [.i g] (Ua tI))⟩)
    refine Goes.skip ?_;refine gh fol (kAP a ((2,.func (.func 45) [] [])::(14,vl qc a)::(kAZ (a.length:Int) (w64 (b+1)) []))) ?_;exact⟨M,(ofG 31 (kAP a ((2,.func (.func 45) [] [])::(14,vl qc a)::(kAZ (a.length:Int) (w64 (b+1)) []))),[]),Nat.lt_succ_self _,(Uc [] [] rfl rfl (.keep (.same (qf qc _)) (.keep (.same (qF.func sn sn)) (.keep (.same (qf qc _)) (.keep (.same nI) (.keep (.same nI) .nil))))) .nil),_,rfl,g3⟩
   refine Goes.exit ?_;obtain rfl:=si g3;exact Or.inl (⟨rfl,rfl,(Sub.keep [] rfl rfl)⟩)
 rintro x s' (⟨rfl,rfl,hsub⟩|⟨rfl,t,rfl,hret⟩)
 ·try dsimp only at h
  refine Goes.sub hsub ?_;refine sh fol [(6,.i 0)] ?_;refine Goes.ret ?_;obtain rfl:=si h;exact(gw2 [.i 0] (Ua tI))
 try dsimp only at h
 obtain rfl:=si h;exact hret
def qa0 (a:List qh):Option Unit:=
 some ()
theorem qfR (a:List qh) (h:qa0 a=some ()):qb ZT (.fn 56) [vl qc a,.func (.func 57) [] []] [] (.func (.func 129) [] kAy) (kO a [.cells [.func (.func 57) [] []]]):=by
 unfold qa0 at h;refine Us Tryz.func56 rfl rfl (m:=6) rfl (rs:=[.tmp 4]) rfl (l:=(kAP a [(1,.func (.func 57) [] [])])) rfl ?_;intro B hB;refine sg fol (kQ (kAN [])) (kO a [.cells [.func (.func 57) [] []]]) ?_;refine sh fol [(4,.func (.func 129) [] kAy)] ?_;refine Goes.ret ?_;exact(gh2 [.func (.func 129) [] kAy] (qe4.refl _ _))
def qbi (N:Nat) (b:Int) (c:List Int) (d:Int) (e:List Int) (f:Int) (g:List Int) (h:Int) (i:List Int):Option (Int×(List Int)×Int×(List Int)):=
 (yP N (⟨(⟨b,c⟩:qp),(⟨d,e⟩:qp)⟩:qC) (⟨(⟨f,g⟩:qp),(⟨h,i⟩:qp)⟩:qC)).bind fun a=>
 some (a.Num.s,a.Num.w,a.Den.s,a.Den.w)
theorem qeK (N:Nat) (e:Int) (f:List Int) (g:Int) (i:List Int) (a:Int) (b:List Int) (c:Int) (d:List Int) {o:Int} {p:List Int} {q:Int} {r:List Int} (h:qbi N e f g i a b c d=some (o,p,q,r)):qb ZT (.rd 0) [.agg (ni2 a b c d)] [.loop .ready none (ofG 15 (kAN kAx)) qm.xp qm.x1 qm.x2,.cells [.func (.func 53) [] []],.cells (ni2 e f g i)] (.bool true) [.loop .ready none (ofG 15 (kAN kAx)) qm.xp qm.x1 qm.x2,.cells [.func (.func 53) [] []],.cells (ni2 o p q r)]:=by
 unfold qbi at h;refine Goes.round (m:=15) (l0:=(kAN kAx)) (l:=(kAN [(5,.ptr 2 0),(9,.agg (ni2 a b c d))])) rfl rfl rfl ?_;intro B hB;refine Goes.subQ ?_;refine gq fol [1] (kAN [(5,.ptr 2 0),(6,.ptr 3 0)]) [.loop .ready none (ofG 15 (kAN kAx)) qm.xp qm.x1 qm.x2,.cells [.func (.func 53) [] []],.cells (ni2 e f g i),.cells (ni2 a b c d)] (ac (hs (.run [3] (qx ZT 100 (.ptr 3 0) (.agg (ni2 a b c d))) (.loop .ready none (ofG 15 [(3,.ptr 1 0),(5,.ptr 2 0)]) qm.xp qm.x1 qm.x2:: .cells [.func (.func 53) [] []]:: .cells (ni2 e f g i)::(kC [])) .undef [.loop .ready none (ofG 15 (kAN kAx)) qm.xp qm.x1 qm.x2,.cells [.func (.func 53) [] []],.cells (ni2 e f g i),.cells (ni2 a b c d)] true) (qV (n:=4) (by kernel_rfl) rfl rfl rfl rfl (cac rfl (cac nvc (cac rfl (cac nvc can)))) rfl)) az) ?_;refine⟨_,Sub.refl _,?_⟩;refine⟨_,_,_,_,_,rfl,?_⟩;refine Goes.subQ ?_;refine Goes.block ?_;obtain⟨k,j,h⟩:=bnd h;refine gq fol [3,4] [] [.loop .busy none (ofG 15 (kAN kAx)) qm.xp qm.x1 qm.x2,.cells [.func (.func 53) [] []],.cells (nq1 k),.cells (ni2 a b c d)] (ac (cv (qa5 N (⟨(⟨e,f⟩:qp),(⟨g,i⟩:qp)⟩:qC) (⟨(⟨a,b⟩:qp),(⟨c,d⟩:qp)⟩:qC) j)) (ac (hs (.run [2] (qx ZT 100 (.ptr 2 0) (.agg (nq1 k))) [.loop .busy none (ofG 15 (kAN kAx)) qm.xp qm.x1 qm.x2,.cells [.func (.func 53) [] []],.cells (ni2 e f g i),.cells (ni2 a b c d)] .undef [.loop .busy none (ofG 15 (kAN kAx)) qm.xp qm.x1 qm.x2,.cells [.func (.func 53) [] []],.cells (nq1 k),.cells (ni2 a b c d)] true) (qV (n:=4) (by kernel_rfl) rfl rfl rfl rfl (cac rfl (cac nvc (cac rfl (cac nvc can)))) rfl)) az)) ?_;simp only[ZI,ZP]at h;obtain⟨rfl,rfl,rfl,rfl⟩:=h;exact⟨_,Sub.refl _,⟨_,_,rfl,(Uc [] [some 0,some 1,some 2] (by rw[hB];rfl) rfl (.keep (.same nB) .nil) (.kb rfl (.loop rfl (.kp (.kp .nil))) (.kb rfl (.same sn) (.kb rfl (.same sn) .nil))))⟩⟩
def zu (N:Nat) (b:List qh):Nat->Int->(List Int)->Int->(List Int)->Int->Option (Int×(List Int)×Int×(List Int))
 |0,_,_,_,_,_=>none
 |K+1,i,j,k,l,c=>
  if c<(b.length:Int)then
  (idx b c).bind fun d=>
  (qc8 N d).bind fun a=>
  (qbi N i j k l a.Num.s a.Num.w a.Den.s a.Den.w).bind fun(e,f,g,h)=>
  zu N b K e f g h (w64 (c+1))
  else
  some (i,j,k,l)
def xR (N:Nat) (a:Int) (b:List Int) (c:Int) (d:List Int) (e:List qh):Option (Int×(List Int)×Int×(List Int)):=
 (zu N e N a b c d 0).bind fun(f,g,h,i)=>
 some (f,g,h,i)
theorem qen (N:Nat) (D:Int) (E:List Int) (F:Int) (G:List Int) (a:List qh) {J:Int} {K:List Int} {L:Int} {O:List Int} (h:xR N D E F G a=some (J,K,L,O)):qb ZT (.fn 129) [.yld 0,.ptr 3 0,.ptr 4 0] (.loop .ready none (ofG 15 [(3,.ptr 1 0),(5,.ptr 2 0)]) qm.xp qm.x1 qm.x2:: .cells [.func (.func 53) [] []]:: .cells (ni2 D E F G)::(kO a [.cells [.func (.func 57) [] []]])) (.tuple []) (.loop .ready none (ofG 15 [(3,.ptr 1 0),(5,.ptr 2 0)]) qm.xp qm.x1 qm.x2:: .cells [.func (.func 53) [] []]:: .cells (ni2 J K L O)::(kO a [.cells [.func (.func 57) [] []]])):=by
 unfold xR at h;refine Us Tryz.func129 rfl rfl (m:=19) rfl (rs:=[]) rfl (l:=((0,.yld 0)::(1,.ptr 3 0)::(kBZ []))) rfl ?_;intro B hB;refine Goes.subQ ?_;refine sh fol ((0,.yld 0)::(kBZ [(6,vl qc a),(7,.i (a.length:Int)),(8,.i 0)])) ?_;refine Goes.block ?_;obtain⟨H,g14,h⟩:=bnd h;refine Goes.imp (Q:=fun x s'=>(x= .exit 0/\ ∃j k n o,(j,k,n,o)=H/\Sub s' (ofG 19 [],(.loop .ready none (ofG 15 [(3,.ptr 1 0),(5,.ptr 2 0)]) qm.xp qm.x1 qm.x2:: .cells [.func (.func 53) [] []]:: .cells (ni2 j k n o)::(kO a [.cells [.func (.func 57) [] []]]))))) ?_ ?_
 ·refine Ud (fun M s=> ∃(y:Int) (z:List Int) (A:Int) (C:List Int) (g:Int),s=(ofG 19 ((0,.yld 0)::(kBZ (kAF a (a.length:Int) g []))),(.loop .ready none (ofG 15 [(3,.ptr 1 0),(5,.ptr 2 0)]) qm.xp qm.x1 qm.x2:: .cells [.func (.func 53) [] []]:: .cells (ni2 y z A C)::(kO a [.cells [.func (.func 57) [] []]])))/\zu N a M y z A C g=some H) ?_ (m:=N) ⟨_,_,_,_,_,rfl,g14⟩;rintro M s ⟨y,z,A,C,g,rfl,g14⟩
  cases M with
  |zero=>simp only[zu]at g14;cases g14
  |succ M=>
   rw[zu]at g14;refine sh fol ((0,.yld 0)::(kBZ (kAF a (a.length:Int) g [(9,.bool (decide (g<(a.length:Int))))]))) ?_;refine sq ?_;refine ihD g14 (fun I g14=>?_) (fun I g14=>?_)
   ·refine Goes.skip ?_;refine sq (Goes.block ?_);obtain⟨d,e,g14⟩:=bnd g14;refine sq (gq fol [0,1] ((0,.yld 0)::(kBZ ((5,.ptr 5 0)::(kAF a (a.length:Int) g [])))) (.loop .ready none (ofG 15 [(3,.ptr 1 0),(5,.ptr 2 0)]) qm.xp qm.x1 qm.x2:: .cells [.func (.func 53) [] []]:: .cells (ni2 y z A C)::(kO a (.cells [.func (.func 57) [] []]::(kA d.Name d.Density d.Twist d.Strength d.Dye [])))) (ac (iv qho qc e) (ac (la qme qc e) az)) ?_);obtain⟨f,p,g14⟩:=bnd g14;obtain⟨⟨q,r,t,u⟩,v,g14⟩:=bnd g14
    try dsimp only at g14
    refine sq (gq fol [3,4] ((0,.yld 0)::(kBZ (kAF a (a.length:Int) g [(17,.bool false)]))) (.loop .ready none (ofG 15 [(3,.ptr 1 0),(5,.ptr 2 0)]) qm.xp qm.x1 qm.x2:: .cells [.func (.func 53) [] []]:: .cells (ni2 q r t u)::(kO a (.cells [.func (.func 57) [] []]::(kA d.Name d.Density d.Twist d.Strength d.Dye [])))) (ac (cv (qhO N d p)) (ac (hs (.callH (.rd 0) [.agg (nq1 f)] (.loop .ready none (ofG 15 [(3,.ptr 1 0),(5,.ptr 2 0)]) qm.xp qm.x1 qm.x2:: .cells [.func (.func 53) [] []]:: .cells (ni2 y z A C)::(kO a (.cells [.func (.func 57) [] []]::(kA d.Name d.Density d.Twist d.Strength d.Dye [])))) [0,1,2] (.bool true) (.loop .ready none (ofG 15 [(3,.ptr 1 0),(5,.ptr 2 0)]) qm.xp qm.x1 qm.x2:: .cells [.func (.func 53) [] []]:: .cells (ni2 q r t u)::(kO a (.cells [.func (.func 57) [] []]::(kA d.Name d.Density d.Twist d.Strength d.Dye []))))) (qpc [some 0,some 1,some 2] [some 0,some 1,some 2,none,none,none] (qeK N y z A C f.Num.s f.Num.w f.Den.s f.Den.w v) rfl (.kb rfl (.loop rfl (.kp (.kp .nil))) (.kb rfl (.cells (rc (.same (qF.func sn sn)) rn)) (.kb rfl (.cells (rc (.same nI) (rc (.same (qE ZU _)) (rc (.same nI) (rc (.same (qE ZU _)) rn))))) .nil))) rfl rfl (.back rfl rfl (.loop rfl (.kp (.kp .nil))) rfl (.back rfl rfl (.cells (rc (.same (qF.func sn sn)) rn)) rfl (.back rfl rfl (.cells (rc (.same nI) (rc (.same (qE ZU _)) (rc (.same nI) (rc (.same (qE ZU _)) rn))))) rfl (.old rfl rfl (.old rfl rfl (.old rfl rfl .nil)))))) (rc (.same (qF.agg sn)) rn) (.same nB) rfl)) az)) ?_);refine Ur (b:=false) (by kernel_rfl) (fun c=>(by cases c)) (fun _=>?_);refine Goes.skip ?_;refine gh fol ((0,.yld 0)::(kBZ (kAF a (a.length:Int) (w64 (g+1)) []))) ?_;exact⟨M,(ofG 19 ((0,.yld 0)::(kBZ (kAF a (a.length:Int) (w64 (g+1)) []))),(.loop .ready none (ofG 15 [(3,.ptr 1 0),(5,.ptr 2 0)]) qm.xp qm.x1 qm.x2:: .cells [.func (.func 53) [] []]:: .cells (ni2 q r t u)::(kO a [.cells [.func (.func 57) [] []]]))),Nat.lt_succ_self _,(Uc [] [some 0,some 1,some 2,some 3,some 4] (by rw[hB];rfl) rfl (.keep (.yld rfl) (.kp (.keep (.same (qf qc _)) (.keep (.same nI) (.keep (.same nI) .nil))))) (.kb rfl (.loop rfl (.kp (.kp .nil))) (.kb rfl (.same sn) (.kb rfl (.same sn) (.kb rfl (.same sn) (.kb rfl (.same sn) .nil)))))),_,_,_,_,_,rfl,g14⟩
   refine Goes.exit ?_;obtain rfl:=si g14;exact⟨rfl,_,_,_,_,rfl,(Sub.keep [] rfl rfl)⟩
 rintro x s' ⟨rfl,j,k,n,o,rfl,hsub⟩
 try dsimp only at h
 simp only[ZI,ZP]at h;obtain⟨rfl,rfl,rfl,rfl⟩:=h;exact⟨_,hsub,(gh2 [] (qe4.refl _ _))⟩
def qbY (N:Nat) (b:List qh):Option (Int×(List Int)×Int×(List Int)):=
 (qhb 0).bind fun a=>
 (xR N a.Num.s a.Num.w a.Den.s a.Den.w b).bind fun(d,e,f,c)=>
 some (d,e,f,c)
theorem qiM (N:Nat) (a:List qh) {j:Int} {k:List Int} {o:Int} {p:List Int} (h:qbY N a=some (j,k,o,p)):qb ZT (.fn 55) [.func (.func 129) [] kAy,.func (.func 53) [] []] (kO a [.cells [.func (.func 57) [] []]]) (.agg (ni2 j k o p)) (kO a [.cells [.func (.func 57) [] []]]):=by
 unfold qbY at h;refine Goes.fnHr Tryz.func55 rfl rfl (m:=15) rfl (rs:=[.cell 4 100]) rfl (l:=[(0,.func (.func 129) [] kAy),(1,.func (.func 53) [] [])]) rfl ?_;intro B hB hR;refine sg fol [(0,.func (.func 129) [] [.ptr 0 0,.ptr 1 0]),(3,.ptr 2 0),(4,.ptr 3 0)] (kO a (.cells [.func (.func 57) [] []]:: .cells [.func (.func 53) [] []]::(kC []))) ?_;obtain⟨f,g,h⟩:=bnd h;refine sq (gq fol [0,2] ((0,.func (.func 129) [] [.ptr 0 0,.ptr 1 0])::(kA2 [])) (kO a (.cells [.func (.func 57) [] []]:: .cells [.func (.func 53) [] []]::(kC [.cells (nq1 f)]))) (ac (cv (qf3 0 g)) (ac (hs (.run [4] (qx ZT 100 (.ptr 4 0) (.agg (nq1 f))) (kO a (.cells [.func (.func 57) [] []]:: .cells [.func (.func 53) [] []]::(kC (kC [])))) .undef (kO a (.cells [.func (.func 57) [] []]:: .cells [.func (.func 53) [] []]::(kC [.cells (nq1 f)]))) true) (qV (n:=4) (by kernel_rfl) rfl rfl rfl rfl (cac rfl (cac nvc (cac rfl (cac nvc can)))) rfl)) az)) ?_);refine sq ?_;refine sh fol (kA2 [(8,.func (.func 129) [] [.ptr 0 0,.ptr 1 0])]) ?_;refine Goes.block ?_;obtain⟨⟨c,d,e,b⟩,i,h⟩:=bnd h
 try dsimp only at h
 refine Goes.range fol hR (gf:=129) (first:=[]) (captured:=kAy) (v:= .tuple []) (A2:=(kO a (.cells [.func (.func 57) [] []]:: .cells [.func (.func 53) [] []]::(kC [.cells (ni2 c d e b),.loop .ready none (ofG 15 [(3,.ptr 2 0),(5,.ptr 4 0)]) qm.xp qm.x1 qm.x2])))) (s':=(ofG 15 (kA2 [(8,.func (.func 129) [] [.ptr 0 0,.ptr 1 0])]),(kO a (.cells [.func (.func 57) [] []]:: .cells [.func (.func 53) [] []]::(kC [.cells (ni2 c d e b),.loop .exhausted none (ofG 15 [(3,.ptr 2 0),(5,.ptr 4 0)]) qm.xp qm.x1 qm.x2]))))) (x:= .normal) (by kernel_rfl) (by kernel_rfl) (qlm (show(Obl.callH 129 (.yld 5::kAy) (kO a (.cells [.func (.func 57) [] []]:: .cells [.func (.func 53) [] []]::(kC [.cells (nq1 f),.loop .ready none (ofG 15 [(3,.ptr 2 0),(4,.ptr 3 0),(5,.ptr 4 0),(8,.func (.func 129) [] [.ptr 0 0,.ptr 1 0])]) qm.xp qm.x1 qm.x2]))) [5,2,4,0,1] (.tuple []) (kO a (.cells [.func (.func 57) [] []]:: .cells [.func (.func 53) [] []]::(kC [.cells (ni2 c d e b),.loop .ready none (ofG 15 [(3,.ptr 2 0),(5,.ptr 4 0)]) qm.xp qm.x1 qm.x2])))).Holds ZT from qbL [some 5,some 2,some 4,some 0,some 1] [some 3,some 4,some 1,none,some 2,some 0] (qen N f.Num.s f.Num.w f.Den.s f.Den.w a i) (.kb rfl (.loop rfl (.kp (.drop (.kp (.drop .nil))))) (.kb rfl (.cells (rc (.same (qF.func sn sn)) rn)) (.kb rfl (.cells (rc (.same nI) (rc (.same (qE ZU _)) (rc (.same nI) (rc (.same (qE ZU _)) rn))))) (.kb rfl (.cells (rc (.same (qf qc _)) rn)) (.kb rfl (.cells (rc (.same (qF.func sn sn)) rn)) .nil))))) rfl rfl (.back rfl rfl (.cells (rc (.same (qf qc _)) rn)) rfl (.back rfl rfl (.cells (rc (.same (qF.func sn sn)) rn)) rfl (.back rfl rfl (.cells (rc (.same (qF.func sn sn)) rn)) rfl (.old rfl rfl (.back rfl rfl (.cells (rc (.same nI) (rc (.same (qE ZU _)) (rc (.same nI) (rc (.same (qE ZU _)) rn))))) rfl (.back rfl rfl (.loop rfl (.kp (.kp .nil))) rfl .nil)))))) (rc (.yld rfl) (rc (.ptr rfl) (rc (.ptr rfl) rn))) (.same (qF.tuple sn)) rfl)) (by kernel_rfl) ?_;refine Goes.sub (show Sub (ofG 15 (kA2 [(8,.func (.func 129) [] [.ptr 0 0,.ptr 1 0])]),(kO a (.cells [.func (.func 57) [] []]:: .cells [.func (.func 53) [] []]::(kC [.cells (ni2 c d e b),.loop .exhausted none (ofG 15 [(3,.ptr 2 0),(5,.ptr 4 0)]) qm.xp qm.x1 qm.x2])))) (ofG 15 (kA2 [(8,.func (.func 129) [] [.ptr 0 0,.ptr 1 0])]),(kO a (.cells [.func (.func 57) [] []]:: .cells [.func (.func 53) [] []]::(kC [.cells (ni2 c d e b)]))))from(Uc [] [some 0,some 1,some 2,some 3,some 4] (by rw[hB];rfl) rfl (.kp (.kp (.kp (.keep (.funcL (sn) (rc (.ptr rfl) (rc (.ptr rfl) rn))) .nil)))) (.kb rfl (.same sn) (.kb rfl (.same sn) (.kb rfl (.same sn) (.kb rfl (.same sn) (.kb rfl (.same sn) .nil))))))) ?_;refine sq (gq fol [1] [(4,.ptr 3 0)] (kO a [.cells [.func (.func 57) [] []],.cells [.func (.func 53) [] []],.cells (ni2 c d e b),.cells (ni2 c d e b)]) (ac (hs (.run [3] (qx ZT 100 (.ptr 3 0) (.agg (ni2 c d e b))) (kO a (.cells [.func (.func 57) [] []]:: .cells [.func (.func 53) [] []]::(kC [.cells (ni2 c d e b)]))) .undef (kO a [.cells [.func (.func 57) [] []],.cells [.func (.func 53) [] []],.cells (ni2 c d e b),.cells (ni2 c d e b)]) true) (qV (n:=4) (by kernel_rfl) rfl rfl rfl rfl (cac rfl (cac nvc (cac rfl (cac nvc can)))) rfl)) az) ?_);refine Goes.ret ?_;simp only[ZI,ZP]at h;obtain⟨rfl,rfl,rfl,rfl⟩:=h;exact(gh2 [.agg (ni2 c d e b)] (Uc [] [some 0,some 1] (by rw[hB];rfl) rfl (.keep (.aggL (rc (.same nI) (rc (.same (qE ZU _)) (rc (.same nI) (rc (.same (qE ZU _)) rn))))) .nil) (.kb rfl (.same sn) (.kb rfl (.same sn) .nil))))
def qa8 (a:List qh) (b:Int) (c:List Int) (d:Int) (e:List Int):Option Unit:=
 some ()
theorem qfM (a:List qh) (b:Int) (c:List Int) (d:Int) (e:List Int) (h:qa8 a b c d e=some ()):qb ZT (.fn 56) [vl qc a,.func (.func 59) [] [.ptr 0 0]] [.cells (ni2 b c d e)] (.func (.func 129) [] [.ptr 1 0,.ptr 2 0]) (.cells (ni2 b c d e)::(kO a [.cells [.func (.func 59) [] [.ptr 0 0]]])):=by
 unfold qa8 at h;refine Us Tryz.func56 rfl rfl (m:=6) rfl (rs:=[.tmp 4]) rfl (l:=(kAP a [(1,.func (.func 59) [] [.ptr 0 0])])) rfl ?_;intro B hB;refine sg fol [(2,.ptr 1 0),(3,.ptr 2 0)] (.cells (ni2 b c d e)::(kO a [.cells [.func (.func 59) [] [.ptr 0 0]]])) ?_;refine sh fol [(4,.func (.func 129) [] [.ptr 1 0,.ptr 2 0])] ?_;refine Goes.ret ?_;exact(gh2 [.func (.func 129) [] [.ptr 1 0,.ptr 2 0]] (qe4.refl _ _))
def qbl (N:Nat) (c:Str) (d:Str) (a:Str) (e:List qL) (f:Str) (g:Int) (h:List Int) (i:Int) (j:List Int):Option (Int×(List Int)×Int×(List Int)):=
 (je N a).bind fun k=>
 (yP N k (⟨(⟨g,h⟩:qp),(⟨i,j⟩:qp)⟩:qC)).bind fun l=>
 (jm N (⟨c,d,a,e,f⟩:qh) l).bind fun b=>
 some (b.1.Num.s,b.1.Num.w,b.1.Den.s,b.1.Den.w)
theorem qgi (N:Nat) (b:Str) (c:Str) (a:Str) (d:List qL) (e:Str) (f:Int) (g:List Int) (i:Int) (j:List Int) {r:Int} {s:List Int} {t:Int} {u:List Int} (h:qbl N b c a d e f g i j=some (r,s,t,u)):qb ZT (.fn 59) (kAD b c a d e [.ptr 0 0]) [.cells (ni2 f g i j)] (.agg (ni2 r s t u)) [.cells (ni2 f g i j)]:=by
 unfold qbl at h;refine Us Tryz.func59 rfl rfl (m:=17) rfl (rs:=[.cell 3 100]) rfl (l:=(kAE b c a d e (kV []))) rfl ?_;intro B hB;refine sg fol (kV [(2,.ptr 1 0),(3,.ptr 2 0)]) (.cells (ni2 f g i j)::(kA b c a d e (kC []))) ?_;obtain⟨v,o,h⟩:=bnd h;obtain⟨w,p,h⟩:=bnd h;obtain⟨k,q,h⟩:=bnd h;refine sq (gq fol [3,5,6,11] [(3,.ptr 2 0),(4,.ptr 3 0)] (.cells (ni2 f g i j)::(kA b c a d e (kC [.cells (nq1 k.1)]))) (ac (cv (jA N a o)) (ac (cv (qa5 N v (⟨(⟨f,g⟩:qp),(⟨i,j⟩:qp)⟩:qC) p)) (ac (cv (qai N (⟨b,c,a,d,e⟩:qh) w q)) (ac (hs (.run [3] (qx ZT 100 (.ptr 3 0) (.agg (nq1 k.1))) (.cells (ni2 f g i j)::(kA b c a d e (kC (kC [])))) .undef (.cells (ni2 f g i j)::(kA b c a d e (kC [.cells (nq1 k.1)]))) true) (qV (n:=4) (by kernel_rfl) rfl rfl rfl rfl (cac rfl (cac nvc (cac rfl (cac nvc can)))) rfl)) az)))) ?_);refine sq (gq fol [1] [(3,.ptr 2 0)] (.cells (ni2 f g i j)::(kA b c a d e [.cells (nq1 k.1),.cells (nq1 k.1)])) (ac (hs (.run [2] (qx ZT 100 (.ptr 2 0) (.agg (nq1 k.1))) (.cells (ni2 f g i j)::(kA b c a d e (kC [.cells (nq1 k.1)]))) .undef (.cells (ni2 f g i j)::(kA b c a d e [.cells (nq1 k.1),.cells (nq1 k.1)])) true) (qV (n:=4) (by kernel_rfl) rfl rfl rfl rfl (cac rfl (cac nvc (cac rfl (cac nvc can)))) rfl)) az) ?_);refine Goes.ret ?_;simp only[ZI,ZP]at h;obtain⟨rfl,rfl,rfl,rfl⟩:=h;exact(gh2 [.agg (nq1 k.1)] (Uc [] [some 0] (by rw[hB];rfl) rfl (.keep (.aggL (rc (.same nI) (rc (.same (qE ZU _)) (rc (.same nI) (rc (.same (qE ZU _)) rn))))) .nil) (.kb rfl (.same sn) .nil)))
def zw (N:Nat) (b:List qh) (c:Int) (d:List Int) (e:Int) (f:List Int):Nat->Int->(List Int)->Int->(List Int)->Int->Option (Int×(List Int)×Int×(List Int))
 |0,_,_,_,_,_=>none
 |K+1,p,q,r,s,g=>
  if g<(b.length:Int)then
  (idx b g).bind fun a=>
  (qbl N a.Name a.Density a.Twist a.Strength a.Dye c d e f).bind fun(h,i,j,k)=>
  (qbi N p q r s h i j k).bind fun(l,m,n,o)=>
  zw N b c d e f K l m n o (w64 (g+1))
  else
  some (p,q,r,s)
def xU (N:Nat) (a:Int) (b:List Int) (c:Int) (d:List Int) (e:List qh) (f:Int) (g:List Int) (h:Int) (i:List Int):Option (Int×(List Int)×Int×(List Int)):=
 (zw N e f g h i N a b c d 0).bind fun(j,k,l,m)=>
 some (j,k,l,m)
theorem qep (N:Nat) (J:Int) (K:List Int) (L:Int) (O:List Int) (d:List qh) (e:Int) (f:List Int) (g:Int) (j:List Int) {V:Int} {X:List Int} {Y:Int} {Z:List Int} (h:xU N J K L O d e f g j=some (V,X,Y,Z)):qb ZT (.fn 129) [.yld 0,.ptr 3 0,.ptr 4 0] (.loop .ready none (ofG 15 [(3,.ptr 1 0),(5,.ptr 2 0)]) qm.xp qm.x1 qm.x2:: .cells [.func (.func 53) [] []]:: .cells (ni2 J K L O)::(kO d [.cells [.func (.func 59) [] [.ptr 5 0]],.cells (ni2 e f g j)])) (.tuple []) (.loop .ready none (ofG 15 [(3,.ptr 1 0),(5,.ptr 2 0)]) qm.xp qm.x1 qm.x2:: .cells [.func (.func 53) [] []]:: .cells (ni2 V X Y Z)::(kO d [.cells [.func (.func 59) [] [.ptr 5 0]],.cells (ni2 e f g j)])):=by
 unfold xU at h;refine Us Tryz.func129 rfl rfl (m:=19) rfl (rs:=[]) rfl (l:=((0,.yld 0)::(1,.ptr 3 0)::(kBZ []))) rfl ?_;intro B hB;refine Goes.subQ ?_;refine sh fol ((0,.yld 0)::(kBZ [(6,vl qc d),(7,.i (d.length:Int)),(8,.i 0)])) ?_;refine Goes.block ?_;obtain⟨P,g14,h⟩:=bnd h;refine Goes.imp (Q:=fun x s'=>(x= .exit 0/\ ∃t u v w,(t,u,v,w)=P/\Sub s' (ofG 19 [],(.loop .ready none (ofG 15 [(3,.ptr 1 0),(5,.ptr 2 0)]) qm.xp qm.x1 qm.x2:: .cells [.func (.func 53) [] []]:: .cells (ni2 t u v w)::(kO d [.cells [.func (.func 59) [] [.ptr 5 0]],.cells (ni2 e f g j)]))))) ?_ ?_
 ·refine Ud (fun M s=> ∃(o:Int) (p:List Int) (q:Int) (r:List Int) (n:Int),s=(ofG 19 ((0,.yld 0)::(kBZ (kAF d (d.length:Int) n []))),(.loop .ready none (ofG 15 [(3,.ptr 1 0),(5,.ptr 2 0)]) qm.xp qm.x1 qm.x2:: .cells [.func (.func 53) [] []]:: .cells (ni2 o p q r)::(kO d [.cells [.func (.func 59) [] [.ptr 5 0]],.cells (ni2 e f g j)])))/\zw N d e f g j M o p q r n=some P) ?_ (m:=N) ⟨_,_,_,_,_,rfl,g14⟩;rintro M s ⟨o,p,q,r,n,rfl,g14⟩
  cases M with
  |zero=>simp only[zw]at g14;cases g14
  |succ M=>
   rw[zw]at g14;refine sh fol ((0,.yld 0)::(kBZ (kAF d (d.length:Int) n [(9,.bool (decide (n<(d.length:Int))))]))) ?_;refine sq ?_;refine ihD g14 (fun U g14=>?_) (fun U g14=>?_)
   ·refine Goes.skip ?_;refine sq (Goes.block ?_);obtain⟨a,k,g14⟩:=bnd g14;refine sq (gq fol [0,1] ((0,.yld 0)::(kBZ ((5,.ptr 6 0)::(kAF d (d.length:Int) n [])))) (.loop .ready none (ofG 15 [(3,.ptr 1 0),(5,.ptr 2 0)]) qm.xp qm.x1 qm.x2:: .cells [.func (.func 53) [] []]:: .cells (ni2 o p q r)::(kO d (.cells [.func (.func 59) [] [.ptr 5 0]]:: .cells (ni2 e f g j)::(kA a.Name a.Density a.Twist a.Strength a.Dye [])))) (ac (iv qho qc k) (ac (la qme qc k) az)) ?_);obtain⟨⟨y,z,A,C⟩,D,g14⟩:=bnd g14
    try dsimp only at g14
    obtain⟨⟨E,F,G,H⟩,I,g14⟩:=bnd g14
    try dsimp only at g14
    refine sq (gq fol [3,4] ((0,.yld 0)::(kBZ (kAF d (d.length:Int) n [(17,.bool false)]))) (.loop .ready none (ofG 15 [(3,.ptr 1 0),(5,.ptr 2 0)]) qm.xp qm.x1 qm.x2:: .cells [.func (.func 53) [] []]:: .cells (ni2 E F G H)::(kO d (.cells [.func (.func 59) [] [.ptr 5 0]]:: .cells (ni2 e f g j)::(kA a.Name a.Density a.Twist a.Strength a.Dye [])))) (ac (hs (.callH 59 (kAD a.Name a.Density a.Twist a.Strength a.Dye [.ptr 5 0]) (.loop .ready none (ofG 15 [(3,.ptr 1 0),(5,.ptr 2 0)]) qm.xp qm.x1 qm.x2:: .cells [.func (.func 53) [] []]:: .cells (ni2 o p q r)::(kO d (.cells [.func (.func 59) [] [.ptr 5 0]]:: .cells (ni2 e f g j)::(kA a.Name a.Density a.Twist a.Strength a.Dye [])))) [5] (.agg (ni2 y z A C)) (.loop .ready none (ofG 15 [(3,.ptr 1 0),(5,.ptr 2 0)]) qm.xp qm.x1 qm.x2:: .cells [.func (.func 53) [] []]:: .cells (ni2 o p q r)::(kO d (.cells [.func (.func 59) [] [.ptr 5 0]]:: .cells (ni2 e f g j)::(kA a.Name a.Density a.Twist a.Strength a.Dye []))))) (qbL [some 5] [none,none,none,none,none,some 0,none] (qgi N a.Name a.Density a.Twist a.Strength a.Dye e f g j D) (.kb rfl (.cells (rc (.same nI) (rc (.same (qE ZU _)) (rc (.same nI) (rc (.same (qE ZU _)) rn))))) .nil) rfl rfl (.old rfl rfl (.old rfl rfl (.old rfl rfl (.old rfl rfl (.old rfl rfl (.back rfl rfl (.cells (rc (.same nI) (rc (.same (qE ZU _)) (rc (.same nI) (rc (.same (qE ZU _)) rn))))) rfl (.old rfl rfl .nil))))))) (rc (.same (qF.agg sn)) (rc (.ptr rfl) rn)) (.same (qF.agg sn)) rfl)) (ac (hs (.callH (.rd 0) [.agg (ni2 y z A C)] (.loop .ready none (ofG 15 [(3,.ptr 1 0),(5,.ptr 2 0)]) qm.xp qm.x1 qm.x2:: .cells [.func (.func 53) [] []]:: .cells (ni2 o p q r)::(kO d (.cells [.func (.func 59) [] [.ptr 5 0]]:: .cells (ni2 e f g j)::(kA a.Name a.Density a.Twist a.Strength a.Dye [])))) [0,1,2] (.bool true) (.loop .ready none (ofG 15 [(3,.ptr 1 0),(5,.ptr 2 0)]) qm.xp qm.x1 qm.x2:: .cells [.func (.func 53) [] []]:: .cells (ni2 E F G H)::(kO d (.cells [.func (.func 59) [] [.ptr 5 0]]:: .cells (ni2 e f g j)::(kA a.Name a.Density a.Twist a.Strength a.Dye []))))) (qpc [some 0,some 1,some 2] [some 0,some 1,some 2,none,none,none,none] (qeK N o p q r y z A C I) rfl (.kb rfl (.loop rfl (.kp (.kp .nil))) (.kb rfl (.cells (rc (.same (qF.func sn sn)) rn)) (.kb rfl (.cells (rc (.same nI) (rc (.same (qE ZU _)) (rc (.same nI) (rc (.same (qE ZU _)) rn))))) .nil))) rfl rfl (.back rfl rfl (.loop rfl (.kp (.kp .nil))) rfl (.back rfl rfl (.cells (rc (.same (qF.func sn sn)) rn)) rfl (.back rfl rfl (.cells (rc (.same nI) (rc (.same (qE ZU _)) (rc (.same nI) (rc (.same (qE ZU _)) rn))))) rfl (.old rfl rfl (.old rfl rfl (.old rfl rfl (.old rfl rfl .nil))))))) (rc (.same (qF.agg sn)) rn) (.same nB) rfl)) az)) ?_);refine Ur (b:=false) (by kernel_rfl) (fun c=>(by cases c)) (fun _=>?_);refine Goes.skip ?_;refine gh fol ((0,.yld 0)::(kBZ (kAF d (d.length:Int) (w64 (n+1)) []))) ?_;exact⟨M,(ofG 19 ((0,.yld 0)::(kBZ (kAF d (d.length:Int) (w64 (n+1)) []))),(.loop .ready none (ofG 15 [(3,.ptr 1 0),(5,.ptr 2 0)]) qm.xp qm.x1 qm.x2:: .cells [.func (.func 53) [] []]:: .cells (ni2 E F G H)::(kO d [.cells [.func (.func 59) [] [.ptr 5 0]],.cells (ni2 e f g j)]))),Nat.lt_succ_self _,(Uc [] [some 0,some 1,some 2,some 3,some 4,some 5] (by rw[hB];rfl) rfl (.keep (.yld rfl) (.kp (.keep (.same (qf qc _)) (.keep (.same nI) (.keep (.same nI) .nil))))) (.kb rfl (.loop rfl (.kp (.kp .nil))) (.kb rfl (.same sn) (.kb rfl (.same sn) (.kb rfl (.same sn) (.kb rfl (.cells (rc (.funcL (sn) (rc (.ptr rfl) rn)) rn)) (.kb rfl (.same sn) .nil))))))),_,_,_,_,_,rfl,g14⟩
   refine Goes.exit ?_;obtain rfl:=si g14;exact⟨rfl,_,_,_,_,rfl,(Sub.keep [] rfl rfl)⟩
 rintro x s' ⟨rfl,t,u,v,w,rfl,hsub⟩
 try dsimp only at h
 simp only[ZI,ZP]at h;obtain⟨rfl,rfl,rfl,rfl⟩:=h;exact⟨_,hsub,(gh2 [] (qe4.refl _ _))⟩
def qb1 (N:Nat) (b:List qh) (c:Int) (d:List Int) (e:Int) (f:List Int):Option (Int×(List Int)×Int×(List Int)):=
 (qhb 0).bind fun a=>
 (xU N a.Num.s a.Num.w a.Den.s a.Den.w b c d e f).bind fun(h,i,j,g)=>
 some (h,i,j,g)
theorem qiB (N:Nat) (a:List qh) (b:Int) (c:List Int) (d:Int) (e:List Int) {q:Int} {r:List Int} {t:Int} {u:List Int} (h:qb1 N a b c d e=some (q,r,t,u)):qb ZT (.fn 55) [.func (.func 129) [] kAy,.func (.func 53) [] []] (kO a [.cells [.func (.func 59) [] [.ptr 2 0]],.cells (ni2 b c d e)]) (.agg (ni2 q r t u)) (kO a [.cells [.func (.func 59) [] [.ptr 2 0]],.cells (ni2 b c d e)]):=by
 unfold qb1 at h;refine Goes.fnHr Tryz.func55 rfl rfl (m:=15) rfl (rs:=[.cell 4 100]) rfl (l:=[(0,.func (.func 129) [] kAy),(1,.func (.func 53) [] [])]) rfl ?_;intro B hB hR;refine sg fol [(0,.func (.func 129) [] [.ptr 0 0,.ptr 1 0]),(3,.ptr 3 0),(4,.ptr 4 0)] (kO a (.cells [.func (.func 59) [] [.ptr 2 0]]:: .cells (ni2 b c d e):: .cells [.func (.func 53) [] []]::(kC []))) ?_;obtain⟨k,o,h⟩:=bnd h;refine sq (gq fol [0,2] ((0,.func (.func 129) [] [.ptr 0 0,.ptr 1 0])::(kA3 [])) (kO a (.cells [.func (.func 59) [] [.ptr 2 0]]:: .cells (ni2 b c d e):: .cells [.func (.func 53) [] []]::(kC [.cells (nq1 k)]))) (ac (cv (qf3 0 o)) (ac (hs (.run [5] (qx ZT 100 (.ptr 5 0) (.agg (nq1 k))) (kO a (.cells [.func (.func 59) [] [.ptr 2 0]]:: .cells (ni2 b c d e):: .cells [.func (.func 53) [] []]::(kC (kC [])))) .undef (kO a (.cells [.func (.func 59) [] [.ptr 2 0]]:: .cells (ni2 b c d e):: .cells [.func (.func 53) [] []]::(kC [.cells (nq1 k)]))) true) (qV (n:=4) (by kernel_rfl) rfl rfl rfl rfl (cac rfl (cac nvc (cac rfl (cac nvc can)))) rfl)) az)) ?_);refine sq ?_;refine sh fol (kA3 [(8,.func (.func 129) [] [.ptr 0 0,.ptr 1 0])]) ?_;refine Goes.block ?_;obtain⟨⟨g,i,j,f⟩,p,h⟩:=bnd h
 try dsimp only at h
 refine Goes.range fol hR (gf:=129) (first:=[]) (captured:=kAy) (v:= .tuple []) (A2:=(kO a (.cells [.func (.func 59) [] [.ptr 2 0]]:: .cells (ni2 b c d e):: .cells [.func (.func 53) [] []]::(kC [.cells (ni2 g i j f),.loop .ready none (ofG 15 [(3,.ptr 3 0),(5,.ptr 5 0)]) qm.xp qm.x1 qm.x2])))) (s':=(ofG 15 (kA3 [(8,.func (.func 129) [] [.ptr 0 0,.ptr 1 0])]),(kO a (.cells [.func (.func 59) [] [.ptr 2 0]]:: .cells (ni2 b c d e):: .cells [.func (.func 53) [] []]::(kC [.cells (ni2 g i j f),.loop .exhausted none (ofG 15 [(3,.ptr 3 0),(5,.ptr 5 0)]) qm.xp qm.x1 qm.x2]))))) (x:= .normal) (by kernel_rfl) (by kernel_rfl) (qlm (show(Obl.callH 129 (.yld 6::kAy) (kO a (.cells [.func (.func 59) [] [.ptr 2 0]]:: .cells (ni2 b c d e):: .cells [.func (.func 53) [] []]::(kC [.cells (nq1 k),.loop .ready none (ofG 15 [(3,.ptr 3 0),(4,.ptr 4 0),(5,.ptr 5 0),(8,.func (.func 129) [] [.ptr 0 0,.ptr 1 0])]) qm.xp qm.x1 qm.x2]))) [6,3,5,0,1,2] (.tuple []) (kO a (.cells [.func (.func 59) [] [.ptr 2 0]]:: .cells (ni2 b c d e):: .cells [.func (.func 53) [] []]::(kC [.cells (ni2 g i j f),.loop .ready none (ofG 15 [(3,.ptr 3 0),(5,.ptr 5 0)]) qm.xp qm.x1 qm.x2])))).Holds ZT from qbL [some 6,some 3,some 5,some 0,some 1,some 2] [some 3,some 4,some 5,some 1,none,some 2,some 0] (qep N k.Num.s k.Num.w k.Den.s k.Den.w a b c d e p) (.kb rfl (.loop rfl (.kp (.drop (.kp (.drop .nil))))) (.kb rfl (.cells (rc (.same (qF.func sn sn)) rn)) (.kb rfl (.cells (rc (.same nI) (rc (.same (qE ZU _)) (rc (.same nI) (rc (.same (qE ZU _)) rn))))) (.kb rfl (.cells (rc (.same (qf qc _)) rn)) (.kb rfl (.cells (rc (.funcL (sn) (rc (.ptr rfl) rn)) rn)) (.kb rfl (.cells (rc (.same nI) (rc (.same (qE ZU _)) (rc (.same nI) (rc (.same (qE ZU _)) rn))))) .nil)))))) rfl rfl (.back rfl rfl (.cells (rc (.same (qf qc _)) rn)) rfl (.back rfl rfl (.cells (rc (.funcL (sn) (rc (.ptr rfl) rn)) rn)) rfl (.back rfl rfl (.cells (rc (.same nI) (rc (.same (qE ZU _)) (rc (.same nI) (rc (.same (qE ZU _)) rn))))) rfl (.back rfl rfl (.cells (rc (.same (qF.func sn sn)) rn)) rfl (.old rfl rfl (.back rfl rfl (.cells (rc (.same nI) (rc (.same (qE ZU _)) (rc (.same nI) (rc (.same (qE ZU _)) rn))))) rfl (.back rfl rfl (.loop rfl (.kp (.kp .nil))) rfl .nil))))))) (rc (.yld rfl) (rc (.ptr rfl) (rc (.ptr rfl) rn))) (.same (qF.tuple sn)) rfl)) (by kernel_rfl) ?_;refine Goes.sub (show Sub (ofG 15 (kA3 [(8,.func (.func 129) [] [.ptr 0 0,.ptr 1 0])]),(kO a (.cells [.func (.func 59) [] [.ptr 2 0]]:: .cells (ni2 b c d e):: .cells [.func (.func 53) [] []]::(kC [.cells (ni2 g i j f),.loop .exhausted none (ofG 15 [(3,.ptr 3 0),(5,.ptr 5 0)]) qm.xp qm.x1 qm.x2])))) (ofG 15 (kA3 [(8,.func (.func 129) [] [.ptr 0 0,.ptr 1 0])]),(kO a (.cells [.func (.func 59) [] [.ptr 2 0]]:: .cells (ni2 b c d e):: .cells [.func (.func 53) [] []]::(kC [.cells (ni2 g i j f)]))))from(Uc [] [some 0,some 1,some 2,some 3,some 4,some 5] (by rw[hB];rfl) rfl (.kp (.kp (.kp (.keep (.funcL (sn) (rc (.ptr rfl) (rc (.ptr rfl) rn))) .nil)))) (.kb rfl (.same sn) (.kb rfl (.cells (rc (.funcL (sn) (rc (.ptr rfl) rn)) rn)) (.kb rfl (.same sn) (.kb rfl (.same sn) (.kb rfl (.same sn) (.kb rfl (.same sn) .nil)))))))) ?_;refine sq (gq fol [1] [(4,.ptr 4 0)] (kO a [.cells [.func (.func 59) [] [.ptr 2 0]],.cells (ni2 b c d e),.cells [.func (.func 53) [] []],.cells (ni2 g i j f),.cells (ni2 g i j f)]) (ac (hs (.run [4] (qx ZT 100 (.ptr 4 0) (.agg (ni2 g i j f))) (kO a (.cells [.func (.func 59) [] [.ptr 2 0]]:: .cells (ni2 b c d e):: .cells [.func (.func 53) [] []]::(kC [.cells (ni2 g i j f)]))) .undef (kO a [.cells [.func (.func 59) [] [.ptr 2 0]],.cells (ni2 b c d e),.cells [.func (.func 53) [] []],.cells (ni2 g i j f),.cells (ni2 g i j f)]) true) (qV (n:=4) (by kernel_rfl) rfl rfl rfl rfl (cac rfl (cac nvc (cac rfl (cac nvc can)))) rfl)) az) ?_);refine Goes.ret ?_;simp only[ZI,ZP]at h;obtain⟨rfl,rfl,rfl,rfl⟩:=h;exact(gh2 [.agg (ni2 g i j f)] (Uc [] [some 0,some 1,some 2] (by rw[hB];rfl) rfl (.keep (.aggL (rc (.same nI) (rc (.same (qE ZU _)) (rc (.same nI) (rc (.same (qE ZU _)) rn))))) .nil) (.kb rfl (.same sn) (.kb rfl (.cells (rc (.funcL (sn) (rc (.ptr rfl) rn)) rn)) (.kb rfl (.same sn) .nil)))))
def qaF (N:Nat) (l:List qh) (m:qC):Nat->Int->Str->Int->Option (Int×Str)
 |0,_,_,_=>none
 |K+1,c,d,a=>
  if a<(l.length:Int)then
  (((idx l a).bind fun b=>
  (je N b.Twist).bind fun f=>
  (yP N f m).bind fun g=>
  (jm N b g).bind fun h=>
  (ji N ([c,h.2]:List Int)).bind fun e=>
  (idx l 0).bind fun i=>
  if(!(b.Dye==i.Dye))=true then
  some (e,[])
  else
  some (e,d):Option (Int×Str))).bind fun(j,k)=>
  qaF N l m K j k (w64 (a+1))
  else
  some (c,d)
def qat (N:Nat) (name:Str) (l:List qh) (twist:Str) (factor:Str):Option (qh×Int):=
 (xe N name).bind fun y=>
 (ky (decide ((l.length:Int)=0)) 12).bind fun z=>
 (zX N l 12).bind fun A=>
 (zP N twist).bind fun B=>
 (ja N factor).bind fun C=>
 (ji N ([y,z,A,B,C]:List Int)).bind fun v=>
 if(!decide (v=0))=true then
 some ((⟨[],[],[],[],[]⟩:qh),v)
 else
 (je N factor).bind fun x=>
 (je N twist).bind fun a=>
 (qhb 1).bind fun f=>
 (yc N x f).bind fun g=>
 (ky (decide (g>0)) 3).bind fun h=>
 (idx l 0).bind fun i=>
 (qaF N l a N h i.Dye 0).bind fun(b,j)=>
 if(!decide (b=0))=true then
 some ((⟨[],[],[],[],[]⟩:qh),b)
 else
 (qa0 l).bind fun _=>
 (qbY N l).bind fun(k,m,n,o)=>
 (qbA N (⟨(⟨k,m⟩:qp),(⟨n,o⟩:qp)⟩:qC) x).bind fun p=>
 (xH N p).bind fun c=>
 (qa8 l a.Num.s a.Num.w a.Den.s a.Den.w).bind fun _=>
 (qb1 N l a.Num.s a.Num.w a.Den.s a.Den.w).bind fun(q,r,t,u)=>
 (xH N (⟨(⟨q,r⟩:qp),(⟨t,u⟩:qp)⟩:qC)).bind fun d=>
 (ji N ([c.2,d.2]:List Int)).bind fun e=>
 if(!decide (e=0))=true then
 some ((⟨[],[],[],[],[]⟩:qh),e)
 else
 some ((⟨name,c.1,twist,[(⟨[48],d.1⟩:qL)],j⟩:qh),0)
theorem qeG (N:Nat) (name:Str) (l:List qh) (twist:Str) (factor:Str) {res:qh×Int} (h:qat N name l twist factor=some res):qb ZT (.fn 9) (.str name::vl qc l::(kBB twist factor)) [] (.tuple (kAD res.1.Name res.1.Density res.1.Twist res.1.Strength res.1.Dye [.i res.2])) []:=by
 unfold qat at h;refine Ub Tryz.func9 rfl rfl (m:=120) rfl (rs:=[.cell 8 32,.tmp 9]) rfl (l:=(kM name l twist [(3,.str factor)])) rfl ?_;refine sg fol (kM name l twist ((3,.str factor)::(kAz []))) (kF []) ?_;refine sq ?_;obtain⟨A,e_r1,h⟩:=bnd h;obtain⟨B,e_r2,h⟩:=bnd h;obtain⟨z,e_r3,h⟩:=bnd h;obtain⟨C,e_r4,h⟩:=bnd h;obtain⟨D,e_r5,h⟩:=bnd h;obtain⟨r6,e_r6,h⟩:=bnd h;refine sq (gq fol [1,5,7,9,11,13] (kM name l twist ((3,.str factor)::(kAz [(10,.i r6)]))) (kF [.cells [.i A,.i B,.i z,.i C,.i D]]) (ac (cv (qfv N name e_r1)) (ac (cv (yY (decide ((l.length:Int)=0)) 12 e_r2)) (ac (hs (.call 44 [vl qc l,.i 12,.func (.func 45) [] []] [] [] [vl qc l,.i 12,.func (.func 45) [] []] (.i z)) (qpZ (FzL.cons (Uk (qB qc _ (nl rfl))) (FzL.cons (Uk tI) (FzL.cons (Fz.func FzL.nil FzL.nil) FzL.nil))) (qeC N l 12 e_r3) tI)) (ac (cv (qa6 N twist e_r4)) (ac (cv (qdE N factor e_r5)) (ac (hs (.call 41 [.slice 1 0 5 5 1] (kF [.cells [.i A,.i B,.i z,.i C,.i D]]) [1] [vl encI ([A,B,z,C,D]:List Int)] (.i r6)) (qdN (FzL.cons (Fz.lit rfl rfl (Ug (AllST.cons tI (AllST.cons tI (AllST.cons tI (AllST.cons tI (AllST.cons tI AllST.nil))))))) FzL.nil) (qae N ([A,B,z,C,D]:List Int) e_r6) tI rfl)) az)))))) ?_);refine sh fol (kM name l twist ((3,.str factor)::(kAz [(10,.i r6),(39,.bool (!decide (r6=0)))]))) ?_;refine ihB h (fun c7 h=>?_) (fun c7 h=>?_)
 ·refine sh fol (kAz [(9,.i r6)]) ?_;refine Goes.ret ?_;obtain rfl:=si h;exact(gw2 (kAW r6) (FzW.tuple (qd.cons (FzW.agg (qd.cons (Ua tS) (qd.cons (Ua tS) (qd.cons (Ua tS) (qd.cons (FzW.nilv (E:=qg)) (qd.cons (Ua tS) qd.nil)))))) (qd.cons (Ua tI) qd.nil))))
 refine Goes.skip ?_;obtain⟨c,e_r8,h⟩:=bnd h;obtain⟨b,e_r9,h⟩:=bnd h;refine sq (gq fol [1,3,6,7] (kM name l twist (kAz [(11,.ptr 2 0),(12,.ptr 3 0)])) (kF [.cells [.i A,.i B,.i z,.i C,.i D],.cells (nq1 c),.cells (nq1 b)]) (ac (cv (jA N factor e_r8)) (ac (cv (jA N twist e_r9)) (ac (hs (.run [2] (qx ZT 100 (.ptr 2 0) (.agg (nq1 c))) (kF (.cells [.i A,.i B,.i z,.i C,.i D]::(kC (kC [])))) .undef (kF (.cells [.i A,.i B,.i z,.i C,.i D]:: .cells (nq1 c)::(kC []))) true) (qV (n:=4) (by kernel_rfl) rfl rfl rfl rfl (cac rfl (cac nvc (cac rfl (cac nvc can)))) rfl)) (ac (hs (.run [3] (qx ZT 100 (.ptr 3 0) (.agg (nq1 b))) (kF (.cells [.i A,.i B,.i z,.i C,.i D]:: .cells (nq1 c)::(kC []))) .undef (kF [.cells [.i A,.i B,.i z,.i C,.i D],.cells (nq1 c),.cells (nq1 b)]) true) (qV (n:=4) (by kernel_rfl) rfl rfl rfl rfl (cac rfl (cac nvc (cac rfl (cac nvc can)))) rfl)) az)))) ?_);obtain⟨r10,H,h⟩:=bnd h;obtain⟨r11,I,h⟩:=bnd h;obtain⟨F,J,h⟩:=bnd h;refine sq (gr fol [1,2,4] (kM name l twist (kAz [(11,.ptr 2 0),(12,.ptr 3 0),(13,.i F)])) (ac (cv (qf3 1 H)) (ac (cv (qcg N c r10 I)) (ac (cv (yY (decide (r11>0)) 3 J)) az))) ?_);obtain⟨K,r,h⟩:=bnd h;refine sq (gr fol [1,3] (kM name l twist (kAz [(11,.ptr 2 0),(12,.ptr 3 0),(13,.i F),(14,.str K.Dye)])) (ac (iv qho qc r) (ac (lv 4 ce9 qc r rfl) az)) ?_);refine sq ?_;refine sh fol (kM name l twist (kAz [(11,.ptr 2 0),(12,.ptr 3 0),(13,.i F),(14,.str K.Dye),(55,vl qc l),(56,.i (l.length:Int)),(57,.i 0)])) ?_;refine Goes.block ?_;obtain⟨r19,g19,h⟩:=bnd h;refine Goes.imp (Q:=fun x s'=>(x= .exit 0/\ ∃p f,(p,f)=r19/\Sub s' (ofG 120 (kM name l twist (kW p f [])),(kF [.cells (nq1 c),.cells (nq1 b)])))) ?_ ?_
 ·refine Goes.sub (s':=(ofG 120 (kM name l twist (kW F K.Dye [(55,vl qc l),(56,.i (l.length:Int)),(57,.i 0)])),(kF [.cells (nq1 c),.cells (nq1 b)]))) (Uc [] [some 0,some 2,some 3] rfl rfl (.keep (.same nS) (.keep (.same (qf qc _)) (.keep (.same nS) (.kp (.kp (.kp (.keep (.same nI) (.keep (.same nS) (.keep (.same (qf qc _)) (.keep (.same nI) (.keep (.same nI) .nil))))))))))) (.kb rfl (.same sn) (.kb rfl (.same sn) (.kb rfl (.same sn) .nil)))) ?_;refine Ud (fun M s=> ∃(g:Int) (o:Str) (d:Int),s=(ofG 120 (kM name l twist (kW g o (kAd l (l.length:Int) d []))),(kF [.cells (nq1 c),.cells (nq1 b)]))/\qaF N l b M g o d=some r19) ?_ (m:=N) ⟨_,_,_,rfl,g19⟩;rintro M s ⟨g,o,d,rfl,g19⟩
  cases M with
  |zero=>simp only[qaF]at g19;cases g19
  |succ M=>
   rw[qaF]at g19;refine sh fol (kM name l twist (kW g o (kAd l (l.length:Int) d [(58,.bool (decide (d<(l.length:Int))))]))) ?_;refine sq ?_;refine ihD g19 (fun c20 g19=>?_) (fun c20 g19=>?_)
   ·refine Goes.skip ?_;refine sq ?_;obtain⟨r23,g23,g19⟩:=bnd g19;refine Goes.imp (Q:=fun x s'=>(x= .normal/\ ∃t u,(t,u)=r23/\Sub s' (ofG 120 (kM name l twist (kW t u (kAd l (l.length:Int) d []))),(kF [.cells (nq1 c),.cells (nq1 b)])))) ?_ ?_
    ·refine Goes.block ?_;obtain⟨a,v,g23⟩:=bnd g23;refine sq (gq fol [0,1] (kM name l twist (kW g o ((16,.ptr 3 0)::(kAd l (l.length:Int) d [])))) (kF (.cells (nq1 c):: .cells (nq1 b)::(kA a.Name a.Density a.Twist a.Strength a.Dye []))) (ac (iv qho qc v) (ac (la qme qc v) az)) ?_);obtain⟨r25,L,g23⟩:=bnd g23;obtain⟨r26,O,g23⟩:=bnd g23;obtain⟨j,P,g23⟩:=bnd g23;refine sq (gq fol [3,5,6,11] (kM name l twist (kW g o ((16,.ptr 3 0)::(18,.i j.2)::(kAd l (l.length:Int) d [])))) (kF (.cells (nq1 c):: .cells (nq1 b)::(kA a.Name a.Density a.Twist a.Strength a.Dye [.cells (nq1 j.1)]))) (ac (cv (jA N a.Twist L)) (ac (cv (qa5 N r25 b O)) (ac (cv (qai N a r26 P)) (ac (hs (.run [4] (qx ZT 100 (.ptr 4 0) (.agg (nq1 j.1))) (kF (.cells (nq1 c):: .cells (nq1 b)::(kA a.Name a.Density a.Twist a.Strength a.Dye (kC [])))) .undef (kF (.cells (nq1 c):: .cells (nq1 b)::(kA a.Name a.Density a.Twist a.Strength a.Dye [.cells (nq1 j.1)]))) true) (qV (n:=4) (by kernel_rfl) rfl rfl rfl rfl (cac rfl (cac nvc (cac rfl (cac nvc can)))) rfl)) az)))) ?_);obtain⟨G,U,g23⟩:=bnd g23;refine sq (gq fol [3] (kM name l twist (kW G o ((16,.ptr 3 0)::(kAd l (l.length:Int) d [])))) (kF (.cells (nq1 c):: .cells (nq1 b)::(kA a.Name a.Density a.Twist a.Strength a.Dye (.cells (nq1 j.1)::(kA5 g j.2))))) (ac (hs (.call 41 [.slice 5 0 2 2 1] (kF (.cells (nq1 c):: .cells (nq1 b)::(kA a.Name a.Density a.Twist a.Strength a.Dye (.cells (nq1 j.1)::(kA5 g j.2))))) [5] [vl encI ([g,j.2]:List Int)] (.i G)) (qdN (FzL.cons (Fz.lit rfl rfl (Ug (AllST.cons tI (AllST.cons tI AllST.nil)))) FzL.nil) (qae N ([g,j.2]:List Int) U) tI rfl)) az) ?_);obtain⟨x29,y,g23⟩:=bnd g23;refine sq (gr fol [3,5] (kM name l twist (kW G o (kAd l (l.length:Int) d [(81,.bool (!(a.Dye==x29.Dye)))]))) (ac (iv qho qc y) (ac (lv 4 ce9 qc y rfl) az)) ?_);refine ihB g23 (fun c30 g23=>?_) (fun c30 g23=>?_)
     ·refine gh fol (kM name l twist (kAz ((11,.ptr 1 0)::(12,.ptr 2 0)::(13,.i G)::(14,.str [])::(kAd l (l.length:Int) d [])))) ?_;obtain rfl:=si g23;exact⟨rfl,_,_,rfl,(Uc [] [some 0,some 1,some 2] rfl rfl (.keep (.same nS) (.keep (.same (qf qc _)) (.keep (.same nS) (.kp (.kp (.kp (.keep (.same nI) (.keep (.same nS) (.keep (.same (qf qc _)) (.keep (.same nI) (.keep (.same nI) .nil))))))))))) (.kb rfl (.same sn) (.kb rfl (.same sn) (.kb rfl (.same sn) .nil))))⟩
     refine Goes.skip ?_;obtain rfl:=si g23;exact⟨rfl,_,_,rfl,(Uc [] [some 0,some 1,some 2] rfl rfl (.keep (.same nS) (.keep (.same (qf qc _)) (.keep (.same nS) (.kp (.kp (.kp (.keep (.same nI) (.keep (.same nS) (.keep (.same (qf qc _)) (.keep (.same nI) (.keep (.same nI) .nil))))))))))) (.kb rfl (.same sn) (.kb rfl (.same sn) (.kb rfl (.same sn) .nil))))⟩
    rintro x s' ⟨rfl,t,u,rfl,hsub⟩
    try dsimp only at g19
    refine Goes.sub hsub ?_;refine gh fol (kM name l twist (kW t u (kAd l (l.length:Int) (w64 (d+1)) []))) ?_;exact⟨M,(ofG 120 (kM name l twist (kW t u (kAd l (l.length:Int) (w64 (d+1)) []))),(kF [.cells (nq1 c),.cells (nq1 b)])),Nat.lt_succ_self _,(Sub.refl _),_,_,_,rfl,g19⟩
   refine Goes.exit ?_;obtain rfl:=si g19;exact⟨rfl,_,_,rfl,(Sub.keep [0,1,2,8,11,12,13,14] rfl rfl)⟩
 rintro x s' ⟨rfl,p,f,rfl,hsub⟩
 try dsimp only at h
 refine Goes.sub hsub ?_;refine sq ?_;refine sh fol (kM name l twist (kW p f [(84,.bool (!decide (p=0)))])) ?_;refine ihB h (fun c31 h=>?_) (fun c31 h=>?_)
 ·refine sh fol (kAz [(9,.i p)]) ?_;refine Goes.ret ?_;obtain rfl:=si h;exact(gw2 (kAW p) (FzW.tuple (qd.cons (FzW.agg (qd.cons (Ua tS) (qd.cons (Ua tS) (qd.cons (Ua tS) (qd.cons (FzW.nilv (E:=qg)) (qd.cons (Ua tS) qd.nil)))))) (qd.cons (Ua tI) qd.nil))))
 refine Goes.skip ?_;obtain⟨_,V,h⟩:=bnd h;obtain⟨⟨n34,l35,n36,l37⟩,X,h⟩:=bnd h
 try dsimp only at h
 obtain⟨r38,Y,h⟩:=bnd h;obtain⟨e,Z,h⟩:=bnd h;refine sq (gq fol [1,2,4,5] (kM name l twist (kAz [(12,.ptr 2 0),(14,.str f),(19,.str e.1),(20,.i e.2)])) (kF (.cells (nq1 c):: .cells (nq1 b)::(kO l [.cells [.func (.func 57) [] []]]))) (ac (hs (.callH 56 [vl qc l,.func (.func 57) [] []] (kF [.cells (nq1 c),.cells (nq1 b)]) [] (.func (.func 129) [] [.ptr 3 0,.ptr 4 0]) (kF (.cells (nq1 c):: .cells (nq1 b)::(kO l [.cells [.func (.func 57) [] []]])))) (qbL [] [none,none,none,some 0,some 1] (qfR l V) .nil rfl rfl (.old rfl rfl (.old rfl rfl (.old rfl rfl (.new rfl rfl (.cells (rc (.same (qf qc _)) rn)) rfl (.new rfl rfl (.cells (rc (.same (qF.func sn sn)) rn)) rfl .nil))))) (rc (.same (qf qc _)) (rc (.same (qF.func sn sn)) rn)) (.funcL (sn) (rc (.ptr rfl) (rc (.ptr rfl) rn))) rfl)) (ac (hs (.callH 55 [.func (.func 129) [] [.ptr 3 0,.ptr 4 0],.func (.func 53) [] []] (kF (.cells (nq1 c):: .cells (nq1 b)::(kO l [.cells [.func (.func 57) [] []]]))) [3,4] (.agg (ni2 n34 l35 n36 l37)) (kF (.cells (nq1 c):: .cells (nq1 b)::(kO l [.cells [.func (.func 57) [] []]])))) (qbL [some 3,some 4] [none,none,none,some 0,some 1] (qiM N l X) (.kb rfl (.cells (rc (.same (qf qc _)) rn)) (.kb rfl (.cells (rc (.same (qF.func sn sn)) rn)) .nil)) rfl rfl (.old rfl rfl (.old rfl rfl (.old rfl rfl (.back rfl rfl (.cells (rc (.same (qf qc _)) rn)) rfl (.back rfl rfl (.cells (rc (.same (qF.func sn sn)) rn)) rfl .nil))))) (rc (.funcL (sn) (rc (.ptr rfl) (rc (.ptr rfl) rn))) (rc (.same (qF.func sn sn)) rn)) (.same (qF.agg sn)) rfl)) (ac (cv (qhq N (⟨(⟨n34,l35⟩:qp),(⟨n36,l37⟩:qp)⟩:qC) c Y)) (ac (cv (qbt N r38 Z)) az)))) ?_);obtain⟨_,a0,h⟩:=bnd h;obtain⟨⟨n42,l43,n44,l45⟩,a1,h⟩:=bnd h
 try dsimp only at h
 obtain⟨k,a2,h⟩:=bnd h;refine sq (gq fol [2,3,4] (kBG name ((2,.str twist)::(kAz [(14,.str f),(19,.str e.1),(20,.i e.2),(21,.str k.1),(22,.i k.2)]))) (kF (.cells (nq1 c):: .cells (nq1 b)::(kO l (.cells [.func (.func 57) [] []]::(kO l [.cells [.func (.func 59) [] [.ptr 2 0]]]))))) (ac (hs (.callH 56 [vl qc l,.func (.func 59) [] [.ptr 2 0]] (kF (.cells (nq1 c):: .cells (nq1 b)::(kO l [.cells [.func (.func 57) [] []]]))) [2] (.func (.func 129) [] [.ptr 5 0,.ptr 6 0]) (kF (.cells (nq1 c):: .cells (nq1 b)::(kO l (.cells [.func (.func 57) [] []]::(kO l [.cells [.func (.func 59) [] [.ptr 2 0]]])))))) (qbL [some 2] [none,none,some 0,none,none,some 1,some 2] (qfM l b.Num.s b.Num.w b.Den.s b.Den.w a0) (.kb rfl (.cells (rc (.same nI) (rc (.same (qE ZU _)) (rc (.same nI) (rc (.same (qE ZU _)) rn))))) .nil) rfl rfl (.old rfl rfl (.old rfl rfl (.back rfl rfl (.cells (rc (.same nI) (rc (.same (qE ZU _)) (rc (.same nI) (rc (.same (qE ZU _)) rn))))) rfl (.old rfl rfl (.old rfl rfl (.new rfl rfl (.cells (rc (.same (qf qc _)) rn)) rfl (.new rfl rfl (.cells (rc (.funcL (sn) (rc (.ptr rfl) rn)) rn)) rfl .nil))))))) (rc (.same (qf qc _)) (rc (.funcL (sn) (rc (.ptr rfl) rn)) rn)) (.funcL (sn) (rc (.ptr rfl) (rc (.ptr rfl) rn))) rfl)) (ac (hs (.callH 55 [.func (.func 129) [] [.ptr 5 0,.ptr 6 0],.func (.func 53) [] []] (kF (.cells (nq1 c):: .cells (nq1 b)::(kO l (.cells [.func (.func 57) [] []]::(kO l [.cells [.func (.func 59) [] [.ptr 2 0]]]))))) [5,6,2] (.agg (ni2 n42 l43 n44 l45)) (kF (.cells (nq1 c):: .cells (nq1 b)::(kO l (.cells [.func (.func 57) [] []]::(kO l [.cells [.func (.func 59) [] [.ptr 2 0]]])))))) (qbL [some 5,some 6,some 2] [none,none,some 2,none,none,some 0,some 1] (qiB N l b.Num.s b.Num.w b.Den.s b.Den.w a1) (.kb rfl (.cells (rc (.same (qf qc _)) rn)) (.kb rfl (.cells (rc (.funcL (sn) (rc (.ptr rfl) rn)) rn)) (.kb rfl (.cells (rc (.same nI) (rc (.same (qE ZU _)) (rc (.same nI) (rc (.same (qE ZU _)) rn))))) .nil))) rfl rfl (.old rfl rfl (.old rfl rfl (.back rfl rfl (.cells (rc (.same nI) (rc (.same (qE ZU _)) (rc (.same nI) (rc (.same (qE ZU _)) rn))))) rfl (.old rfl rfl (.old rfl rfl (.back rfl rfl (.cells (rc (.same (qf qc _)) rn)) rfl (.back rfl rfl (.cells (rc (.funcL (sn) (rc (.ptr rfl) rn)) rn)) rfl .nil))))))) (rc (.funcL (sn) (rc (.ptr rfl) (rc (.ptr rfl) rn))) (rc (.same (qF.func sn sn)) rn)) (.same (qF.agg sn)) rfl)) (ac (cv (qbt N (⟨(⟨n42,l43⟩:qp),(⟨n44,l45⟩:qp)⟩:qC) a2)) az))) ?_);refine sq ?_;obtain⟨q,a3,h⟩:=bnd h;refine sq (gq fol [3] (kBG name ((2,.str twist)::(kAz [(14,.str f),(19,.str e.1),(21,.str k.1),(23,.i q)]))) (kF (.cells (nq1 c):: .cells (nq1 b)::(kO l (.cells [.func (.func 57) [] []]::(kO l (.cells [.func (.func 59) [] [.ptr 2 0]]::(kA5 e.2 k.2))))))) (ac (hs (.call 41 [.slice 7 0 2 2 1] (kF (.cells (nq1 c):: .cells (nq1 b)::(kO l (.cells [.func (.func 57) [] []]::(kO l (.cells [.func (.func 59) [] [.ptr 2 0]]::(kA5 e.2 k.2))))))) [7] [vl encI ([e.2,k.2]:List Int)] (.i q)) (qdN (FzL.cons (Fz.lit rfl rfl (Ug (AllST.cons tI (AllST.cons tI AllST.nil)))) FzL.nil) (qae N ([e.2,k.2]:List Int) a3) tI rfl)) az) ?_);refine sh fol (kBG name ((2,.str twist)::(kAz [(14,.str f),(19,.str e.1),(21,.str k.1),(23,.i q),(109,.bool (!decide (q=0)))]))) ?_;refine ihB h (fun c48 h=>?_) (fun c48 h=>?_)
 ·refine sh fol (kAz [(9,.i q)]) ?_;refine Goes.ret ?_;obtain rfl:=si h;exact(gw2 (kAW q) (FzW.tuple (qd.cons (FzW.agg (qd.cons (Ua tS) (qd.cons (Ua tS) (qd.cons (Ua tS) (qd.cons (FzW.nilv (E:=qg)) (qd.cons (Ua tS) qd.nil)))))) (qd.cons (Ua tI) qd.nil))))
 refine Goes.skip ?_;refine sg fol (kAz [(9,.i 0)]) (.cells [.str name,.str e.1,.str twist,.slice 8 0 1 1 2,.str f]:: .cells (nq1 c):: .cells (nq1 b)::(kO l (.cells [.func (.func 57) [] []]::(kO l [.cells [.func (.func 59) [] [.ptr 2 0]],.cells [.i e.2,.i k.2],.cells [.str [48],.str k.1]])))) ?_;refine Goes.ret ?_;obtain rfl:=si h;exact(gw2 [.agg [.str name,.str e.1,.str twist,.slice 8 0 1 1 2,.str f],.i 0] (FzW.tuple (qd.cons (FzW.agg (qd.cons (Ua tS) (qd.cons (Ua tS) (qd.cons (Ua tS) (qd.cons (FzW.fz (Fz.lit rfl rfl (Ug (AllST.cons tS (AllST.cons tS AllST.nil))))) (qd.cons (Ua tS) qd.nil)))))) (qd.cons (Ua tI) qd.nil))))
def vN (b:Str):Nat->Int->Option (Unit⊕Int)
 |0,_=>none
 |K+1,a=>
  if a<(b.length:Int)then
  (idx b a).bind fun c=>
  if(c.toNat:Int)=47 then
  some (.inr a)
  else
  vN b K (w64 (a+1))
  else
  some (.inl ())
def yO (N:Nat) (a:Str):Option Int:=
 (vN a N 0).bind (fun
 |(.inl ())=>
 some (a.length:Int)
 |(.inr b)=>
 some b)
theorem qaz (N:Nat) (a:Str) {res:Int} (h:yO N a=some res):qb ZT (.fn 82) [.str a] [] (.i res) []:=by
 unfold yO at h;refine Ub Tryz.func82 rfl rfl (m:=17) rfl (rs:=[.tmp 2]) rfl (l:=(kAM a)) rfl ?_;refine sh fol (kAM a) ?_;refine sq ?_;refine sh fol (kBG a [(3,.i 0)]) ?_;refine Goes.block ?_;obtain⟨d,g2,h⟩:=bnd h;refine Goes.imp (Q:=fun x s'=>(x= .exit 0/\(.inl ())=d/\Sub s' (ofG 17 (kAM a),[]))\/(x= .ret/\ ∃e,(.inr e)=d/\zh ZT [.tmp 2] (.i e) .ret s')) ?_ ?_
 ·refine Ud (fun M s=> ∃(b:Int),s=(ofG 17 (kAH a b []),[])/\vN a M b=some d) ?_ (m:=N) ⟨_,rfl,g2⟩;rintro M s ⟨b,rfl,g2⟩
  cases M with
  |zero=>simp only[vN]at g2;cases g2
  |succ M=>
   rw[vN]at g2;refine sq ?_;refine sh fol (kAH a b [(7,.bool (decide (b<(a.length:Int))))]) ?_;refine ihD g2 (fun g g2=>?_) (fun g g2=>?_)
   ·refine Goes.skip ?_;refine sq (Goes.block ?_);obtain⟨f,c,g2⟩:=bnd g2;refine sq (gr fol [2] (kAH a b (kBC (decide ((f.toNat:Int)=47)))) (ac (hs (.done (.opt (yw ZT 9 (.str a) (.i b))) (.int .u8 (f.toNat:Int))) (qaH st9 c)) az) ?_);refine ihD g2 (fun j g2=>?_) (fun j g2=>?_)
    ·refine sh fol (kBL b) ?_;refine Goes.ret ?_;obtain rfl:=si g2;exact Or.inr (⟨rfl,_,rfl,(gw2 [.i b] (Ua tI))⟩)
    refine Goes.skip ?_;refine gh fol (kAH a (w64 (b+1)) []) ?_;exact⟨M,(ofG 17 (kAH a (w64 (b+1)) []),[]),Nat.lt_succ_self _,(Sub.refl _),_,rfl,g2⟩
   refine Goes.exit ?_;obtain rfl:=si g2;exact Or.inl (⟨rfl,rfl,(Sub.keep [0] rfl rfl)⟩)
 rintro x s' (⟨rfl,rfl,hsub⟩|⟨rfl,k,rfl,hret⟩)
 ·try dsimp only at h
  refine Goes.sub hsub ?_;refine sh fol (kBL (a.length:Int)) ?_;refine Goes.ret ?_;obtain rfl:=si h;exact(gw2 [.i (a.length:Int)] (Ua tI))
 try dsimp only at h
 obtain rfl:=si h;exact hret
def y8:Nat->(List Int)->Option (List Int)
 |0,_=>none
 |K+1,a=>
  (if(a.length:Int)>0 then
  (idx a (w64 ((a.length:Int)-1))).bind fun b=>
  some (decide (b=0))
  else
  some false:Option Bool).bind fun c=>
  if c=true then
  (cut a 0 (w64 ((a.length:Int)-1))).bind fun d=>
  y8 K d
  else
  some a
def yz (N:Nat) (w:List Int):Option (List Int):=
 (y8 N w).bind fun a=>
 some a
theorem xg (N:Nat) (w:List Int) {res:List Int} (h:yz N w=some res):qb ZT (.fn 201) [vl encI w] [] (vl encI res) []:=by
 unfold yz at h;refine Ub Tryz.func201 rfl rfl (m:=21) rfl (rs:=[.tmp 2]) rfl (l:=(kBU w [])) rfl ?_;refine sh fol (kBU w []) ?_;refine sq (Goes.block ?_);obtain⟨j,g3,h⟩:=bnd h;refine Goes.imp (Q:=fun x s'=>(x= .exit 0/\ ∃d,d=j/\Sub s' (ofG 21 (kBU d []),[]))) ?_ ?_
 ·refine Ud (fun M s=> ∃(b:List Int),s=(ofG 21 (kBU b []),[])/\y8 M b=some j) ?_ (m:=N) ⟨_,rfl,g3⟩;rintro M s ⟨b,rfl,g3⟩
  cases M with
  |zero=>simp only[y8]at g3;cases g3
  |succ M=>
   rw[y8]at g3;refine sq ?_;refine sq ?_;obtain⟨k,a,g3⟩:=bnd g3;refine Ue (s':=(ofG 21 (kBU b [(14,.bool k)]),[])) ?_ ?_
   ·rcases wyD a with⟨f,a⟩|⟨f,a⟩
    ·obtain⟨n,c,a⟩:=bnd a;obtain rfl:=si a;exact tr fol [3,8,9] (kBU b [(14,.bool (decide (n=0)))]) (ac (gw f) (ac (iv vz encI c) (ac (lv 0 ce3 encI c rfl) az)))
    obtain rfl:=si a;exact tr fol [3] (kBU b [(14,.bool false)]) (ac (gw f) az)
   refine ihB g3 (fun o g3=>?_) (fun o g3=>?_)
   ·refine Goes.skip ?_;refine Goes.block ?_;obtain⟨g,e,g3⟩:=bnd g3;refine gr fol [4] (kBU g []) (ac (hs (.done (.opt (kg ZT 80 (vl encI b) none (some (.i (w64 ((b.length:Int)-1)))) none)) (vl encI g)) (qjn vz (E:=encI) rfl none (some (w64 ((b.length:Int)-1))) e)) az) ?_;exact⟨M,(ofG 21 (kBU g []),[]),Nat.lt_succ_self _,(Sub.refl _),_,rfl,g3⟩
   refine Goes.exit ?_;obtain rfl:=si g3;exact⟨rfl,_,rfl,(Sub.keep [0] rfl rfl)⟩
 rintro x s' ⟨rfl,d,rfl,hsub⟩;refine Goes.sub hsub ?_;refine sh fol [(2,vl encI d)] ?_;refine Goes.ret ?_;obtain rfl:=si h;exact(gw2 [vl encI d] (Ua (qB encI _ (nl rfl))))
def zO (N:Nat) (neg:Bool) (w:List Int):Option qI:=
 (yz N w).bind fun a=>
 (if neg=true then
 some (decide ((a.length:Int)>0))
 else
 some false:Option Bool).bind fun b=>
 some (⟨b,a⟩:qI)
theorem jf (N:Nat) (neg:Bool) (w:List Int) {res:qI} (h:zO N neg w=some res):qb ZT (.fn 140) (kAl neg w) [] (.agg (kAl res.neg res.w)) []:=by
 unfold zO at h;refine Ub Tryz.func140 rfl rfl (m:=15) rfl (rs:=[.cell 4 126]) rfl (l:=[(0,.bool neg),(1,vl encI w)]) rfl ?_;refine sg fol ((0,.bool neg)::(1,vl encI w)::(kAs [])) (kS []) ?_;obtain⟨b,c,h⟩:=bnd h;refine sq (gr fol [1] ((0,.bool neg)::(1,vl encI b)::(kAs [])) (ac (cv (xg N w c)) az) ?_);refine sq ?_;obtain⟨e,a,h⟩:=bnd h;refine Ue (s':=(ofG 15 (kAs []),(kAc e b []))) ?_ ?_
 ·rcases wyB a with⟨d,a⟩|⟨d,a⟩
  ·obtain rfl:=si a;exact qeg.rq fol [1] (kAs []) (kAc (decide ((b.length:Int)>0)) b []) (ac (gw d) az)
  obtain rfl:=si a;exact qeg.rq fol [1] (kAs []) [.cells [.bool false,vl encI b]] (ac (gw d) az)
 refine Goes.ret ?_;obtain rfl:=si h;exact(gw2 [.agg (kAl e b)] (FzW.agg (qd.cons (Ua tB) (qd.cons (Ua (qB encI _ (nl rfl))) qd.nil))))
def vL:Nat->(List Int)->Int->Option (List Int)
 |0,_,_=>none
 |K+1,b,a=>
  if(!decide (a=0))=true then
  ((if(a.tmod 1000000000)<0 then
  some (w64 (0-(a.tmod 1000000000)))
  else
  some (a.tmod 1000000000):Option Int)).bind fun c=>
  (app 8 b [c]).bind fun d=>
  vL K d (w64 (a.tdiv 1000000000))
  else
  some b
def qaA (N:Nat) (n:Int):Option qI:=
 (vL N ([]:List Int) n).bind fun b=>
 (zO N (decide (n<0)) b).bind fun a=>
 some a
theorem qcO (N:Nat) (n:Int) {res:qI} (h:qaA N n=some res):qb ZT (.fn 133) [.i n] [] (.agg (kAl res.neg res.w)) []:=by
 unfold qaA at h;refine Ub Tryz.func133 rfl rfl (m:=25) rfl (rs:=[.cell 2 126]) rfl (l:=[(0,.i n)]) rfl ?_;refine sg fol ((0,.i n)::(kQ [])) (kS []) ?_;refine sh fol ((0,.i n)::(kQ [(3,.nilslice)])) ?_;refine sh fol ((0,.i n)::(kQ ((3,.nilslice)::(kBR (decide (n<0)))))) ?_;refine sq (Goes.block ?_);obtain⟨k,g4,h⟩:=bnd h;refine Goes.imp (Q:=fun x s'=>(x= .exit 0/\ ∃d,d=k/\Sub s' (ofG 25 (kQ (kAu d (decide (n<0)) [])),(kS (kD d []))))) ?_ ?_
 ·refine Goes.sub (s':=(ofG 25 ((0,.i n)::(kQ ((3,.gslice 1 ([]:List Int).length 1)::(kBR (decide (n<0)))))),(kS kBQ))) (Uc [] [some 0,none] rfl rfl (.keep (.same nI) (.kp (.keep .nil (.keep (.same nB) .nil)))) (.kb rfl (.same sn) (.fresh .nil))) ?_;refine Ud (fun M s=> ∃(c:List Int) (b:Int),s=(ofG 25 ((0,.i b)::(kQ (kAu c (decide (n<0)) []))),(kS (kD c [])))/\vL M c b=some k) ?_ (m:=N) ⟨_,_,rfl,g4⟩;rintro M s ⟨c,b,rfl,g4⟩
  cases M with
  |zero=>simp only[vL]at g4;cases g4
  |succ M=>
   rw[vL]at g4;refine sq ?_;refine sh fol ((0,.i b)::(kQ (kAu c (decide (n<0)) [(9,.bool (!decide (b=0)))]))) ?_;refine ihB g4 (fun o g4=>?_) (fun o g4=>?_)
   ·refine Goes.skip ?_;refine Goes.block ?_;refine sh fol ((0,.i b)::(kQ (kAu c (decide (n<0)) (kA8 (b.tmod 1000000000))))) ?_;refine sq ?_;refine sh fol ((0,.i b)::(kQ (kAu c (decide (n<0)) ((5,.i (b.tmod 1000000000))::(kBC (decide ((b.tmod 1000000000)<0))))))) ?_;obtain⟨p,g7,g4⟩:=bnd g4;refine Goes.imp (Q:=fun x s'=>(x= .normal/\ ∃e,e=p/\Sub s' (ofG 25 ((0,.i b)::(kQ (kAu c (decide (n<0)) (kA8 e)))),(kS (kD c []))))) ?_ ?_
    ·refine ihD g7 (fun q g7=>?_) (fun q g7=>?_)
     ·refine gh fol ((0,.i b)::(kQ (kAu c (decide (n<0)) (kA8 (w64 (0-(b.tmod 1000000000))))))) ?_;obtain rfl:=si g7;exact⟨rfl,_,rfl,(Sub.refl _)⟩
     refine Goes.skip ?_;obtain rfl:=si g7;exact⟨rfl,_,rfl,(Sub.keep [0,2,3,4,5] rfl rfl)⟩
    rintro x s' ⟨rfl,e,rfl,hsub⟩;refine Goes.sub hsub ?_;obtain⟨f,j,g4⟩:=bnd g4;refine sq (gq fol [3] ((0,.i b)::(kQ ((3,.gslice 3 f.length 1)::(kBR (decide (n<0)))))) (kS (kBS e (kD f []))) (ac (hs (.run [1,2] (yF ZT [80,80] (.gslice 1 c.length 1) (.slice 2 0 1 1 1)) (kS (kD c [.cells [.i e]])) (.gslice 3 f.length 1) (kS (kBS e (kD f []))) true) (qa4 vz (E:=encI) rfl (qgj (E:=encI) (ys:=[e]) rfl rfl rfl rfl) (qi6 (E:=encI) (l:=c) rfl rfl rfl j rfl))) az) ?_);refine gh fol ((0,.i (w64 (b.tdiv 1000000000)))::(kQ ((3,.gslice 3 f.length 1)::(kBR (decide (n<0)))))) ?_;exact⟨M,(ofG 25 ((0,.i (w64 (b.tdiv 1000000000)))::(kQ (kAu f (decide (n<0)) []))),(kS (kD f []))),Nat.lt_succ_self _,(Uc [] [some 0,some 3] rfl rfl (.keep (.same nI) (.kp (.keep (.gslice rfl) (.keep (.same nB) .nil)))) (.kb rfl (.same sn) (.ks .nil))),_,_,rfl,g4⟩
   refine Goes.exit ?_;obtain rfl:=si g4;exact⟨rfl,_,rfl,(Sub.keep [2,3,4] rfl rfl)⟩
 rintro x s' ⟨rfl,d,rfl,hsub⟩;refine Goes.sub hsub ?_;obtain⟨a,g,h⟩:=bnd h;refine sq (gq fol [2] (kQ []) (kAc a.neg a.w (kAe d)) (ac (hs (.callF 140 [.bool (decide (n<0)),.gslice 1 d.length 1] (kS (kD d [])) [1] (kAl (decide (n<0)) d) (.agg (kAl a.neg a.w))) (qaV (FzL.cons (Uk tB) (FzL.cons (Fz.gs (E:=encI) rfl rfl (nl rfl)) FzL.nil)) (jf N (decide (n<0)) d g) (Still.agg (AllST.cons tB (AllST.cons (qB encI _ (nl rfl)) AllST.nil))))) az) ?_);refine Goes.sub (show Sub (ofG 25 (kQ []),(kAc a.neg a.w (kAe d))) (ofG 25 (kQ []),(kAc a.neg a.w []))from(Uc [] [some 0] rfl rfl (.kp .nil) (.kb rfl (.same sn) .nil))) ?_;refine Goes.ret ?_;obtain rfl:=si h;exact(gw2 [.agg (kAl a.neg a.w)] (FzW.agg (qd.cons (Ua tB) (qd.cons (Ua (qB encI _ (nl rfl))) qd.nil))))
end Go.Av
