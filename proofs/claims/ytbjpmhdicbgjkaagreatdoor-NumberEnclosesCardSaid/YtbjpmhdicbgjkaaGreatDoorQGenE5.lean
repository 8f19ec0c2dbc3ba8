/-
  Walks of functions: what each computes, as a plain function.
-/
import Derived.Test.YtbjpmhdicbgjkaaGreatDoorQGenE4
noncomputable section
namespace Go.Av
open Go.Proofs Go.RowKit
set_option linter.unusedSectionVars false
set_option linter.unusedVariables false
set_option linter.unusedSimpArgs false
set_option maxRecDepth 100000
def xy (N:Nat) (low:qh) (high:qh):Option (qA×Int):=
 ((xk N low).bind fun a=>
 if a=true then
 some true
 else
 (xk N high).bind fun b=>
 some b:Option Bool).bind fun c=>
 if c=true then
 some ((⟨[],[]⟩:qA),4)
 else
 (xX N low).bind fun d=>
 (xX N high).bind fun e=>
 some ((⟨d,e⟩:qA),0)
theorem qa7 (N:Nat) (low:qh) (high:qh) {res:qA×Int} (h:xy N low high=some res):qc ZT (.fn 101) [.agg (nq1 low),.agg (nq1 high)] [] (.tuple (kS res.1.Low res.1.High [.i res.2])) []:=by
 unfold xy at h
 refine Ub Tryz.func101 rfl rfl (m:=18) rfl (rs:=[.cell 4 44,.tmp 5]) rfl (l:=[(0,.agg (nq1 low)),(1,.agg (nq1 high))]) rfl ?_
 refine sg fol (kH []) (.cells (nq1 low):: .cells (nq1 high)::(kN [])) ?_
 refine sq ?_
 refine sq ?_
 obtain⟨k,a,h⟩:=bnd h
 refine Goes.cut (s':=(ofG 18 (kH [(11,.bool k)]),(.cells (nq1 low):: .cells (nq1 high)::(kN [])))) ?_ ?_
 ·obtain⟨p,b,a⟩:=bnd a
  rcases wyB a with⟨f,a⟩|⟨f,a⟩
  ·obtain rfl:=si a
   exact tr fol [1,2] (kH [(11,.bool true)]) (ac (cv (qbe N low b)) (ac (gw f) az))
  obtain⟨n,c,a⟩:=bnd a
  obtain rfl:=si a
  exact tr fol [1,2,4] (kH [(11,.bool n)]) (ac (cv (qbe N low b)) (ac (gw f) (ac (cv (qbe N high c)) az)))
 refine ihB h (fun o h=>?_) (fun o h=>?_)
 ·refine sh fol (kAU [(5,.i 4)]) ?_
  refine Goes.ret ?_
  obtain rfl:=si h
  exact(gw2 (kBZ [.i 4]) (FzW.tuple (qb.cons (FzW.agg (qb.cons (Ua tS) (qb.cons (Ua tS) qb.nil))) (qb.cons (Ua tI) qb.nil))))
 refine Goes.skip ?_
 obtain⟨g,d,h⟩:=bnd h
 obtain⟨j,e,h⟩:=bnd h
 refine sq (gq fol [1,3] (kAU [(5,.i 0)]) (.cells (nq1 low):: .cells (nq1 high)::(kB g j [])) (ac (cv (qdk N low d)) (ac (cv (qdk N high e)) az)) ?_)
 refine Goes.ret ?_
 obtain rfl:=si h
 exact(gw2 (kS g j [.i 0]) (FzW.tuple (qb.cons (FzW.agg (qb.cons (Ua tS) (qb.cons (Ua tS) qb.nil))) (qb.cons (Ua tI) qb.nil))))
def zM (N:Nat) (a:qA):Option Int:=
 (qay N ([a.Low,a.High]:List Str)).bind fun b=>
 (if b=0 then
 (xg N a.Low a.High).bind fun c=>
 some (decide (c>0))
 else
 some false:Option Bool).bind fun d=>
 ((if d=true then
 some 11
 else
 some b:Option Int)).bind fun e=>
 some e
theorem qB (N:Nat) (a:qA) {res:Int} (h:zM N a=some res):qc ZT (.fn 26) [.agg (kAR a.Low a.High)] [] (.i res) []:=by
 unfold zM at h
 refine Ub Tryz.func26 rfl rfl (m:=21) rfl (rs:=[.tmp 2]) rfl (l:=[(0,.agg [.str a.Low,.str a.High])]) rfl ?_
 refine sg fol (kA2 []) (kB a.Low a.High []) ?_
 obtain⟨c,d,h⟩:=bnd h
 refine sq (gq fol [5] (kA2 (kBS c)) (kB a.Low a.High (kB a.Low a.High [])) (ac (hs (.call 78 [.slice 1 0 2 2 1] (kB a.Low a.High (kB a.Low a.High [])) [1] [vl encS ([a.Low,a.High]:List Str)] (.i c)) (qcW (FzL.cons (Fz.lit rfl rfl (Ud (AllST.cons tS (AllST.cons tS AllST.nil)))) FzL.nil) (qfK N ([a.Low,a.High]:List Str) d) tI rfl)) az) ?_)
 refine sq ?_
 refine sq ?_
 obtain⟨j,b,h⟩:=bnd h
 refine Goes.cut (s':=(ofG 21 [(3,.i c),(19,.bool j)],(kB a.Low a.High (kB a.Low a.High [])))) ?_ ?_
 ·rcases wyD b with⟨g,b⟩|⟨g,b⟩
  ·obtain⟨k,e,b⟩:=bnd b
   obtain rfl:=si b
   exact tr fol [2,7] [(3,.i c),(19,.bool (decide (k>0)))] (ac (gw g) (ac (cv (qaF N a.Low a.High e)) az))
  obtain rfl:=si b
  exact tr fol [2] [(3,.i c),(19,.bool false)] (ac (gw g) az)
 obtain⟨n,g7,h⟩:=bnd h
 refine Goes.imp (Q:=fun x s'=>(x= .normal/\ ∃f,f=n/\Sub s' (ofG 21 (kBS f),[]))) ?_ ?_
 ·refine ihB g7 (fun o g7=>?_) (fun o g7=>?_)
  ·refine gh fol [(3,.i 11)] ?_
   obtain rfl:=si g7
   exact⟨rfl,_,rfl,(Sub.norm [] [] rfl rfl (.keep (.same nI) .nil) .nil)⟩
  refine Goes.skip ?_
  obtain rfl:=si g7
  exact⟨rfl,_,rfl,(Sub.norm [] [] rfl rfl (.keep (.same nI) .nil) .nil)⟩
 rintro x s' ⟨rfl,f,rfl,hsub⟩
 refine Goes.sub hsub ?_
 refine sh fol (kBM f) ?_
 refine Goes.ret ?_
 obtain rfl:=si h
 exact(gw2 [.i f] (Ua tI))
def qbu (low:Str) (high:Str):Option qA:=
 some (⟨low,high⟩:qA)
theorem qcY (low:Str) (high:Str) {res:qA} (h:qbu low high=some res):qc ZT (.fn 29) (kAR low high) [] (.agg (kAR res.Low res.High)) []:=by
 unfold qbu at h
 refine Ub Tryz.func29 rfl rfl (m:=8) rfl (rs:=[.cell 4 44]) rfl (l:=(kJ low high [])) rfl ?_
 refine sg fol (kJ low high (kY [])) (kN []) ?_
 refine sg fol (kY []) (kB low high []) ?_
 refine Goes.ret ?_
 obtain rfl:=si h
 exact(gw2 [.agg (kAR low high)] (FzW.agg (qb.cons (Ua tS) (qb.cons (Ua tS) qb.nil))))
def qF (N:Nat) (a:qA):Option Int:=
 (xW N ([a.Low,a.High]:List Str)).bind fun b=>
 if(!decide (b=0))=true then
 some b
 else
 (yw N a.Low).bind fun c=>
 (yw N a.High).bind fun d=>
 (ja N c d).bind fun e=>
 (zk (decide (e>0)) 11).bind fun f=>
 some f
theorem ky (N:Nat) (a:qA) {res:Int} (h:qF N a=some res):qc ZT (.fn 37) [.agg (kAR a.Low a.High)] [] (.i res) []:=by
 unfold qF at h
 refine Ub Tryz.func37 rfl rfl (m:=22) rfl (rs:=[.tmp 2]) rfl (l:=[(0,.agg [.str a.Low,.str a.High])]) rfl ?_
 refine sg fol (kA2 []) (kB a.Low a.High []) ?_
 refine sq ?_
 obtain⟨b,c,h⟩:=bnd h
 refine sq (gq fol [5] (kA2 (kBS b)) (kB a.Low a.High (kB a.Low a.High [])) (ac (hs (.call 81 [.slice 1 0 2 2 1] (kB a.Low a.High (kB a.Low a.High [])) [1] [vl encS ([a.Low,a.High]:List Str)] (.i b)) (qcW (FzL.cons (Fz.lit rfl rfl (Ud (AllST.cons tS (AllST.cons tS AllST.nil)))) FzL.nil) (qfu N ([a.Low,a.High]:List Str) c) tI rfl)) az) ?_)
 refine sh fol (kA2 [(3,.i b),(11,.bool (!decide (b=0)))]) ?_
 refine ihB h (fun k h=>?_) (fun k h=>?_)
 ·refine sh fol (kBM b) ?_
  refine Goes.ret ?_
  obtain rfl:=si h
  exact(gw2 [.i b] (Ua tI))
 refine Goes.skip ?_
 obtain⟨n,d,h⟩:=bnd h
 obtain⟨o,e,h⟩:=bnd h
 obtain⟨p,f,h⟩:=bnd h
 obtain⟨j,g,h⟩:=bnd h
 refine sq (gr fol [2,5,6,8] (kBM j) (ac (cv (vX N a.Low d)) (ac (cv (vX N a.High e)) (ac (cv (xS N n o f)) (ac (cv (y7 (decide (p>0)) 11 g)) az)))) ?_)
 refine Goes.ret ?_
 obtain rfl:=si h
 exact(gw2 [.i j] (Ua tI))
def zK (N:Nat) (l:List Str):Nat->(List qh)->Int->Option (List qh)
 |0,_,_=>none
 |K+1,b,a=>
  if a<(l.length:Int)then
  (idx l a).bind fun d=>
  (yw N d).bind fun e=>
  (idx b a).bind fun f=>
  (put b a e).bind fun c=>
  zK N l K c (w64 (a+1))
  else
  some b
def jH (N:Nat) (l:List Str):Option (List qh):=
 (mk 64 (l.length:Int) (⟨(⟨0,[]⟩:qo),(⟨0,[]⟩:qo)⟩:qh)).bind fun a=>
 (zK N l N a 0).bind fun b=>
 some b
theorem vD (N:Nat) (l:List Str) {res:List qh} (h:jH N l=some res):qc ZT (.fn 175) [vl encS l] [] (vl qd res) []:=by
 unfold jH at h
 refine Ub Tryz.func175 rfl rfl (m:=23) rfl (rs:=[.tmp 2]) rfl (l:=(kBp l [])) rfl ?_
 refine sh fol (kBp l []) ?_
 obtain⟨j,k,h⟩:=bnd h
 refine sq (gq fol [2] (kBp l [(3,.slice 0 0 j.length j.length 4)]) (kAP j) (ac (hs (.run [] (jh ZT 161 (.i (l.length:Int)) (.i (l.length:Int))) [] (.slice 0 0 j.length j.length 4) (kAP j) false) (qcQ qa1 (E:=qd) (z:=(⟨(⟨0,[]⟩:qo),(⟨0,[]⟩:qo)⟩:qh)) rfl (by kernel_rfl) k rfl)) az) ?_)
 refine sq ?_
 refine sh fol (kAa j l (l.length:Int) [(11,.i 0)]) ?_
 refine Goes.block ?_
 obtain⟨o,g5,h⟩:=bnd h
 refine Goes.imp (Q:=fun x s'=>(x= .exit 0/\ ∃e,e=o/\Sub s' (ofG 23 [(3,.slice 0 0 e.length e.length 4)],(kAP e)))) ?_ ?_
 ·refine Uc (fun M s=> ∃(c:List qh) (b:Int),s=(ofG 23 (kAa c l (l.length:Int) [(11,.i b)]),(kAP c))/\zK N l M c b=some o) ?_ (m:=N) ⟨_,_,rfl,g5⟩
  rintro M s ⟨c,b,rfl,g5⟩
  cases M with
  |zero=>simp only[zK]at g5;cases g5
  |succ M=>
   rw[zK]at g5
   refine sh fol (kAa c l (l.length:Int) ((11,.i b)::(kBU (decide (b<(l.length:Int)))))) ?_
   refine sq ?_
   refine ihD g5 (fun r g5=>?_) (fun r g5=>?_)
   ·refine Goes.skip ?_
    refine sq (Goes.block ?_)
    obtain⟨p,f,g5⟩:=bnd g5
    refine sq (gr fol [1,2] [(3,.slice 0 0 c.length c.length 4),(4,.i b),(5,.str p),(9,vl encS l),(10,.i (l.length:Int)),(11,.i b)] (ac (iv sl56 encS f) (ac (lv 0 ce23 encS f rfl) az)) ?_)
    obtain⟨q,n,g5⟩:=bnd g5
    obtain⟨t,g,g5⟩:=bnd g5
    obtain⟨a,d,g5⟩:=bnd g5
    refine gq fol [3,4,5] (kAa c l (l.length:Int) [(11,.i b)]) (kAP a) (ac (cv (vX N p n)) (ac (hs (.done (.opt (qj ZT 161 (.slice 0 0 c.length c.length 4) (.i b))) (.ptr 0 ((b:Int).toNat*4+0))) (qal qa1 g)) (ac (hs (.run [0] (qp ZT 108 (.ptr 0 ((b:Int).toNat*4+0)) (.agg (nq1 q))) (kAP c) .undef (kAP a) true) (qae (E:=qd) (l:=c) (y:=q) rfl (show _=some 4 by kernel_rfl) rfl g rfl rfl rfl (cac rfl (cac nvc (cac rfl (cac nvc can)))) rfl d rfl)) az))) ?_
    refine Goes.sub (show Sub (ofG 23 (kAa c l (l.length:Int) [(11,.i b)]),(kAP a)) (ofG 23 (kAa a l (l.length:Int) [(11,.i b)]),(kAP a))from(Sub.norm [] [some 0] rfl rfl (.keep (.sliceE rfl (vM d)) (.keep (.same (qg encS _)) (.keep (.same nI) (.keep (.same nI) .nil)))) (.ks .nil))) ?_
    refine gh fol (kAa a l (l.length:Int) [(11,.i (w64 (b+1)))]) ?_
    exact⟨M,(ofG 23 (kAa a l (l.length:Int) [(11,.i (w64 (b+1)))]),(kAP a)),Nat.lt_succ_self _,(Sub.refl _),_,_,rfl,g5⟩
   refine Goes.exit ?_
   obtain rfl:=si g5
   exact⟨rfl,_,rfl,(Sub.keep [3] rfl rfl)⟩
 rintro x s' ⟨rfl,e,rfl,hsub⟩
 refine Goes.sub hsub ?_
 refine sh fol [(2,.slice 0 0 e.length e.length 4)] ?_
 refine Goes.ret ?_
 obtain rfl:=si h
 exact(gw2 [.slice 0 0 e.length e.length 4] (FzW.fz (Fz.sl (E:=qd) rfl rfl (nl rfl))))
def kP (N:Nat) (b:List qh):Nat->Int->(List Int)->Int->(List Int)->Int->Option (Int×(List Int)×Int×(List Int))
 |0,_,_,_,_,_=>none
 |K+1,c,d,e,f,g=>
  if g<(b.length:Int)then
  (((idx b g).bind fun a=>
  (ja N a (⟨(⟨c,d⟩:qo),(⟨e,f⟩:qo)⟩:qh)).bind fun h=>
  if h<0 then
  some (a.Num.s,a.Num.w,a.Den.s,a.Den.w)
  else
  some (c,d,e,f):Option (Int×(List Int)×Int×(List Int)))).bind fun(i,j,k,l)=>
  kP N b K i j k l (w64 (g+1))
  else
  some (c,d,e,f)
def kW (N:Nat) (a:List qh):Option qh:=
 ((if(a.length:Int)<1 then
 none
 else
 some ():Option Unit)).bind fun _=>
 (idx a 0).bind fun b=>
 (kP N a N b.Num.s b.Num.w b.Den.s b.Den.w 1).bind fun(f,c,d,e)=>
 some (⟨(⟨f,c⟩:qo),(⟨d,e⟩:qo)⟩:qh)
theorem jN (N:Nat) (a:List qh) {res:qh} (h:kW N a=some res):qc ZT (.fn 176) [vl qd a,.func (.func 83) [] []] [] (.agg (nq1 res)) []:=by
 unfold kW at h
 refine Ub Tryz.func176 rfl rfl (m:=33) rfl (rs:=[.cell 4 108]) rfl (l:=(kAu a [(1,.func (.func 83) [] [])])) rfl ?_
 refine sg fol (kAu a ((1,.func (.func 83) [] [])::(kY []))) (kD []) ?_
 refine sq ?_
 refine sh fol (kAu a ((1,.func (.func 83) [] [])::(kY [(9,.bool (decide ((a.length:Int)<1)))]))) ?_
 obtain⟨F,g1,h⟩:=bnd h
 refine Goes.imp (Q:=fun x s'=>(x= .normal/\()=F/\Sub s' (ofG 33 (kAu a ((1,.func (.func 83) [] [])::(kY []))),(kD [])))) ?_ ?_
 ·refine ihD g1 (fun G g1=>?_) (fun G g1=>?_)
  ·cases g1
  refine Goes.skip ?_
  obtain rfl:=si g1
  exact⟨rfl,rfl,(Sub.keep [0,1,4] rfl rfl)⟩
 rintro x s' ⟨rfl,rfl,hsub⟩
 refine Goes.sub hsub ?_
 obtain⟨A,r,h⟩:=bnd h
 refine sq (gq fol [1,2,4] (kAu a ((1,.func (.func 83) [] [])::(kY (kBx [])))) (kD [.cells (nq1 A)]) (ac (iv qa1 qd r) (ac (la qcL qd r) (ac (hs (.run [1] (qp ZT 108 (.ptr 1 0) (.agg (nq1 A))) (kD (kD [])) .undef (kD [.cells (nq1 A)]) true) (kw (n:=4) (by kernel_rfl) rfl rfl rfl rfl (cac rfl (cac nvc (cac rfl (cac nvc can)))) rfl)) az))) ?_)
 refine sq ?_
 refine sh fol (kAu a ((1,.func (.func 83) [] [])::(kY (kBx [(6,.i 1)])))) ?_
 refine Goes.block ?_
 obtain⟨u,g13,h⟩:=bnd h
 refine Goes.imp (Q:=fun x s'=>(x= .exit 0/\ ∃f b c d,(f,b,c,d)=u/\Sub s' (ofG 33 (kY (kBx [])),(kD [.cells (ni2 f b c d)])))) ?_ ?_
 ·refine Uc (fun M s=> ∃(v:Int) (w:List Int) (y:Int) (z:List Int) (g:Int),s=(ofG 33 (kAu a ((1,.func (.func 83) [] [])::(kY (kA3 g [])))),(kD [.cells (ni2 v w y z)]))/\kP N a M v w y z g=some u) ?_ (m:=N) ⟨_,_,_,_,_,rfl,g13⟩
  rintro M s ⟨v,w,y,z,g,rfl,g13⟩
  cases M with
  |zero=>simp only[kP]at g13;cases g13
  |succ M=>
   rw[kP]at g13
   refine sq ?_
   refine sh fol (kAu a ((1,.func (.func 83) [] [])::(kY (kA3 g [(17,.bool (decide (g<(a.length:Int))))])))) ?_
   refine ihD g13 (fun B g13=>?_) (fun B g13=>?_)
   ·refine Goes.skip ?_
    refine sq ?_
    obtain⟨C,g19,g13⟩:=bnd g13
    refine Goes.imp (Q:=fun x s'=>(x= .normal/\ ∃j k o p,(j,k,o,p)=C/\Sub s' (ofG 33 (kAu a ((1,.func (.func 83) [] [])::(kY (kA3 g [])))),(kD [.cells (ni2 j k o p)])))) ?_ ?_
    ·refine Goes.block ?_
     obtain⟨q,e,g19⟩:=bnd g19
     obtain⟨D,t,g19⟩:=bnd g19
     refine sq (gr fol [3,4,6] (kAu a ((1,.func (.func 83) [] [])::(kY (kA3 g [(27,.bool (decide (D<0)))])))) (ac (iv qa1 qd e) (ac (la qcL qd e) (ac (cv (xS N q (⟨(⟨v,w⟩:qo),(⟨y,z⟩:qo)⟩:qh) t)) az))) ?_)
     refine ihD g19 (fun E g19=>?_) (fun E g19=>?_)
     ·refine gq fol [2,3,4] (kAu a ((1,.func (.func 83) [] [])::(kY (kA3 g [])))) (kD [.cells (nq1 q)]) (ac (iv qa1 qd e) (ac (la qcL qd e) (ac (hs (.run [1] (qp ZT 108 (.ptr 1 0) (.agg (nq1 q))) (kD [.cells (ni2 v w y z)]) .undef (kD [.cells (nq1 q)]) true) (kw (n:=4) (by kernel_rfl) rfl rfl rfl rfl (cac rfl (cac nvc (cac rfl (cac nvc can)))) rfl)) az))) ?_
      obtain rfl:=si g19
      exact⟨rfl,_,_,_,_,rfl,(Sub.refl _)⟩
     refine Goes.skip ?_
     obtain rfl:=si g19
     exact⟨rfl,_,_,_,_,rfl,(Sub.keep [0,1,4,5,6] rfl rfl)⟩
    rintro x s' ⟨rfl,j,k,o,p,rfl,hsub⟩
    try dsimp only at g13
    refine Goes.sub hsub ?_
    refine gh fol (kAu a ((1,.func (.func 83) [] [])::(kY (kA3 (w64 (g+1)) [])))) ?_
    exact⟨M,(ofG 33 (kAu a ((1,.func (.func 83) [] [])::(kY (kA3 (w64 (g+1)) [])))),(kD [.cells (ni2 j k o p)])),Nat.lt_succ_self _,(Sub.refl _),_,_,_,_,_,rfl,g13⟩
   refine Goes.exit ?_
   obtain rfl:=si g13
   exact⟨rfl,_,_,_,_,rfl,(Sub.keep [4,5] rfl rfl)⟩
 rintro x s' ⟨rfl,f,b,c,d,rfl,hsub⟩
 try dsimp only at h
 refine Goes.sub hsub ?_
 refine sq (gq fol [1] (kY []) [.cells (ni2 f b c d),.cells (ni2 f b c d)] (ac (hs (.run [0] (qp ZT 108 (.ptr 0 0) (.agg (ni2 f b c d))) (kD [.cells (ni2 f b c d)]) .undef [.cells (ni2 f b c d),.cells (ni2 f b c d)] true) (kw (n:=4) (by kernel_rfl) rfl rfl rfl rfl (cac rfl (cac nvc (cac rfl (cac nvc can)))) rfl)) az) ?_)
 refine Goes.ret ?_
 obtain rfl:=si h
 exact(gw2 [.agg (ni2 f b c d)] (FzW.agg (qb.cons (Ua tI) (qb.cons (Ua (qm (qa .u64) _ (nl rfl))) (qb.cons (Ua tI) (qb.cons (Ua (qm (qa .u64) _ (nl rfl))) qb.nil))))))
def kz (N:Nat) (b:List qh):Nat->Int->(List Int)->Int->(List Int)->Int->Option (Int×(List Int)×Int×(List Int))
 |0,_,_,_,_,_=>none
 |K+1,c,d,e,f,g=>
  if g<(b.length:Int)then
  (((idx b g).bind fun a=>
  (ja N a (⟨(⟨c,d⟩:qo),(⟨e,f⟩:qo)⟩:qh)).bind fun h=>
  if h>0 then
  some (a.Num.s,a.Num.w,a.Den.s,a.Den.w)
  else
  some (c,d,e,f):Option (Int×(List Int)×Int×(List Int)))).bind fun(i,j,k,l)=>
  kz N b K i j k l (w64 (g+1))
  else
  some (c,d,e,f)
def za (N:Nat) (a:List qh):Option qh:=
 ((if(a.length:Int)<1 then
 none
 else
 some ():Option Unit)).bind fun _=>
 (idx a 0).bind fun b=>
 (kz N a N b.Num.s b.Num.w b.Den.s b.Den.w 1).bind fun(f,c,d,e)=>
 some (⟨(⟨f,c⟩:qo),(⟨d,e⟩:qo)⟩:qh)
theorem jO (N:Nat) (a:List qh) {res:qh} (h:za N a=some res):qc ZT (.fn 177) [vl qd a,.func (.func 83) [] []] [] (.agg (nq1 res)) []:=by
 unfold za at h
 refine Ub Tryz.func177 rfl rfl (m:=33) rfl (rs:=[.cell 4 108]) rfl (l:=(kAu a [(1,.func (.func 83) [] [])])) rfl ?_
 refine sg fol (kAu a ((1,.func (.func 83) [] [])::(kY []))) (kD []) ?_
 refine sq ?_
 refine sh fol (kAu a ((1,.func (.func 83) [] [])::(kY [(9,.bool (decide ((a.length:Int)<1)))]))) ?_
 obtain⟨F,g1,h⟩:=bnd h
 refine Goes.imp (Q:=fun x s'=>(x= .normal/\()=F/\Sub s' (ofG 33 (kAu a ((1,.func (.func 83) [] [])::(kY []))),(kD [])))) ?_ ?_
 ·refine ihD g1 (fun G g1=>?_) (fun G g1=>?_)
  ·cases g1
  refine Goes.skip ?_
  obtain rfl:=si g1
  exact⟨rfl,rfl,(Sub.keep [0,1,4] rfl rfl)⟩
 rintro x s' ⟨rfl,rfl,hsub⟩
 refine Goes.sub hsub ?_
 obtain⟨A,r,h⟩:=bnd h
 refine sq (gq fol [1,2,4] (kAu a ((1,.func (.func 83) [] [])::(kY (kBx [])))) (kD [.cells (nq1 A)]) (ac (iv qa1 qd r) (ac (la qcL qd r) (ac (hs (.run [1] (qp ZT 108 (.ptr 1 0) (.agg (nq1 A))) (kD (kD [])) .undef (kD [.cells (nq1 A)]) true) (kw (n:=4) (by kernel_rfl) rfl rfl rfl rfl (cac rfl (cac nvc (cac rfl (cac nvc can)))) rfl)) az))) ?_)
 refine sq ?_
 refine sh fol (kAu a ((1,.func (.func 83) [] [])::(kY (kBx [(6,.i 1)])))) ?_
 refine Goes.block ?_
 obtain⟨u,g13,h⟩:=bnd h
 refine Goes.imp (Q:=fun x s'=>(x= .exit 0/\ ∃f b c d,(f,b,c,d)=u/\Sub s' (ofG 33 (kY (kBx [])),(kD [.cells (ni2 f b c d)])))) ?_ ?_
 ·refine Uc (fun M s=> ∃(v:Int) (w:List Int) (y:Int) (z:List Int) (g:Int),s=(ofG 33 (kAu a ((1,.func (.func 83) [] [])::(kY (kA3 g [])))),(kD [.cells (ni2 v w y z)]))/\kz N a M v w y z g=some u) ?_ (m:=N) ⟨_,_,_,_,_,rfl,g13⟩
  rintro M s ⟨v,w,y,z,g,rfl,g13⟩
  cases M with
  |zero=>simp only[kz]at g13;cases g13
  |succ M=>
   rw[kz]at g13
   refine sq ?_
   refine sh fol (kAu a ((1,.func (.func 83) [] [])::(kY (kA3 g [(17,.bool (decide (g<(a.length:Int))))])))) ?_
   refine ihD g13 (fun B g13=>?_) (fun B g13=>?_)
   ·refine Goes.skip ?_
    refine sq ?_
    obtain⟨C,g19,g13⟩:=bnd g13
    refine Goes.imp (Q:=fun x s'=>(x= .normal/\ ∃j k o p,(j,k,o,p)=C/\Sub s' (ofG 33 (kAu a ((1,.func (.func 83) [] [])::(kY (kA3 g [])))),(kD [.cells (ni2 j k o p)])))) ?_ ?_
    ·refine Goes.block ?_
     obtain⟨q,e,g19⟩:=bnd g19
     obtain⟨D,t,g19⟩:=bnd g19
     refine sq (gr fol [3,4,6] (kAu a ((1,.func (.func 83) [] [])::(kY (kA3 g [(27,.bool (decide (D>0)))])))) (ac (iv qa1 qd e) (ac (la qcL qd e) (ac (cv (xS N q (⟨(⟨v,w⟩:qo),(⟨y,z⟩:qo)⟩:qh) t)) az))) ?_)
     refine ihD g19 (fun E g19=>?_) (fun E g19=>?_)
     ·refine gq fol [2,3,4] (kAu a ((1,.func (.func 83) [] [])::(kY (kA3 g [])))) (kD [.cells (nq1 q)]) (ac (iv qa1 qd e) (ac (la qcL qd e) (ac (hs (.run [1] (qp ZT 108 (.ptr 1 0) (.agg (nq1 q))) (kD [.cells (ni2 v w y z)]) .undef (kD [.cells (nq1 q)]) true) (kw (n:=4) (by kernel_rfl) rfl rfl rfl rfl (cac rfl (cac nvc (cac rfl (cac nvc can)))) rfl)) az))) ?_
      obtain rfl:=si g19
      exact⟨rfl,_,_,_,_,rfl,(Sub.refl _)⟩
     refine Goes.skip ?_
     obtain rfl:=si g19
     exact⟨rfl,_,_,_,_,rfl,(Sub.keep [0,1,4,5,6] rfl rfl)⟩
    rintro x s' ⟨rfl,j,k,o,p,rfl,hsub⟩
    try dsimp only at g13
    refine Goes.sub hsub ?_
    refine gh fol (kAu a ((1,.func (.func 83) [] [])::(kY (kA3 (w64 (g+1)) [])))) ?_
    exact⟨M,(ofG 33 (kAu a ((1,.func (.func 83) [] [])::(kY (kA3 (w64 (g+1)) [])))),(kD [.cells (ni2 j k o p)])),Nat.lt_succ_self _,(Sub.refl _),_,_,_,_,_,rfl,g13⟩
   refine Goes.exit ?_
   obtain rfl:=si g13
   exact⟨rfl,_,_,_,_,rfl,(Sub.keep [4,5] rfl rfl)⟩
 rintro x s' ⟨rfl,f,b,c,d,rfl,hsub⟩
 try dsimp only at h
 refine Goes.sub hsub ?_
 refine sq (gq fol [1] (kY []) [.cells (ni2 f b c d),.cells (ni2 f b c d)] (ac (hs (.run [0] (qp ZT 108 (.ptr 0 0) (.agg (ni2 f b c d))) (kD [.cells (ni2 f b c d)]) .undef [.cells (ni2 f b c d),.cells (ni2 f b c d)] true) (kw (n:=4) (by kernel_rfl) rfl rfl rfl rfl (cac rfl (cac nvc (cac rfl (cac nvc can)))) rfl)) az) ?_)
 refine Goes.ret ?_
 obtain rfl:=si h
 exact(gw2 [.agg (ni2 f b c d)] (FzW.agg (qb.cons (Ua tI) (qb.cons (Ua (qm (qa .u64) _ (nl rfl))) (qb.cons (Ua tI) (qb.cons (Ua (qm (qa .u64) _ (nl rfl))) qb.nil))))))
def qG (N:Nat) (f:qh) (b:List qh):Nat->(List qh)->Int->Option (List qh)
 |0,_,_=>none
 |K+1,g,a=>
  if a<(b.length:Int)then
  (idx b a).bind fun c=>
  (yG N f c).bind fun d=>
  (app 64 g [d]).bind fun e=>
  qG N f b K e (w64 (a+1))
  else
  some g
def qJ (N:Nat) (a:qA) (b:List qh):Nat->(List qh)->Int->Option (List qh)
 |0,_,_=>none
 |K+1,e,c=>
  if c<(b.length:Int)then
  (idx b c).bind fun f=>
  (jH N ([a.Low,a.High]:List Str)).bind fun g=>
  (qG N f g N e 0).bind fun d=>
  qJ N a b K d (w64 (c+1))
  else
  some e
def yF (N:Nat) (a:qA) (c:qA):Option (qA×Int):=
 (jH N ([a.Low,a.High]:List Str)).bind fun g=>
 (qJ N c g N ([]:List qh) 0).bind fun f=>
 (kW N f).bind fun d=>
 (za N f).bind fun e=>
 (xy N d e).bind fun b=>
 some (b.1,b.2)
theorem qeG (N:Nat) (b:qA) (a:qA) {res:qA×Int} (h:yF N b a=some res):qc ZT (.fn 121) (kS b.Low b.High (kS a.Low a.High [.func (.func 120) [] []])) [] (.tuple (kS res.1.Low res.1.High [.i res.2])) []:=by
 unfold yF at h
 refine Ub Tryz.func121 rfl rfl (m:=51) rfl (rs:=[.cell 6 44,.tmp 7]) rfl (l:=(kAC b.Low b.High a.Low a.High [(2,.func (.func 120) [] [])])) rfl ?_
 refine sg fol ((2,.func (.func 120) [] [])::(kQ (kBF []))) (kB b.Low b.High (kB a.Low a.High (kN []))) ?_
 refine sh fol ((2,.func (.func 120) [] [])::(kQ (kBF [(8,.nilslice)]))) ?_
 refine sq ?_
 obtain⟨c,D,h⟩:=bnd h
 refine sq (gq fol [5] ((2,.func (.func 120) [] [])::(kAD c (c.length:Int))) (kB b.Low b.High (kB a.Low a.High (kN (kAo b.Low b.High)))) (ac (hs (.callF 175 [.slice 3 0 2 2 1] (kB b.Low b.High (kB a.Low a.High (kN (kB b.Low b.High [])))) [3] [vl encS ([b.Low,b.High]:List Str)] (vl qd c)) (je (FzL.cons (Fz.lit rfl rfl (Ud (AllST.cons tS (AllST.cons tS AllST.nil)))) FzL.nil) (vD N ([b.Low,b.High]:List Str) D) (qw qd _ (nl rfl)))) az) ?_)
 refine Goes.sub (show Sub (ofG 51 ((2,.func (.func 120) [] [])::(kAD c (c.length:Int))),(kB b.Low b.High (kB a.Low a.High (kN (kAo b.Low b.High))))) (ofG 51 ((2,.func (.func 120) [] [])::(kY ((6,.ptr 1 0)::(8,.nilslice)::(kAi c (c.length:Int) [(20,.i 0)])))),(kB a.Low a.High (kN [])))from(Sub.norm [] [some 1,some 2] rfl rfl (.keep (.same (qC.func sn sn)) (.kp (.kp (.keep (.same (qC.nilslice)) (.keep (.same (qg qd _)) (.keep (.same nI) (.keep (.same nI) .nil))))))) (.kb rfl (.same sn) (.kb rfl (.same sn) .nil)))) ?_
 refine Goes.block ?_
 obtain⟨K,g5,h⟩:=bnd h
 refine Goes.imp (Q:=fun x s'=>(x= .exit 0/\ ∃r,r=K/\Sub s' (ofG 51 (kBn [(8,.gslice 1 r.length 4)]),(kC r [])))) ?_ ?_
 ·refine Goes.sub (s':=(ofG 51 ((2,.func (.func 120) [] [])::(kY (kBE (kAi c (c.length:Int) [(20,.i 0)])))),(kB a.Low a.High (kN kBL)))) (Sub.norm [] [some 0,some 1,none] rfl rfl (.keep (.same (qC.func sn sn)) (.kp (.kp (.keep .nil (.keep (.same (qg qd _)) (.keep (.same nI) (.keep (.same nI) .nil))))))) (.kb rfl (.same sn) (.kb rfl (.same sn) (.fresh .nil)))) ?_
  refine Uc (fun M s=> ∃(k:List qh) (g:Int),s=(ofG 51 ((2,.func (.func 120) [] [])::(kL k c (c.length:Int) g [])),(kB a.Low a.High (kC k [])))/\qJ N a c M k g=some K) ?_ (m:=N) ⟨_,_,rfl,g5⟩
  rintro M s ⟨k,g,rfl,g5⟩
  cases M with
  |zero=>simp only[qJ]at g5;cases g5
  |succ M=>
   rw[qJ]at g5
   refine sh fol ((2,.func (.func 120) [] [])::(kL k c (c.length:Int) g [(21,.bool (decide (g<(c.length:Int))))])) ?_
   refine sq ?_
   refine ihD g5 (fun L g5=>?_) (fun L g5=>?_)
   ·refine Goes.skip ?_
    refine sq (Goes.block ?_)
    obtain⟨j,w,g5⟩:=bnd g5
    refine sq (gq fol [0,1,3] ((2,.func (.func 120) [] [])::(kY (kAZ k (kAi c (c.length:Int) [(20,.i g)])))) (kB a.Low a.High (kC k [.cells (nq1 j)])) (ac (iv qa1 qd w) (ac (la qcL qd w) (ac (hs (.run [3] (qp ZT 108 (.ptr 3 0) (.agg (nq1 j))) (kB a.Low a.High (kC k (kD []))) .undef (kB a.Low a.High (kC k [.cells (nq1 j)])) true) (kw (n:=4) (by kernel_rfl) rfl rfl rfl rfl (cac rfl (cac nvc (cac rfl (cac nvc can)))) rfl)) az))) ?_)
    obtain⟨e,F,g5⟩:=bnd g5
    refine sq (gq fol [5] ((2,.func (.func 120) [] [])::(kE k c (c.length:Int) g e (e.length:Int) kB0)) (kB a.Low a.High (kC k (.cells (nq1 j)::(kAo a.Low a.High)))) (ac (hs (.callF 175 [.slice 4 0 2 2 1] (kB a.Low a.High (kC k (.cells (nq1 j)::(kB a.Low a.High [])))) [4] [vl encS ([a.Low,a.High]:List Str)] (vl qd e)) (je (FzL.cons (Fz.lit rfl rfl (Ud (AllST.cons tS (AllST.cons tS AllST.nil)))) FzL.nil) (vD N ([a.Low,a.High]:List Str) F) (qw qd _ (nl rfl)))) az) ?_)
    refine Goes.sub (show Sub (ofG 51 ((2,.func (.func 120) [] [])::(kE k c (c.length:Int) g e (e.length:Int) kB0)),(kB a.Low a.High (kC k (.cells (nq1 j)::(kAo a.Low a.High))))) (ofG 51 ((2,.func (.func 120) [] [])::(kE k c (c.length:Int) g e (e.length:Int) kB0)),(kB a.Low a.High (kC k [.cells (nq1 j)])))from(Sub.norm [] [some 0,some 1,some 2,some 3] rfl rfl (.keep (.same (qC.func sn sn)) (.kp (.kp (.keep (.gslice rfl) (.kp (.keep (.same (qg qd _)) (.keep (.same nI) (.keep (.same nI) (.keep (.same (qg qd _)) (.keep (.same nI) (.keep (.same nI) .nil))))))))))) (.kb rfl (.same sn) (.kb rfl (.same sn) (.ks (.kb rfl (.same sn) .nil)))))) ?_
    refine Goes.block ?_
    obtain⟨G,g12,g5⟩:=bnd g5
    refine Goes.imp (Q:=fun x s'=>(x= .exit 2/\ ∃o,o=G/\Sub s' (ofG 51 ((2,.func (.func 120) [] [])::(kL o c (c.length:Int) g [])),(kB a.Low a.High (kC o []))))) ?_ ?_
    ·refine Uc (fun M s=> ∃(t:List qh) (f:Int),s=(ofG 51 ((2,.func (.func 120) [] [])::(kE t c (c.length:Int) g e (e.length:Int) (kBy f))),(kB a.Low a.High (kC t [.cells (nq1 j)])))/\qG N j e M t f=some G) ?_ (m:=N) ⟨_,_,rfl,g12⟩
     rintro M s ⟨t,f,rfl,g12⟩
     cases M with
     |zero=>simp only[qG]at g12;cases g12
     |succ M=>
      rw[qG]at g12
      refine sh fol ((2,.func (.func 120) [] [])::(kE t c (c.length:Int) g e (e.length:Int) [(31,.i f),(32,.bool (decide (f<(e.length:Int))))])) ?_
      refine sq ?_
      refine ihD g12 (fun J g12=>?_) (fun J g12=>?_)
      ·refine Goes.skip ?_
       refine sq (Goes.block ?_)
       obtain⟨p,u,g12⟩:=bnd g12
       refine sq (gq fol [0,1,3] ((2,.func (.func 120) [] [])::(kY (kAZ t ((12,.ptr 4 0)::(kAi c (c.length:Int) ((20,.i g)::(29,vl qd e)::(30,.i (e.length:Int))::(kBy f))))))) (kB a.Low a.High (kC t [.cells (nq1 j),.cells (nq1 p)])) (ac (iv qa1 qd u) (ac (la qcL qd u) (ac (hs (.run [4] (qp ZT 108 (.ptr 4 0) (.agg (nq1 p))) (kB a.Low a.High (kC t (.cells (nq1 j)::(kD [])))) .undef (kB a.Low a.High (kC t [.cells (nq1 j),.cells (nq1 p)])) true) (kw (n:=4) (by kernel_rfl) rfl rfl rfl rfl (cac rfl (cac nvc (cac rfl (cac nvc can)))) rfl)) az))) ?_)
       obtain⟨v,y,g12⟩:=bnd g12
       obtain⟨q,z,g12⟩:=bnd g12
       refine gq fol [4,6] ((2,.func (.func 120) [] [])::(kV q c (c.length:Int) g e (e.length:Int) (kBy f))) (kB a.Low a.High (kN (.dead:: .cells (nq1 j):: .cells (nq1 p):: .cells (nq1 v)::(kAP q)))) (ac (cv (qd9 N j p y)) (ac (hs (.run [2,5] (yz ZT [161,161] (.gslice 2 t.length 4) (.slice 5 0 1 1 4)) (kB a.Low a.High (kC t [.cells (nq1 j),.cells (nq1 p),.cells (nq1 v)])) (.gslice 6 q.length 4) (kB a.Low a.High (kN (.dead:: .cells (nq1 j):: .cells (nq1 p):: .cells (nq1 v)::(kAP q)))) true) (qaQ qa1 (E:=qd) rfl (qen (E:=qd) (ys:=[v]) rfl rfl rfl rfl) (qff (E:=qd) (l:=t) rfl rfl rfl z rfl))) az)) ?_
       refine gh fol ((2,.func (.func 120) [] [])::(kV q c (c.length:Int) g e (e.length:Int) (kBy (w64 (f+1))))) ?_
       exact⟨M,(ofG 51 ((2,.func (.func 120) [] [])::(kE q c (c.length:Int) g e (e.length:Int) (kBy (w64 (f+1))))),(kB a.Low a.High (kC q [.cells (nq1 j)]))),Nat.lt_succ_self _,(Sub.norm [] [some 0,some 1,some 6,some 3] rfl rfl (.keep (.same (qC.func sn sn)) (.kp (.kp (.keep (.gslice rfl) (.kp (.keep (.same (qg qd _)) (.keep (.same nI) (.keep (.same nI) (.keep (.same (qg qd _)) (.keep (.same nI) (.keep (.same nI) .nil))))))))))) (.kb rfl (.same sn) (.kb rfl (.same sn) (.ks (.kb rfl (.same sn) .nil))))),_,_,rfl,g12⟩
      refine Goes.exit ?_
      obtain rfl:=si g12
      exact⟨rfl,_,rfl,(Sub.norm [] [some 0,some 1,some 2] rfl rfl (.keep (.same (qC.func sn sn)) (.kp (.kp (.keep (.gslice rfl) (.drop (.keep (.same (qg qd _)) (.keep (.same nI) (.keep (.same nI) .nil)))))))) (.kb rfl (.same sn) (.kb rfl (.same sn) (.ks .nil))))⟩
    rintro x s' ⟨rfl,o,rfl,hsub⟩
    refine Goes.sub hsub ?_
    refine gh fol ((2,.func (.func 120) [] [])::(kL o c (c.length:Int) (w64 (g+1)) [])) ?_
    exact⟨M,(ofG 51 ((2,.func (.func 120) [] [])::(kL o c (c.length:Int) (w64 (g+1)) [])),(kB a.Low a.High (kC o []))),Nat.lt_succ_self _,(Sub.refl _),_,_,rfl,g5⟩
   refine Goes.exit ?_
   obtain rfl:=si g5
   exact⟨rfl,_,rfl,(Sub.norm [] [some 1,some 2] rfl rfl (.drop (.drop (.kp (.keep (.gslice rfl) .nil)))) (.kb rfl (.same sn) (.ks .nil)))⟩
 rintro x s' ⟨rfl,r,rfl,hsub⟩
 refine Goes.sub hsub ?_
 obtain⟨H,A,h⟩:=bnd h
 obtain⟨I,B,h⟩:=bnd h
 obtain⟨d,C,h⟩:=bnd h
 refine sq (gq fol [1,3,4] (kAw d.2) (kB d.1.Low d.1.High (kAj r)) (ac (hs (.callF 176 [.gslice 1 r.length 4,.func (.func 83) [] []] (kC r []) [1] [vl qd r,.func (.func 83) [] []] (.agg (nq1 H))) (je (FzL.cons (Fz.gs (E:=qd) rfl rfl (nl rfl)) (FzL.cons (Fz.func FzL.nil FzL.nil) FzL.nil)) (jN N r A) (Still.agg (AllST.cons tI (AllST.cons (qm (qa .u64) _ (nl rfl)) (AllST.cons tI (AllST.cons (qm (qa .u64) _ (nl rfl)) AllST.nil))))))) (ac (hs (.callF 177 [.gslice 1 r.length 4,.func (.func 83) [] []] (kN (kAj r)) [1] [vl qd r,.func (.func 83) [] []] (.agg (nq1 I))) (je (FzL.cons (Fz.gsF (E:=qd) rfl rfl (nl rfl)) (FzL.cons (Fz.func FzL.nil FzL.nil) FzL.nil)) (jO N r B) (Still.agg (AllST.cons tI (AllST.cons (qm (qa .u64) _ (nl rfl)) (AllST.cons tI (AllST.cons (qm (qa .u64) _ (nl rfl)) AllST.nil))))))) (ac (cv (qa7 N H I C)) az))) ?_)
 refine Goes.sub (show Sub (ofG 51 (kAw d.2),(kB d.1.Low d.1.High (kAj r))) (ofG 51 (kAw d.2),(kB d.1.Low d.1.High []))from(Sub.norm [] [some 0] rfl rfl (.kp (.keep (.same nI) .nil)) (.kb rfl (.same sn) .nil))) ?_
 refine Goes.ret ?_
 obtain rfl:=si h
 exact(gw2 (kS d.1.Low d.1.High [.i d.2]) (FzW.tuple (qb.cons (FzW.agg (qb.cons (Ua tS) (qb.cons (Ua tS) qb.nil))) (qb.cons (Ua tI) qb.nil))))
def vR (N:Nat) (a:qA) (b:qA):Option (qA×Int):=
 (qF N a).bind fun e=>
 (qF N b).bind fun f=>
 (zQ N ([e,f]:List Int)).bind fun c=>
 if(!decide (c=0))=true then
 some ((⟨[],[]⟩:qA),c)
 else
 (yF N a b).bind fun d=>
 some (d.1,d.2)
theorem qcD (N:Nat) (a:qA) (b:qA) {res:qA×Int} (h:vR N a b=some res):qc ZT (.fn 119) (kS a.Low a.High (kS b.Low b.High [.func (.func 120) [] []])) [] (.tuple (kS res.1.Low res.1.High [.i res.2])) []:=by
 unfold vR at h
 refine Ub Tryz.func119 rfl rfl (m:=25) rfl (rs:=[.cell 6 44,.tmp 7]) rfl (l:=(kAC a.Low a.High b.Low b.High [(2,.func (.func 120) [] [])])) rfl ?_
 refine sg fol ((2,.func (.func 120) [] [])::(kQ (kBF []))) (kB a.Low a.High (kB b.Low b.High (kN []))) ?_
 refine sq ?_
 obtain⟨e,f,h⟩:=bnd h
 obtain⟨g,j,h⟩:=bnd h
 obtain⟨d,k,h⟩:=bnd h
 refine sq (gq fol [1,3,5] ((2,.func (.func 120) [] [])::(kQ (kBF (kBw d)))) (kB a.Low a.High (kB b.Low b.High (kN (kAE e g)))) (ac (cv (ky N a f)) (ac (cv (ky N b j)) (ac (hs (.call 79 [.slice 3 0 2 2 1] (kB a.Low a.High (kB b.Low b.High (kN (kAE e g)))) [3] [vl encI ([e,g]:List Int)] (.i d)) (qcW (FzL.cons (Fz.lit rfl rfl (Ud (AllST.cons tI (AllST.cons tI AllST.nil)))) FzL.nil) (vO N ([e,g]:List Int) k) tI rfl)) az))) ?_)
 refine sh fol ((2,.func (.func 120) [] [])::(kQ (kBF [(8,.i d),(16,.bool (!decide (d=0)))]))) ?_
 refine ihB h (fun o h=>?_) (fun o h=>?_)
 ·refine sh fol (kBF [(7,.i d)]) ?_
  refine Goes.ret ?_
  obtain rfl:=si h
  exact(gw2 (kBZ [.i d]) (FzW.tuple (qb.cons (FzW.agg (qb.cons (Ua tS) (qb.cons (Ua tS) qb.nil))) (qb.cons (Ua tI) qb.nil))))
 refine Goes.skip ?_
 obtain⟨c,n,h⟩:=bnd h
 refine sq (gq fol [3] (kBF [(7,.i c.2)]) (kB a.Low a.High (kB b.Low b.High (kB c.1.Low c.1.High (kAE e g)))) (ac (hs (.call 121 (kS a.Low a.High (kS b.Low b.High [.func (.func 120) [] []])) [] [] (kS a.Low a.High (kS b.Low b.High [.func (.func 120) [] []])) (.tuple (kS c.1.Low c.1.High [.i c.2]))) (qfC (FzL.cons (Uf (Still.agg (AllST.cons tS (AllST.cons tS AllST.nil)))) (FzL.cons (Uf (Still.agg (AllST.cons tS (AllST.cons tS AllST.nil)))) (FzL.cons (Fz.func FzL.nil FzL.nil) FzL.nil))) (qeG N a b n) (Still.tuple (AllST.cons (Still.agg (AllST.cons tS (AllST.cons tS AllST.nil))) (AllST.cons tI AllST.nil))))) az) ?_)
 refine Goes.ret ?_
 obtain rfl:=si h
 exact(gw2 (kS c.1.Low c.1.High [.i c.2]) (FzW.tuple (qb.cons (FzW.agg (qb.cons (Ua tS) (qb.cons (Ua tS) qb.nil))) (qb.cons (Ua tI) qb.nil))))
def qbR (N:Nat) (a:qA) (b:qA):Option (qA×Int):=
 (vR N a b).bind fun c=>
 some (c.1,c.2)
theorem qhP (N:Nat) (a:qA) (b:qA) {res:qA×Int} (h:qbR N a b=some res):qc ZT (.fn 38) (kS a.Low a.High (kS b.Low b.High [])) [] (.tuple (kS res.1.Low res.1.High [.i res.2])) []:=by
 unfold qbR at h
 refine Ub Tryz.func38 rfl rfl (m:=11) rfl (rs:=[.cell 4 44,.tmp 5]) rfl (l:=(kAC a.Low a.High b.Low b.High [])) rfl ?_
 refine sg fol (kH []) (kB a.Low a.High (kB b.Low b.High (kN []))) ?_
 obtain⟨c,d,h⟩:=bnd h
 refine sq (gq fol [2] (kAU (kA5 c.2)) (kB a.Low a.High (kB b.Low b.High (kB c.1.Low c.1.High []))) (ac (hs (.call 119 (kS a.Low a.High (kS b.Low b.High [.func (.func 120) [] []])) [] [] (kS a.Low a.High (kS b.Low b.High [.func (.func 120) [] []])) (.tuple (kS c.1.Low c.1.High [.i c.2]))) (qfC (FzL.cons (Uf (Still.agg (AllST.cons tS (AllST.cons tS AllST.nil)))) (FzL.cons (Uf (Still.agg (AllST.cons tS (AllST.cons tS AllST.nil)))) (FzL.cons (Fz.func FzL.nil FzL.nil) FzL.nil))) (qcD N a b d) (Still.tuple (AllST.cons (Still.agg (AllST.cons tS (AllST.cons tS AllST.nil))) (AllST.cons tI AllST.nil))))) az) ?_)
 refine Goes.ret ?_
 obtain rfl:=si h
 exact(gw2 (kS c.1.Low c.1.High [.i c.2]) (FzW.tuple (qb.cons (FzW.agg (qb.cons (Ua tS) (qb.cons (Ua tS) qb.nil))) (qb.cons (Ua tI) qb.nil))))
def qI (N:Nat) (f:qh) (b:List qh):Nat->(List qh)->Int->Option (List qh)
 |0,_,_=>none
 |K+1,g,a=>
  if a<(b.length:Int)then
  (idx b a).bind fun c=>
  (xG N f c).bind fun d=>
  (app 64 g [d]).bind fun e=>
  qI N f b K e (w64 (a+1))
  else
  some g
def qM (N:Nat) (a:qA) (b:List qh):Nat->(List qh)->Int->Option (List qh)
 |0,_,_=>none
 |K+1,e,c=>
  if c<(b.length:Int)then
  (idx b c).bind fun f=>
  (jH N ([a.Low,a.High]:List Str)).bind fun g=>
  (qI N f g N e 0).bind fun d=>
  qM N a b K d (w64 (c+1))
  else
  some e
def yN (N:Nat) (a:qA) (c:qA):Option (qA×Int):=
 (jH N ([a.Low,a.High]:List Str)).bind fun g=>
 (qM N c g N ([]:List qh) 0).bind fun f=>
 (kW N f).bind fun d=>
 (za N f).bind fun e=>
 (xy N d e).bind fun b=>
 some (b.1,b.2)
theorem qep (N:Nat) (b:qA) (a:qA) {res:qA×Int} (h:yN N b a=some res):qc ZT (.fn 121) (kS b.Low b.High (kS a.Low a.High [.func (.func 89) [] []])) [] (.tuple (kS res.1.Low res.1.High [.i res.2])) []:=by
 unfold yN at h
 refine Ub Tryz.func121 rfl rfl (m:=51) rfl (rs:=[.cell 6 44,.tmp 7]) rfl (l:=(kAC b.Low b.High a.Low a.High [(2,.func (.func 89) [] [])])) rfl ?_
 refine sg fol ((2,.func (.func 89) [] [])::(kQ (kBF []))) (kB b.Low b.High (kB a.Low a.High (kN []))) ?_
 refine sh fol ((2,.func (.func 89) [] [])::(kQ (kBF [(8,.nilslice)]))) ?_
 refine sq ?_
 obtain⟨c,D,h⟩:=bnd h
 refine sq (gq fol [5] ((2,.func (.func 89) [] [])::(kAD c (c.length:Int))) (kB b.Low b.High (kB a.Low a.High (kN (kAo b.Low b.High)))) (ac (hs (.callF 175 [.slice 3 0 2 2 1] (kB b.Low b.High (kB a.Low a.High (kN (kB b.Low b.High [])))) [3] [vl encS ([b.Low,b.High]:List Str)] (vl qd c)) (je (FzL.cons (Fz.lit rfl rfl (Ud (AllST.cons tS (AllST.cons tS AllST.nil)))) FzL.nil) (vD N ([b.Low,b.High]:List Str) D) (qw qd _ (nl rfl)))) az) ?_)
 refine Goes.sub (show Sub (ofG 51 ((2,.func (.func 89) [] [])::(kAD c (c.length:Int))),(kB b.Low b.High (kB a.Low a.High (kN (kAo b.Low b.High))))) (ofG 51 ((2,.func (.func 89) [] [])::(kY ((6,.ptr 1 0)::(8,.nilslice)::(kAi c (c.length:Int) [(20,.i 0)])))),(kB a.Low a.High (kN [])))from(Sub.norm [] [some 1,some 2] rfl rfl (.keep (.same (qC.func sn sn)) (.kp (.kp (.keep (.same (qC.nilslice)) (.keep (.same (qg qd _)) (.keep (.same nI) (.keep (.same nI) .nil))))))) (.kb rfl (.same sn) (.kb rfl (.same sn) .nil)))) ?_
 refine Goes.block ?_
 obtain⟨K,g5,h⟩:=bnd h
 refine Goes.imp (Q:=fun x s'=>(x= .exit 0/\ ∃r,r=K/\Sub s' (ofG 51 (kBn [(8,.gslice 1 r.length 4)]),(kC r [])))) ?_ ?_
 ·refine Goes.sub (s':=(ofG 51 ((2,.func (.func 89) [] [])::(kY (kBE (kAi c (c.length:Int) [(20,.i 0)])))),(kB a.Low a.High (kN kBL)))) (Sub.norm [] [some 0,some 1,none] rfl rfl (.keep (.same (qC.func sn sn)) (.kp (.kp (.keep .nil (.keep (.same (qg qd _)) (.keep (.same nI) (.keep (.same nI) .nil))))))) (.kb rfl (.same sn) (.kb rfl (.same sn) (.fresh .nil)))) ?_
  refine Uc (fun M s=> ∃(k:List qh) (g:Int),s=(ofG 51 ((2,.func (.func 89) [] [])::(kL k c (c.length:Int) g [])),(kB a.Low a.High (kC k [])))/\qM N a c M k g=some K) ?_ (m:=N) ⟨_,_,rfl,g5⟩
  rintro M s ⟨k,g,rfl,g5⟩
  cases M with
  |zero=>simp only[qM]at g5;cases g5
  |succ M=>
   rw[qM]at g5
   refine sh fol ((2,.func (.func 89) [] [])::(kL k c (c.length:Int) g [(21,.bool (decide (g<(c.length:Int))))])) ?_
   refine sq ?_
   refine ihD g5 (fun L g5=>?_) (fun L g5=>?_)
   ·refine Goes.skip ?_
    refine sq (Goes.block ?_)
    obtain⟨j,w,g5⟩:=bnd g5
    refine sq (gq fol [0,1,3] ((2,.func (.func 89) [] [])::(kY (kAZ k (kAi c (c.length:Int) [(20,.i g)])))) (kB a.Low a.High (kC k [.cells (nq1 j)])) (ac (iv qa1 qd w) (ac (la qcL qd w) (ac (hs (.run [3] (qp ZT 108 (.ptr 3 0) (.agg (nq1 j))) (kB a.Low a.High (kC k (kD []))) .undef (kB a.Low a.High (kC k [.cells (nq1 j)])) true) (kw (n:=4) (by kernel_rfl) rfl rfl rfl rfl (cac rfl (cac nvc (cac rfl (cac nvc can)))) rfl)) az))) ?_)
    obtain⟨e,F,g5⟩:=bnd g5
    refine sq (gq fol [5] ((2,.func (.func 89) [] [])::(kE k c (c.length:Int) g e (e.length:Int) kB0)) (kB a.Low a.High (kC k (.cells (nq1 j)::(kAo a.Low a.High)))) (ac (hs (.callF 175 [.slice 4 0 2 2 1] (kB a.Low a.High (kC k (.cells (nq1 j)::(kB a.Low a.High [])))) [4] [vl encS ([a.Low,a.High]:List Str)] (vl qd e)) (je (FzL.cons (Fz.lit rfl rfl (Ud (AllST.cons tS (AllST.cons tS AllST.nil)))) FzL.nil) (vD N ([a.Low,a.High]:List Str) F) (qw qd _ (nl rfl)))) az) ?_)
    refine Goes.sub (show Sub (ofG 51 ((2,.func (.func 89) [] [])::(kE k c (c.length:Int) g e (e.length:Int) kB0)),(kB a.Low a.High (kC k (.cells (nq1 j)::(kAo a.Low a.High))))) (ofG 51 ((2,.func (.func 89) [] [])::(kE k c (c.length:Int) g e (e.length:Int) kB0)),(kB a.Low a.High (kC k [.cells (nq1 j)])))from(Sub.norm [] [some 0,some 1,some 2,some 3] rfl rfl (.keep (.same (qC.func sn sn)) (.kp (.kp (.keep (.gslice rfl) (.kp (.keep (.same (qg qd _)) (.keep (.same nI) (.keep (.same nI) (.keep (.same (qg qd _)) (.keep (.same nI) (.keep (.same nI) .nil))))))))))) (.kb rfl (.same sn) (.kb rfl (.same sn) (.ks (.kb rfl (.same sn) .nil)))))) ?_
    refine Goes.block ?_
    obtain⟨G,g12,g5⟩:=bnd g5
    refine Goes.imp (Q:=fun x s'=>(x= .exit 2/\ ∃o,o=G/\Sub s' (ofG 51 ((2,.func (.func 89) [] [])::(kL o c (c.length:Int) g [])),(kB a.Low a.High (kC o []))))) ?_ ?_
    ·refine Uc (fun M s=> ∃(t:List qh) (f:Int),s=(ofG 51 ((2,.func (.func 89) [] [])::(kE t c (c.length:Int) g e (e.length:Int) (kBy f))),(kB a.Low a.High (kC t [.cells (nq1 j)])))/\qI N j e M t f=some G) ?_ (m:=N) ⟨_,_,rfl,g12⟩
     rintro M s ⟨t,f,rfl,g12⟩
     cases M with
     |zero=>simp only[qI]at g12;cases g12
     |succ M=>
      rw[qI]at g12
      refine sh fol ((2,.func (.func 89) [] [])::(kE t c (c.length:Int) g e (e.length:Int) [(31,.i f),(32,.bool (decide (f<(e.length:Int))))])) ?_
      refine sq ?_
      refine ihD g12 (fun J g12=>?_) (fun J g12=>?_)
      ·refine Goes.skip ?_
       refine sq (Goes.block ?_)
       obtain⟨p,u,g12⟩:=bnd g12
       refine sq (gq fol [0,1,3] ((2,.func (.func 89) [] [])::(kY (kAZ t ((12,.ptr 4 0)::(kAi c (c.length:Int) ((20,.i g)::(29,vl qd e)::(30,.i (e.length:Int))::(kBy f))))))) (kB a.Low a.High (kC t [.cells (nq1 j),.cells (nq1 p)])) (ac (iv qa1 qd u) (ac (la qcL qd u) (ac (hs (.run [4] (qp ZT 108 (.ptr 4 0) (.agg (nq1 p))) (kB a.Low a.High (kC t (.cells (nq1 j)::(kD [])))) .undef (kB a.Low a.High (kC t [.cells (nq1 j),.cells (nq1 p)])) true) (kw (n:=4) (by kernel_rfl) rfl rfl rfl rfl (cac rfl (cac nvc (cac rfl (cac nvc can)))) rfl)) az))) ?_)
       obtain⟨v,y,g12⟩:=bnd g12
       obtain⟨q,z,g12⟩:=bnd g12
       refine gq fol [4,6] ((2,.func (.func 89) [] [])::(kV q c (c.length:Int) g e (e.length:Int) (kBy f))) (kB a.Low a.High (kN (.dead:: .cells (nq1 j):: .cells (nq1 p):: .cells (nq1 v)::(kAP q)))) (ac (cv (qgS N j p y)) (ac (hs (.run [2,5] (yz ZT [161,161] (.gslice 2 t.length 4) (.slice 5 0 1 1 4)) (kB a.Low a.High (kC t [.cells (nq1 j),.cells (nq1 p),.cells (nq1 v)])) (.gslice 6 q.length 4) (kB a.Low a.High (kN (.dead:: .cells (nq1 j):: .cells (nq1 p):: .cells (nq1 v)::(kAP q)))) true) (qaQ qa1 (E:=qd) rfl (qen (E:=qd) (ys:=[v]) rfl rfl rfl rfl) (qff (E:=qd) (l:=t) rfl rfl rfl z rfl))) az)) ?_
       refine gh fol ((2,.func (.func 89) [] [])::(kV q c (c.length:Int) g e (e.length:Int) (kBy (w64 (f+1))))) ?_
       exact⟨M,(ofG 51 ((2,.func (.func 89) [] [])::(kE q c (c.length:Int) g e (e.length:Int) (kBy (w64 (f+1))))),(kB a.Low a.High (kC q [.cells (nq1 j)]))),Nat.lt_succ_self _,(Sub.norm [] [some 0,some 1,some 6,some 3] rfl rfl (.keep (.same (qC.func sn sn)) (.kp (.kp (.keep (.gslice rfl) (.kp (.keep (.same (qg qd _)) (.keep (.same nI) (.keep (.same nI) (.keep (.same (qg qd _)) (.keep (.same nI) (.keep (.same nI) .nil))))))))))) (.kb rfl (.same sn) (.kb rfl (.same sn) (.ks (.kb rfl (.same sn) .nil))))),_,_,rfl,g12⟩
      refine Goes.exit ?_
      obtain rfl:=si g12
      exact⟨rfl,_,rfl,(Sub.norm [] [some 0,some 1,some 2] rfl rfl (.keep (.same (qC.func sn sn)) (.kp (.kp (.keep (.gslice rfl) (.drop (.keep (.same (qg qd _)) (.keep (.same nI) (.keep (.same nI) .nil)))))))) (.kb rfl (.same sn) (.kb rfl (.same sn) (.ks .nil))))⟩
    rintro x s' ⟨rfl,o,rfl,hsub⟩
    refine Goes.sub hsub ?_
    refine gh fol ((2,.func (.func 89) [] [])::(kL o c (c.length:Int) (w64 (g+1)) [])) ?_
    exact⟨M,(ofG 51 ((2,.func (.func 89) [] [])::(kL o c (c.length:Int) (w64 (g+1)) [])),(kB a.Low a.High (kC o []))),Nat.lt_succ_self _,(Sub.refl _),_,_,rfl,g5⟩
   refine Goes.exit ?_
   obtain rfl:=si g5
   exact⟨rfl,_,rfl,(Sub.norm [] [some 1,some 2] rfl rfl (.drop (.drop (.kp (.keep (.gslice rfl) .nil)))) (.kb rfl (.same sn) (.ks .nil)))⟩
 rintro x s' ⟨rfl,r,rfl,hsub⟩
 refine Goes.sub hsub ?_
 obtain⟨H,A,h⟩:=bnd h
 obtain⟨I,B,h⟩:=bnd h
 obtain⟨d,C,h⟩:=bnd h
 refine sq (gq fol [1,3,4] (kAw d.2) (kB d.1.Low d.1.High (kAj r)) (ac (hs (.callF 176 [.gslice 1 r.length 4,.func (.func 83) [] []] (kC r []) [1] [vl qd r,.func (.func 83) [] []] (.agg (nq1 H))) (je (FzL.cons (Fz.gs (E:=qd) rfl rfl (nl rfl)) (FzL.cons (Fz.func FzL.nil FzL.nil) FzL.nil)) (jN N r A) (Still.agg (AllST.cons tI (AllST.cons (qm (qa .u64) _ (nl rfl)) (AllST.cons tI (AllST.cons (qm (qa .u64) _ (nl rfl)) AllST.nil))))))) (ac (hs (.callF 177 [.gslice 1 r.length 4,.func (.func 83) [] []] (kN (kAj r)) [1] [vl qd r,.func (.func 83) [] []] (.agg (nq1 I))) (je (FzL.cons (Fz.gsF (E:=qd) rfl rfl (nl rfl)) (FzL.cons (Fz.func FzL.nil FzL.nil) FzL.nil)) (jO N r B) (Still.agg (AllST.cons tI (AllST.cons (qm (qa .u64) _ (nl rfl)) (AllST.cons tI (AllST.cons (qm (qa .u64) _ (nl rfl)) AllST.nil))))))) (ac (cv (qa7 N H I C)) az))) ?_)
 refine Goes.sub (show Sub (ofG 51 (kAw d.2),(kB d.1.Low d.1.High (kAj r))) (ofG 51 (kAw d.2),(kB d.1.Low d.1.High []))from(Sub.norm [] [some 0] rfl rfl (.kp (.keep (.same nI) .nil)) (.kb rfl (.same sn) .nil))) ?_
 refine Goes.ret ?_
 obtain rfl:=si h
 exact(gw2 (kS d.1.Low d.1.High [.i d.2]) (FzW.tuple (qb.cons (FzW.agg (qb.cons (Ua tS) (qb.cons (Ua tS) qb.nil))) (qb.cons (Ua tI) qb.nil))))
def vT (N:Nat) (a:qA) (b:qA):Option (qA×Int):=
 (qF N a).bind fun e=>
 (qF N b).bind fun f=>
 (zQ N ([e,f]:List Int)).bind fun c=>
 if(!decide (c=0))=true then
 some ((⟨[],[]⟩:qA),c)
 else
 (yN N a b).bind fun d=>
 some (d.1,d.2)
theorem qcE (N:Nat) (a:qA) (b:qA) {res:qA×Int} (h:vT N a b=some res):qc ZT (.fn 119) (kS a.Low a.High (kS b.Low b.High [.func (.func 89) [] []])) [] (.tuple (kS res.1.Low res.1.High [.i res.2])) []:=by
 unfold vT at h
 refine Ub Tryz.func119 rfl rfl (m:=25) rfl (rs:=[.cell 6 44,.tmp 7]) rfl (l:=(kAC a.Low a.High b.Low b.High [(2,.func (.func 89) [] [])])) rfl ?_
 refine sg fol ((2,.func (.func 89) [] [])::(kQ (kBF []))) (kB a.Low a.High (kB b.Low b.High (kN []))) ?_
 refine sq ?_
 obtain⟨e,f,h⟩:=bnd h
 obtain⟨g,j,h⟩:=bnd h
 obtain⟨d,k,h⟩:=bnd h
 refine sq (gq fol [1,3,5] ((2,.func (.func 89) [] [])::(kQ (kBF (kBw d)))) (kB a.Low a.High (kB b.Low b.High (kN (kAE e g)))) (ac (cv (ky N a f)) (ac (cv (ky N b j)) (ac (hs (.call 79 [.slice 3 0 2 2 1] (kB a.Low a.High (kB b.Low b.High (kN (kAE e g)))) [3] [vl encI ([e,g]:List Int)] (.i d)) (qcW (FzL.cons (Fz.lit rfl rfl (Ud (AllST.cons tI (AllST.cons tI AllST.nil)))) FzL.nil) (vO N ([e,g]:List Int) k) tI rfl)) az))) ?_)
 refine sh fol ((2,.func (.func 89) [] [])::(kQ (kBF [(8,.i d),(16,.bool (!decide (d=0)))]))) ?_
 refine ihB h (fun o h=>?_) (fun o h=>?_)
 ·refine sh fol (kBF [(7,.i d)]) ?_
  refine Goes.ret ?_
  obtain rfl:=si h
  exact(gw2 (kBZ [.i d]) (FzW.tuple (qb.cons (FzW.agg (qb.cons (Ua tS) (qb.cons (Ua tS) qb.nil))) (qb.cons (Ua tI) qb.nil))))
 refine Goes.skip ?_
 obtain⟨c,n,h⟩:=bnd h
 refine sq (gq fol [3] (kBF [(7,.i c.2)]) (kB a.Low a.High (kB b.Low b.High (kB c.1.Low c.1.High (kAE e g)))) (ac (hs (.call 121 (kS a.Low a.High (kS b.Low b.High [.func (.func 89) [] []])) [] [] (kS a.Low a.High (kS b.Low b.High [.func (.func 89) [] []])) (.tuple (kS c.1.Low c.1.High [.i c.2]))) (qfC (FzL.cons (Uf (Still.agg (AllST.cons tS (AllST.cons tS AllST.nil)))) (FzL.cons (Uf (Still.agg (AllST.cons tS (AllST.cons tS AllST.nil)))) (FzL.cons (Fz.func FzL.nil FzL.nil) FzL.nil))) (qep N a b n) (Still.tuple (AllST.cons (Still.agg (AllST.cons tS (AllST.cons tS AllST.nil))) (AllST.cons tI AllST.nil))))) az) ?_)
 refine Goes.ret ?_
 obtain rfl:=si h
 exact(gw2 (kS c.1.Low c.1.High [.i c.2]) (FzW.tuple (qb.cons (FzW.agg (qb.cons (Ua tS) (qb.cons (Ua tS) qb.nil))) (qb.cons (Ua tI) qb.nil))))
def qbk (N:Nat) (a:qA) (b:qA):Option (qA×Int):=
 (vT N a b).bind fun c=>
 some (c.1,c.2)
theorem qgK (N:Nat) (a:qA) (b:qA) {res:qA×Int} (h:qbk N a b=some res):qc ZT (.fn 39) (kS a.Low a.High (kS b.Low b.High [])) [] (.tuple (kS res.1.Low res.1.High [.i res.2])) []:=by
 unfold qbk at h
 refine Ub Tryz.func39 rfl rfl (m:=11) rfl (rs:=[.cell 4 44,.tmp 5]) rfl (l:=(kAC a.Low a.High b.Low b.High [])) rfl ?_
 refine sg fol (kH []) (kB a.Low a.High (kB b.Low b.High (kN []))) ?_
 obtain⟨c,d,h⟩:=bnd h
 refine sq (gq fol [2] (kAU (kA5 c.2)) (kB a.Low a.High (kB b.Low b.High (kB c.1.Low c.1.High []))) (ac (hs (.call 119 (kS a.Low a.High (kS b.Low b.High [.func (.func 89) [] []])) [] [] (kS a.Low a.High (kS b.Low b.High [.func (.func 89) [] []])) (.tuple (kS c.1.Low c.1.High [.i c.2]))) (qfC (FzL.cons (Uf (Still.agg (AllST.cons tS (AllST.cons tS AllST.nil)))) (FzL.cons (Uf (Still.agg (AllST.cons tS (AllST.cons tS AllST.nil)))) (FzL.cons (Fz.func FzL.nil FzL.nil) FzL.nil))) (qcE N a b d) (Still.tuple (AllST.cons (Still.agg (AllST.cons tS (AllST.cons tS AllST.nil))) (AllST.cons tI AllST.nil))))) az) ?_)
 refine Goes.ret ?_
 obtain rfl:=si h
 exact(gw2 (kS c.1.Low c.1.High [.i c.2]) (FzW.tuple (qb.cons (FzW.agg (qb.cons (Ua tS) (qb.cons (Ua tS) qb.nil))) (qb.cons (Ua tI) qb.nil))))
def qN (N:Nat) (f:qh) (b:List qh):Nat->(List qh)->Int->Option (List qh)
 |0,_,_=>none
 |K+1,g,a=>
  if a<(b.length:Int)then
  (idx b a).bind fun c=>
  (yI N f c).bind fun d=>
  (app 64 g [d]).bind fun e=>
  qN N f b K e (w64 (a+1))
  else
  some g
def qH (N:Nat) (a:qA) (b:List qh):Nat->(List qh)->Int->Option (List qh)
 |0,_,_=>none
 |K+1,e,c=>
  if c<(b.length:Int)then
  (idx b c).bind fun f=>
  (jH N ([a.Low,a.High]:List Str)).bind fun g=>
  (qN N f g N e 0).bind fun d=>
  qH N a b K d (w64 (c+1))
  else
  some e
def yJ (N:Nat) (a:qA) (c:qA):Option (qA×Int):=
 (jH N ([a.Low,a.High]:List Str)).bind fun g=>
 (qH N c g N ([]:List qh) 0).bind fun f=>
 (kW N f).bind fun d=>
 (za N f).bind fun e=>
 (xy N d e).bind fun b=>
 some (b.1,b.2)
theorem qeo (N:Nat) (b:qA) (a:qA) {res:qA×Int} (h:yJ N b a=some res):qc ZT (.fn 121) (kS b.Low b.High (kS a.Low a.High [.func (.func 102) [] []])) [] (.tuple (kS res.1.Low res.1.High [.i res.2])) []:=by
 unfold yJ at h
 refine Ub Tryz.func121 rfl rfl (m:=51) rfl (rs:=[.cell 6 44,.tmp 7]) rfl (l:=(kAC b.Low b.High a.Low a.High [(2,.func (.func 102) [] [])])) rfl ?_
 refine sg fol ((2,.func (.func 102) [] [])::(kQ (kBF []))) (kB b.Low b.High (kB a.Low a.High (kN []))) ?_
 refine sh fol ((2,.func (.func 102) [] [])::(kQ (kBF [(8,.nilslice)]))) ?_
 refine sq ?_
 obtain⟨c,D,h⟩:=bnd h
 refine sq (gq fol [5] ((2,.func (.func 102) [] [])::(kAD c (c.length:Int))) (kB b.Low b.High (kB a.Low a.High (kN (kAo b.Low b.High)))) (ac (hs (.callF 175 [.slice 3 0 2 2 1] (kB b.Low b.High (kB a.Low a.High (kN (kB b.Low b.High [])))) [3] [vl encS ([b.Low,b.High]:List Str)] (vl qd c)) (je (FzL.cons (Fz.lit rfl rfl (Ud (AllST.cons tS (AllST.cons tS AllST.nil)))) FzL.nil) (vD N ([b.Low,b.High]:List Str) D) (qw qd _ (nl rfl)))) az) ?_)
 refine Goes.sub (show Sub (ofG 51 ((2,.func (.func 102) [] [])::(kAD c (c.length:Int))),(kB b.Low b.High (kB a.Low a.High (kN (kAo b.Low b.High))))) (ofG 51 ((2,.func (.func 102) [] [])::(kY ((6,.ptr 1 0)::(8,.nilslice)::(kAi c (c.length:Int) [(20,.i 0)])))),(kB a.Low a.High (kN [])))from(Sub.norm [] [some 1,some 2] rfl rfl (.keep (.same (qC.func sn sn)) (.kp (.kp (.keep (.same (qC.nilslice)) (.keep (.same (qg qd _)) (.keep (.same nI) (.keep (.same nI) .nil))))))) (.kb rfl (.same sn) (.kb rfl (.same sn) .nil)))) ?_
 refine Goes.block ?_
 obtain⟨K,g5,h⟩:=bnd h
 refine Goes.imp (Q:=fun x s'=>(x= .exit 0/\ ∃r,r=K/\Sub s' (ofG 51 (kBn [(8,.gslice 1 r.length 4)]),(kC r [])))) ?_ ?_
 ·refine Goes.sub (s':=(ofG 51 ((2,.func (.func 102) [] [])::(kY (kBE (kAi c (c.length:Int) [(20,.i 0)])))),(kB a.Low a.High (kN kBL)))) (Sub.norm [] [some 0,some 1,none] rfl rfl (.keep (.same (qC.func sn sn)) (.kp (.kp (.keep .nil (.keep (.same (qg qd _)) (.keep (.same nI) (.keep (.same nI) .nil))))))) (.kb rfl (.same sn) (.kb rfl (.same sn) (.fresh .nil)))) ?_
  refine Uc (fun M s=> ∃(k:List qh) (g:Int),s=(ofG 51 ((2,.func (.func 102) [] [])::(kL k c (c.length:Int) g [])),(kB a.Low a.High (kC k [])))/\qH N a c M k g=some K) ?_ (m:=N) ⟨_,_,rfl,g5⟩
  rintro M s ⟨k,g,rfl,g5⟩
  cases M with
  |zero=>simp only[qH]at g5;cases g5
  |succ M=>
   rw[qH]at g5
   refine sh fol ((2,.func (.func 102) [] [])::(kL k c (c.length:Int) g [(21,.bool (decide (g<(c.length:Int))))])) ?_
   refine sq ?_
   refine ihD g5 (fun L g5=>?_) (fun L g5=>?_)
   ·refine Goes.skip ?_
    refine sq (Goes.block ?_)
    obtain⟨j,w,g5⟩:=bnd g5
    refine sq (gq fol [0,1,3] ((2,.func (.func 102) [] [])::(kY (kAZ k (kAi c (c.length:Int) [(20,.i g)])))) (kB a.Low a.High (kC k [.cells (nq1 j)])) (ac (iv qa1 qd w) (ac (la qcL qd w) (ac (hs (.run [3] (qp ZT 108 (.ptr 3 0) (.agg (nq1 j))) (kB a.Low a.High (kC k (kD []))) .undef (kB a.Low a.High (kC k [.cells (nq1 j)])) true) (kw (n:=4) (by kernel_rfl) rfl rfl rfl rfl (cac rfl (cac nvc (cac rfl (cac nvc can)))) rfl)) az))) ?_)
    obtain⟨e,F,g5⟩:=bnd g5
    refine sq (gq fol [5] ((2,.func (.func 102) [] [])::(kE k c (c.length:Int) g e (e.length:Int) kB0)) (kB a.Low a.High (kC k (.cells (nq1 j)::(kAo a.Low a.High)))) (ac (hs (.callF 175 [.slice 4 0 2 2 1] (kB a.Low a.High (kC k (.cells (nq1 j)::(kB a.Low a.High [])))) [4] [vl encS ([a.Low,a.High]:List Str)] (vl qd e)) (je (FzL.cons (Fz.lit rfl rfl (Ud (AllST.cons tS (AllST.cons tS AllST.nil)))) FzL.nil) (vD N ([a.Low,a.High]:List Str) F) (qw qd _ (nl rfl)))) az) ?_)
    refine Goes.sub (show Sub (ofG 51 ((2,.func (.func 102) [] [])::(kE k c (c.length:Int) g e (e.length:Int) kB0)),(kB a.Low a.High (kC k (.cells (nq1 j)::(kAo a.Low a.High))))) (ofG 51 ((2,.func (.func 102) [] [])::(kE k c (c.length:Int) g e (e.length:Int) kB0)),(kB a.Low a.High (kC k [.cells (nq1 j)])))from(Sub.norm [] [some 0,some 1,some 2,some 3] rfl rfl (.keep (.same (qC.func sn sn)) (.kp (.kp (.keep (.gslice rfl) (.kp (.keep (.same (qg qd _)) (.keep (.same nI) (.keep (.same nI) (.keep (.same (qg qd _)) (.keep (.same nI) (.keep (.same nI) .nil))))))))))) (.kb rfl (.same sn) (.kb rfl (.same sn) (.ks (.kb rfl (.same sn) .nil)))))) ?_
    refine Goes.block ?_
    obtain⟨G,g12,g5⟩:=bnd g5
    refine Goes.imp (Q:=fun x s'=>(x= .exit 2/\ ∃o,o=G/\Sub s' (ofG 51 ((2,.func (.func 102) [] [])::(kL o c (c.length:Int) g [])),(kB a.Low a.High (kC o []))))) ?_ ?_
    ·refine Uc (fun M s=> ∃(t:List qh) (f:Int),s=(ofG 51 ((2,.func (.func 102) [] [])::(kE t c (c.length:Int) g e (e.length:Int) (kBy f))),(kB a.Low a.High (kC t [.cells (nq1 j)])))/\qN N j e M t f=some G) ?_ (m:=N) ⟨_,_,rfl,g12⟩
     rintro M s ⟨t,f,rfl,g12⟩
     cases M with
     |zero=>simp only[qN]at g12;cases g12
     |succ M=>
      rw[qN]at g12
      refine sh fol ((2,.func (.func 102) [] [])::(kE t c (c.length:Int) g e (e.length:Int) [(31,.i f),(32,.bool (decide (f<(e.length:Int))))])) ?_
      refine sq ?_
      refine ihD g12 (fun J g12=>?_) (fun J g12=>?_)
      ·refine Goes.skip ?_
       refine sq (Goes.block ?_)
       obtain⟨p,u,g12⟩:=bnd g12
       refine sq (gq fol [0,1,3] ((2,.func (.func 102) [] [])::(kY (kAZ t ((12,.ptr 4 0)::(kAi c (c.length:Int) ((20,.i g)::(29,vl qd e)::(30,.i (e.length:Int))::(kBy f))))))) (kB a.Low a.High (kC t [.cells (nq1 j),.cells (nq1 p)])) (ac (iv qa1 qd u) (ac (la qcL qd u) (ac (hs (.run [4] (qp ZT 108 (.ptr 4 0) (.agg (nq1 p))) (kB a.Low a.High (kC t (.cells (nq1 j)::(kD [])))) .undef (kB a.Low a.High (kC t [.cells (nq1 j),.cells (nq1 p)])) true) (kw (n:=4) (by kernel_rfl) rfl rfl rfl rfl (cac rfl (cac nvc (cac rfl (cac nvc can)))) rfl)) az))) ?_)
       obtain⟨v,y,g12⟩:=bnd g12
       obtain⟨q,z,g12⟩:=bnd g12
       refine gq fol [4,6] ((2,.func (.func 102) [] [])::(kV q c (c.length:Int) g e (e.length:Int) (kBy f))) (kB a.Low a.High (kN (.dead:: .cells (nq1 j):: .cells (nq1 p):: .cells (nq1 v)::(kAP q)))) (ac (cv (qd8 N j p y)) (ac (hs (.run [2,5] (yz ZT [161,161] (.gslice 2 t.length 4) (.slice 5 0 1 1 4)) (kB a.Low a.High (kC t [.cells (nq1 j),.cells (nq1 p),.cells (nq1 v)])) (.gslice 6 q.length 4) (kB a.Low a.High (kN (.dead:: .cells (nq1 j):: .cells (nq1 p):: .cells (nq1 v)::(kAP q)))) true) (qaQ qa1 (E:=qd) rfl (qen (E:=qd) (ys:=[v]) rfl rfl rfl rfl) (qff (E:=qd) (l:=t) rfl rfl rfl z rfl))) az)) ?_
       refine gh fol ((2,.func (.func 102) [] [])::(kV q c (c.length:Int) g e (e.length:Int) (kBy (w64 (f+1))))) ?_
       exact⟨M,(ofG 51 ((2,.func (.func 102) [] [])::(kE q c (c.length:Int) g e (e.length:Int) (kBy (w64 (f+1))))),(kB a.Low a.High (kC q [.cells (nq1 j)]))),Nat.lt_succ_self _,(Sub.norm [] [some 0,some 1,some 6,some 3] rfl rfl (.keep (.same (qC.func sn sn)) (.kp (.kp (.keep (.gslice rfl) (.kp (.keep (.same (qg qd _)) (.keep (.same nI) (.keep (.same nI) (.keep (.same (qg qd _)) (.keep (.same nI) (.keep (.same nI) .nil))))))))))) (.kb rfl (.same sn) (.kb rfl (.same sn) (.ks (.kb rfl (.same sn) .nil))))),_,_,rfl,g12⟩
      refine Goes.exit ?_
      obtain rfl:=si g12
      exact⟨rfl,_,rfl,(Sub.norm [] [some 0,some 1,some 2] rfl rfl (.keep (.same (qC.func sn sn)) (.kp (.kp (.keep (.gslice rfl) (.drop (.keep (.same (qg qd _)) (.keep (.same nI) (.keep (.same nI) .nil)))))))) (.kb rfl (.same sn) (.kb rfl (.same sn) (.ks .nil))))⟩
    rintro x s' ⟨rfl,o,rfl,hsub⟩
    refine Goes.sub hsub ?_
    refine gh fol ((2,.func (.func 102) [] [])::(kL o c (c.length:Int) (w64 (g+1)) [])) ?_
    exact⟨M,(ofG 51 ((2,.func (.func 102) [] [])::(kL o c (c.length:Int) (w64 (g+1)) [])),(kB a.Low a.High (kC o []))),Nat.lt_succ_self _,(Sub.refl _),_,_,rfl,g5⟩
   refine Goes.exit ?_
   obtain rfl:=si g5
   exact⟨rfl,_,rfl,(Sub.norm [] [some 1,some 2] rfl rfl (.drop (.drop (.kp (.keep (.gslice rfl) .nil)))) (.kb rfl (.same sn) (.ks .nil)))⟩
 rintro x s' ⟨rfl,r,rfl,hsub⟩
 refine Goes.sub hsub ?_
 obtain⟨H,A,h⟩:=bnd h
 obtain⟨I,B,h⟩:=bnd h
 obtain⟨d,C,h⟩:=bnd h
 refine sq (gq fol [1,3,4] (kAw d.2) (kB d.1.Low d.1.High (kAj r)) (ac (hs (.callF 176 [.gslice 1 r.length 4,.func (.func 83) [] []] (kC r []) [1] [vl qd r,.func (.func 83) [] []] (.agg (nq1 H))) (je (FzL.cons (Fz.gs (E:=qd) rfl rfl (nl rfl)) (FzL.cons (Fz.func FzL.nil FzL.nil) FzL.nil)) (jN N r A) (Still.agg (AllST.cons tI (AllST.cons (qm (qa .u64) _ (nl rfl)) (AllST.cons tI (AllST.cons (qm (qa .u64) _ (nl rfl)) AllST.nil))))))) (ac (hs (.callF 177 [.gslice 1 r.length 4,.func (.func 83) [] []] (kN (kAj r)) [1] [vl qd r,.func (.func 83) [] []] (.agg (nq1 I))) (je (FzL.cons (Fz.gsF (E:=qd) rfl rfl (nl rfl)) (FzL.cons (Fz.func FzL.nil FzL.nil) FzL.nil)) (jO N r B) (Still.agg (AllST.cons tI (AllST.cons (qm (qa .u64) _ (nl rfl)) (AllST.cons tI (AllST.cons (qm (qa .u64) _ (nl rfl)) AllST.nil))))))) (ac (cv (qa7 N H I C)) az))) ?_)
 refine Goes.sub (show Sub (ofG 51 (kAw d.2),(kB d.1.Low d.1.High (kAj r))) (ofG 51 (kAw d.2),(kB d.1.Low d.1.High []))from(Sub.norm [] [some 0] rfl rfl (.kp (.keep (.same nI) .nil)) (.kb rfl (.same sn) .nil))) ?_
 refine Goes.ret ?_
 obtain rfl:=si h
 exact(gw2 (kS d.1.Low d.1.High [.i d.2]) (FzW.tuple (qb.cons (FzW.agg (qb.cons (Ua tS) (qb.cons (Ua tS) qb.nil))) (qb.cons (Ua tI) qb.nil))))
def vS (N:Nat) (a:qA) (b:qA):Option (qA×Int):=
 (qF N a).bind fun e=>
 (qF N b).bind fun f=>
 (zQ N ([e,f]:List Int)).bind fun c=>
 if(!decide (c=0))=true then
 some ((⟨[],[]⟩:qA),c)
 else
 (yJ N a b).bind fun d=>
 some (d.1,d.2)
theorem qcC (N:Nat) (a:qA) (b:qA) {res:qA×Int} (h:vS N a b=some res):qc ZT (.fn 119) (kS a.Low a.High (kS b.Low b.High [.func (.func 102) [] []])) [] (.tuple (kS res.1.Low res.1.High [.i res.2])) []:=by
 unfold vS at h
 refine Ub Tryz.func119 rfl rfl (m:=25) rfl (rs:=[.cell 6 44,.tmp 7]) rfl (l:=(kAC a.Low a.High b.Low b.High [(2,.func (.func 102) [] [])])) rfl ?_
 refine sg fol ((2,.func (.func 102) [] [])::(kQ (kBF []))) (kB a.Low a.High (kB b.Low b.High (kN []))) ?_
 refine sq ?_
 obtain⟨e,f,h⟩:=bnd h
 obtain⟨g,j,h⟩:=bnd h
 obtain⟨d,k,h⟩:=bnd h
 refine sq (gq fol [1,3,5] ((2,.func (.func 102) [] [])::(kQ (kBF (kBw d)))) (kB a.Low a.High (kB b.Low b.High (kN (kAE e g)))) (ac (cv (ky N a f)) (ac (cv (ky N b j)) (ac (hs (.call 79 [.slice 3 0 2 2 1] (kB a.Low a.High (kB b.Low b.High (kN (kAE e g)))) [3] [vl encI ([e,g]:List Int)] (.i d)) (qcW (FzL.cons (Fz.lit rfl rfl (Ud (AllST.cons tI (AllST.cons tI AllST.nil)))) FzL.nil) (vO N ([e,g]:List Int) k) tI rfl)) az))) ?_)
 refine sh fol ((2,.func (.func 102) [] [])::(kQ (kBF [(8,.i d),(16,.bool (!decide (d=0)))]))) ?_
 refine ihB h (fun o h=>?_) (fun o h=>?_)
 ·refine sh fol (kBF [(7,.i d)]) ?_
  refine Goes.ret ?_
  obtain rfl:=si h
  exact(gw2 (kBZ [.i d]) (FzW.tuple (qb.cons (FzW.agg (qb.cons (Ua tS) (qb.cons (Ua tS) qb.nil))) (qb.cons (Ua tI) qb.nil))))
 refine Goes.skip ?_
 obtain⟨c,n,h⟩:=bnd h
 refine sq (gq fol [3] (kBF [(7,.i c.2)]) (kB a.Low a.High (kB b.Low b.High (kB c.1.Low c.1.High (kAE e g)))) (ac (hs (.call 121 (kS a.Low a.High (kS b.Low b.High [.func (.func 102) [] []])) [] [] (kS a.Low a.High (kS b.Low b.High [.func (.func 102) [] []])) (.tuple (kS c.1.Low c.1.High [.i c.2]))) (qfC (FzL.cons (Uf (Still.agg (AllST.cons tS (AllST.cons tS AllST.nil)))) (FzL.cons (Uf (Still.agg (AllST.cons tS (AllST.cons tS AllST.nil)))) (FzL.cons (Fz.func FzL.nil FzL.nil) FzL.nil))) (qeo N a b n) (Still.tuple (AllST.cons (Still.agg (AllST.cons tS (AllST.cons tS AllST.nil))) (AllST.cons tI AllST.nil))))) az) ?_)
 refine Goes.ret ?_
 obtain rfl:=si h
 exact(gw2 (kS c.1.Low c.1.High [.i c.2]) (FzW.tuple (qb.cons (FzW.agg (qb.cons (Ua tS) (qb.cons (Ua tS) qb.nil))) (qb.cons (Ua tI) qb.nil))))
def qbj (N:Nat) (a:qA) (b:qA):Option (qA×Int):=
 (vS N a b).bind fun c=>
 some (c.1,c.2)
theorem qgO (N:Nat) (a:qA) (b:qA) {res:qA×Int} (h:qbj N a b=some res):qc ZT (.fn 40) (kS a.Low a.High (kS b.Low b.High [])) [] (.tuple (kS res.1.Low res.1.High [.i res.2])) []:=by
 unfold qbj at h
 refine Ub Tryz.func40 rfl rfl (m:=11) rfl (rs:=[.cell 4 44,.tmp 5]) rfl (l:=(kAC a.Low a.High b.Low b.High [])) rfl ?_
 refine sg fol (kH []) (kB a.Low a.High (kB b.Low b.High (kN []))) ?_
 obtain⟨c,d,h⟩:=bnd h
 refine sq (gq fol [2] (kAU (kA5 c.2)) (kB a.Low a.High (kB b.Low b.High (kB c.1.Low c.1.High []))) (ac (hs (.call 119 (kS a.Low a.High (kS b.Low b.High [.func (.func 102) [] []])) [] [] (kS a.Low a.High (kS b.Low b.High [.func (.func 102) [] []])) (.tuple (kS c.1.Low c.1.High [.i c.2]))) (qfC (FzL.cons (Uf (Still.agg (AllST.cons tS (AllST.cons tS AllST.nil)))) (FzL.cons (Uf (Still.agg (AllST.cons tS (AllST.cons tS AllST.nil)))) (FzL.cons (Fz.func FzL.nil FzL.nil) FzL.nil))) (qcC N a b d) (Still.tuple (AllST.cons (Still.agg (AllST.cons tS (AllST.cons tS AllST.nil))) (AllST.cons tI AllST.nil))))) az) ?_)
 refine Goes.ret ?_
 obtain rfl:=si h
 exact(gw2 (kS c.1.Low c.1.High [.i c.2]) (FzW.tuple (qb.cons (FzW.agg (qb.cons (Ua tS) (qb.cons (Ua tS) qb.nil))) (qb.cons (Ua tI) qb.nil))))
def qK (N:Nat) (f:qh) (b:List qh):Nat->(List qh)->Int->Option (List qh)
 |0,_,_=>none
 |K+1,g,a=>
  if a<(b.length:Int)then
  (idx b a).bind fun c=>
  (xK N f c).bind fun d=>
  (app 64 g [d]).bind fun e=>
  qK N f b K e (w64 (a+1))
  else
  some g
def qL (N:Nat) (a:qA) (b:List qh):Nat->(List qh)->Int->Option (List qh)
 |0,_,_=>none
 |K+1,e,c=>
  if c<(b.length:Int)then
  (idx b c).bind fun f=>
  (jH N ([a.Low,a.High]:List Str)).bind fun g=>
  (qK N f g N e 0).bind fun d=>
  qL N a b K d (w64 (c+1))
  else
  some e
def yE (N:Nat) (a:qA) (c:qA):Option (qA×Int):=
 (jH N ([a.Low,a.High]:List Str)).bind fun g=>
 (qL N c g N ([]:List qh) 0).bind fun f=>
 (kW N f).bind fun d=>
 (za N f).bind fun e=>
 (xy N d e).bind fun b=>
 some (b.1,b.2)
theorem qeQ (N:Nat) (b:qA) (a:qA) {res:qA×Int} (h:yE N b a=some res):qc ZT (.fn 121) (kS b.Low b.High (kS a.Low a.High [.func (.func 88) [] []])) [] (.tuple (kS res.1.Low res.1.High [.i res.2])) []:=by
 unfold yE at h
 refine Ub Tryz.func121 rfl rfl (m:=51) rfl (rs:=[.cell 6 44,.tmp 7]) rfl (l:=(kAC b.Low b.High a.Low a.High [(2,.func (.func 88) [] [])])) rfl ?_
 refine sg fol ((2,.func (.func 88) [] [])::(kQ (kBF []))) (kB b.Low b.High (kB a.Low a.High (kN []))) ?_
 refine sh fol ((2,.func (.func 88) [] [])::(kQ (kBF [(8,.nilslice)]))) ?_
 refine sq ?_
 obtain⟨c,D,h⟩:=bnd h
 refine sq (gq fol [5] ((2,.func (.func 88) [] [])::(kAD c (c.length:Int))) (kB b.Low b.High (kB a.Low a.High (kN (kAo b.Low b.High)))) (ac (hs (.callF 175 [.slice 3 0 2 2 1] (kB b.Low b.High (kB a.Low a.High (kN (kB b.Low b.High [])))) [3] [vl encS ([b.Low,b.High]:List Str)] (vl qd c)) (je (FzL.cons (Fz.lit rfl rfl (Ud (AllST.cons tS (AllST.cons tS AllST.nil)))) FzL.nil) (vD N ([b.Low,b.High]:List Str) D) (qw qd _ (nl rfl)))) az) ?_)
 refine Goes.sub (show Sub (ofG 51 ((2,.func (.func 88) [] [])::(kAD c (c.length:Int))),(kB b.Low b.High (kB a.Low a.High (kN (kAo b.Low b.High))))) (ofG 51 ((2,.func (.func 88) [] [])::(kY ((6,.ptr 1 0)::(8,.nilslice)::(kAi c (c.length:Int) [(20,.i 0)])))),(kB a.Low a.High (kN [])))from(Sub.norm [] [some 1,some 2] rfl rfl (.keep (.same (qC.func sn sn)) (.kp (.kp (.keep (.same (qC.nilslice)) (.keep (.same (qg qd _)) (.keep (.same nI) (.keep (.same nI) .nil))))))) (.kb rfl (.same sn) (.kb rfl (.same sn) .nil)))) ?_
 refine Goes.block ?_
 obtain⟨K,g5,h⟩:=bnd h
 refine Goes.imp (Q:=fun x s'=>(x= .exit 0/\ ∃r,r=K/\Sub s' (ofG 51 (kBn [(8,.gslice 1 r.length 4)]),(kC r [])))) ?_ ?_
 ·refine Goes.sub (s':=(ofG 51 ((2,.func (.func 88) [] [])::(kY (kBE (kAi c (c.length:Int) [(20,.i 0)])))),(kB a.Low a.High (kN kBL)))) (Sub.norm [] [some 0,some 1,none] rfl rfl (.keep (.same (qC.func sn sn)) (.kp (.kp (.keep .nil (.keep (.same (qg qd _)) (.keep (.same nI) (.keep (.same nI) .nil))))))) (.kb rfl (.same sn) (.kb rfl (.same sn) (.fresh .nil)))) ?_
  refine Uc (fun M s=> ∃(k:List qh) (g:Int),s=(ofG 51 ((2,.func (.func 88) [] [])::(kL k c (c.length:Int) g [])),(kB a.Low a.High (kC k [])))/\qL N a c M k g=some K) ?_ (m:=N) ⟨_,_,rfl,g5⟩
  rintro M s ⟨k,g,rfl,g5⟩
  cases M with
  |zero=>simp only[qL]at g5;cases g5
  |succ M=>
   rw[qL]at g5
   refine sh fol ((2,.func (.func 88) [] [])::(kL k c (c.length:Int) g [(21,.bool (decide (g<(c.length:Int))))])) ?_
   refine sq ?_
   refine ihD g5 (fun L g5=>?_) (fun L g5=>?_)
   ·refine Goes.skip ?_
    refine sq (Goes.block ?_)
    obtain⟨j,w,g5⟩:=bnd g5
    refine sq (gq fol [0,1,3] ((2,.func (.func 88) [] [])::(kY (kAZ k (kAi c (c.length:Int) [(20,.i g)])))) (kB a.Low a.High (kC k [.cells (nq1 j)])) (ac (iv qa1 qd w) (ac (la qcL qd w) (ac (hs (.run [3] (qp ZT 108 (.ptr 3 0) (.agg (nq1 j))) (kB a.Low a.High (kC k (kD []))) .undef (kB a.Low a.High (kC k [.cells (nq1 j)])) true) (kw (n:=4) (by kernel_rfl) rfl rfl rfl rfl (cac rfl (cac nvc (cac rfl (cac nvc can)))) rfl)) az))) ?_)
    obtain⟨e,F,g5⟩:=bnd g5
    refine sq (gq fol [5] ((2,.func (.func 88) [] [])::(kE k c (c.length:Int) g e (e.length:Int) kB0)) (kB a.Low a.High (kC k (.cells (nq1 j)::(kAo a.Low a.High)))) (ac (hs (.callF 175 [.slice 4 0 2 2 1] (kB a.Low a.High (kC k (.cells (nq1 j)::(kB a.Low a.High [])))) [4] [vl encS ([a.Low,a.High]:List Str)] (vl qd e)) (je (FzL.cons (Fz.lit rfl rfl (Ud (AllST.cons tS (AllST.cons tS AllST.nil)))) FzL.nil) (vD N ([a.Low,a.High]:List Str) F) (qw qd _ (nl rfl)))) az) ?_)
    refine Goes.sub (show Sub (ofG 51 ((2,.func (.func 88) [] [])::(kE k c (c.length:Int) g e (e.length:Int) kB0)),(kB a.Low a.High (kC k (.cells (nq1 j)::(kAo a.Low a.High))))) (ofG 51 ((2,.func (.func 88) [] [])::(kE k c (c.length:Int) g e (e.length:Int) kB0)),(kB a.Low a.High (kC k [.cells (nq1 j)])))from(Sub.norm [] [some 0,some 1,some 2,some 3] rfl rfl (.keep (.same (qC.func sn sn)) (.kp (.kp (.keep (.gslice rfl) (.kp (.keep (.same (qg qd _)) (.keep (.same nI) (.keep (.same nI) (.keep (.same (qg qd _)) (.keep (.same nI) (.keep (.same nI) .nil))))))))))) (.kb rfl (.same sn) (.kb rfl (.same sn) (.ks (.kb rfl (.same sn) .nil)))))) ?_
    refine Goes.block ?_
    obtain⟨G,g12,g5⟩:=bnd g5
    refine Goes.imp (Q:=fun x s'=>(x= .exit 2/\ ∃o,o=G/\Sub s' (ofG 51 ((2,.func (.func 88) [] [])::(kL o c (c.length:Int) g [])),(kB a.Low a.High (kC o []))))) ?_ ?_
    ·refine Uc (fun M s=> ∃(t:List qh) (f:Int),s=(ofG 51 ((2,.func (.func 88) [] [])::(kE t c (c.length:Int) g e (e.length:Int) (kBy f))),(kB a.Low a.High (kC t [.cells (nq1 j)])))/\qK N j e M t f=some G) ?_ (m:=N) ⟨_,_,rfl,g12⟩
     rintro M s ⟨t,f,rfl,g12⟩
     cases M with
     |zero=>simp only[qK]at g12;cases g12
     |succ M=>
      rw[qK]at g12
      refine sh fol ((2,.func (.func 88) [] [])::(kE t c (c.length:Int) g e (e.length:Int) [(31,.i f),(32,.bool (decide (f<(e.length:Int))))])) ?_
      refine sq ?_
      refine ihD g12 (fun J g12=>?_) (fun J g12=>?_)
      ·refine Goes.skip ?_
       refine sq (Goes.block ?_)
       obtain⟨p,u,g12⟩:=bnd g12
       refine sq (gq fol [0,1,3] ((2,.func (.func 88) [] [])::(kY (kAZ t ((12,.ptr 4 0)::(kAi c (c.length:Int) ((20,.i g)::(29,vl qd e)::(30,.i (e.length:Int))::(kBy f))))))) (kB a.Low a.High (kC t [.cells (nq1 j),.cells (nq1 p)])) (ac (iv qa1 qd u) (ac (la qcL qd u) (ac (hs (.run [4] (qp ZT 108 (.ptr 4 0) (.agg (nq1 p))) (kB a.Low a.High (kC t (.cells (nq1 j)::(kD [])))) .undef (kB a.Low a.High (kC t [.cells (nq1 j),.cells (nq1 p)])) true) (kw (n:=4) (by kernel_rfl) rfl rfl rfl rfl (cac rfl (cac nvc (cac rfl (cac nvc can)))) rfl)) az))) ?_)
       obtain⟨v,y,g12⟩:=bnd g12
       obtain⟨q,z,g12⟩:=bnd g12
       refine gq fol [4,6] ((2,.func (.func 88) [] [])::(kV q c (c.length:Int) g e (e.length:Int) (kBy f))) (kB a.Low a.High (kN (.dead:: .cells (nq1 j):: .cells (nq1 p):: .cells (nq1 v)::(kAP q)))) (ac (cv (qgN N j p y)) (ac (hs (.run [2,5] (yz ZT [161,161] (.gslice 2 t.length 4) (.slice 5 0 1 1 4)) (kB a.Low a.High (kC t [.cells (nq1 j),.cells (nq1 p),.cells (nq1 v)])) (.gslice 6 q.length 4) (kB a.Low a.High (kN (.dead:: .cells (nq1 j):: .cells (nq1 p):: .cells (nq1 v)::(kAP q)))) true) (qaQ qa1 (E:=qd) rfl (qen (E:=qd) (ys:=[v]) rfl rfl rfl rfl) (qff (E:=qd) (l:=t) rfl rfl rfl z rfl))) az)) ?_
       refine gh fol ((2,.func (.func 88) [] [])::(kV q c (c.length:Int) g e (e.length:Int) (kBy (w64 (f+1))))) ?_
       exact⟨M,(ofG 51 ((2,.func (.func 88) [] [])::(kE q c (c.length:Int) g e (e.length:Int) (kBy (w64 (f+1))))),(kB a.Low a.High (kC q [.cells (nq1 j)]))),Nat.lt_succ_self _,(Sub.norm [] [some 0,some 1,some 6,some 3] rfl rfl (.keep (.same (qC.func sn sn)) (.kp (.kp (.keep (.gslice rfl) (.kp (.keep (.same (qg qd _)) (.keep (.same nI) (.keep (.same nI) (.keep (.same (qg qd _)) (.keep (.same nI) (.keep (.same nI) .nil))))))))))) (.kb rfl (.same sn) (.kb rfl (.same sn) (.ks (.kb rfl (.same sn) .nil))))),_,_,rfl,g12⟩
      refine Goes.exit ?_
      obtain rfl:=si g12
      exact⟨rfl,_,rfl,(Sub.norm [] [some 0,some 1,some 2] rfl rfl (.keep (.same (qC.func sn sn)) (.kp (.kp (.keep (.gslice rfl) (.drop (.keep (.same (qg qd _)) (.keep (.same nI) (.keep (.same nI) .nil)))))))) (.kb rfl (.same sn) (.kb rfl (.same sn) (.ks .nil))))⟩
    rintro x s' ⟨rfl,o,rfl,hsub⟩
    refine Goes.sub hsub ?_
    refine gh fol ((2,.func (.func 88) [] [])::(kL o c (c.length:Int) (w64 (g+1)) [])) ?_
    exact⟨M,(ofG 51 ((2,.func (.func 88) [] [])::(kL o c (c.length:Int) (w64 (g+1)) [])),(kB a.Low a.High (kC o []))),Nat.lt_succ_self _,(Sub.refl _),_,_,rfl,g5⟩
   refine Goes.exit ?_
   obtain rfl:=si g5
   exact⟨rfl,_,rfl,(Sub.norm [] [some 1,some 2] rfl rfl (.drop (.drop (.kp (.keep (.gslice rfl) .nil)))) (.kb rfl (.same sn) (.ks .nil)))⟩
 rintro x s' ⟨rfl,r,rfl,hsub⟩
 refine Goes.sub hsub ?_
 obtain⟨H,A,h⟩:=bnd h
 obtain⟨I,B,h⟩:=bnd h
 obtain⟨d,C,h⟩:=bnd h
 refine sq (gq fol [1,3,4] (kAw d.2) (kB d.1.Low d.1.High (kAj r)) (ac (hs (.callF 176 [.gslice 1 r.length 4,.func (.func 83) [] []] (kC r []) [1] [vl qd r,.func (.func 83) [] []] (.agg (nq1 H))) (je (FzL.cons (Fz.gs (E:=qd) rfl rfl (nl rfl)) (FzL.cons (Fz.func FzL.nil FzL.nil) FzL.nil)) (jN N r A) (Still.agg (AllST.cons tI (AllST.cons (qm (qa .u64) _ (nl rfl)) (AllST.cons tI (AllST.cons (qm (qa .u64) _ (nl rfl)) AllST.nil))))))) (ac (hs (.callF 177 [.gslice 1 r.length 4,.func (.func 83) [] []] (kN (kAj r)) [1] [vl qd r,.func (.func 83) [] []] (.agg (nq1 I))) (je (FzL.cons (Fz.gsF (E:=qd) rfl rfl (nl rfl)) (FzL.cons (Fz.func FzL.nil FzL.nil) FzL.nil)) (jO N r B) (Still.agg (AllST.cons tI (AllST.cons (qm (qa .u64) _ (nl rfl)) (AllST.cons tI (AllST.cons (qm (qa .u64) _ (nl rfl)) AllST.nil))))))) (ac (cv (qa7 N H I C)) az))) ?_)
 refine Goes.sub (show Sub (ofG 51 (kAw d.2),(kB d.1.Low d.1.High (kAj r))) (ofG 51 (kAw d.2),(kB d.1.Low d.1.High []))from(Sub.norm [] [some 0] rfl rfl (.kp (.keep (.same nI) .nil)) (.kb rfl (.same sn) .nil))) ?_
 refine Goes.ret ?_
 obtain rfl:=si h
 exact(gw2 (kS d.1.Low d.1.High [.i d.2]) (FzW.tuple (qb.cons (FzW.agg (qb.cons (Ua tS) (qb.cons (Ua tS) qb.nil))) (qb.cons (Ua tI) qb.nil))))
def qbL (N:Nat) (a:qA) (b:qA):Option (qA×Int):=
 (qF N a).bind fun f=>
 (qF N b).bind fun g=>
 (zQ N ([f,g]:List Int)).bind fun e=>
 if(!decide (e=0))=true then
 some ((⟨[],[]⟩:qA),e)
 else
 ((yw N b.Low).bind fun h=>
 (xY h).bind fun i=>
 if i<=0 then
 (yw N b.High).bind fun j=>
 (xY j).bind fun k=>
 some (decide (k>=0))
 else
 some false:Option Bool).bind fun d=>
 if d=true then
 some ((⟨[],[]⟩:qA),6)
 else
 (yE N a b).bind fun c=>
 some (c.1,c.2)
theorem qhX (N:Nat) (a:qA) (b:qA) {res:qA×Int} (h:qbL N a b=some res):qc ZT (.fn 41) (kS a.Low a.High (kS b.Low b.High [])) [] (.tuple (kS res.1.Low res.1.High [.i res.2])) []:=by
 unfold qbL at h
 refine Ub Tryz.func41 rfl rfl (m:=35) rfl (rs:=[.cell 4 44,.tmp 5]) rfl (l:=(kAC a.Low a.High b.Low b.High [])) rfl ?_
 refine sg fol (kH []) (kB a.Low a.High (kB b.Low b.High (kN []))) ?_
 refine sq ?_
 obtain⟨j,o,h⟩:=bnd h
 obtain⟨k,p,h⟩:=bnd h
 obtain⟨n,q,h⟩:=bnd h
 refine sq (gq fol [1,3,5] (kH (kB4 n)) (kB a.Low a.High (kB b.Low b.High (kN (kAE j k)))) (ac (cv (ky N a o)) (ac (cv (ky N b p)) (ac (hs (.call 79 [.slice 3 0 2 2 1] (kB a.Low a.High (kB b.Low b.High (kN (kAE j k)))) [3] [vl encI ([j,k]:List Int)] (.i n)) (qcW (FzL.cons (Fz.lit rfl rfl (Ud (AllST.cons tI (AllST.cons tI AllST.nil)))) FzL.nil) (vO N ([j,k]:List Int) q) tI rfl)) az))) ?_)
 refine sh fol (kH ((6,.i n)::(kBh (!decide (n=0))))) ?_
 refine ihB h (fun x h=>?_) (fun x h=>?_)
 ·refine sh fol (kAU (kA5 n)) ?_
  refine Goes.ret ?_
  obtain rfl:=si h
  exact(gw2 (kBZ [.i n]) (FzW.tuple (qb.cons (FzW.agg (qb.cons (Ua tS) (qb.cons (Ua tS) qb.nil))) (qb.cons (Ua tI) qb.nil))))
 refine Goes.skip ?_
 refine sq ?_
 refine sq ?_
 obtain⟨t,c,h⟩:=bnd h
 refine Goes.cut (s':=(ofG 35 (kH [(28,.bool t)]),(kB a.Low a.High (kB b.Low b.High (kN (kAE j k)))))) ?_ ?_
 ·obtain⟨w,e,c⟩:=bnd c
  obtain⟨A,f,c⟩:=bnd c
  rcases wyD c with⟨u,c⟩|⟨u,c⟩
  ·obtain⟨y,r,c⟩:=bnd c
   obtain⟨z,s,c⟩:=bnd c
   obtain rfl:=si c
   exact tr fol [2,3,5,8,9] (kH [(28,.bool (decide (z>=0)))]) (ac (cv (vX N b.Low e)) (ac (cv (qbv w f)) (ac (gw u) (ac (cv (vX N b.High r)) (ac (cv (qbv y s)) az)))))
  obtain rfl:=si c
  exact tr fol [2,3,5] (kH [(28,.bool false)]) (ac (cv (vX N b.Low e)) (ac (cv (qbv w f)) (ac (gw u) az)))
 refine ihB h (fun v h=>?_) (fun v h=>?_)
 ·refine sh fol (kAU [(5,.i 6)]) ?_
  refine Goes.ret ?_
  obtain rfl:=si h
  exact(gw2 (kBZ [.i 6]) (FzW.tuple (qb.cons (FzW.agg (qb.cons (Ua tS) (qb.cons (Ua tS) qb.nil))) (qb.cons (Ua tI) qb.nil))))
 refine Goes.skip ?_
 obtain⟨d,g,h⟩:=bnd h
 refine sq (gq fol [2] (kAU (kA5 d.2)) (kB a.Low a.High (kB b.Low b.High (kB d.1.Low d.1.High (kAE j k)))) (ac (hs (.call 121 (kS a.Low a.High (kS b.Low b.High [.func (.func 88) [] []])) [] [] (kS a.Low a.High (kS b.Low b.High [.func (.func 88) [] []])) (.tuple (kS d.1.Low d.1.High [.i d.2]))) (qfC (FzL.cons (Uf (Still.agg (AllST.cons tS (AllST.cons tS AllST.nil)))) (FzL.cons (Uf (Still.agg (AllST.cons tS (AllST.cons tS AllST.nil)))) (FzL.cons (Fz.func FzL.nil FzL.nil) FzL.nil))) (qeQ N a b g) (Still.tuple (AllST.cons (Still.agg (AllST.cons tS (AllST.cons tS AllST.nil))) (AllST.cons tI AllST.nil))))) az) ?_)
 refine Goes.ret ?_
 obtain rfl:=si h
 exact(gw2 (kS d.1.Low d.1.High [.i d.2]) (FzW.tuple (qb.cons (FzW.agg (qb.cons (Ua tS) (qb.cons (Ua tS) qb.nil))) (qb.cons (Ua tI) qb.nil))))
end Go.Av
