/-
  Walks of functions: what each computes, as a plain function.
-/
import Derived.Test.YtbjpmhdicbgjkaaGreatDoorQGenE4
noncomputable section
namespace Go.Av
open Go.Proofs Go.RowKit
set_option linter.unusedSectionVars false
set_option linter.unusedVariables false
set_option linter.unusedSimpArgs false
set_option maxRecDepth 100000
def xD (N:Nat) (low:qh) (high:qh):Option (qo×Int):=
 ((xu N low).bind fun a=>
 if a=true then
 some true
 else
 (xu N high).bind fun b=>
 some b:Option Bool).bind fun c=>
 if c=true then
 some ((⟨[],[]⟩:qo),4)
 else
 (qac N low).bind fun d=>
 (qac N high).bind fun e=>
 some ((⟨d,e⟩:qo),0)
theorem qbj (N:Nat) (low:qh) (high:qh) {res:qo×Int} (h:xD N low high=some res):qb ZT (.fn 101) [.agg (nq1 low),.agg (nq1 high)] [] (.tuple (kS res.1.Low res.1.High [.i res.2])) []:=by
 unfold xD at h
 refine Ub Tryz.func101 rfl rfl (m:=18) rfl (rs:=[.cell 4 44,.tmp 5]) rfl (l:=[(0,.agg (nq1 low)),(1,.agg (nq1 high))]) rfl ?_
 refine sg fol (kH []) (.cells (nq1 low):: .cells (nq1 high)::(kN [])) ?_
 refine sq ?_
 refine sq ?_
 obtain⟨k,a,h⟩:=bnd h
 refine Goes.cut (s':=(ofG 18 (kH [(11,.bool k)]),(.cells (nq1 low):: .cells (nq1 high)::(kN [])))) ?_ ?_
 ·obtain⟨p,b,a⟩:=bnd a
  rcases wyB a with⟨f,a⟩|⟨f,a⟩
  ·obtain rfl:=si a
   exact tr fol [1,2] (kH [(11,.bool true)]) (ac (cv (qbo N low b)) (ac (gw f) az))
  obtain⟨n,c,a⟩:=bnd a
  obtain rfl:=si a
  exact tr fol [1,2,4] (kH [(11,.bool n)]) (ac (cv (qbo N low b)) (ac (gw f) (ac (cv (qbo N high c)) az)))
 refine ihB h (fun o h=>?_) (fun o h=>?_)
 ·refine sh fol (kAU [(5,.i 4)]) ?_
  refine Goes.ret ?_
  obtain rfl:=si h
  exact(gw2 (kBZ [.i 4]) (FzW.tuple (qc.cons (FzW.agg (qc.cons (Ua tS) (qc.cons (Ua tS) qc.nil))) (qc.cons (Ua tI) qc.nil))))
 refine Goes.skip ?_
 obtain⟨g,d,h⟩:=bnd h
 obtain⟨j,e,h⟩:=bnd h
 refine sq (gq fol [1,3] (kAU [(5,.i 0)]) (.cells (nq1 low):: .cells (nq1 high)::(kB g j [])) (ac (cv (qdm N low d)) (ac (cv (qdm N high e)) az)) ?_)
 refine Goes.ret ?_
 obtain rfl:=si h
 exact(gw2 (kS g j [.i 0]) (FzW.tuple (qc.cons (FzW.agg (qc.cons (Ua tS) (qc.cons (Ua tS) qc.nil))) (qc.cons (Ua tI) qc.nil))))
def vT (N:Nat) (a:qo):Option Int:=
 (qal N ([a.Low,a.High]:List Str)).bind fun b=>
 (if b=0 then
 (qaG N a.Low a.High).bind fun c=>
 some (decide (c>0))
 else
 some false:Option Bool).bind fun d=>
 ((if d=true then
 some 11
 else
 some b:Option Int)).bind fun e=>
 some e
theorem qa0 (N:Nat) (a:qo) {res:Int} (h:vT N a=some res):qb ZT (.fn 26) [.agg (kAR a.Low a.High)] [] (.i res) []:=by
 unfold vT at h
 refine Ub Tryz.func26 rfl rfl (m:=21) rfl (rs:=[.tmp 2]) rfl (l:=[(0,.agg [.str a.Low,.str a.High])]) rfl ?_
 refine sg fol (kA2 []) (kB a.Low a.High []) ?_
 obtain⟨c,d,h⟩:=bnd h
 refine sq (gq fol [5] (kA2 (kBS c)) (kB a.Low a.High (kB a.Low a.High [])) (ac (hs (.call 78 [.slice 1 0 2 2 1] (kB a.Low a.High (kB a.Low a.High [])) [1] [vl encS ([a.Low,a.High]:List Str)] (.i c)) (qbk (FzL.cons (Fz.lit rfl rfl (Ud (AllST.cons tS (AllST.cons tS AllST.nil)))) FzL.nil) (qfV N ([a.Low,a.High]:List Str) d) tI rfl)) az) ?_)
 refine sq ?_
 refine sq ?_
 obtain⟨j,b,h⟩:=bnd h
 refine Goes.cut (s':=(ofG 21 [(3,.i c),(19,.bool j)],(kB a.Low a.High (kB a.Low a.High [])))) ?_ ?_
 ·rcases wyD b with⟨g,b⟩|⟨g,b⟩
  ·obtain⟨k,e,b⟩:=bnd b
   obtain rfl:=si b
   exact tr fol [2,7] [(3,.i c),(19,.bool (decide (k>0)))] (ac (gw g) (ac (cv (qaL N a.Low a.High e)) az))
  obtain rfl:=si b
  exact tr fol [2] [(3,.i c),(19,.bool false)] (ac (gw g) az)
 obtain⟨n,g7,h⟩:=bnd h
 refine Goes.imp (Q:=fun x s'=>(x= .normal/\ ∃f,f=n/\Sub s' (ofG 21 (kBS f),[]))) ?_ ?_
 ·refine ihB g7 (fun o g7=>?_) (fun o g7=>?_)
  ·refine gh fol [(3,.i 11)] ?_
   obtain rfl:=si g7
   exact⟨rfl,_,rfl,(Sub.norm [] [] rfl rfl (.keep (.same nI) .nil) .nil)⟩
  refine Goes.skip ?_
  obtain rfl:=si g7
  exact⟨rfl,_,rfl,(Sub.norm [] [] rfl rfl (.keep (.same nI) .nil) .nil)⟩
 rintro x s' ⟨rfl,f,rfl,hsub⟩
 refine Goes.sub hsub ?_
 refine sh fol (kBM f) ?_
 refine Goes.ret ?_
 obtain rfl:=si h
 exact(gw2 [.i f] (Ua tI))
def qD (N:Nat) (a:qo):Option Int:=
 (xW N ([a.Low,a.High]:List Str)).bind fun b=>
 if(!decide (b=0))=true then
 some b
 else
 (yw N a.Low).bind fun c=>
 (yw N a.High).bind fun d=>
 (jd N c d).bind fun e=>
 (zm (decide (e>0)) 11).bind fun f=>
 some f
theorem zg (N:Nat) (a:qo) {res:Int} (h:qD N a=some res):qb ZT (.fn 37) [.agg (kAR a.Low a.High)] [] (.i res) []:=by
 unfold qD at h
 refine Ub Tryz.func37 rfl rfl (m:=22) rfl (rs:=[.tmp 2]) rfl (l:=[(0,.agg [.str a.Low,.str a.High])]) rfl ?_
 refine sg fol (kA2 []) (kB a.Low a.High []) ?_
 refine sq ?_
 obtain⟨b,c,h⟩:=bnd h
 refine sq (gq fol [5] (kA2 (kBS b)) (kB a.Low a.High (kB a.Low a.High [])) (ac (hs (.call 81 [.slice 1 0 2 2 1] (kB a.Low a.High (kB a.Low a.High [])) [1] [vl encS ([a.Low,a.High]:List Str)] (.i b)) (qbk (FzL.cons (Fz.lit rfl rfl (Ud (AllST.cons tS (AllST.cons tS AllST.nil)))) FzL.nil) (qfH N ([a.Low,a.High]:List Str) c) tI rfl)) az) ?_)
 refine sh fol (kA2 [(3,.i b),(11,.bool (!decide (b=0)))]) ?_
 refine ihB h (fun k h=>?_) (fun k h=>?_)
 ·refine sh fol (kBM b) ?_
  refine Goes.ret ?_
  obtain rfl:=si h
  exact(gw2 [.i b] (Ua tI))
 refine Goes.skip ?_
 obtain⟨n,d,h⟩:=bnd h
 obtain⟨o,e,h⟩:=bnd h
 obtain⟨p,f,h⟩:=bnd h
 obtain⟨j,g,h⟩:=bnd h
 refine sq (gr fol [2,5,6,8] (kBM j) (ac (cv (qa7 N a.Low d)) (ac (cv (qa7 N a.High e)) (ac (cv (qb2 N n o f)) (ac (cv (xe (decide (p>0)) 11 g)) az)))) ?_)
 refine Goes.ret ?_
 obtain rfl:=si h
 exact(gw2 [.i j] (Ua tI))
def zM (N:Nat) (l:List Str):Nat->(List qh)->Int->Option (List qh)
 |0,_,_=>none
 |K+1,b,a=>
  if a<(l.length:Int)then
  (idx l a).bind fun d=>
  (yw N d).bind fun e=>
  (idx b a).bind fun f=>
  (put b a e).bind fun c=>
  zM N l K c (w64 (a+1))
  else
  some b
def jM (N:Nat) (l:List Str):Option (List qh):=
 (mk 64 (l.length:Int) (⟨(⟨0,[]⟩:qp),(⟨0,[]⟩:qp)⟩:qh)).bind fun a=>
 (zM N l N a 0).bind fun b=>
 some b
theorem vK (N:Nat) (l:List Str) {res:List qh} (h:jM N l=some res):qb ZT (.fn 175) [vl encS l] [] (vl qd res) []:=by
 unfold jM at h
 refine Ub Tryz.func175 rfl rfl (m:=23) rfl (rs:=[.tmp 2]) rfl (l:=(kBp l [])) rfl ?_
 refine sh fol (kBp l []) ?_
 obtain⟨j,k,h⟩:=bnd h
 refine sq (gq fol [2] (kBp l [(3,.slice 0 0 j.length j.length 4)]) (kAP j) (ac (hs (.run [] (jg ZT 161 (.i (l.length:Int)) (.i (l.length:Int))) [] (.slice 0 0 j.length j.length 4) (kAP j) false) (qc0 qa6 (E:=qd) (z:=(⟨(⟨0,[]⟩:qp),(⟨0,[]⟩:qp)⟩:qh)) rfl (by kernel_rfl) k rfl)) az) ?_)
 refine sq ?_
 refine sh fol (kAa j l (l.length:Int) [(11,.i 0)]) ?_
 refine Goes.block ?_
 obtain⟨o,g5,h⟩:=bnd h
 refine Goes.imp (Q:=fun x s'=>(x= .exit 0/\ ∃e,e=o/\Sub s' (ofG 23 [(3,.slice 0 0 e.length e.length 4)],(kAP e)))) ?_ ?_
 ·refine Uc (fun M s=> ∃(c:List qh) (b:Int),s=(ofG 23 (kAa c l (l.length:Int) [(11,.i b)]),(kAP c))/\zM N l M c b=some o) ?_ (m:=N) ⟨_,_,rfl,g5⟩
  rintro M s ⟨c,b,rfl,g5⟩
  cases M with
  |zero=>simp only[zM]at g5;cases g5
  |succ M=>
   rw[zM]at g5
   refine sh fol (kAa c l (l.length:Int) ((11,.i b)::(kBU (decide (b<(l.length:Int)))))) ?_
   refine sq ?_
   refine ihD g5 (fun r g5=>?_) (fun r g5=>?_)
   ·refine Goes.skip ?_
    refine sq (Goes.block ?_)
    obtain⟨p,f,g5⟩:=bnd g5
    refine sq (gr fol [1,2] [(3,.slice 0 0 c.length c.length 4),(4,.i b),(5,.str p),(9,vl encS l),(10,.i (l.length:Int)),(11,.i b)] (ac (iv qjW encS f) (ac (lv 0 qj6 encS f rfl) az)) ?_)
    obtain⟨q,n,g5⟩:=bnd g5
    obtain⟨t,g,g5⟩:=bnd g5
    obtain⟨a,d,g5⟩:=bnd g5
    refine gq fol [3,4,5] (kAa c l (l.length:Int) [(11,.i b)]) (kAP a) (ac (cv (qa7 N p n)) (ac (hs (.done (.opt (qj ZT 161 (.slice 0 0 c.length c.length 4) (.i b))) (.ptr 0 ((b:Int).toNat*4+0))) (qan qa6 g)) (ac (hs (.run [0] (qw ZT 108 (.ptr 0 ((b:Int).toNat*4+0)) (.agg (nq1 q))) (kAP c) .undef (kAP a) true) (qaf (E:=qd) (l:=c) (y:=q) rfl (show _=some 4 by kernel_rfl) rfl g rfl rfl rfl (cac rfl (cac nvc (cac rfl (cac nvc can)))) rfl d rfl)) az))) ?_
    refine Goes.sub (show Sub (ofG 23 (kAa c l (l.length:Int) [(11,.i b)]),(kAP a)) (ofG 23 (kAa a l (l.length:Int) [(11,.i b)]),(kAP a))from(Sub.norm [] [some 0] rfl rfl (.keep (.sliceE rfl (vQ d)) (.keep (.same (qg encS _)) (.keep (.same nI) (.keep (.same nI) .nil)))) (.ks .nil))) ?_
    refine gh fol (kAa a l (l.length:Int) [(11,.i (w64 (b+1)))]) ?_
    exact⟨M,(ofG 23 (kAa a l (l.length:Int) [(11,.i (w64 (b+1)))]),(kAP a)),Nat.lt_succ_self _,(Sub.refl _),_,_,rfl,g5⟩
   refine Goes.exit ?_
   obtain rfl:=si g5
   exact⟨rfl,_,rfl,(Sub.keep [3] rfl rfl)⟩
 rintro x s' ⟨rfl,e,rfl,hsub⟩
 refine Goes.sub hsub ?_
 refine sh fol [(2,.slice 0 0 e.length e.length 4)] ?_
 refine Goes.ret ?_
 obtain rfl:=si h
 exact(gw2 [.slice 0 0 e.length e.length 4] (FzW.fz (Fz.sl (E:=qd) rfl rfl (nl rfl))))
def kz (N:Nat) (b:List qh):Nat->Int->(List Int)->Int->(List Int)->Int->Option (Int×(List Int)×Int×(List Int))
 |0,_,_,_,_,_=>none
 |K+1,c,d,e,f,g=>
  if g<(b.length:Int)then
  (((idx b g).bind fun a=>
  (jd N a (⟨(⟨c,d⟩:qp),(⟨e,f⟩:qp)⟩:qh)).bind fun h=>
  if h<0 then
  some (a.Num.s,a.Num.w,a.Den.s,a.Den.w)
  else
  some (c,d,e,f):Option (Int×(List Int)×Int×(List Int)))).bind fun(i,j,k,l)=>
  kz N b K i j k l (w64 (g+1))
  else
  some (c,d,e,f)
def zb (N:Nat) (a:List qh):Option qh:=
 ((if(a.length:Int)<1 then
 none
 else
 some ():Option Unit)).bind fun _=>
 (idx a 0).bind fun b=>
 (kz N a N b.Num.s b.Num.w b.Den.s b.Den.w 1).bind fun(f,c,d,e)=>
 some (⟨(⟨f,c⟩:qp),(⟨d,e⟩:qp)⟩:qh)
theorem jR (N:Nat) (a:List qh) {res:qh} (h:zb N a=some res):qb ZT (.fn 176) [vl qd a,.func (.func 83) [] []] [] (.agg (nq1 res)) []:=by
 unfold zb at h
 refine Ub Tryz.func176 rfl rfl (m:=33) rfl (rs:=[.cell 4 108]) rfl (l:=(kAu a [(1,.func (.func 83) [] [])])) rfl ?_
 refine sg fol (kAu a ((1,.func (.func 83) [] [])::(kY []))) (kD []) ?_
 refine sq ?_
 refine sh fol (kAu a ((1,.func (.func 83) [] [])::(kY [(9,.bool (decide ((a.length:Int)<1)))]))) ?_
 obtain⟨F,g1,h⟩:=bnd h
 refine Goes.imp (Q:=fun x s'=>(x= .normal/\()=F/\Sub s' (ofG 33 (kAu a ((1,.func (.func 83) [] [])::(kY []))),(kD [])))) ?_ ?_
 ·refine ihD g1 (fun G g1=>?_) (fun G g1=>?_)
  ·cases g1
  refine Goes.skip ?_
  obtain rfl:=si g1
  exact⟨rfl,rfl,(Sub.keep [0,1,4] rfl rfl)⟩
 rintro x s' ⟨rfl,rfl,hsub⟩
 refine Goes.sub hsub ?_
 obtain⟨A,r,h⟩:=bnd h
 refine sq (gq fol [1,2,4] (kAu a ((1,.func (.func 83) [] [])::(kY (kBx [])))) (kD [.cells (nq1 A)]) (ac (iv qa6 qd r) (ac (la qcO qd r) (ac (hs (.run [1] (qw ZT 108 (.ptr 1 0) (.agg (nq1 A))) (kD (kD [])) .undef (kD [.cells (nq1 A)]) true) (kw (n:=4) (by kernel_rfl) rfl rfl rfl rfl (cac rfl (cac nvc (cac rfl (cac nvc can)))) rfl)) az))) ?_)
 refine sq ?_
 refine sh fol (kAu a ((1,.func (.func 83) [] [])::(kY (kBx [(6,.i 1)])))) ?_
 refine Goes.block ?_
 obtain⟨u,g13,h⟩:=bnd h
 refine Goes.imp (Q:=fun x s'=>(x= .exit 0/\ ∃f b c d,(f,b,c,d)=u/\Sub s' (ofG 33 (kY (kBx [])),(kD [.cells (ni2 f b c d)])))) ?_ ?_
 ·refine Uc (fun M s=> ∃(v:Int) (w:List Int) (y:Int) (z:List Int) (g:Int),s=(ofG 33 (kAu a ((1,.func (.func 83) [] [])::(kY (kA3 g [])))),(kD [.cells (ni2 v w y z)]))/\kz N a M v w y z g=some u) ?_ (m:=N) ⟨_,_,_,_,_,rfl,g13⟩
  rintro M s ⟨v,w,y,z,g,rfl,g13⟩
  cases M with
  |zero=>simp only[kz]at g13;cases g13
  |succ M=>
   rw[kz]at g13
   refine sq ?_
   refine sh fol (kAu a ((1,.func (.func 83) [] [])::(kY (kA3 g [(17,.bool (decide (g<(a.length:Int))))])))) ?_
   refine ihD g13 (fun B g13=>?_) (fun B g13=>?_)
   ·refine Goes.skip ?_
    refine sq ?_
    obtain⟨C,g19,g13⟩:=bnd g13
    refine Goes.imp (Q:=fun x s'=>(x= .normal/\ ∃j k o p,(j,k,o,p)=C/\Sub s' (ofG 33 (kAu a ((1,.func (.func 83) [] [])::(kY (kA3 g [])))),(kD [.cells (ni2 j k o p)])))) ?_ ?_
    ·refine Goes.block ?_
     obtain⟨q,e,g19⟩:=bnd g19
     obtain⟨D,t,g19⟩:=bnd g19
     refine sq (gr fol [3,4,6] (kAu a ((1,.func (.func 83) [] [])::(kY (kA3 g [(27,.bool (decide (D<0)))])))) (ac (iv qa6 qd e) (ac (la qcO qd e) (ac (cv (qb2 N q (⟨(⟨v,w⟩:qp),(⟨y,z⟩:qp)⟩:qh) t)) az))) ?_)
     refine ihD g19 (fun E g19=>?_) (fun E g19=>?_)
     ·refine gq fol [2,3,4] (kAu a ((1,.func (.func 83) [] [])::(kY (kA3 g [])))) (kD [.cells (nq1 q)]) (ac (iv qa6 qd e) (ac (la qcO qd e) (ac (hs (.run [1] (qw ZT 108 (.ptr 1 0) (.agg (nq1 q))) (kD [.cells (ni2 v w y z)]) .undef (kD [.cells (nq1 q)]) true) (kw (n:=4) (by kernel_rfl) rfl rfl rfl rfl (cac rfl (cac nvc (cac rfl (cac nvc can)))) rfl)) az))) ?_
      obtain rfl:=si g19
      exact⟨rfl,_,_,_,_,rfl,(Sub.refl _)⟩
     refine Goes.skip ?_
     obtain rfl:=si g19
     exact⟨rfl,_,_,_,_,rfl,(Sub.keep [0,1,4,5,6] rfl rfl)⟩
    rintro x s' ⟨rfl,j,k,o,p,rfl,hsub⟩
    try dsimp only at g13
    refine Goes.sub hsub ?_
    refine gh fol (kAu a ((1,.func (.func 83) [] [])::(kY (kA3 (w64 (g+1)) [])))) ?_
    exact⟨M,(ofG 33 (kAu a ((1,.func (.func 83) [] [])::(kY (kA3 (w64 (g+1)) [])))),(kD [.cells (ni2 j k o p)])),Nat.lt_succ_self _,(Sub.refl _),_,_,_,_,_,rfl,g13⟩
   refine Goes.exit ?_
   obtain rfl:=si g13
   exact⟨rfl,_,_,_,_,rfl,(Sub.keep [4,5] rfl rfl)⟩
 rintro x s' ⟨rfl,f,b,c,d,rfl,hsub⟩
 try dsimp only at h
 refine Goes.sub hsub ?_
 refine sq (gq fol [1] (kY []) [.cells (ni2 f b c d),.cells (ni2 f b c d)] (ac (hs (.run [0] (qw ZT 108 (.ptr 0 0) (.agg (ni2 f b c d))) (kD [.cells (ni2 f b c d)]) .undef [.cells (ni2 f b c d),.cells (ni2 f b c d)] true) (kw (n:=4) (by kernel_rfl) rfl rfl rfl rfl (cac rfl (cac nvc (cac rfl (cac nvc can)))) rfl)) az) ?_)
 refine Goes.ret ?_
 obtain rfl:=si h
 exact(gw2 [.agg (ni2 f b c d)] (FzW.agg (qc.cons (Ua tI) (qc.cons (Ua (qm (qa .u64) _ (nl rfl))) (qc.cons (Ua tI) (qc.cons (Ua (qm (qa .u64) _ (nl rfl))) qc.nil))))))
def ky (N:Nat) (b:List qh):Nat->Int->(List Int)->Int->(List Int)->Int->Option (Int×(List Int)×Int×(List Int))
 |0,_,_,_,_,_=>none
 |K+1,c,d,e,f,g=>
  if g<(b.length:Int)then
  (((idx b g).bind fun a=>
  (jd N a (⟨(⟨c,d⟩:qp),(⟨e,f⟩:qp)⟩:qh)).bind fun h=>
  if h>0 then
  some (a.Num.s,a.Num.w,a.Den.s,a.Den.w)
  else
  some (c,d,e,f):Option (Int×(List Int)×Int×(List Int)))).bind fun(i,j,k,l)=>
  ky N b K i j k l (w64 (g+1))
  else
  some (c,d,e,f)
def kT (N:Nat) (a:List qh):Option qh:=
 ((if(a.length:Int)<1 then
 none
 else
 some ():Option Unit)).bind fun _=>
 (idx a 0).bind fun b=>
 (ky N a N b.Num.s b.Num.w b.Den.s b.Den.w 1).bind fun(f,c,d,e)=>
 some (⟨(⟨f,c⟩:qp),(⟨d,e⟩:qp)⟩:qh)
theorem jQ (N:Nat) (a:List qh) {res:qh} (h:kT N a=some res):qb ZT (.fn 177) [vl qd a,.func (.func 83) [] []] [] (.agg (nq1 res)) []:=by
 unfold kT at h
 refine Ub Tryz.func177 rfl rfl (m:=33) rfl (rs:=[.cell 4 108]) rfl (l:=(kAu a [(1,.func (.func 83) [] [])])) rfl ?_
 refine sg fol (kAu a ((1,.func (.func 83) [] [])::(kY []))) (kD []) ?_
 refine sq ?_
 refine sh fol (kAu a ((1,.func (.func 83) [] [])::(kY [(9,.bool (decide ((a.length:Int)<1)))]))) ?_
 obtain⟨F,g1,h⟩:=bnd h
 refine Goes.imp (Q:=fun x s'=>(x= .normal/\()=F/\Sub s' (ofG 33 (kAu a ((1,.func (.func 83) [] [])::(kY []))),(kD [])))) ?_ ?_
 ·refine ihD g1 (fun G g1=>?_) (fun G g1=>?_)
  ·cases g1
  refine Goes.skip ?_
  obtain rfl:=si g1
  exact⟨rfl,rfl,(Sub.keep [0,1,4] rfl rfl)⟩
 rintro x s' ⟨rfl,rfl,hsub⟩
 refine Goes.sub hsub ?_
 obtain⟨A,r,h⟩:=bnd h
 refine sq (gq fol [1,2,4] (kAu a ((1,.func (.func 83) [] [])::(kY (kBx [])))) (kD [.cells (nq1 A)]) (ac (iv qa6 qd r) (ac (la qcO qd r) (ac (hs (.run [1] (qw ZT 108 (.ptr 1 0) (.agg (nq1 A))) (kD (kD [])) .undef (kD [.cells (nq1 A)]) true) (kw (n:=4) (by kernel_rfl) rfl rfl rfl rfl (cac rfl (cac nvc (cac rfl (cac nvc can)))) rfl)) az))) ?_)
 refine sq ?_
 refine sh fol (kAu a ((1,.func (.func 83) [] [])::(kY (kBx [(6,.i 1)])))) ?_
 refine Goes.block ?_
 obtain⟨u,g13,h⟩:=bnd h
 refine Goes.imp (Q:=fun x s'=>(x= .exit 0/\ ∃f b c d,(f,b,c,d)=u/\Sub s' (ofG 33 (kY (kBx [])),(kD [.cells (ni2 f b c d)])))) ?_ ?_
 ·refine Uc (fun M s=> ∃(v:Int) (w:List Int) (y:Int) (z:List Int) (g:Int),s=(ofG 33 (kAu a ((1,.func (.func 83) [] [])::(kY (kA3 g [])))),(kD [.cells (ni2 v w y z)]))/\ky N a M v w y z g=some u) ?_ (m:=N) ⟨_,_,_,_,_,rfl,g13⟩
  rintro M s ⟨v,w,y,z,g,rfl,g13⟩
  cases M with
  |zero=>simp only[ky]at g13;cases g13
  |succ M=>
   rw[ky]at g13
   refine sq ?_
   refine sh fol (kAu a ((1,.func (.func 83) [] [])::(kY (kA3 g [(17,.bool (decide (g<(a.length:Int))))])))) ?_
   refine ihD g13 (fun B g13=>?_) (fun B g13=>?_)
   ·refine Goes.skip ?_
    refine sq ?_
    obtain⟨C,g19,g13⟩:=bnd g13
    refine Goes.imp (Q:=fun x s'=>(x= .normal/\ ∃j k o p,(j,k,o,p)=C/\Sub s' (ofG 33 (kAu a ((1,.func (.func 83) [] [])::(kY (kA3 g [])))),(kD [.cells (ni2 j k o p)])))) ?_ ?_
    ·refine Goes.block ?_
     obtain⟨q,e,g19⟩:=bnd g19
     obtain⟨D,t,g19⟩:=bnd g19
     refine sq (gr fol [3,4,6] (kAu a ((1,.func (.func 83) [] [])::(kY (kA3 g [(27,.bool (decide (D>0)))])))) (ac (iv qa6 qd e) (ac (la qcO qd e) (ac (cv (qb2 N q (⟨(⟨v,w⟩:qp),(⟨y,z⟩:qp)⟩:qh) t)) az))) ?_)
     refine ihD g19 (fun E g19=>?_) (fun E g19=>?_)
     ·refine gq fol [2,3,4] (kAu a ((1,.func (.func 83) [] [])::(kY (kA3 g [])))) (kD [.cells (nq1 q)]) (ac (iv qa6 qd e) (ac (la qcO qd e) (ac (hs (.run [1] (qw ZT 108 (.ptr 1 0) (.agg (nq1 q))) (kD [.cells (ni2 v w y z)]) .undef (kD [.cells (nq1 q)]) true) (kw (n:=4) (by kernel_rfl) rfl rfl rfl rfl (cac rfl (cac nvc (cac rfl (cac nvc can)))) rfl)) az))) ?_
      obtain rfl:=si g19
      exact⟨rfl,_,_,_,_,rfl,(Sub.refl _)⟩
     refine Goes.skip ?_
     obtain rfl:=si g19
     exact⟨rfl,_,_,_,_,rfl,(Sub.keep [0,1,4,5,6] rfl rfl)⟩
    rintro x s' ⟨rfl,j,k,o,p,rfl,hsub⟩
    try dsimp only at g13
    refine Goes.sub hsub ?_
    refine gh fol (kAu a ((1,.func (.func 83) [] [])::(kY (kA3 (w64 (g+1)) [])))) ?_
    exact⟨M,(ofG 33 (kAu a ((1,.func (.func 83) [] [])::(kY (kA3 (w64 (g+1)) [])))),(kD [.cells (ni2 j k o p)])),Nat.lt_succ_self _,(Sub.refl _),_,_,_,_,_,rfl,g13⟩
   refine Goes.exit ?_
   obtain rfl:=si g13
   exact⟨rfl,_,_,_,_,rfl,(Sub.keep [4,5] rfl rfl)⟩
 rintro x s' ⟨rfl,f,b,c,d,rfl,hsub⟩
 try dsimp only at h
 refine Goes.sub hsub ?_
 refine sq (gq fol [1] (kY []) [.cells (ni2 f b c d),.cells (ni2 f b c d)] (ac (hs (.run [0] (qw ZT 108 (.ptr 0 0) (.agg (ni2 f b c d))) (kD [.cells (ni2 f b c d)]) .undef [.cells (ni2 f b c d),.cells (ni2 f b c d)] true) (kw (n:=4) (by kernel_rfl) rfl rfl rfl rfl (cac rfl (cac nvc (cac rfl (cac nvc can)))) rfl)) az) ?_)
 refine Goes.ret ?_
 obtain rfl:=si h
 exact(gw2 [.agg (ni2 f b c d)] (FzW.agg (qc.cons (Ua tI) (qc.cons (Ua (qm (qa .u64) _ (nl rfl))) (qc.cons (Ua tI) (qc.cons (Ua (qm (qa .u64) _ (nl rfl))) qc.nil))))))
def qH (N:Nat) (f:qh) (b:List qh):Nat->(List qh)->Int->Option (List qh)
 |0,_,_=>none
 |K+1,g,a=>
  if a<(b.length:Int)then
  (idx b a).bind fun c=>
  (yN N f c).bind fun d=>
  (app 64 g [d]).bind fun e=>
  qH N f b K e (w64 (a+1))
  else
  some g
def qI (N:Nat) (a:qo) (b:List qh):Nat->(List qh)->Int->Option (List qh)
 |0,_,_=>none
 |K+1,e,c=>
  if c<(b.length:Int)then
  (idx b c).bind fun f=>
  (jM N ([a.Low,a.High]:List Str)).bind fun g=>
  (qH N f g N e 0).bind fun d=>
  qI N a b K d (w64 (c+1))
  else
  some e
def yM (N:Nat) (a:qo) (c:qo):Option (qo×Int):=
 (jM N ([a.Low,a.High]:List Str)).bind fun g=>
 (qI N c g N ([]:List qh) 0).bind fun f=>
 (zb N f).bind fun d=>
 (kT N f).bind fun e=>
 (xD N d e).bind fun b=>
 some (b.1,b.2)
theorem qeI (N:Nat) (b:qo) (a:qo) {res:qo×Int} (h:yM N b a=some res):qb ZT (.fn 121) (kS b.Low b.High (kS a.Low a.High [.func (.func 120) [] []])) [] (.tuple (kS res.1.Low res.1.High [.i res.2])) []:=by
 unfold yM at h
 refine Ub Tryz.func121 rfl rfl (m:=51) rfl (rs:=[.cell 6 44,.tmp 7]) rfl (l:=(kAC b.Low b.High a.Low a.High [(2,.func (.func 120) [] [])])) rfl ?_
 refine sg fol ((2,.func (.func 120) [] [])::(kQ (kBF []))) (kB b.Low b.High (kB a.Low a.High (kN []))) ?_
 refine sh fol ((2,.func (.func 120) [] [])::(kQ (kBF [(8,.nilslice)]))) ?_
 refine sq ?_
 obtain⟨c,D,h⟩:=bnd h
 refine sq (gq fol [5] ((2,.func (.func 120) [] [])::(kAD c (c.length:Int))) (kB b.Low b.High (kB a.Low a.High (kN (kAo b.Low b.High)))) (ac (hs (.callF 175 [.slice 3 0 2 2 1] (kB b.Low b.High (kB a.Low a.High (kN (kB b.Low b.High [])))) [3] [vl encS ([b.Low,b.High]:List Str)] (vl qd c)) (ji (FzL.cons (Fz.lit rfl rfl (Ud (AllST.cons tS (AllST.cons tS AllST.nil)))) FzL.nil) (vK N ([b.Low,b.High]:List Str) D) (qy qd _ (nl rfl)))) az) ?_)
 refine Goes.sub (show Sub (ofG 51 ((2,.func (.func 120) [] [])::(kAD c (c.length:Int))),(kB b.Low b.High (kB a.Low a.High (kN (kAo b.Low b.High))))) (ofG 51 ((2,.func (.func 120) [] [])::(kY ((6,.ptr 1 0)::(8,.nilslice)::(kAi c (c.length:Int) [(20,.i 0)])))),(kB a.Low a.High (kN [])))from(Sub.norm [] [some 1,some 2] rfl rfl (.keep (.same (qB.func sn sn)) (.kp (.kp (.keep (.same (qB.nilslice)) (.keep (.same (qg qd _)) (.keep (.same nI) (.keep (.same nI) .nil))))))) (.kb rfl (.same sn) (.kb rfl (.same sn) .nil)))) ?_
 refine Goes.block ?_
 obtain⟨K,g5,h⟩:=bnd h
 refine Goes.imp (Q:=fun x s'=>(x= .exit 0/\ ∃r,r=K/\Sub s' (ofG 51 (kBn [(8,.gslice 1 r.length 4)]),(kC r [])))) ?_ ?_
 ·refine Goes.sub (s':=(ofG 51 ((2,.func (.func 120) [] [])::(kY (kBE (kAi c (c.length:Int) [(20,.i 0)])))),(kB a.Low a.High (kN kBL)))) (Sub.norm [] [some 0,some 1,none] rfl rfl (.keep (.same (qB.func sn sn)) (.kp (.kp (.keep .nil (.keep (.same (qg qd _)) (.keep (.same nI) (.keep (.same nI) .nil))))))) (.kb rfl (.same sn) (.kb rfl (.same sn) (.fresh .nil)))) ?_
  refine Uc (fun M s=> ∃(k:List qh) (g:Int),s=(ofG 51 ((2,.func (.func 120) [] [])::(kL k c (c.length:Int) g [])),(kB a.Low a.High (kC k [])))/\qI N a c M k g=some K) ?_ (m:=N) ⟨_,_,rfl,g5⟩
  rintro M s ⟨k,g,rfl,g5⟩
  cases M with
  |zero=>simp only[qI]at g5;cases g5
  |succ M=>
   rw[qI]at g5
   refine sh fol ((2,.func (.func 120) [] [])::(kL k c (c.length:Int) g [(21,.bool (decide (g<(c.length:Int))))])) ?_
   refine sq ?_
   refine ihD g5 (fun L g5=>?_) (fun L g5=>?_)
   ·refine Goes.skip ?_
    refine sq (Goes.block ?_)
    obtain⟨j,w,g5⟩:=bnd g5
    refine sq (gq fol [0,1,3] ((2,.func (.func 120) [] [])::(kY (kAZ k (kAi c (c.length:Int) [(20,.i g)])))) (kB a.Low a.High (kC k [.cells (nq1 j)])) (ac (iv qa6 qd w) (ac (la qcO qd w) (ac (hs (.run [3] (qw ZT 108 (.ptr 3 0) (.agg (nq1 j))) (kB a.Low a.High (kC k (kD []))) .undef (kB a.Low a.High (kC k [.cells (nq1 j)])) true) (kw (n:=4) (by kernel_rfl) rfl rfl rfl rfl (cac rfl (cac nvc (cac rfl (cac nvc can)))) rfl)) az))) ?_)
    obtain⟨e,F,g5⟩:=bnd g5
    refine sq (gq fol [5] ((2,.func (.func 120) [] [])::(kE k c (c.length:Int) g e (e.length:Int) kB0)) (kB a.Low a.High (kC k (.cells (nq1 j)::(kAo a.Low a.High)))) (ac (hs (.callF 175 [.slice 4 0 2 2 1] (kB a.Low a.High (kC k (.cells (nq1 j)::(kB a.Low a.High [])))) [4] [vl encS ([a.Low,a.High]:List Str)] (vl qd e)) (ji (FzL.cons (Fz.lit rfl rfl (Ud (AllST.cons tS (AllST.cons tS AllST.nil)))) FzL.nil) (vK N ([a.Low,a.High]:List Str) F) (qy qd _ (nl rfl)))) az) ?_)
    refine Goes.sub (show Sub (ofG 51 ((2,.func (.func 120) [] [])::(kE k c (c.length:Int) g e (e.length:Int) kB0)),(kB a.Low a.High (kC k (.cells (nq1 j)::(kAo a.Low a.High))))) (ofG 51 ((2,.func (.func 120) [] [])::(kE k c (c.length:Int) g e (e.length:Int) kB0)),(kB a.Low a.High (kC k [.cells (nq1 j)])))from(Sub.norm [] [some 0,some 1,some 2,some 3] rfl rfl (.keep (.same (qB.func sn sn)) (.kp (.kp (.keep (.gslice rfl) (.kp (.keep (.same (qg qd _)) (.keep (.same nI) (.keep (.same nI) (.keep (.same (qg qd _)) (.keep (.same nI) (.keep (.same nI) .nil))))))))))) (.kb rfl (.same sn) (.kb rfl (.same sn) (.ks (.kb rfl (.same sn) .nil)))))) ?_
    refine Goes.block ?_
    obtain⟨G,g12,g5⟩:=bnd g5
    refine Goes.imp (Q:=fun x s'=>(x= .exit 2/\ ∃o,o=G/\Sub s' (ofG 51 ((2,.func (.func 120) [] [])::(kL o c (c.length:Int) g [])),(kB a.Low a.High (kC o []))))) ?_ ?_
    ·refine Uc (fun M s=> ∃(t:List qh) (f:Int),s=(ofG 51 ((2,.func (.func 120) [] [])::(kE t c (c.length:Int) g e (e.length:Int) (kBy f))),(kB a.Low a.High (kC t [.cells (nq1 j)])))/\qH N j e M t f=some G) ?_ (m:=N) ⟨_,_,rfl,g12⟩
     rintro M s ⟨t,f,rfl,g12⟩
     cases M with
     |zero=>simp only[qH]at g12;cases g12
     |succ M=>
      rw[qH]at g12
      refine sh fol ((2,.func (.func 120) [] [])::(kE t c (c.length:Int) g e (e.length:Int) [(31,.i f),(32,.bool (decide (f<(e.length:Int))))])) ?_
      refine sq ?_
      refine ihD g12 (fun J g12=>?_) (fun J g12=>?_)
      ·refine Goes.skip ?_
       refine sq (Goes.block ?_)
       obtain⟨p,u,g12⟩:=bnd g12
       refine sq (gq fol [0,1,3] ((2,.func (.func 120) [] [])::(kY (kAZ t ((12,.ptr 4 0)::(kAi c (c.length:Int) ((20,.i g)::(29,vl qd e)::(30,.i (e.length:Int))::(kBy f))))))) (kB a.Low a.High (kC t [.cells (nq1 j),.cells (nq1 p)])) (ac (iv qa6 qd u) (ac (la qcO qd u) (ac (hs (.run [4] (qw ZT 108 (.ptr 4 0) (.agg (nq1 p))) (kB a.Low a.High (kC t (.cells (nq1 j)::(kD [])))) .undef (kB a.Low a.High (kC t [.cells (nq1 j),.cells (nq1 p)])) true) (kw (n:=4) (by kernel_rfl) rfl rfl rfl rfl (cac rfl (cac nvc (cac rfl (cac nvc can)))) rfl)) az))) ?_)
       obtain⟨v,y,g12⟩:=bnd g12
       obtain⟨q,z,g12⟩:=bnd g12
       refine gq fol [4,6] ((2,.func (.func 120) [] [])::(kV q c (c.length:Int) g e (e.length:Int) (kBy f))) (kB a.Low a.High (kN (.dead:: .cells (nq1 j):: .cells (nq1 p):: .cells (nq1 v)::(kAP q)))) (ac (cv (qec N j p y)) (ac (hs (.run [2,5] (yB ZT [161,161] (.gslice 2 t.length 4) (.slice 5 0 1 1 4)) (kB a.Low a.High (kC t [.cells (nq1 j),.cells (nq1 p),.cells (nq1 v)])) (.gslice 6 q.length 4) (kB a.Low a.High (kN (.dead:: .cells (nq1 j):: .cells (nq1 p):: .cells (nq1 v)::(kAP q)))) true) (qaU qa6 (E:=qd) rfl (qeA (E:=qd) (ys:=[v]) rfl rfl rfl rfl) (qfp (E:=qd) (l:=t) rfl rfl rfl z rfl))) az)) ?_
       refine gh fol ((2,.func (.func 120) [] [])::(kV q c (c.length:Int) g e (e.length:Int) (kBy (w64 (f+1))))) ?_
       exact⟨M,(ofG 51 ((2,.func (.func 120) [] [])::(kE q c (c.length:Int) g e (e.length:Int) (kBy (w64 (f+1))))),(kB a.Low a.High (kC q [.cells (nq1 j)]))),Nat.lt_succ_self _,(Sub.norm [] [some 0,some 1,some 6,some 3] rfl rfl (.keep (.same (qB.func sn sn)) (.kp (.kp (.keep (.gslice rfl) (.kp (.keep (.same (qg qd _)) (.keep (.same nI) (.keep (.same nI) (.keep (.same (qg qd _)) (.keep (.same nI) (.keep (.same nI) .nil))))))))))) (.kb rfl (.same sn) (.kb rfl (.same sn) (.ks (.kb rfl (.same sn) .nil))))),_,_,rfl,g12⟩
      refine Goes.exit ?_
      obtain rfl:=si g12
      exact⟨rfl,_,rfl,(Sub.norm [] [some 0,some 1,some 2] rfl rfl (.keep (.same (qB.func sn sn)) (.kp (.kp (.keep (.gslice rfl) (.drop (.keep (.same (qg qd _)) (.keep (.same nI) (.keep (.same nI) .nil)))))))) (.kb rfl (.same sn) (.kb rfl (.same sn) (.ks .nil))))⟩
    rintro x s' ⟨rfl,o,rfl,hsub⟩
    refine Goes.sub hsub ?_
    refine gh fol ((2,.func (.func 120) [] [])::(kL o c (c.length:Int) (w64 (g+1)) [])) ?_
    exact⟨M,(ofG 51 ((2,.func (.func 120) [] [])::(kL o c (c.length:Int) (w64 (g+1)) [])),(kB a.Low a.High (kC o []))),Nat.lt_succ_self _,(Sub.refl _),_,_,rfl,g5⟩
   refine Goes.exit ?_
   obtain rfl:=si g5
   exact⟨rfl,_,rfl,(Sub.norm [] [some 1,some 2] rfl rfl (.drop (.drop (.kp (.keep (.gslice rfl) .nil)))) (.kb rfl (.same sn) (.ks .nil)))⟩
 rintro x s' ⟨rfl,r,rfl,hsub⟩
 refine Goes.sub hsub ?_
 obtain⟨H,A,h⟩:=bnd h
 obtain⟨I,B,h⟩:=bnd h
 obtain⟨d,C,h⟩:=bnd h
 refine sq (gq fol [1,3,4] (kAw d.2) (kB d.1.Low d.1.High (kAj r)) (ac (hs (.callF 176 [.gslice 1 r.length 4,.func (.func 83) [] []] (kC r []) [1] [vl qd r,.func (.func 83) [] []] (.agg (nq1 H))) (ji (FzL.cons (Fz.gs (E:=qd) rfl rfl (nl rfl)) (FzL.cons (Fz.func FzL.nil FzL.nil) FzL.nil)) (jR N r A) (Still.agg (AllST.cons tI (AllST.cons (qm (qa .u64) _ (nl rfl)) (AllST.cons tI (AllST.cons (qm (qa .u64) _ (nl rfl)) AllST.nil))))))) (ac (hs (.callF 177 [.gslice 1 r.length 4,.func (.func 83) [] []] (kN (kAj r)) [1] [vl qd r,.func (.func 83) [] []] (.agg (nq1 I))) (ji (FzL.cons (Fz.gsF (E:=qd) rfl rfl (nl rfl)) (FzL.cons (Fz.func FzL.nil FzL.nil) FzL.nil)) (jQ N r B) (Still.agg (AllST.cons tI (AllST.cons (qm (qa .u64) _ (nl rfl)) (AllST.cons tI (AllST.cons (qm (qa .u64) _ (nl rfl)) AllST.nil))))))) (ac (cv (qbj N H I C)) az))) ?_)
 refine Goes.sub (show Sub (ofG 51 (kAw d.2),(kB d.1.Low d.1.High (kAj r))) (ofG 51 (kAw d.2),(kB d.1.Low d.1.High []))from(Sub.norm [] [some 0] rfl rfl (.kp (.keep (.same nI) .nil)) (.kb rfl (.same sn) .nil))) ?_
 refine Goes.ret ?_
 obtain rfl:=si h
 exact(gw2 (kS d.1.Low d.1.High [.i d.2]) (FzW.tuple (qc.cons (FzW.agg (qc.cons (Ua tS) (qc.cons (Ua tS) qc.nil))) (qc.cons (Ua tI) qc.nil))))
def jD (N:Nat) (a:qo) (b:qo):Option (qo×Int):=
 (qD N a).bind fun e=>
 (qD N b).bind fun f=>
 (zR N ([e,f]:List Int)).bind fun c=>
 if(!decide (c=0))=true then
 some ((⟨[],[]⟩:qo),c)
 else
 (yM N a b).bind fun d=>
 some (d.1,d.2)
theorem qcM (N:Nat) (a:qo) (b:qo) {res:qo×Int} (h:jD N a b=some res):qb ZT (.fn 119) (kS a.Low a.High (kS b.Low b.High [.func (.func 120) [] []])) [] (.tuple (kS res.1.Low res.1.High [.i res.2])) []:=by
 unfold jD at h
 refine Ub Tryz.func119 rfl rfl (m:=25) rfl (rs:=[.cell 6 44,.tmp 7]) rfl (l:=(kAC a.Low a.High b.Low b.High [(2,.func (.func 120) [] [])])) rfl ?_
 refine sg fol ((2,.func (.func 120) [] [])::(kQ (kBF []))) (kB a.Low a.High (kB b.Low b.High (kN []))) ?_
 refine sq ?_
 obtain⟨e,f,h⟩:=bnd h
 obtain⟨g,j,h⟩:=bnd h
 obtain⟨d,k,h⟩:=bnd h
 refine sq (gq fol [1,3,5] ((2,.func (.func 120) [] [])::(kQ (kBF (kBw d)))) (kB a.Low a.High (kB b.Low b.High (kN (kAE e g)))) (ac (cv (zg N a f)) (ac (cv (zg N b j)) (ac (hs (.call 79 [.slice 3 0 2 2 1] (kB a.Low a.High (kB b.Low b.High (kN (kAE e g)))) [3] [vl encI ([e,g]:List Int)] (.i d)) (qbk (FzL.cons (Fz.lit rfl rfl (Ud (AllST.cons tI (AllST.cons tI AllST.nil)))) FzL.nil) (yG N ([e,g]:List Int) k) tI rfl)) az))) ?_)
 refine sh fol ((2,.func (.func 120) [] [])::(kQ (kBF [(8,.i d),(16,.bool (!decide (d=0)))]))) ?_
 refine ihB h (fun o h=>?_) (fun o h=>?_)
 ·refine sh fol (kBF [(7,.i d)]) ?_
  refine Goes.ret ?_
  obtain rfl:=si h
  exact(gw2 (kBZ [.i d]) (FzW.tuple (qc.cons (FzW.agg (qc.cons (Ua tS) (qc.cons (Ua tS) qc.nil))) (qc.cons (Ua tI) qc.nil))))
 refine Goes.skip ?_
 obtain⟨c,n,h⟩:=bnd h
 refine sq (gq fol [3] (kBF [(7,.i c.2)]) (kB a.Low a.High (kB b.Low b.High (kB c.1.Low c.1.High (kAE e g)))) (ac (hs (.call 121 (kS a.Low a.High (kS b.Low b.High [.func (.func 120) [] []])) [] [] (kS a.Low a.High (kS b.Low b.High [.func (.func 120) [] []])) (.tuple (kS c.1.Low c.1.High [.i c.2]))) (qfI (FzL.cons (Uf (Still.agg (AllST.cons tS (AllST.cons tS AllST.nil)))) (FzL.cons (Uf (Still.agg (AllST.cons tS (AllST.cons tS AllST.nil)))) (FzL.cons (Fz.func FzL.nil FzL.nil) FzL.nil))) (qeI N a b n) (Still.tuple (AllST.cons (Still.agg (AllST.cons tS (AllST.cons tS AllST.nil))) (AllST.cons tI AllST.nil))))) az) ?_)
 refine Goes.ret ?_
 obtain rfl:=si h
 exact(gw2 (kS c.1.Low c.1.High [.i c.2]) (FzW.tuple (qc.cons (FzW.agg (qc.cons (Ua tS) (qc.cons (Ua tS) qc.nil))) (qc.cons (Ua tI) qc.nil))))
def qaE (N:Nat) (a:qo) (b:qo):Option (qo×Int):=
 (jD N a b).bind fun c=>
 some (c.1,c.2)
theorem qhJ (N:Nat) (a:qo) (b:qo) {res:qo×Int} (h:qaE N a b=some res):qb ZT (.fn 38) (kS a.Low a.High (kS b.Low b.High [])) [] (.tuple (kS res.1.Low res.1.High [.i res.2])) []:=by
 unfold qaE at h
 refine Ub Tryz.func38 rfl rfl (m:=11) rfl (rs:=[.cell 4 44,.tmp 5]) rfl (l:=(kAC a.Low a.High b.Low b.High [])) rfl ?_
 refine sg fol (kH []) (kB a.Low a.High (kB b.Low b.High (kN []))) ?_
 obtain⟨c,d,h⟩:=bnd h
 refine sq (gq fol [2] (kAU (kA5 c.2)) (kB a.Low a.High (kB b.Low b.High (kB c.1.Low c.1.High []))) (ac (hs (.call 119 (kS a.Low a.High (kS b.Low b.High [.func (.func 120) [] []])) [] [] (kS a.Low a.High (kS b.Low b.High [.func (.func 120) [] []])) (.tuple (kS c.1.Low c.1.High [.i c.2]))) (qfI (FzL.cons (Uf (Still.agg (AllST.cons tS (AllST.cons tS AllST.nil)))) (FzL.cons (Uf (Still.agg (AllST.cons tS (AllST.cons tS AllST.nil)))) (FzL.cons (Fz.func FzL.nil FzL.nil) FzL.nil))) (qcM N a b d) (Still.tuple (AllST.cons (Still.agg (AllST.cons tS (AllST.cons tS AllST.nil))) (AllST.cons tI AllST.nil))))) az) ?_)
 refine Goes.ret ?_
 obtain rfl:=si h
 exact(gw2 (kS c.1.Low c.1.High [.i c.2]) (FzW.tuple (qc.cons (FzW.agg (qc.cons (Ua tS) (qc.cons (Ua tS) qc.nil))) (qc.cons (Ua tI) qc.nil))))
def qF (N:Nat) (f:qh) (b:List qh):Nat->(List qh)->Int->Option (List qh)
 |0,_,_=>none
 |K+1,g,a=>
  if a<(b.length:Int)then
  (idx b a).bind fun c=>
  (xH N f c).bind fun d=>
  (app 64 g [d]).bind fun e=>
  qF N f b K e (w64 (a+1))
  else
  some g
def qM (N:Nat) (a:qo) (b:List qh):Nat->(List qh)->Int->Option (List qh)
 |0,_,_=>none
 |K+1,e,c=>
  if c<(b.length:Int)then
  (idx b c).bind fun f=>
  (jM N ([a.Low,a.High]:List Str)).bind fun g=>
  (qF N f g N e 0).bind fun d=>
  qM N a b K d (w64 (c+1))
  else
  some e
def yP (N:Nat) (a:qo) (c:qo):Option (qo×Int):=
 (jM N ([a.Low,a.High]:List Str)).bind fun g=>
 (qM N c g N ([]:List qh) 0).bind fun f=>
 (zb N f).bind fun d=>
 (kT N f).bind fun e=>
 (xD N d e).bind fun b=>
 some (b.1,b.2)
theorem qeV (N:Nat) (b:qo) (a:qo) {res:qo×Int} (h:yP N b a=some res):qb ZT (.fn 121) (kS b.Low b.High (kS a.Low a.High [.func (.func 89) [] []])) [] (.tuple (kS res.1.Low res.1.High [.i res.2])) []:=by
 unfold yP at h
 refine Ub Tryz.func121 rfl rfl (m:=51) rfl (rs:=[.cell 6 44,.tmp 7]) rfl (l:=(kAC b.Low b.High a.Low a.High [(2,.func (.func 89) [] [])])) rfl ?_
 refine sg fol ((2,.func (.func 89) [] [])::(kQ (kBF []))) (kB b.Low b.High (kB a.Low a.High (kN []))) ?_
 refine sh fol ((2,.func (.func 89) [] [])::(kQ (kBF [(8,.nilslice)]))) ?_
 refine sq ?_
 obtain⟨c,D,h⟩:=bnd h
 refine sq (gq fol [5] ((2,.func (.func 89) [] [])::(kAD c (c.length:Int))) (kB b.Low b.High (kB a.Low a.High (kN (kAo b.Low b.High)))) (ac (hs (.callF 175 [.slice 3 0 2 2 1] (kB b.Low b.High (kB a.Low a.High (kN (kB b.Low b.High [])))) [3] [vl encS ([b.Low,b.High]:List Str)] (vl qd c)) (ji (FzL.cons (Fz.lit rfl rfl (Ud (AllST.cons tS (AllST.cons tS AllST.nil)))) FzL.nil) (vK N ([b.Low,b.High]:List Str) D) (qy qd _ (nl rfl)))) az) ?_)
 refine Goes.sub (show Sub (ofG 51 ((2,.func (.func 89) [] [])::(kAD c (c.length:Int))),(kB b.Low b.High (kB a.Low a.High (kN (kAo b.Low b.High))))) (ofG 51 ((2,.func (.func 89) [] [])::(kY ((6,.ptr 1 0)::(8,.nilslice)::(kAi c (c.length:Int) [(20,.i 0)])))),(kB a.Low a.High (kN [])))from(Sub.norm [] [some 1,some 2] rfl rfl (.keep (.same (qB.func sn sn)) (.kp (.kp (.keep (.same (qB.nilslice)) (.keep (.same (qg qd _)) (.keep (.same nI) (.keep (.same nI) .nil))))))) (.kb rfl (.same sn) (.kb rfl (.same sn) .nil)))) ?_
 refine Goes.block ?_
 obtain⟨K,g5,h⟩:=bnd h
 refine Goes.imp (Q:=fun x s'=>(x= .exit 0/\ ∃r,r=K/\Sub s' (ofG 51 (kBn [(8,.gslice 1 r.length 4)]),(kC r [])))) ?_ ?_
 ·refine Goes.sub (s':=(ofG 51 ((2,.func (.func 89) [] [])::(kY (kBE (kAi c (c.length:Int) [(20,.i 0)])))),(kB a.Low a.High (kN kBL)))) (Sub.norm [] [some 0,some 1,none] rfl rfl (.keep (.same (qB.func sn sn)) (.kp (.kp (.keep .nil (.keep (.same (qg qd _)) (.keep (.same nI) (.keep (.same nI) .nil))))))) (.kb rfl (.same sn) (.kb rfl (.same sn) (.fresh .nil)))) ?_
  refine Uc (fun M s=> ∃(k:List qh) (g:Int),s=(ofG 51 ((2,.func (.func 89) [] [])::(kL k c (c.length:Int) g [])),(kB a.Low a.High (kC k [])))/\qM N a c M k g=some K) ?_ (m:=N) ⟨_,_,rfl,g5⟩
  rintro M s ⟨k,g,rfl,g5⟩
  cases M with
  |zero=>simp only[qM]at g5;cases g5
  |succ M=>
   rw[qM]at g5
   refine sh fol ((2,.func (.func 89) [] [])::(kL k c (c.length:Int) g [(21,.bool (decide (g<(c.length:Int))))])) ?_
   refine sq ?_
   refine ihD g5 (fun L g5=>?_) (fun L g5=>?_)
   ·refine Goes.skip ?_
    refine sq (Goes.block ?_)
    obtain⟨j,w,g5⟩:=bnd g5
    refine sq (gq fol [0,1,3] ((2,.func (.func 89) [] [])::(kY (kAZ k (kAi c (c.length:Int) [(20,.i g)])))) (kB a.Low a.High (kC k [.cells (nq1 j)])) (ac (iv qa6 qd w) (ac (la qcO qd w) (ac (hs (.run [3] (qw ZT 108 (.ptr 3 0) (.agg (nq1 j))) (kB a.Low a.High (kC k (kD []))) .undef (kB a.Low a.High (kC k [.cells (nq1 j)])) true) (kw (n:=4) (by kernel_rfl) rfl rfl rfl rfl (cac rfl (cac nvc (cac rfl (cac nvc can)))) rfl)) az))) ?_)
    obtain⟨e,F,g5⟩:=bnd g5
    refine sq (gq fol [5] ((2,.func (.func 89) [] [])::(kE k c (c.length:Int) g e (e.length:Int) kB0)) (kB a.Low a.High (kC k (.cells (nq1 j)::(kAo a.Low a.High)))) (ac (hs (.callF 175 [.slice 4 0 2 2 1] (kB a.Low a.High (kC k (.cells (nq1 j)::(kB a.Low a.High [])))) [4] [vl encS ([a.Low,a.High]:List Str)] (vl qd e)) (ji (FzL.cons (Fz.lit rfl rfl (Ud (AllST.cons tS (AllST.cons tS AllST.nil)))) FzL.nil) (vK N ([a.Low,a.High]:List Str) F) (qy qd _ (nl rfl)))) az) ?_)
    refine Goes.sub (show Sub (ofG 51 ((2,.func (.func 89) [] [])::(kE k c (c.length:Int) g e (e.length:Int) kB0)),(kB a.Low a.High (kC k (.cells (nq1 j)::(kAo a.Low a.High))))) (ofG 51 ((2,.func (.func 89) [] [])::(kE k c (c.length:Int) g e (e.length:Int) kB0)),(kB a.Low a.High (kC k [.cells (nq1 j)])))from(Sub.norm [] [some 0,some 1,some 2,some 3] rfl rfl (.keep (.same (qB.func sn sn)) (.kp (.kp (.keep (.gslice rfl) (.kp (.keep (.same (qg qd _)) (.keep (.same nI) (.keep (.same nI) (.keep (.same (qg qd _)) (.keep (.same nI) (.keep (.same nI) .nil))))))))))) (.kb rfl (.same sn) (.kb rfl (.same sn) (.ks (.kb rfl (.same sn) .nil)))))) ?_
    refine Goes.block ?_
    obtain⟨G,g12,g5⟩:=bnd g5
    refine Goes.imp (Q:=fun x s'=>(x= .exit 2/\ ∃o,o=G/\Sub s' (ofG 51 ((2,.func (.func 89) [] [])::(kL o c (c.length:Int) g [])),(kB a.Low a.High (kC o []))))) ?_ ?_
    ·refine Uc (fun M s=> ∃(t:List qh) (f:Int),s=(ofG 51 ((2,.func (.func 89) [] [])::(kE t c (c.length:Int) g e (e.length:Int) (kBy f))),(kB a.Low a.High (kC t [.cells (nq1 j)])))/\qF N j e M t f=some G) ?_ (m:=N) ⟨_,_,rfl,g12⟩
     rintro M s ⟨t,f,rfl,g12⟩
     cases M with
     |zero=>simp only[qF]at g12;cases g12
     |succ M=>
      rw[qF]at g12
      refine sh fol ((2,.func (.func 89) [] [])::(kE t c (c.length:Int) g e (e.length:Int) [(31,.i f),(32,.bool (decide (f<(e.length:Int))))])) ?_
      refine sq ?_
      refine ihD g12 (fun J g12=>?_) (fun J g12=>?_)
      ·refine Goes.skip ?_
       refine sq (Goes.block ?_)
       obtain⟨p,u,g12⟩:=bnd g12
       refine sq (gq fol [0,1,3] ((2,.func (.func 89) [] [])::(kY (kAZ t ((12,.ptr 4 0)::(kAi c (c.length:Int) ((20,.i g)::(29,vl qd e)::(30,.i (e.length:Int))::(kBy f))))))) (kB a.Low a.High (kC t [.cells (nq1 j),.cells (nq1 p)])) (ac (iv qa6 qd u) (ac (la qcO qd u) (ac (hs (.run [4] (qw ZT 108 (.ptr 4 0) (.agg (nq1 p))) (kB a.Low a.High (kC t (.cells (nq1 j)::(kD [])))) .undef (kB a.Low a.High (kC t [.cells (nq1 j),.cells (nq1 p)])) true) (kw (n:=4) (by kernel_rfl) rfl rfl rfl rfl (cac rfl (cac nvc (cac rfl (cac nvc can)))) rfl)) az))) ?_)
       obtain⟨v,y,g12⟩:=bnd g12
       obtain⟨q,z,g12⟩:=bnd g12
       refine gq fol [4,6] ((2,.func (.func 89) [] [])::(kV q c (c.length:Int) g e (e.length:Int) (kBy f))) (kB a.Low a.High (kN (.dead:: .cells (nq1 j):: .cells (nq1 p):: .cells (nq1 v)::(kAP q)))) (ac (cv (qgT N j p y)) (ac (hs (.run [2,5] (yB ZT [161,161] (.gslice 2 t.length 4) (.slice 5 0 1 1 4)) (kB a.Low a.High (kC t [.cells (nq1 j),.cells (nq1 p),.cells (nq1 v)])) (.gslice 6 q.length 4) (kB a.Low a.High (kN (.dead:: .cells (nq1 j):: .cells (nq1 p):: .cells (nq1 v)::(kAP q)))) true) (qaU qa6 (E:=qd) rfl (qeA (E:=qd) (ys:=[v]) rfl rfl rfl rfl) (qfp (E:=qd) (l:=t) rfl rfl rfl z rfl))) az)) ?_
       refine gh fol ((2,.func (.func 89) [] [])::(kV q c (c.length:Int) g e (e.length:Int) (kBy (w64 (f+1))))) ?_
       exact⟨M,(ofG 51 ((2,.func (.func 89) [] [])::(kE q c (c.length:Int) g e (e.length:Int) (kBy (w64 (f+1))))),(kB a.Low a.High (kC q [.cells (nq1 j)]))),Nat.lt_succ_self _,(Sub.norm [] [some 0,some 1,some 6,some 3] rfl rfl (.keep (.same (qB.func sn sn)) (.kp (.kp (.keep (.gslice rfl) (.kp (.keep (.same (qg qd _)) (.keep (.same nI) (.keep (.same nI) (.keep (.same (qg qd _)) (.keep (.same nI) (.keep (.same nI) .nil))))))))))) (.kb rfl (.same sn) (.kb rfl (.same sn) (.ks (.kb rfl (.same sn) .nil))))),_,_,rfl,g12⟩
      refine Goes.exit ?_
      obtain rfl:=si g12
      exact⟨rfl,_,rfl,(Sub.norm [] [some 0,some 1,some 2] rfl rfl (.keep (.same (qB.func sn sn)) (.kp (.kp (.keep (.gslice rfl) (.drop (.keep (.same (qg qd _)) (.keep (.same nI) (.keep (.same nI) .nil)))))))) (.kb rfl (.same sn) (.kb rfl (.same sn) (.ks .nil))))⟩
    rintro x s' ⟨rfl,o,rfl,hsub⟩
    refine Goes.sub hsub ?_
    refine gh fol ((2,.func (.func 89) [] [])::(kL o c (c.length:Int) (w64 (g+1)) [])) ?_
    exact⟨M,(ofG 51 ((2,.func (.func 89) [] [])::(kL o c (c.length:Int) (w64 (g+1)) [])),(kB a.Low a.High (kC o []))),Nat.lt_succ_self _,(Sub.refl _),_,_,rfl,g5⟩
   refine Goes.exit ?_
   obtain rfl:=si g5
   exact⟨rfl,_,rfl,(Sub.norm [] [some 1,some 2] rfl rfl (.drop (.drop (.kp (.keep (.gslice rfl) .nil)))) (.kb rfl (.same sn) (.ks .nil)))⟩
 rintro x s' ⟨rfl,r,rfl,hsub⟩
 refine Goes.sub hsub ?_
 obtain⟨H,A,h⟩:=bnd h
 obtain⟨I,B,h⟩:=bnd h
 obtain⟨d,C,h⟩:=bnd h
 refine sq (gq fol [1,3,4] (kAw d.2) (kB d.1.Low d.1.High (kAj r)) (ac (hs (.callF 176 [.gslice 1 r.length 4,.func (.func 83) [] []] (kC r []) [1] [vl qd r,.func (.func 83) [] []] (.agg (nq1 H))) (ji (FzL.cons (Fz.gs (E:=qd) rfl rfl (nl rfl)) (FzL.cons (Fz.func FzL.nil FzL.nil) FzL.nil)) (jR N r A) (Still.agg (AllST.cons tI (AllST.cons (qm (qa .u64) _ (nl rfl)) (AllST.cons tI (AllST.cons (qm (qa .u64) _ (nl rfl)) AllST.nil))))))) (ac (hs (.callF 177 [.gslice 1 r.length 4,.func (.func 83) [] []] (kN (kAj r)) [1] [vl qd r,.func (.func 83) [] []] (.agg (nq1 I))) (ji (FzL.cons (Fz.gsF (E:=qd) rfl rfl (nl rfl)) (FzL.cons (Fz.func FzL.nil FzL.nil) FzL.nil)) (jQ N r B) (Still.agg (AllST.cons tI (AllST.cons (qm (qa .u64) _ (nl rfl)) (AllST.cons tI (AllST.cons (qm (qa .u64) _ (nl rfl)) AllST.nil))))))) (ac (cv (qbj N H I C)) az))) ?_)
 refine Goes.sub (show Sub (ofG 51 (kAw d.2),(kB d.1.Low d.1.High (kAj r))) (ofG 51 (kAw d.2),(kB d.1.Low d.1.High []))from(Sub.norm [] [some 0] rfl rfl (.kp (.keep (.same nI) .nil)) (.kb rfl (.same sn) .nil))) ?_
 refine Goes.ret ?_
 obtain rfl:=si h
 exact(gw2 (kS d.1.Low d.1.High [.i d.2]) (FzW.tuple (qc.cons (FzW.agg (qc.cons (Ua tS) (qc.cons (Ua tS) qc.nil))) (qc.cons (Ua tI) qc.nil))))
def jw (N:Nat) (a:qo) (b:qo):Option (qo×Int):=
 (qD N a).bind fun e=>
 (qD N b).bind fun f=>
 (zR N ([e,f]:List Int)).bind fun c=>
 if(!decide (c=0))=true then
 some ((⟨[],[]⟩:qo),c)
 else
 (yP N a b).bind fun d=>
 some (d.1,d.2)
theorem qcL (N:Nat) (a:qo) (b:qo) {res:qo×Int} (h:jw N a b=some res):qb ZT (.fn 119) (kS a.Low a.High (kS b.Low b.High [.func (.func 89) [] []])) [] (.tuple (kS res.1.Low res.1.High [.i res.2])) []:=by
 unfold jw at h
 refine Ub Tryz.func119 rfl rfl (m:=25) rfl (rs:=[.cell 6 44,.tmp 7]) rfl (l:=(kAC a.Low a.High b.Low b.High [(2,.func (.func 89) [] [])])) rfl ?_
 refine sg fol ((2,.func (.func 89) [] [])::(kQ (kBF []))) (kB a.Low a.High (kB b.Low b.High (kN []))) ?_
 refine sq ?_
 obtain⟨e,f,h⟩:=bnd h
 obtain⟨g,j,h⟩:=bnd h
 obtain⟨d,k,h⟩:=bnd h
 refine sq (gq fol [1,3,5] ((2,.func (.func 89) [] [])::(kQ (kBF (kBw d)))) (kB a.Low a.High (kB b.Low b.High (kN (kAE e g)))) (ac (cv (zg N a f)) (ac (cv (zg N b j)) (ac (hs (.call 79 [.slice 3 0 2 2 1] (kB a.Low a.High (kB b.Low b.High (kN (kAE e g)))) [3] [vl encI ([e,g]:List Int)] (.i d)) (qbk (FzL.cons (Fz.lit rfl rfl (Ud (AllST.cons tI (AllST.cons tI AllST.nil)))) FzL.nil) (yG N ([e,g]:List Int) k) tI rfl)) az))) ?_)
 refine sh fol ((2,.func (.func 89) [] [])::(kQ (kBF [(8,.i d),(16,.bool (!decide (d=0)))]))) ?_
 refine ihB h (fun o h=>?_) (fun o h=>?_)
 ·refine sh fol (kBF [(7,.i d)]) ?_
  refine Goes.ret ?_
  obtain rfl:=si h
  exact(gw2 (kBZ [.i d]) (FzW.tuple (qc.cons (FzW.agg (qc.cons (Ua tS) (qc.cons (Ua tS) qc.nil))) (qc.cons (Ua tI) qc.nil))))
 refine Goes.skip ?_
 obtain⟨c,n,h⟩:=bnd h
 refine sq (gq fol [3] (kBF [(7,.i c.2)]) (kB a.Low a.High (kB b.Low b.High (kB c.1.Low c.1.High (kAE e g)))) (ac (hs (.call 121 (kS a.Low a.High (kS b.Low b.High [.func (.func 89) [] []])) [] [] (kS a.Low a.High (kS b.Low b.High [.func (.func 89) [] []])) (.tuple (kS c.1.Low c.1.High [.i c.2]))) (qfI (FzL.cons (Uf (Still.agg (AllST.cons tS (AllST.cons tS AllST.nil)))) (FzL.cons (Uf (Still.agg (AllST.cons tS (AllST.cons tS AllST.nil)))) (FzL.cons (Fz.func FzL.nil FzL.nil) FzL.nil))) (qeV N a b n) (Still.tuple (AllST.cons (Still.agg (AllST.cons tS (AllST.cons tS AllST.nil))) (AllST.cons tI AllST.nil))))) az) ?_)
 refine Goes.ret ?_
 obtain rfl:=si h
 exact(gw2 (kS c.1.Low c.1.High [.i c.2]) (FzW.tuple (qc.cons (FzW.agg (qc.cons (Ua tS) (qc.cons (Ua tS) qc.nil))) (qc.cons (Ua tI) qc.nil))))
def xQ (N:Nat) (a:qo) (b:qo):Option (qo×Int):=
 (jw N a b).bind fun c=>
 some (c.1,c.2)
theorem qgY (N:Nat) (a:qo) (b:qo) {res:qo×Int} (h:xQ N a b=some res):qb ZT (.fn 39) (kS a.Low a.High (kS b.Low b.High [])) [] (.tuple (kS res.1.Low res.1.High [.i res.2])) []:=by
 unfold xQ at h
 refine Ub Tryz.func39 rfl rfl (m:=11) rfl (rs:=[.cell 4 44,.tmp 5]) rfl (l:=(kAC a.Low a.High b.Low b.High [])) rfl ?_
 refine sg fol (kH []) (kB a.Low a.High (kB b.Low b.High (kN []))) ?_
 obtain⟨c,d,h⟩:=bnd h
 refine sq (gq fol [2] (kAU (kA5 c.2)) (kB a.Low a.High (kB b.Low b.High (kB c.1.Low c.1.High []))) (ac (hs (.call 119 (kS a.Low a.High (kS b.Low b.High [.func (.func 89) [] []])) [] [] (kS a.Low a.High (kS b.Low b.High [.func (.func 89) [] []])) (.tuple (kS c.1.Low c.1.High [.i c.2]))) (qfI (FzL.cons (Uf (Still.agg (AllST.cons tS (AllST.cons tS AllST.nil)))) (FzL.cons (Uf (Still.agg (AllST.cons tS (AllST.cons tS AllST.nil)))) (FzL.cons (Fz.func FzL.nil FzL.nil) FzL.nil))) (qcL N a b d) (Still.tuple (AllST.cons (Still.agg (AllST.cons tS (AllST.cons tS AllST.nil))) (AllST.cons tI AllST.nil))))) az) ?_)
 refine Goes.ret ?_
 obtain rfl:=si h
 exact(gw2 (kS c.1.Low c.1.High [.i c.2]) (FzW.tuple (qc.cons (FzW.agg (qc.cons (Ua tS) (qc.cons (Ua tS) qc.nil))) (qc.cons (Ua tI) qc.nil))))
def qG (N:Nat) (f:qh) (b:List qh):Nat->(List qh)->Int->Option (List qh)
 |0,_,_=>none
 |K+1,g,a=>
  if a<(b.length:Int)then
  (idx b a).bind fun c=>
  (yK N f c).bind fun d=>
  (app 64 g [d]).bind fun e=>
  qG N f b K e (w64 (a+1))
  else
  some g
def qL (N:Nat) (a:qo) (b:List qh):Nat->(List qh)->Int->Option (List qh)
 |0,_,_=>none
 |K+1,e,c=>
  if c<(b.length:Int)then
  (idx b c).bind fun f=>
  (jM N ([a.Low,a.High]:List Str)).bind fun g=>
  (qG N f g N e 0).bind fun d=>
  qL N a b K d (w64 (c+1))
  else
  some e
def yJ (N:Nat) (a:qo) (c:qo):Option (qo×Int):=
 (jM N ([a.Low,a.High]:List Str)).bind fun g=>
 (qL N c g N ([]:List qh) 0).bind fun f=>
 (zb N f).bind fun d=>
 (kT N f).bind fun e=>
 (xD N d e).bind fun b=>
 some (b.1,b.2)
theorem qeO (N:Nat) (b:qo) (a:qo) {res:qo×Int} (h:yJ N b a=some res):qb ZT (.fn 121) (kS b.Low b.High (kS a.Low a.High [.func (.func 102) [] []])) [] (.tuple (kS res.1.Low res.1.High [.i res.2])) []:=by
 unfold yJ at h
 refine Ub Tryz.func121 rfl rfl (m:=51) rfl (rs:=[.cell 6 44,.tmp 7]) rfl (l:=(kAC b.Low b.High a.Low a.High [(2,.func (.func 102) [] [])])) rfl ?_
 refine sg fol ((2,.func (.func 102) [] [])::(kQ (kBF []))) (kB b.Low b.High (kB a.Low a.High (kN []))) ?_
 refine sh fol ((2,.func (.func 102) [] [])::(kQ (kBF [(8,.nilslice)]))) ?_
 refine sq ?_
 obtain⟨c,D,h⟩:=bnd h
 refine sq (gq fol [5] ((2,.func (.func 102) [] [])::(kAD c (c.length:Int))) (kB b.Low b.High (kB a.Low a.High (kN (kAo b.Low b.High)))) (ac (hs (.callF 175 [.slice 3 0 2 2 1] (kB b.Low b.High (kB a.Low a.High (kN (kB b.Low b.High [])))) [3] [vl encS ([b.Low,b.High]:List Str)] (vl qd c)) (ji (FzL.cons (Fz.lit rfl rfl (Ud (AllST.cons tS (AllST.cons tS AllST.nil)))) FzL.nil) (vK N ([b.Low,b.High]:List Str) D) (qy qd _ (nl rfl)))) az) ?_)
 refine Goes.sub (show Sub (ofG 51 ((2,.func (.func 102) [] [])::(kAD c (c.length:Int))),(kB b.Low b.High (kB a.Low a.High (kN (kAo b.Low b.High))))) (ofG 51 ((2,.func (.func 102) [] [])::(kY ((6,.ptr 1 0)::(8,.nilslice)::(kAi c (c.length:Int) [(20,.i 0)])))),(kB a.Low a.High (kN [])))from(Sub.norm [] [some 1,some 2] rfl rfl (.keep (.same (qB.func sn sn)) (.kp (.kp (.keep (.same (qB.nilslice)) (.keep (.same (qg qd _)) (.keep (.same nI) (.keep (.same nI) .nil))))))) (.kb rfl (.same sn) (.kb rfl (.same sn) .nil)))) ?_
 refine Goes.block ?_
 obtain⟨K,g5,h⟩:=bnd h
 refine Goes.imp (Q:=fun x s'=>(x= .exit 0/\ ∃r,r=K/\Sub s' (ofG 51 (kBn [(8,.gslice 1 r.length 4)]),(kC r [])))) ?_ ?_
 ·refine Goes.sub (s':=(ofG 51 ((2,.func (.func 102) [] [])::(kY (kBE (kAi c (c.length:Int) [(20,.i 0)])))),(kB a.Low a.High (kN kBL)))) (Sub.norm [] [some 0,some 1,none] rfl rfl (.keep (.same (qB.func sn sn)) (.kp (.kp (.keep .nil (.keep (.same (qg qd _)) (.keep (.same nI) (.keep (.same nI) .nil))))))) (.kb rfl (.same sn) (.kb rfl (.same sn) (.fresh .nil)))) ?_
  refine Uc (fun M s=> ∃(k:List qh) (g:Int),s=(ofG 51 ((2,.func (.func 102) [] [])::(kL k c (c.length:Int) g [])),(kB a.Low a.High (kC k [])))/\qL N a c M k g=some K) ?_ (m:=N) ⟨_,_,rfl,g5⟩
  rintro M s ⟨k,g,rfl,g5⟩
  cases M with
  |zero=>simp only[qL]at g5;cases g5
  |succ M=>
   rw[qL]at g5
   refine sh fol ((2,.func (.func 102) [] [])::(kL k c (c.length:Int) g [(21,.bool (decide (g<(c.length:Int))))])) ?_
   refine sq ?_
   refine ihD g5 (fun L g5=>?_) (fun L g5=>?_)
   ·refine Goes.skip ?_
    refine sq (Goes.block ?_)
    obtain⟨j,w,g5⟩:=bnd g5
    refine sq (gq fol [0,1,3] ((2,.func (.func 102) [] [])::(kY (kAZ k (kAi c (c.length:Int) [(20,.i g)])))) (kB a.Low a.High (kC k [.cells (nq1 j)])) (ac (iv qa6 qd w) (ac (la qcO qd w) (ac (hs (.run [3] (qw ZT 108 (.ptr 3 0) (.agg (nq1 j))) (kB a.Low a.High (kC k (kD []))) .undef (kB a.Low a.High (kC k [.cells (nq1 j)])) true) (kw (n:=4) (by kernel_rfl) rfl rfl rfl rfl (cac rfl (cac nvc (cac rfl (cac nvc can)))) rfl)) az))) ?_)
    obtain⟨e,F,g5⟩:=bnd g5
    refine sq (gq fol [5] ((2,.func (.func 102) [] [])::(kE k c (c.length:Int) g e (e.length:Int) kB0)) (kB a.Low a.High (kC k (.cells (nq1 j)::(kAo a.Low a.High)))) (ac (hs (.callF 175 [.slice 4 0 2 2 1] (kB a.Low a.High (kC k (.cells (nq1 j)::(kB a.Low a.High [])))) [4] [vl encS ([a.Low,a.High]:List Str)] (vl qd e)) (ji (FzL.cons (Fz.lit rfl rfl (Ud (AllST.cons tS (AllST.cons tS AllST.nil)))) FzL.nil) (vK N ([a.Low,a.High]:List Str) F) (qy qd _ (nl rfl)))) az) ?_)
    refine Goes.sub (show Sub (ofG 51 ((2,.func (.func 102) [] [])::(kE k c (c.length:Int) g e (e.length:Int) kB0)),(kB a.Low a.High (kC k (.cells (nq1 j)::(kAo a.Low a.High))))) (ofG 51 ((2,.func (.func 102) [] [])::(kE k c (c.length:Int) g e (e.length:Int) kB0)),(kB a.Low a.High (kC k [.cells (nq1 j)])))from(Sub.norm [] [some 0,some 1,some 2,some 3] rfl rfl (.keep (.same (qB.func sn sn)) (.kp (.kp (.keep (.gslice rfl) (.kp (.keep (.same (qg qd _)) (.keep (.same nI) (.keep (.same nI) (.keep (.same (qg qd _)) (.keep (.same nI) (.keep (.same nI) .nil))))))))))) (.kb rfl (.same sn) (.kb rfl (.same sn) (.ks (.kb rfl (.same sn) .nil)))))) ?_
    refine Goes.block ?_
    obtain⟨G,g12,g5⟩:=bnd g5
    refine Goes.imp (Q:=fun x s'=>(x= .exit 2/\ ∃o,o=G/\Sub s' (ofG 51 ((2,.func (.func 102) [] [])::(kL o c (c.length:Int) g [])),(kB a.Low a.High (kC o []))))) ?_ ?_
    ·refine Uc (fun M s=> ∃(t:List qh) (f:Int),s=(ofG 51 ((2,.func (.func 102) [] [])::(kE t c (c.length:Int) g e (e.length:Int) (kBy f))),(kB a.Low a.High (kC t [.cells (nq1 j)])))/\qG N j e M t f=some G) ?_ (m:=N) ⟨_,_,rfl,g12⟩
     rintro M s ⟨t,f,rfl,g12⟩
     cases M with
     |zero=>simp only[qG]at g12;cases g12
     |succ M=>
      rw[qG]at g12
      refine sh fol ((2,.func (.func 102) [] [])::(kE t c (c.length:Int) g e (e.length:Int) [(31,.i f),(32,.bool (decide (f<(e.length:Int))))])) ?_
      refine sq ?_
      refine ihD g12 (fun J g12=>?_) (fun J g12=>?_)
      ·refine Goes.skip ?_
       refine sq (Goes.block ?_)
       obtain⟨p,u,g12⟩:=bnd g12
       refine sq (gq fol [0,1,3] ((2,.func (.func 102) [] [])::(kY (kAZ t ((12,.ptr 4 0)::(kAi c (c.length:Int) ((20,.i g)::(29,vl qd e)::(30,.i (e.length:Int))::(kBy f))))))) (kB a.Low a.High (kC t [.cells (nq1 j),.cells (nq1 p)])) (ac (iv qa6 qd u) (ac (la qcO qd u) (ac (hs (.run [4] (qw ZT 108 (.ptr 4 0) (.agg (nq1 p))) (kB a.Low a.High (kC t (.cells (nq1 j)::(kD [])))) .undef (kB a.Low a.High (kC t [.cells (nq1 j),.cells (nq1 p)])) true) (kw (n:=4) (by kernel_rfl) rfl rfl rfl rfl (cac rfl (cac nvc (cac rfl (cac nvc can)))) rfl)) az))) ?_)
       obtain⟨v,y,g12⟩:=bnd g12
       obtain⟨q,z,g12⟩:=bnd g12
       refine gq fol [4,6] ((2,.func (.func 102) [] [])::(kV q c (c.length:Int) g e (e.length:Int) (kBy f))) (kB a.Low a.High (kN (.dead:: .cells (nq1 j):: .cells (nq1 p):: .cells (nq1 v)::(kAP q)))) (ac (cv (qd7 N j p y)) (ac (hs (.run [2,5] (yB ZT [161,161] (.gslice 2 t.length 4) (.slice 5 0 1 1 4)) (kB a.Low a.High (kC t [.cells (nq1 j),.cells (nq1 p),.cells (nq1 v)])) (.gslice 6 q.length 4) (kB a.Low a.High (kN (.dead:: .cells (nq1 j):: .cells (nq1 p):: .cells (nq1 v)::(kAP q)))) true) (qaU qa6 (E:=qd) rfl (qeA (E:=qd) (ys:=[v]) rfl rfl rfl rfl) (qfp (E:=qd) (l:=t) rfl rfl rfl z rfl))) az)) ?_
       refine gh fol ((2,.func (.func 102) [] [])::(kV q c (c.length:Int) g e (e.length:Int) (kBy (w64 (f+1))))) ?_
       exact⟨M,(ofG 51 ((2,.func (.func 102) [] [])::(kE q c (c.length:Int) g e (e.length:Int) (kBy (w64 (f+1))))),(kB a.Low a.High (kC q [.cells (nq1 j)]))),Nat.lt_succ_self _,(Sub.norm [] [some 0,some 1,some 6,some 3] rfl rfl (.keep (.same (qB.func sn sn)) (.kp (.kp (.keep (.gslice rfl) (.kp (.keep (.same (qg qd _)) (.keep (.same nI) (.keep (.same nI) (.keep (.same (qg qd _)) (.keep (.same nI) (.keep (.same nI) .nil))))))))))) (.kb rfl (.same sn) (.kb rfl (.same sn) (.ks (.kb rfl (.same sn) .nil))))),_,_,rfl,g12⟩
      refine Goes.exit ?_
      obtain rfl:=si g12
      exact⟨rfl,_,rfl,(Sub.norm [] [some 0,some 1,some 2] rfl rfl (.keep (.same (qB.func sn sn)) (.kp (.kp (.keep (.gslice rfl) (.drop (.keep (.same (qg qd _)) (.keep (.same nI) (.keep (.same nI) .nil)))))))) (.kb rfl (.same sn) (.kb rfl (.same sn) (.ks .nil))))⟩
    rintro x s' ⟨rfl,o,rfl,hsub⟩
    refine Goes.sub hsub ?_
    refine gh fol ((2,.func (.func 102) [] [])::(kL o c (c.length:Int) (w64 (g+1)) [])) ?_
    exact⟨M,(ofG 51 ((2,.func (.func 102) [] [])::(kL o c (c.length:Int) (w64 (g+1)) [])),(kB a.Low a.High (kC o []))),Nat.lt_succ_self _,(Sub.refl _),_,_,rfl,g5⟩
   refine Goes.exit ?_
   obtain rfl:=si g5
   exact⟨rfl,_,rfl,(Sub.norm [] [some 1,some 2] rfl rfl (.drop (.drop (.kp (.keep (.gslice rfl) .nil)))) (.kb rfl (.same sn) (.ks .nil)))⟩
 rintro x s' ⟨rfl,r,rfl,hsub⟩
 refine Goes.sub hsub ?_
 obtain⟨H,A,h⟩:=bnd h
 obtain⟨I,B,h⟩:=bnd h
 obtain⟨d,C,h⟩:=bnd h
 refine sq (gq fol [1,3,4] (kAw d.2) (kB d.1.Low d.1.High (kAj r)) (ac (hs (.callF 176 [.gslice 1 r.length 4,.func (.func 83) [] []] (kC r []) [1] [vl qd r,.func (.func 83) [] []] (.agg (nq1 H))) (ji (FzL.cons (Fz.gs (E:=qd) rfl rfl (nl rfl)) (FzL.cons (Fz.func FzL.nil FzL.nil) FzL.nil)) (jR N r A) (Still.agg (AllST.cons tI (AllST.cons (qm (qa .u64) _ (nl rfl)) (AllST.cons tI (AllST.cons (qm (qa .u64) _ (nl rfl)) AllST.nil))))))) (ac (hs (.callF 177 [.gslice 1 r.length 4,.func (.func 83) [] []] (kN (kAj r)) [1] [vl qd r,.func (.func 83) [] []] (.agg (nq1 I))) (ji (FzL.cons (Fz.gsF (E:=qd) rfl rfl (nl rfl)) (FzL.cons (Fz.func FzL.nil FzL.nil) FzL.nil)) (jQ N r B) (Still.agg (AllST.cons tI (AllST.cons (qm (qa .u64) _ (nl rfl)) (AllST.cons tI (AllST.cons (qm (qa .u64) _ (nl rfl)) AllST.nil))))))) (ac (cv (qbj N H I C)) az))) ?_)
 refine Goes.sub (show Sub (ofG 51 (kAw d.2),(kB d.1.Low d.1.High (kAj r))) (ofG 51 (kAw d.2),(kB d.1.Low d.1.High []))from(Sub.norm [] [some 0] rfl rfl (.kp (.keep (.same nI) .nil)) (.kb rfl (.same sn) .nil))) ?_
 refine Goes.ret ?_
 obtain rfl:=si h
 exact(gw2 (kS d.1.Low d.1.High [.i d.2]) (FzW.tuple (qc.cons (FzW.agg (qc.cons (Ua tS) (qc.cons (Ua tS) qc.nil))) (qc.cons (Ua tI) qc.nil))))
def jC (N:Nat) (a:qo) (b:qo):Option (qo×Int):=
 (qD N a).bind fun e=>
 (qD N b).bind fun f=>
 (zR N ([e,f]:List Int)).bind fun c=>
 if(!decide (c=0))=true then
 some ((⟨[],[]⟩:qo),c)
 else
 (yJ N a b).bind fun d=>
 some (d.1,d.2)
theorem qcJ (N:Nat) (a:qo) (b:qo) {res:qo×Int} (h:jC N a b=some res):qb ZT (.fn 119) (kS a.Low a.High (kS b.Low b.High [.func (.func 102) [] []])) [] (.tuple (kS res.1.Low res.1.High [.i res.2])) []:=by
 unfold jC at h
 refine Ub Tryz.func119 rfl rfl (m:=25) rfl (rs:=[.cell 6 44,.tmp 7]) rfl (l:=(kAC a.Low a.High b.Low b.High [(2,.func (.func 102) [] [])])) rfl ?_
 refine sg fol ((2,.func (.func 102) [] [])::(kQ (kBF []))) (kB a.Low a.High (kB b.Low b.High (kN []))) ?_
 refine sq ?_
 obtain⟨e,f,h⟩:=bnd h
 obtain⟨g,j,h⟩:=bnd h
 obtain⟨d,k,h⟩:=bnd h
 refine sq (gq fol [1,3,5] ((2,.func (.func 102) [] [])::(kQ (kBF (kBw d)))) (kB a.Low a.High (kB b.Low b.High (kN (kAE e g)))) (ac (cv (zg N a f)) (ac (cv (zg N b j)) (ac (hs (.call 79 [.slice 3 0 2 2 1] (kB a.Low a.High (kB b.Low b.High (kN (kAE e g)))) [3] [vl encI ([e,g]:List Int)] (.i d)) (qbk (FzL.cons (Fz.lit rfl rfl (Ud (AllST.cons tI (AllST.cons tI AllST.nil)))) FzL.nil) (yG N ([e,g]:List Int) k) tI rfl)) az))) ?_)
 refine sh fol ((2,.func (.func 102) [] [])::(kQ (kBF [(8,.i d),(16,.bool (!decide (d=0)))]))) ?_
 refine ihB h (fun o h=>?_) (fun o h=>?_)
 ·refine sh fol (kBF [(7,.i d)]) ?_
  refine Goes.ret ?_
  obtain rfl:=si h
  exact(gw2 (kBZ [.i d]) (FzW.tuple (qc.cons (FzW.agg (qc.cons (Ua tS) (qc.cons (Ua tS) qc.nil))) (qc.cons (Ua tI) qc.nil))))
 refine Goes.skip ?_
 obtain⟨c,n,h⟩:=bnd h
 refine sq (gq fol [3] (kBF [(7,.i c.2)]) (kB a.Low a.High (kB b.Low b.High (kB c.1.Low c.1.High (kAE e g)))) (ac (hs (.call 121 (kS a.Low a.High (kS b.Low b.High [.func (.func 102) [] []])) [] [] (kS a.Low a.High (kS b.Low b.High [.func (.func 102) [] []])) (.tuple (kS c.1.Low c.1.High [.i c.2]))) (qfI (FzL.cons (Uf (Still.agg (AllST.cons tS (AllST.cons tS AllST.nil)))) (FzL.cons (Uf (Still.agg (AllST.cons tS (AllST.cons tS AllST.nil)))) (FzL.cons (Fz.func FzL.nil FzL.nil) FzL.nil))) (qeO N a b n) (Still.tuple (AllST.cons (Still.agg (AllST.cons tS (AllST.cons tS AllST.nil))) (AllST.cons tI AllST.nil))))) az) ?_)
 refine Goes.ret ?_
 obtain rfl:=si h
 exact(gw2 (kS c.1.Low c.1.High [.i c.2]) (FzW.tuple (qc.cons (FzW.agg (qc.cons (Ua tS) (qc.cons (Ua tS) qc.nil))) (qc.cons (Ua tI) qc.nil))))
def xO (N:Nat) (a:qo) (b:qo):Option (qo×Int):=
 (jC N a b).bind fun c=>
 some (c.1,c.2)
theorem qg0 (N:Nat) (a:qo) (b:qo) {res:qo×Int} (h:xO N a b=some res):qb ZT (.fn 40) (kS a.Low a.High (kS b.Low b.High [])) [] (.tuple (kS res.1.Low res.1.High [.i res.2])) []:=by
 unfold xO at h
 refine Ub Tryz.func40 rfl rfl (m:=11) rfl (rs:=[.cell 4 44,.tmp 5]) rfl (l:=(kAC a.Low a.High b.Low b.High [])) rfl ?_
 refine sg fol (kH []) (kB a.Low a.High (kB b.Low b.High (kN []))) ?_
 obtain⟨c,d,h⟩:=bnd h
 refine sq (gq fol [2] (kAU (kA5 c.2)) (kB a.Low a.High (kB b.Low b.High (kB c.1.Low c.1.High []))) (ac (hs (.call 119 (kS a.Low a.High (kS b.Low b.High [.func (.func 102) [] []])) [] [] (kS a.Low a.High (kS b.Low b.High [.func (.func 102) [] []])) (.tuple (kS c.1.Low c.1.High [.i c.2]))) (qfI (FzL.cons (Uf (Still.agg (AllST.cons tS (AllST.cons tS AllST.nil)))) (FzL.cons (Uf (Still.agg (AllST.cons tS (AllST.cons tS AllST.nil)))) (FzL.cons (Fz.func FzL.nil FzL.nil) FzL.nil))) (qcJ N a b d) (Still.tuple (AllST.cons (Still.agg (AllST.cons tS (AllST.cons tS AllST.nil))) (AllST.cons tI AllST.nil))))) az) ?_)
 refine Goes.ret ?_
 obtain rfl:=si h
 exact(gw2 (kS c.1.Low c.1.High [.i c.2]) (FzW.tuple (qc.cons (FzW.agg (qc.cons (Ua tS) (qc.cons (Ua tS) qc.nil))) (qc.cons (Ua tI) qc.nil))))
def qK (N:Nat) (f:qh) (b:List qh):Nat->(List qh)->Int->Option (List qh)
 |0,_,_=>none
 |K+1,g,a=>
  if a<(b.length:Int)then
  (idx b a).bind fun c=>
  (xL N f c).bind fun d=>
  (app 64 g [d]).bind fun e=>
  qK N f b K e (w64 (a+1))
  else
  some g
def qJ (N:Nat) (a:qo) (b:List qh):Nat->(List qh)->Int->Option (List qh)
 |0,_,_=>none
 |K+1,e,c=>
  if c<(b.length:Int)then
  (idx b c).bind fun f=>
  (jM N ([a.Low,a.High]:List Str)).bind fun g=>
  (qK N f g N e 0).bind fun d=>
  qJ N a b K d (w64 (c+1))
  else
  some e
def yO (N:Nat) (a:qo) (c:qo):Option (qo×Int):=
 (jM N ([a.Low,a.High]:List Str)).bind fun g=>
 (qJ N c g N ([]:List qh) 0).bind fun f=>
 (zb N f).bind fun d=>
 (kT N f).bind fun e=>
 (xD N d e).bind fun b=>
 some (b.1,b.2)
theorem qez (N:Nat) (b:qo) (a:qo) {res:qo×Int} (h:yO N b a=some res):qb ZT (.fn 121) (kS b.Low b.High (kS a.Low a.High [.func (.func 88) [] []])) [] (.tuple (kS res.1.Low res.1.High [.i res.2])) []:=by
 unfold yO at h
 refine Ub Tryz.func121 rfl rfl (m:=51) rfl (rs:=[.cell 6 44,.tmp 7]) rfl (l:=(kAC b.Low b.High a.Low a.High [(2,.func (.func 88) [] [])])) rfl ?_
 refine sg fol ((2,.func (.func 88) [] [])::(kQ (kBF []))) (kB b.Low b.High (kB a.Low a.High (kN []))) ?_
 refine sh fol ((2,.func (.func 88) [] [])::(kQ (kBF [(8,.nilslice)]))) ?_
 refine sq ?_
 obtain⟨c,D,h⟩:=bnd h
 refine sq (gq fol [5] ((2,.func (.func 88) [] [])::(kAD c (c.length:Int))) (kB b.Low b.High (kB a.Low a.High (kN (kAo b.Low b.High)))) (ac (hs (.callF 175 [.slice 3 0 2 2 1] (kB b.Low b.High (kB a.Low a.High (kN (kB b.Low b.High [])))) [3] [vl encS ([b.Low,b.High]:List Str)] (vl qd c)) (ji (FzL.cons (Fz.lit rfl rfl (Ud (AllST.cons tS (AllST.cons tS AllST.nil)))) FzL.nil) (vK N ([b.Low,b.High]:List Str) D) (qy qd _ (nl rfl)))) az) ?_)
 refine Goes.sub (show Sub (ofG 51 ((2,.func (.func 88) [] [])::(kAD c (c.length:Int))),(kB b.Low b.High (kB a.Low a.High (kN (kAo b.Low b.High))))) (ofG 51 ((2,.func (.func 88) [] [])::(kY ((6,.ptr 1 0)::(8,.nilslice)::(kAi c (c.length:Int) [(20,.i 0)])))),(kB a.Low a.High (kN [])))from(Sub.norm [] [some 1,some 2] rfl rfl (.keep (.same (qB.func sn sn)) (.kp (.kp (.keep (.same (qB.nilslice)) (.keep (.same (qg qd _)) (.keep (.same nI) (.keep (.same nI) .nil))))))) (.kb rfl (.same sn) (.kb rfl (.same sn) .nil)))) ?_
 refine Goes.block ?_
 obtain⟨K,g5,h⟩:=bnd h
 refine Goes.imp (Q:=fun x s'=>(x= .exit 0/\ ∃r,r=K/\Sub s' (ofG 51 (kBn [(8,.gslice 1 r.length 4)]),(kC r [])))) ?_ ?_
 ·refine Goes.sub (s':=(ofG 51 ((2,.func (.func 88) [] [])::(kY (kBE (kAi c (c.length:Int) [(20,.i 0)])))),(kB a.Low a.High (kN kBL)))) (Sub.norm [] [some 0,some 1,none] rfl rfl (.keep (.same (qB.func sn sn)) (.kp (.kp (.keep .nil (.keep (.same (qg qd _)) (.keep (.same nI) (.keep (.same nI) .nil))))))) (.kb rfl (.same sn) (.kb rfl (.same sn) (.fresh .nil)))) ?_
  refine Uc (fun M s=> ∃(k:List qh) (g:Int),s=(ofG 51 ((2,.func (.func 88) [] [])::(kL k c (c.length:Int) g [])),(kB a.Low a.High (kC k [])))/\qJ N a c M k g=some K) ?_ (m:=N) ⟨_,_,rfl,g5⟩
  rintro M s ⟨k,g,rfl,g5⟩
  cases M with
  |zero=>simp only[qJ]at g5;cases g5
  |succ M=>
   rw[qJ]at g5
   refine sh fol ((2,.func (.func 88) [] [])::(kL k c (c.length:Int) g [(21,.bool (decide (g<(c.length:Int))))])) ?_
   refine sq ?_
   refine ihD g5 (fun L g5=>?_) (fun L g5=>?_)
   ·refine Goes.skip ?_
    refine sq (Goes.block ?_)
    obtain⟨j,w,g5⟩:=bnd g5
    refine sq (gq fol [0,1,3] ((2,.func (.func 88) [] [])::(kY (kAZ k (kAi c (c.length:Int) [(20,.i g)])))) (kB a.Low a.High (kC k [.cells (nq1 j)])) (ac (iv qa6 qd w) (ac (la qcO qd w) (ac (hs (.run [3] (qw ZT 108 (.ptr 3 0) (.agg (nq1 j))) (kB a.Low a.High (kC k (kD []))) .undef (kB a.Low a.High (kC k [.cells (nq1 j)])) true) (kw (n:=4) (by kernel_rfl) rfl rfl rfl rfl (cac rfl (cac nvc (cac rfl (cac nvc can)))) rfl)) az))) ?_)
    obtain⟨e,F,g5⟩:=bnd g5
    refine sq (gq fol [5] ((2,.func (.func 88) [] [])::(kE k c (c.length:Int) g e (e.length:Int) kB0)) (kB a.Low a.High (kC k (.cells (nq1 j)::(kAo a.Low a.High)))) (ac (hs (.callF 175 [.slice 4 0 2 2 1] (kB a.Low a.High (kC k (.cells (nq1 j)::(kB a.Low a.High [])))) [4] [vl encS ([a.Low,a.High]:List Str)] (vl qd e)) (ji (FzL.cons (Fz.lit rfl rfl (Ud (AllST.cons tS (AllST.cons tS AllST.nil)))) FzL.nil) (vK N ([a.Low,a.High]:List Str) F) (qy qd _ (nl rfl)))) az) ?_)
    refine Goes.sub (show Sub (ofG 51 ((2,.func (.func 88) [] [])::(kE k c (c.length:Int) g e (e.length:Int) kB0)),(kB a.Low a.High (kC k (.cells (nq1 j)::(kAo a.Low a.High))))) (ofG 51 ((2,.func (.func 88) [] [])::(kE k c (c.length:Int) g e (e.length:Int) kB0)),(kB a.Low a.High (kC k [.cells (nq1 j)])))from(Sub.norm [] [some 0,some 1,some 2,some 3] rfl rfl (.keep (.same (qB.func sn sn)) (.kp (.kp (.keep (.gslice rfl) (.kp (.keep (.same (qg qd _)) (.keep (.same nI) (.keep (.same nI) (.keep (.same (qg qd _)) (.keep (.same nI) (.keep (.same nI) .nil))))))))))) (.kb rfl (.same sn) (.kb rfl (.same sn) (.ks (.kb rfl (.same sn) .nil)))))) ?_
    refine Goes.block ?_
    obtain⟨G,g12,g5⟩:=bnd g5
    refine Goes.imp (Q:=fun x s'=>(x= .exit 2/\ ∃o,o=G/\Sub s' (ofG 51 ((2,.func (.func 88) [] [])::(kL o c (c.length:Int) g [])),(kB a.Low a.High (kC o []))))) ?_ ?_
    ·refine Uc (fun M s=> ∃(t:List qh) (f:Int),s=(ofG 51 ((2,.func (.func 88) [] [])::(kE t c (c.length:Int) g e (e.length:Int) (kBy f))),(kB a.Low a.High (kC t [.cells (nq1 j)])))/\qK N j e M t f=some G) ?_ (m:=N) ⟨_,_,rfl,g12⟩
     rintro M s ⟨t,f,rfl,g12⟩
     cases M with
     |zero=>simp only[qK]at g12;cases g12
     |succ M=>
      rw[qK]at g12
      refine sh fol ((2,.func (.func 88) [] [])::(kE t c (c.length:Int) g e (e.length:Int) [(31,.i f),(32,.bool (decide (f<(e.length:Int))))])) ?_
      refine sq ?_
      refine ihD g12 (fun J g12=>?_) (fun J g12=>?_)
      ·refine Goes.skip ?_
       refine sq (Goes.block ?_)
       obtain⟨p,u,g12⟩:=bnd g12
       refine sq (gq fol [0,1,3] ((2,.func (.func 88) [] [])::(kY (kAZ t ((12,.ptr 4 0)::(kAi c (c.length:Int) ((20,.i g)::(29,vl qd e)::(30,.i (e.length:Int))::(kBy f))))))) (kB a.Low a.High (kC t [.cells (nq1 j),.cells (nq1 p)])) (ac (iv qa6 qd u) (ac (la qcO qd u) (ac (hs (.run [4] (qw ZT 108 (.ptr 4 0) (.agg (nq1 p))) (kB a.Low a.High (kC t (.cells (nq1 j)::(kD [])))) .undef (kB a.Low a.High (kC t [.cells (nq1 j),.cells (nq1 p)])) true) (kw (n:=4) (by kernel_rfl) rfl rfl rfl rfl (cac rfl (cac nvc (cac rfl (cac nvc can)))) rfl)) az))) ?_)
       obtain⟨v,y,g12⟩:=bnd g12
       obtain⟨q,z,g12⟩:=bnd g12
       refine gq fol [4,6] ((2,.func (.func 88) [] [])::(kV q c (c.length:Int) g e (e.length:Int) (kBy f))) (kB a.Low a.High (kN (.dead:: .cells (nq1 j):: .cells (nq1 p):: .cells (nq1 v)::(kAP q)))) (ac (cv (qgV N j p y)) (ac (hs (.run [2,5] (yB ZT [161,161] (.gslice 2 t.length 4) (.slice 5 0 1 1 4)) (kB a.Low a.High (kC t [.cells (nq1 j),.cells (nq1 p),.cells (nq1 v)])) (.gslice 6 q.length 4) (kB a.Low a.High (kN (.dead:: .cells (nq1 j):: .cells (nq1 p):: .cells (nq1 v)::(kAP q)))) true) (qaU qa6 (E:=qd) rfl (qeA (E:=qd) (ys:=[v]) rfl rfl rfl rfl) (qfp (E:=qd) (l:=t) rfl rfl rfl z rfl))) az)) ?_
       refine gh fol ((2,.func (.func 88) [] [])::(kV q c (c.length:Int) g e (e.length:Int) (kBy (w64 (f+1))))) ?_
       exact⟨M,(ofG 51 ((2,.func (.func 88) [] [])::(kE q c (c.length:Int) g e (e.length:Int) (kBy (w64 (f+1))))),(kB a.Low a.High (kC q [.cells (nq1 j)]))),Nat.lt_succ_self _,(Sub.norm [] [some 0,some 1,some 6,some 3] rfl rfl (.keep (.same (qB.func sn sn)) (.kp (.kp (.keep (.gslice rfl) (.kp (.keep (.same (qg qd _)) (.keep (.same nI) (.keep (.same nI) (.keep (.same (qg qd _)) (.keep (.same nI) (.keep (.same nI) .nil))))))))))) (.kb rfl (.same sn) (.kb rfl (.same sn) (.ks (.kb rfl (.same sn) .nil))))),_,_,rfl,g12⟩
      refine Goes.exit ?_
      obtain rfl:=si g12
      exact⟨rfl,_,rfl,(Sub.norm [] [some 0,some 1,some 2] rfl rfl (.keep (.same (qB.func sn sn)) (.kp (.kp (.keep (.gslice rfl) (.drop (.keep (.same (qg qd _)) (.keep (.same nI) (.keep (.same nI) .nil)))))))) (.kb rfl (.same sn) (.kb rfl (.same sn) (.ks .nil))))⟩
    rintro x s' ⟨rfl,o,rfl,hsub⟩
    refine Goes.sub hsub ?_
    refine gh fol ((2,.func (.func 88) [] [])::(kL o c (c.length:Int) (w64 (g+1)) [])) ?_
    exact⟨M,(ofG 51 ((2,.func (.func 88) [] [])::(kL o c (c.length:Int) (w64 (g+1)) [])),(kB a.Low a.High (kC o []))),Nat.lt_succ_self _,(Sub.refl _),_,_,rfl,g5⟩
   refine Goes.exit ?_
   obtain rfl:=si g5
   exact⟨rfl,_,rfl,(Sub.norm [] [some 1,some 2] rfl rfl (.drop (.drop (.kp (.keep (.gslice rfl) .nil)))) (.kb rfl (.same sn) (.ks .nil)))⟩
 rintro x s' ⟨rfl,r,rfl,hsub⟩
 refine Goes.sub hsub ?_
 obtain⟨H,A,h⟩:=bnd h
 obtain⟨I,B,h⟩:=bnd h
 obtain⟨d,C,h⟩:=bnd h
 refine sq (gq fol [1,3,4] (kAw d.2) (kB d.1.Low d.1.High (kAj r)) (ac (hs (.callF 176 [.gslice 1 r.length 4,.func (.func 83) [] []] (kC r []) [1] [vl qd r,.func (.func 83) [] []] (.agg (nq1 H))) (ji (FzL.cons (Fz.gs (E:=qd) rfl rfl (nl rfl)) (FzL.cons (Fz.func FzL.nil FzL.nil) FzL.nil)) (jR N r A) (Still.agg (AllST.cons tI (AllST.cons (qm (qa .u64) _ (nl rfl)) (AllST.cons tI (AllST.cons (qm (qa .u64) _ (nl rfl)) AllST.nil))))))) (ac (hs (.callF 177 [.gslice 1 r.length 4,.func (.func 83) [] []] (kN (kAj r)) [1] [vl qd r,.func (.func 83) [] []] (.agg (nq1 I))) (ji (FzL.cons (Fz.gsF (E:=qd) rfl rfl (nl rfl)) (FzL.cons (Fz.func FzL.nil FzL.nil) FzL.nil)) (jQ N r B) (Still.agg (AllST.cons tI (AllST.cons (qm (qa .u64) _ (nl rfl)) (AllST.cons tI (AllST.cons (qm (qa .u64) _ (nl rfl)) AllST.nil))))))) (ac (cv (qbj N H I C)) az))) ?_)
 refine Goes.sub (show Sub (ofG 51 (kAw d.2),(kB d.1.Low d.1.High (kAj r))) (ofG 51 (kAw d.2),(kB d.1.Low d.1.High []))from(Sub.norm [] [some 0] rfl rfl (.kp (.keep (.same nI) .nil)) (.kb rfl (.same sn) .nil))) ?_
 refine Goes.ret ?_
 obtain rfl:=si h
 exact(gw2 (kS d.1.Low d.1.High [.i d.2]) (FzW.tuple (qc.cons (FzW.agg (qc.cons (Ua tS) (qc.cons (Ua tS) qc.nil))) (qc.cons (Ua tI) qc.nil))))
def qav (N:Nat) (a:qo) (b:qo):Option (qo×Int):=
 (qD N a).bind fun f=>
 (qD N b).bind fun g=>
 (zR N ([f,g]:List Int)).bind fun e=>
 if(!decide (e=0))=true then
 some ((⟨[],[]⟩:qo),e)
 else
 ((yw N b.Low).bind fun h=>
 (qab h).bind fun i=>
 if i<=0 then
 (yw N b.High).bind fun j=>
 (qab j).bind fun k=>
 some (decide (k>=0))
 else
 some false:Option Bool).bind fun d=>
 if d=true then
 some ((⟨[],[]⟩:qo),6)
 else
 (yO N a b).bind fun c=>
 some (c.1,c.2)
theorem qiz (N:Nat) (a:qo) (b:qo) {res:qo×Int} (h:qav N a b=some res):qb ZT (.fn 41) (kS a.Low a.High (kS b.Low b.High [])) [] (.tuple (kS res.1.Low res.1.High [.i res.2])) []:=by
 unfold qav at h
 refine Ub Tryz.func41 rfl rfl (m:=35) rfl (rs:=[.cell 4 44,.tmp 5]) rfl (l:=(kAC a.Low a.High b.Low b.High [])) rfl ?_
 refine sg fol (kH []) (kB a.Low a.High (kB b.Low b.High (kN []))) ?_
 refine sq ?_
 obtain⟨j,o,h⟩:=bnd h
 obtain⟨k,p,h⟩:=bnd h
 obtain⟨n,q,h⟩:=bnd h
 refine sq (gq fol [1,3,5] (kH (kB4 n)) (kB a.Low a.High (kB b.Low b.High (kN (kAE j k)))) (ac (cv (zg N a o)) (ac (cv (zg N b p)) (ac (hs (.call 79 [.slice 3 0 2 2 1] (kB a.Low a.High (kB b.Low b.High (kN (kAE j k)))) [3] [vl encI ([j,k]:List Int)] (.i n)) (qbk (FzL.cons (Fz.lit rfl rfl (Ud (AllST.cons tI (AllST.cons tI AllST.nil)))) FzL.nil) (yG N ([j,k]:List Int) q) tI rfl)) az))) ?_)
 refine sh fol (kH ((6,.i n)::(kBh (!decide (n=0))))) ?_
 refine ihB h (fun x h=>?_) (fun x h=>?_)
 ·refine sh fol (kAU (kA5 n)) ?_
  refine Goes.ret ?_
  obtain rfl:=si h
  exact(gw2 (kBZ [.i n]) (FzW.tuple (qc.cons (FzW.agg (qc.cons (Ua tS) (qc.cons (Ua tS) qc.nil))) (qc.cons (Ua tI) qc.nil))))
 refine Goes.skip ?_
 refine sq ?_
 refine sq ?_
 obtain⟨t,c,h⟩:=bnd h
 refine Goes.cut (s':=(ofG 35 (kH [(28,.bool t)]),(kB a.Low a.High (kB b.Low b.High (kN (kAE j k)))))) ?_ ?_
 ·obtain⟨w,e,c⟩:=bnd c
  obtain⟨A,f,c⟩:=bnd c
  rcases wyD c with⟨u,c⟩|⟨u,c⟩
  ·obtain⟨y,r,c⟩:=bnd c
   obtain⟨z,s,c⟩:=bnd c
   obtain rfl:=si c
   exact tr fol [2,3,5,8,9] (kH [(28,.bool (decide (z>=0)))]) (ac (cv (qa7 N b.Low e)) (ac (cv (qbC w f)) (ac (gw u) (ac (cv (qa7 N b.High r)) (ac (cv (qbC y s)) az)))))
  obtain rfl:=si c
  exact tr fol [2,3,5] (kH [(28,.bool false)]) (ac (cv (qa7 N b.Low e)) (ac (cv (qbC w f)) (ac (gw u) az)))
 refine ihB h (fun v h=>?_) (fun v h=>?_)
 ·refine sh fol (kAU [(5,.i 6)]) ?_
  refine Goes.ret ?_
  obtain rfl:=si h
  exact(gw2 (kBZ [.i 6]) (FzW.tuple (qc.cons (FzW.agg (qc.cons (Ua tS) (qc.cons (Ua tS) qc.nil))) (qc.cons (Ua tI) qc.nil))))
 refine Goes.skip ?_
 obtain⟨d,g,h⟩:=bnd h
 refine sq (gq fol [2] (kAU (kA5 d.2)) (kB a.Low a.High (kB b.Low b.High (kB d.1.Low d.1.High (kAE j k)))) (ac (hs (.call 121 (kS a.Low a.High (kS b.Low b.High [.func (.func 88) [] []])) [] [] (kS a.Low a.High (kS b.Low b.High [.func (.func 88) [] []])) (.tuple (kS d.1.Low d.1.High [.i d.2]))) (qfI (FzL.cons (Uf (Still.agg (AllST.cons tS (AllST.cons tS AllST.nil)))) (FzL.cons (Uf (Still.agg (AllST.cons tS (AllST.cons tS AllST.nil)))) (FzL.cons (Fz.func FzL.nil FzL.nil) FzL.nil))) (qez N a b g) (Still.tuple (AllST.cons (Still.agg (AllST.cons tS (AllST.cons tS AllST.nil))) (AllST.cons tI AllST.nil))))) az) ?_)
 refine Goes.ret ?_
 obtain rfl:=si h
 exact(gw2 (kS d.1.Low d.1.High [.i d.2]) (FzW.tuple (qc.cons (FzW.agg (qc.cons (Ua tS) (qc.cons (Ua tS) qc.nil))) (qc.cons (Ua tI) qc.nil))))
def ze (N:Nat) (l:List Str):Nat->Int->Option (Unit⊕Int)
 |0,_=>none
 |K+1,a=>
  if a<(l.length:Int)then
  (idx l a).bind fun b=>
  (qbZ N b).bind fun c=>
  if(!decide (c=0))=true then
  some (.inr 4)
  else
  ze N l K (w64 (a+1))
  else
  some (.inl ())
def qa9 (N:Nat) (l:List Str):Option Int:=
 (ze N l N 0).bind (fun
 |(.inl ())=>
 some 0
 |(.inr a)=>
 some a)
theorem qfY (N:Nat) (l:List Str) {res:Int} (h:qa9 N l=some res):qb ZT (.fn 178) [vl encS l] [] (.i res) []:=by
 unfold qa9 at h
 refine Ub Tryz.func178 rfl rfl (m:=16) rfl (rs:=[.tmp 2]) rfl (l:=(kBp l [])) rfl ?_
 refine sh fol (kBp l []) ?_
 refine sq ?_
 refine sh fol (kBp l [(3,.i 0)]) ?_
 refine Goes.block ?_
 obtain⟨d,g2,h⟩:=bnd h
 refine Goes.imp (Q:=fun x s'=>(x= .exit 0/\(.inl ())=d/\Sub s' (ofG 16 [],[]))\/(x= .ret/\ ∃e,(.inr e)=d/\vH ZT [.tmp 2] (.i e) .ret s')) ?_ ?_
 ·refine Uc (fun M s=> ∃(a:Int),s=(ofG 16 (kA4 l a []),[])/\ze N l M a=some d) ?_ (m:=N) ⟨_,rfl,g2⟩
  rintro M s ⟨a,rfl,g2⟩
  cases M with
  |zero=>simp only[ze]at g2;cases g2
  |succ M=>
   rw[ze]at g2
   refine sq ?_
   refine sh fol (kA4 l a [(7,.bool (decide (a<(l.length:Int))))]) ?_
   refine ihD g2 (fun f g2=>?_) (fun f g2=>?_)
   ·refine Goes.skip ?_
    refine sq (Goes.block ?_)
    obtain⟨g,b,g2⟩:=bnd g2
    obtain⟨j,c,g2⟩:=bnd g2
    refine sq (gr fol [2,3,4] (kA4 l a (kBa (!decide (j=0)))) (ac (iv qjW encS b) (ac (lv 0 qj6 encS b rfl) (ac (cv (qix N g c)) az))) ?_)
    refine ihB g2 (fun k g2=>?_) (fun k g2=>?_)
    ·refine sh fol [(2,.i 4)] ?_
     refine Goes.ret ?_
     obtain rfl:=si g2
     exact Or.inr (⟨rfl,_,rfl,(gw2 [.i 4] (Ua tI))⟩)
    refine Goes.skip ?_
    refine gh fol (kA4 l (w64 (a+1)) []) ?_
    exact⟨M,(ofG 16 (kA4 l (w64 (a+1)) []),[]),Nat.lt_succ_self _,(Sub.refl _),_,rfl,g2⟩
   refine Goes.exit ?_
   obtain rfl:=si g2
   exact Or.inl (⟨rfl,rfl,(Sub.keep [] rfl rfl)⟩)
 rintro x s' (⟨rfl,rfl,hsub⟩|⟨rfl,n,rfl,hret⟩)
 ·try dsimp only at h
  refine Goes.sub hsub ?_
  refine sh fol kB3 ?_
  refine Goes.ret ?_
  obtain rfl:=si h
  exact(gw2 [.i 0] (Ua tI))
 try dsimp only at h
 obtain rfl:=si h
 exact hret
def xX (N:Nat) (a:qo):Option Int:=
 (qa9 N ([a.Low,a.High]:List Str)).bind fun b=>
 some b
theorem qfG (N:Nat) (a:qo) {res:Int} (h:xX N a=some res):qb ZT (.fn 122) [.agg (kAR a.Low a.High)] [] (.i res) []:=by
 unfold xX at h
 refine Ub Tryz.func122 rfl rfl (m:=9) rfl (rs:=[.tmp 2]) rfl (l:=[(0,.agg [.str a.Low,.str a.High])]) rfl ?_
 refine sg fol (kA2 []) (kB a.Low a.High []) ?_
 obtain⟨c,b,h⟩:=bnd h
 refine sq (gq fol [5] (kBM c) (kB a.Low a.High (kB a.Low a.High [])) (ac (hs (.call 178 [.slice 1 0 2 2 1] (kB a.Low a.High (kB a.Low a.High [])) [1] [vl encS ([a.Low,a.High]:List Str)] (.i c)) (qbk (FzL.cons (Fz.lit rfl rfl (Ud (AllST.cons tS (AllST.cons tS AllST.nil)))) FzL.nil) (qfY N ([a.Low,a.High]:List Str) b) tI rfl)) az) ?_)
 refine Goes.ret ?_
 obtain rfl:=si h
 exact(gw2 [.i c] (Ua tI))
def zl (N:Nat) (a:qo) (e:Int) (bad:Int) (want:qo):Option Bool:=
 ((if bad=0 then
 (xX N want).bind fun d=>
 some d
 else
 some bad:Option Int)).bind fun c=>
 if(!decide (c=0))=true then
 (if((a.Low==[])&&((a.High==[])&&true))=true then
 some (decide (e=c))
 else
 some false:Option Bool).bind fun f=>
 some f
 else
 (if e=0 then
 some ((a.Low==want.Low)&&((a.High==want.High)&&true))
 else
 some false:Option Bool).bind fun b=>
 some b
theorem qN (N:Nat) (c:qo) (e:Int) (bad:Int) (want:qo) {res:Bool} (h:zl N c e bad want=some res):qb ZT (.fn 42) (kS c.Low c.High (.i e:: .i bad::(kS want.Low want.High []))) [] (.bool res) []:=by
 unfold zl at h
 refine Ub Tryz.func42 rfl rfl (m:=30) rfl (rs:=[.tmp 8]) rfl (l:=[(0,.agg [.str c.Low,.str c.High]),(1,.i e),(2,.i bad),(3,.agg [.str want.Low,.str want.High])]) rfl ?_
 refine sg fol ((1,.i e)::(2,.i bad)::(kY [(7,.ptr 1 0)])) (kB c.Low c.High (kB want.Low want.High [])) ?_
 refine sq ?_
 refine sh fol ((1,.i e)::(2,.i bad)::(kY ((7,.ptr 1 0)::(kBV (decide (bad=0)))))) ?_
 obtain⟨q,g2,h⟩:=bnd h
 refine Goes.imp (Q:=fun x s'=>(x= .normal/\ ∃g,g=q/\Sub s' (ofG 30 ((1,.i e)::(2,.i g)::(kY [(7,.ptr 1 0)])),(kB c.Low c.High (kB want.Low want.High []))))) ?_ ?_
 ·refine ihD g2 (fun r g2=>?_) (fun r g2=>?_)
  ·obtain⟨s,j,g2⟩:=bnd g2
   refine gr fol [1] ((1,.i e)::(2,.i s)::(kY [(7,.ptr 1 0)])) (ac (cv (qfG N want j)) az) ?_
   obtain rfl:=si g2
   exact⟨rfl,_,rfl,(Sub.refl _)⟩
  refine Goes.skip ?_
  obtain rfl:=si g2
  exact⟨rfl,_,rfl,(Sub.keep [1,2,4,7] rfl rfl)⟩
 rintro x s' ⟨rfl,g,rfl,hsub⟩
 refine Goes.sub hsub ?_
 refine sq ?_
 refine sh fol ((1,.i e)::(2,.i g)::(kY ((7,.ptr 1 0)::(kBh (!decide (g=0)))))) ?_
 refine ihB h (fun t h=>?_) (fun t h=>?_)
 ·refine sq ?_
  obtain⟨p,f,h⟩:=bnd h
  refine Goes.cut (s':=(ofG 30 (kAz p),(kB c.Low c.High (kB want.Low want.High [])))) ?_ ?_
  ·rcases wyB f with⟨n,f⟩|⟨n,f⟩
   ·obtain rfl:=si f
    exact tr fol [2,3] (kAz (decide (e=g))) (ac (hs (.done (.opt (zf ZT .eql 44 (.tmp 15) (.tmp 16) (.agg (kAR c.Low c.High)) (.agg [.str [],.str []]))) (.bool ((c.Low==[])&&((c.High==[])&&true)))) (qpc qph (e:=((c.Low==[])&&((c.High==[])&&true))) (.cons (a:= .str c.Low) (b:= .str []) rfl (by kernel_rfl) (by kernel_rfl) (by kernel_rfl) (.cons (a:= .str c.High) (b:= .str []) rfl (by kernel_rfl) (by kernel_rfl) (by kernel_rfl) .nil)))) (ac (gw n) az))
   obtain rfl:=si f
   exact tr fol [2,3] kBI (ac (hs (.done (.opt (zf ZT .eql 44 (.tmp 15) (.tmp 16) (.agg (kAR c.Low c.High)) (.agg [.str [],.str []]))) (.bool ((c.Low==[])&&((c.High==[])&&true)))) (qpc qph (e:=((c.Low==[])&&((c.High==[])&&true))) (.cons (a:= .str c.Low) (b:= .str []) rfl (by kernel_rfl) (by kernel_rfl) (by kernel_rfl) (.cons (a:= .str c.High) (b:= .str []) rfl (by kernel_rfl) (by kernel_rfl) (by kernel_rfl) .nil)))) (ac (gw n) az))
  refine Goes.ret ?_
  obtain rfl:=si h
  exact(gw2 [.bool p] (Ua tB))
 refine Goes.skip ?_
 refine sq ?_
 obtain⟨k,d,h⟩:=bnd h
 refine Goes.cut (s':=(ofG 30 (kAz k),(kB c.Low c.High (kB want.Low want.High [])))) ?_ ?_
 ·rcases wyD d with⟨o,d⟩|⟨o,d⟩
  ·obtain rfl:=si d
   exact tr fol [2,5] (kAz ((c.Low==want.Low)&&((c.High==want.High)&&true))) (ac (gw o) (ac (hs (.done (.opt (zf ZT .eql 44 (.tmp 26) (.tmp 27) (.agg (kAR c.Low c.High)) (.agg (kAR want.Low want.High)))) (.bool ((c.Low==want.Low)&&((c.High==want.High)&&true)))) (qpc qph (e:=((c.Low==want.Low)&&((c.High==want.High)&&true))) (.cons (a:= .str c.Low) (b:= .str want.Low) rfl (by kernel_rfl) (by kernel_rfl) (by kernel_rfl) (.cons (a:= .str c.High) (b:= .str want.High) rfl (by kernel_rfl) (by kernel_rfl) (by kernel_rfl) .nil)))) az))
  obtain rfl:=si d
  exact tr fol [2] kBI (ac (gw o) az)
 refine Goes.ret ?_
 obtain rfl:=si h
 exact(gw2 [.bool k] (Ua tB))
def qcH (N:Nat) (a:qo) (b:qo):Option qo:=
 (qbB N a.Low b.Low).bind fun c=>
 (qbB N a.High b.High).bind fun d=>
 some (⟨c,d⟩:qo)
theorem qdc (N:Nat) (a:qo) (b:qo) {res:qo} (h:qcH N a b=some res):qb ZT (.fn 43) (kS a.Low a.High (kS b.Low b.High [])) [] (.agg (kAR res.Low res.High)) []:=by
 unfold qcH at h
 refine Ub Tryz.func43 rfl rfl (m:=16) rfl (rs:=[.cell 4 44]) rfl (l:=(kAC a.Low a.High b.Low b.High [])) rfl ?_
 refine sg fol (kH []) (kB a.Low a.High (kB b.Low b.High (kN []))) ?_
 obtain⟨e,c,h⟩:=bnd h
 obtain⟨f,d,h⟩:=bnd h
 refine sq (gq fol [4,9] (kAU []) (kB a.Low a.High (kB b.Low b.High (kB e f []))) (ac (cv (qd5 N a.Low b.Low c)) (ac (cv (qd5 N a.High b.High d)) az)) ?_)
 refine Goes.ret ?_
 obtain rfl:=si h
 exact(gw2 [.agg (kAR e f)] (FzW.agg (qc.cons (Ua tS) (qc.cons (Ua tS) qc.nil))))
def qbV (N:Nat) (a:qo) (b:qo):Option qo:=
 (qbE N a.Low b.High).bind fun c=>
 (qbE N a.High b.Low).bind fun d=>
 some (⟨c,d⟩:qo)
theorem qeR (N:Nat) (a:qo) (b:qo) {res:qo} (h:qbV N a b=some res):qb ZT (.fn 44) (kS a.Low a.High (kS b.Low b.High [])) [] (.agg (kAR res.Low res.High)) []:=by
 unfold qbV at h
 refine Ub Tryz.func44 rfl rfl (m:=16) rfl (rs:=[.cell 4 44]) rfl (l:=(kAC a.Low a.High b.Low b.High [])) rfl ?_
 refine sg fol (kH []) (kB a.Low a.High (kB b.Low b.High (kN []))) ?_
 obtain⟨e,c,h⟩:=bnd h
 obtain⟨f,d,h⟩:=bnd h
 refine sq (gq fol [4,9] (kAU []) (kB a.Low a.High (kB b.Low b.High (kB e f []))) (ac (cv (qd4 N a.Low b.High c)) (ac (cv (qd4 N a.High b.Low d)) az)) ?_)
 refine Goes.ret ?_
 obtain rfl:=si h
 exact(gw2 [.agg (kAR e f)] (FzW.agg (qc.cons (Ua tS) (qc.cons (Ua tS) qc.nil))))
def qdp (N:Nat) (a:Str) (b:Str):Option Str:=
 (qaG N a b).bind fun c=>
 if c<=0 then
 some a
 else
 some b
theorem qjn (N:Nat) (a:Str) (b:Str) {res:Str} (h:qdp N a b=some res):qb ZT (.fn 179) (kAR a b) [] (.str res) []:=by
 unfold qdp at h
 refine Ub Tryz.func179 rfl rfl (m:=11) rfl (rs:=[.tmp 4]) rfl (l:=(kJ a b [])) rfl ?_
 refine sh fol (kJ a b []) ?_
 refine sq ?_
 obtain⟨d,c,h⟩:=bnd h
 refine sq (gr fol [2] (kJ a b (kAz (decide (d<=0)))) (ac (cv (qaL N a b c)) az) ?_)
 refine ihD h (fun e h=>?_) (fun e h=>?_)
 ·refine sh fol (kBb a) ?_
  refine Goes.ret ?_
  obtain rfl:=si h
  exact(gw2 [.str a] (Ua tS))
 refine Goes.skip ?_
 refine sh fol (kBb b) ?_
 refine Goes.ret ?_
 obtain rfl:=si h
 exact(gw2 [.str b] (Ua tS))
end Go.Av
