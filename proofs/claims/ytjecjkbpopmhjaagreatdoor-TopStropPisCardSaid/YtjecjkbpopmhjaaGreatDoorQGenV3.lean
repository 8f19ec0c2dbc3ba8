/-
  Walks of functions: what each computes, as a plain function.
-/
import Derived.Test.YtjecjkbpopmhjaaGreatDoorQGenV2
noncomputable section
namespace Go.Av
open Go.Proofs Go.RowKit
set_option linter.unusedSectionVars false
set_option linter.unusedVariables false
set_option linter.unusedSimpArgs false
set_option maxRecDepth 100000
def vN (N:Nat) (a:qj) (b:qj):Option qj:=
 (kw b).bind fun f=>
 ((if f<0 then
 (zQ a).bind fun d=>
 (zQ b).bind fun e=>
 some (d.s,d.w,e.s,e.w)
 else
 some (a.s,a.w,b.s,b.w):Option (Int×(List Int)×Int×(List Int)))).bind fun(g,h,i,j)=>
 (jv N (⟨g,h⟩:qj) (⟨i,j⟩:qj)).bind fun c=>
 some c.1
theorem qd7 (N:Nat) (a:qj) (b:qj) {res:qj} (h:vN N a b=some res):qb ZT (.fn 106) [.agg (nz1 a),.agg (nz1 b)] [] (.agg (nz1 res)) []:=by
 unfold vN at h
 refine Ub Tryz.func106 rfl rfl (m:=21) rfl (rs:=[.cell 4 55]) rfl (l:=[(0,.agg (nz1 a)),(1,.agg (nz1 b))]) rfl ?_
 refine sg fol (kG []) [.cells (nz1 a),.cells (nz1 b),bZ] ?_
 refine sq ?_
 obtain⟨r,j,h⟩:=bnd h
 refine sq (gr fol [1] (kG [(9,.bool (decide (r<0)))]) (ac (cv (yw b j)) az) ?_)
 obtain⟨s,g6,h⟩:=bnd h
 refine Goes.imp (Q:=fun x s'=>(x= .normal/\ ∃d e f g,(d,e,f,g)=s/\Sub s' (ofG 21 (kG []),[.cells (ni1 d e),.cells (ni1 f g),bZ]))) ?_ ?_
 ·refine ihD g6 (fun t g6=>?_) (fun t g6=>?_)
  ·obtain⟨k,o,g6⟩:=bnd g6
   obtain⟨q,p,g6⟩:=bnd g6
   refine gq fol [1,3,4,5] (kG []) [.cells (nz1 k),.cells (nz1 q),bZ] (ac (cv (yf a o)) (ac (cv (yf b p)) (ac (hs (.run [0] (qp ZT 55 (.ptr 0 0) (.agg (nz1 k))) [.cells (nz1 a),.cells (nz1 b),bZ] .undef [.cells (nz1 k),.cells (nz1 b),bZ] true) (ku (n:=2) (by kernel_rfl) rfl rfl rfl rfl (cac rfl (cac nvc can)) rfl)) (ac (hs (.run [1] (qp ZT 55 (.ptr 1 0) (.agg (nz1 q))) [.cells (nz1 k),.cells (nz1 b),bZ] .undef [.cells (nz1 k),.cells (nz1 q),bZ] true) (ku (n:=2) (by kernel_rfl) rfl rfl rfl rfl (cac rfl (cac nvc can)) rfl)) az)))) ?_
   obtain rfl:=si g6
   exact⟨rfl,_,_,_,_,rfl,(Sub.refl _)⟩
  refine Goes.skip ?_
  obtain rfl:=si g6
  exact⟨rfl,_,_,_,_,rfl,(Sub.keep [2,3,4] rfl rfl)⟩
 rintro x s' ⟨rfl,d,e,f,g,rfl,hsub⟩
 try dsimp only at h
 refine Goes.sub hsub ?_
 obtain⟨c,i,h⟩:=bnd h
 refine sq (gq fol [2,8,9] (kAM (kBH [])) [.cells (ni1 d e),.cells (ni1 f g),bZ,.cells (nz1 c.1),.cells (nz1 c.2)] (ac (cv (qch N (⟨d,e⟩:qj) (⟨f,g⟩:qj) i)) (ac (hs (.run [3] (qp ZT 55 (.ptr 3 0) (.agg (nz1 c.1))) [.cells (ni1 d e),.cells (ni1 f g),bZ,bZ,bZ] .undef [.cells (ni1 d e),.cells (ni1 f g),bZ,.cells (nz1 c.1),bZ] true) (ku (n:=2) (by kernel_rfl) rfl rfl rfl rfl (cac rfl (cac nvc can)) rfl)) (ac (hs (.run [4] (qp ZT 55 (.ptr 4 0) (.agg (nz1 c.2))) [.cells (ni1 d e),.cells (ni1 f g),bZ,.cells (nz1 c.1),bZ] .undef [.cells (ni1 d e),.cells (ni1 f g),bZ,.cells (nz1 c.1),.cells (nz1 c.2)] true) (ku (n:=2) (by kernel_rfl) rfl rfl rfl rfl (cac rfl (cac nvc can)) rfl)) az))) ?_)
 refine sq (gq fol [1] (kAM []) [.cells (ni1 d e),.cells (ni1 f g),.cells (nz1 c.1),.cells (nz1 c.1),.cells (nz1 c.2)] (ac (hs (.run [2] (qp ZT 55 (.ptr 2 0) (.agg (nz1 c.1))) [.cells (ni1 d e),.cells (ni1 f g),bZ,.cells (nz1 c.1),.cells (nz1 c.2)] .undef [.cells (ni1 d e),.cells (ni1 f g),.cells (nz1 c.1),.cells (nz1 c.1),.cells (nz1 c.2)] true) (ku (n:=2) (by kernel_rfl) rfl rfl rfl rfl (cac rfl (cac nvc can)) rfl)) az) ?_)
 refine Goes.ret ?_
 obtain rfl:=si h
 exact(gw2 [.agg (nz1 c.1)] (FzW.agg (qc.cons (Ua tI) (qc.cons (Ua (qz (qa .u64) _ (nl rfl))) qc.nil))))
def qbB (N:Nat) (num:qj) (den:qj):Option ql:=
 (kw den).bind fun k=>
 ((if k<0 then
 (zQ num).bind fun i=>
 (zQ den).bind fun j=>
 some (i.s,i.w,j.s,j.w)
 else
 some (num.s,num.w,den.s,den.w):Option (Int×(List Int)×Int×(List Int)))).bind fun(d,e,b,c)=>
 (if c.isEmpty=true then
 some (decide (b=1))
 else
 some false:Option Bool).bind fun f=>
 if f=true then
 some (⟨(⟨d,e⟩:qj),(⟨b,c⟩:qj)⟩:ql)
 else
 (qcs N (⟨d,e⟩:qj) (⟨b,c⟩:qj)).bind fun a=>
 (vN N (⟨d,e⟩:qj) a).bind fun g=>
 (vN N (⟨b,c⟩:qj) a).bind fun h=>
 some (⟨g,h⟩:ql)
theorem qck (N:Nat) (num:qj) (den:qj) {res:ql} (h:qbB N num den=some res):qb ZT (.fn 62) [.agg (nz1 num),.agg (nz1 den)] [] (.agg (nq1 res)) []:=by
 unfold qbB at h
 refine Ub Tryz.func62 rfl rfl (m:=34) rfl (rs:=[.cell 4 57]) rfl (l:=[(0,.agg (nz1 num)),(1,.agg (nz1 den))]) rfl ?_
 refine sg fol (kG []) (.cells (nz1 num):: .cells (nz1 den)::(kE [])) ?_
 refine sq ?_
 obtain⟨A,q,h⟩:=bnd h
 refine sq (gr fol [1] (kG (kBX (decide (A<0)))) (ac (cv (yw den q)) az) ?_)
 obtain⟨B,g6,h⟩:=bnd h
 refine Goes.imp (Q:=fun x s'=>(x= .normal/\ ∃d e c a,(d,e,c,a)=B/\Sub s' (ofG 34 (kG []),(.cells (ni1 d e):: .cells (ni1 c a)::(kE []))))) ?_ ?_
 ·refine ihD g6 (fun C g6=>?_) (fun C g6=>?_)
  ·obtain⟨r,t,g6⟩:=bnd g6
   obtain⟨v,u,g6⟩:=bnd g6
   refine gq fol [1,3,4,5] (kG []) (.cells (nz1 r):: .cells (nz1 v)::(kE [])) (ac (cv (yf num t)) (ac (cv (yf den u)) (ac (hs (.run [0] (qp ZT 55 (.ptr 0 0) (.agg (nz1 r))) (.cells (nz1 num):: .cells (nz1 den)::(kE [])) .undef (.cells (nz1 r):: .cells (nz1 den)::(kE [])) true) (ku (n:=2) (by kernel_rfl) rfl rfl rfl rfl (cac rfl (cac nvc can)) rfl)) (ac (hs (.run [1] (qp ZT 55 (.ptr 1 0) (.agg (nz1 v))) (.cells (nz1 r):: .cells (nz1 den)::(kE [])) .undef (.cells (nz1 r):: .cells (nz1 v)::(kE [])) true) (ku (n:=2) (by kernel_rfl) rfl rfl rfl rfl (cac rfl (cac nvc can)) rfl)) az)))) ?_
   obtain rfl:=si g6
   exact⟨rfl,_,_,_,_,rfl,(Sub.refl _)⟩
  refine Goes.skip ?_
  obtain rfl:=si g6
  exact⟨rfl,_,_,_,_,rfl,(Sub.keep [2,3,4] rfl rfl)⟩
 rintro x s' ⟨rfl,d,e,c,a,rfl,hsub⟩
 try dsimp only at h
 refine Goes.sub hsub ?_
 refine sq ?_
 refine sq ?_
 obtain⟨y,b,h⟩:=bnd h
 refine Goes.cut (s':=(ofG 34 (kG [(20,.bool y)]),(.cells (ni1 d e):: .cells (ni1 c a)::(kE [])))) ?_ ?_
 ·rcases wyB b with⟨j,b⟩|⟨j,b⟩
  ·obtain rfl:=si b
   exact tr fol [2,3] (kG [(20,.bool (decide (c=1)))]) (ac (hs (.done (.opt (ko ZT .eql 53 (.tmp 14) (.const (.slice none 0 0)) (nvl (qa .u64) a) .nilslice)) (.bool a.isEmpty)) (qaB qaw)) (ac (gw j) az))
  obtain rfl:=si b
  exact tr fol [2,3] (kG [(20,.bool false)]) (ac (hs (.done (.opt (ko ZT .eql 53 (.tmp 14) (.const (.slice none 0 0)) (nvl (qa .u64) a) .nilslice)) (.bool a.isEmpty)) (qaB qaw)) (ac (gw j) az))
 refine ihB h (fun z h=>?_) (fun z h=>?_)
 ·refine sq (gq fol [3] (kAM []) [.cells (ni1 d e),.cells (ni1 c a),.cells (ni2 d e c a)] (ac (hs (.run [2] (qp ZT 57 (.ptr 2 0) (.agg (ni2 d e c a))) (.cells (ni1 d e):: .cells (ni1 c a)::(kE [])) .undef [.cells (ni1 d e),.cells (ni1 c a),.cells (ni2 d e c a)] true) (ku (n:=4) (by kernel_rfl) rfl rfl rfl rfl (cac rfl (cac nvc (cac rfl (cac nvc can)))) rfl)) az) ?_)
  refine Goes.ret ?_
  obtain rfl:=si h
  exact(gw2 [.agg (ni2 d e c a)] (FzW.agg (qc.cons (Ua tI) (qc.cons (Ua (qz (qa .u64) _ (nl rfl))) (qc.cons (Ua tI) (qc.cons (Ua (qz (qa .u64) _ (nl rfl))) qc.nil))))))
 refine Goes.skip ?_
 obtain⟨f,k,h⟩:=bnd h
 refine sq (gq fol [2,4] (kG (kBH [])) (.cells (ni1 d e):: .cells (ni1 c a)::(kE [.cells (nz1 f)])) (ac (cv (qgJ N (⟨d,e⟩:qj) (⟨c,a⟩:qj) k)) (ac (hs (.run [3] (qp ZT 55 (.ptr 3 0) (.agg (nz1 f))) (.cells (ni1 d e):: .cells (ni1 c a)::(kE [bZ])) .undef (.cells (ni1 d e):: .cells (ni1 c a)::(kE [.cells (nz1 f)])) true) (ku (n:=2) (by kernel_rfl) rfl rfl rfl rfl (cac rfl (cac nvc can)) rfl)) az)) ?_)
 obtain⟨g,o,h⟩:=bnd h
 obtain⟨i,p,h⟩:=bnd h
 refine sq (gq fol [2,5,7] (kAM []) [.cells (ni1 d e),.cells (ni1 c a),.cells (ni2 g.s g.w i.s i.w),.cells (nz1 f)] (ac (cv (qd7 N (⟨d,e⟩:qj) f o)) (ac (cv (qd7 N (⟨c,a⟩:qj) f p)) (ac (hs (.run [2] (qp ZT 57 (.ptr 2 0) (.agg (ni2 g.s g.w i.s i.w))) (.cells (ni1 d e):: .cells (ni1 c a)::(kE [.cells (nz1 f)])) .undef [.cells (ni1 d e),.cells (ni1 c a),.cells (ni2 g.s g.w i.s i.w),.cells (nz1 f)] true) (ku (n:=4) (by kernel_rfl) rfl rfl rfl rfl (cac rfl (cac nvc (cac rfl (cac nvc can)))) rfl)) az))) ?_)
 refine Goes.ret ?_
 obtain rfl:=si h
 exact(gw2 [.agg (ni2 g.s g.w i.s i.w)] (FzW.agg (qc.cons (Ua tI) (qc.cons (Ua (qz (qa .u64) _ (nl rfl))) (qc.cons (Ua tI) (qc.cons (Ua (qz (qa .u64) _ (nl rfl))) qc.nil))))))
def yC (N:Nat) (a:ql) (b:ql):Option ql:=
 (kr N a.Num b.Num).bind fun c=>
 (kr N a.Den b.Den).bind fun d=>
 (qbB N c d).bind fun e=>
 some e
theorem qdA (N:Nat) (a:ql) (b:ql) {res:ql} (h:yC N a b=some res):qb ZT (.fn 66) [.agg (nq1 a),.agg (nq1 b)] [] (.agg (nq1 res)) []:=by
 unfold yC at h
 refine Ub Tryz.func66 rfl rfl (m:=16) rfl (rs:=[.cell 4 57]) rfl (l:=[(0,.agg (nq1 a)),(1,.agg (nq1 b))]) rfl ?_
 refine sg fol (kG []) (.cells (nq1 a):: .cells (nq1 b)::(kE [])) ?_
 obtain⟨g,c,h⟩:=bnd h
 obtain⟨i,d,h⟩:=bnd h
 obtain⟨f,e,h⟩:=bnd h
 refine sq (gq fol [4,9,10,11] (kAM []) [.cells (nq1 a),.cells (nq1 b),.cells (nq1 f)] (ac (cv (vW N a.Num b.Num c)) (ac (cv (vW N a.Den b.Den d)) (ac (cv (qck N g i e)) (ac (hs (.run [2] (qp ZT 57 (.ptr 2 0) (.agg (nq1 f))) (.cells (nq1 a):: .cells (nq1 b)::(kE [])) .undef [.cells (nq1 a),.cells (nq1 b),.cells (nq1 f)] true) (ku (n:=4) (by kernel_rfl) rfl rfl rfl rfl (cac rfl (cac nvc (cac rfl (cac nvc can)))) rfl)) az)))) ?_)
 refine Goes.ret ?_
 obtain rfl:=si h
 exact(gw2 [.agg (nq1 f)] (FzW.agg (qc.cons (Ua tI) (qc.cons (Ua (qz (qa .u64) _ (nl rfl))) (qc.cons (Ua tI) (qc.cons (Ua (qz (qa .u64) _ (nl rfl))) qc.nil))))))
def yT (a:ql):Option Bool:=
 (if a.Den.w.isEmpty=true then
 some (decide (a.Den.s=1))
 else
 some false:Option Bool).bind fun b=>
 some b
theorem qeA (a:ql) {res:Bool} (h:yT a=some res):qb ZT (.fn 123) [.agg (nq1 a)] [] (.bool res) []:=by
 unfold yT at h
 refine Ub Tryz.func123 rfl rfl (m:=13) rfl (rs:=[.tmp 2]) rfl (l:=[(0,.agg (nq1 a))]) rfl ?_
 refine sg fol (kAY []) [.cells (nq1 a)] ?_
 refine sq ?_
 obtain⟨d,b,h⟩:=bnd h
 refine Goes.cut (s':=(ofG 13 [(2,.bool d)],[.cells (nq1 a)])) ?_ ?_
 ·rcases wyB b with⟨c,b⟩|⟨c,b⟩
  ·obtain rfl:=si b
   exact tr fol [3,4] [(2,.bool (decide (a.Den.s=1)))] (ac (hs (.done (.opt (ko ZT .eql 53 (.tmp 5) (.const (.slice none 0 0)) (nvl (qa .u64) a.Den.w) .nilslice)) (.bool a.Den.w.isEmpty)) (qaB qaw)) (ac (gw c) az))
  obtain rfl:=si b
  exact tr fol [3,4] [(2,.bool false)] (ac (hs (.done (.opt (ko ZT .eql 53 (.tmp 5) (.const (.slice none 0 0)) (nvl (qa .u64) a.Den.w) .nilslice)) (.bool a.Den.w.isEmpty)) (qaB qaw)) (ac (gw c) az))
 refine Goes.ret ?_
 obtain rfl:=si h
 exact(gw2 [.bool d] (Ua tB))
def ja (N:Nat) (a:ql) (b:ql):Option Int:=
 (kr N a.Num b.Den).bind fun c=>
 (kr N b.Num a.Den).bind fun d=>
 (qaN N c d).bind fun e=>
 some e
theorem xB (N:Nat) (a:ql) (b:ql) {res:Int} (h:ja N a b=some res):qb ZT (.fn 38) [.agg (nq1 a),.agg (nq1 b)] [] (.i res) []:=by
 unfold ja at h
 refine Ub Tryz.func38 rfl rfl (m:=16) rfl (rs:=[.tmp 4]) rfl (l:=[(0,.agg (nq1 a)),(1,.agg (nq1 b))]) rfl ?_
 refine sg fol (kU (kAj [])) [.cells (nq1 a),.cells (nq1 b)] ?_
 obtain⟨g,c,h⟩:=bnd h
 obtain⟨j,d,h⟩:=bnd h
 obtain⟨f,e,h⟩:=bnd h
 refine sq (gr fol [4,9,10] [(4,.i f)] (ac (cv (vW N a.Num b.Den c)) (ac (cv (vW N b.Num a.Den d)) (ac (cv (qec N g j e)) az))) ?_)
 refine Goes.ret ?_
 obtain rfl:=si h
 exact(gw2 [.i f] (Ua tI))
def jl (N:Nat):Nat->(List Str)->(List Int)->Option (List Str)
 |0,_,_=>none
 |K+1,i,j=>
  if(j.length:Int)>0 then
  (qaJ N j ([1000000000000000000]:List Int)).bind fun b=>
  ((if(b.2.length:Int)>0 then
  (idx b.2 0).bind fun c=>
  (qh2 c 10).bind fun d=>
  some d
  else
  some [48]:Option Str)).bind fun a=>
  ((if(b.1.length:Int)>0 then
  (qbL [48] (w64 (18-(a.length:Int)))).bind fun e=>
  (cat e a).bind fun f=>
  some f
  else
  some a:Option Str)).bind fun g=>
  (app 16 i [g]).bind fun h=>
  jl N K h b.1
  else
  some i
def zt (e:List Str):Nat->Bool->(Option (List Int))->Int->Option (Bool×(Option (List Int)))
 |0,_,_,_=>none
 |K+1,ok27,b,a=>
  if a>=0 then
  (idx e a).bind fun c=>
  (bWr ok27 b c).bind fun d=>
  zt e K true (some d) (w64 (a-1))
  else
  some (ok27,b)
def vw (N:Nat) (a:qj):Option Str:=
 if a.w.isEmpty=true then
 (qlr a.s).bind fun h=>
 some h
 else
 (qK a).bind fun f=>
 (jl N N ([]:List Str) f.2).bind fun g=>
 ((if f.1=true then
 (bWr false (none:Option (List Int)) [45]).bind fun b=>
 some (true,(some b))
 else
 some (false,(none:Option (List Int))):Option (Bool×(Option (List Int))))).bind fun(ok21,c)=>
 (zt g N ok21 c (w64 ((g.length:Int)-1))).bind fun(ok30,d)=>
 (qmq ok30 d).bind fun e=>
 some e
theorem xO (N:Nat) (a:qj) {res:Str} (h:vw N a=some res):qb ZT (.fn 128) [.agg (nz1 a)] [] (.str res) []:=by
 unfold vw at h
 refine Ub Tryz.func128 rfl rfl (m:=69) rfl (rs:=[.tmp 2]) rfl (l:=[(0,.agg (nz1 a))]) rfl ?_
 refine sg fol (kAY []) [.cells (nz1 a)] ?_
 refine sq ?_
 refine sq (gr fol [2] (kAY [(14,.bool a.w.isEmpty)]) (ac (hs (.done (.opt (ko ZT .eql 53 (.tmp 13) (.const (.slice none 0 0)) (nvl (qa .u64) a.w) .nilslice)) (.bool a.w.isEmpty)) (qaB qaw)) az) ?_)
 refine ihB h (fun c1 h=>?_) (fun c1 h=>?_)
 ·obtain⟨r2,J,h⟩:=bnd h
  refine sq (gr fol [2] (kBS r2) (ac (cv (qoi a.s J)) az) ?_)
  refine Goes.ret ?_
  obtain rfl:=si h
  exact(gw2 [.str r2] (Ua tS))
 refine Goes.skip ?_
 obtain⟨d,K,h⟩:=bnd h
 refine sq (gr fol [1] (kBP d.1 [(4,vl (qa .u64) d.2)]) (ac (cv (zM a K)) az) ?_)
 refine sg fol (kBP d.1 [(4,vl (qa .u64) d.2),(5,.slice 1 0 1 1 1)]) [.cells (nz1 a),.cells [.int .u64 1000000000000000000]] ?_
 refine sh fol (kBP d.1 [(4,vl (qa .u64) d.2),(5,.slice 1 0 1 1 1),(6,.nilslice)]) ?_
 refine sq (Goes.block ?_)
 obtain⟨r7,g7,h⟩:=bnd h
 refine Goes.imp (Q:=fun x s'=>(x= .exit 0/\ ∃b,b=r7/\Sub s' (ofG 69 (kBP d.1 (kAI b [])),(kAK b [])))) ?_ ?_
 ·refine Goes.sub (s':=(ofG 69 (kBP d.1 [(4,vl (qa .u64) d.2),(5,vl (qa .u64) ([1000000000000000000]:List Int)),(6,.gslice 0 ([]:List Str).length 1)]),[.cells (([]:List Str).flatMap encS.c)])) (Sub.norm [1] [none] rfl rfl (.keep (.same nB) (.keep (.same (qd (qa .u64) _)) (.keep (.frz (Fz.lit rfl rfl (Ue (AllST.cons tI AllST.nil))) (qd (qa .u64) _)) (.keep .nil .nil)))) (.fresh .nil)) ?_
  refine Uc (fun M s=> ∃(g:List Str) (I:List Int),s=(ofG 69 (kBP d.1 ((4,vl (qa .u64) I)::(5,vl (qa .u64) ([1000000000000000000]:List Int))::(kAI g []))),(kAK g []))/\jl N M g I=some r7) ?_ (m:=N) ⟨_,_,rfl,g7⟩
  rintro M s ⟨g,I,rfl,g7⟩
  cases M with
  |zero=>simp only[jl]at g7;cases g7
  |succ M=>
   rw[jl]at g7
   refine sq ?_
   refine sh fol (kBP d.1 ((4,vl (qa .u64) I)::(5,vl (qa .u64) ([1000000000000000000]:List Int))::(kAI g [(26,.bool (decide ((I.length:Int)>0)))]))) ?_
   refine ihD g7 (fun c8 g7=>?_) (fun c8 g7=>?_)
   ·refine Goes.skip ?_
    refine Goes.block ?_
    obtain⟨j,L,g7⟩:=bnd g7
    refine sq (gr fol [2] (kBP d.1 ((5,vl (qa .u64) ([1000000000000000000]:List Int))::(kAI g [(7,vl (qa .u64) j.1),(8,vl (qa .u64) j.2)]))) (ac (cv (qeI N I ([1000000000000000000]:List Int) L)) az) ?_)
    refine sh fol (kBP d.1 ((5,vl (qa .u64) ([1000000000000000000]:List Int))::(kAI g [(7,vl (qa .u64) j.1),(8,vl (qa .u64) j.2),(9,.str [48])]))) ?_
    refine sq ?_
    refine sh fol (kBP d.1 ((5,vl (qa .u64) ([1000000000000000000]:List Int))::(kAI g [(7,vl (qa .u64) j.1),(8,vl (qa .u64) j.2),(9,.str [48]),(35,.bool (decide ((j.2.length:Int)>0)))]))) ?_
    obtain⟨U,g11,g7⟩:=bnd g7
    refine Goes.imp (Q:=fun x s'=>(x= .normal/\ ∃p,p=U/\Sub s' (ofG 69 (kBP d.1 ((5,vl (qa .u64) ([1000000000000000000]:List Int))::(kAI g [(7,vl (qa .u64) j.1),(9,.str p)]))),(kAK g [])))) ?_ ?_
    ·refine ihD g11 (fun V g11=>?_) (fun V g11=>?_)
     ·obtain⟨X,r,g11⟩:=bnd g11
      obtain⟨Y,z,g11⟩:=bnd g11
      refine gr fol [1,2,3] (kBP d.1 ((5,vl (qa .u64) ([1000000000000000000]:List Int))::(kAI g [(7,vl (qa .u64) j.1),(9,.str Y)]))) (ac (iv zN (qa .u64) r) (ac (lv 0 zW (qa .u64) r rfl) (ac (cv (qnj X 10 z)) az))) ?_
      obtain rfl:=si g11
      exact⟨rfl,_,rfl,(Sub.refl _)⟩
     refine Goes.skip ?_
     obtain rfl:=si g11
     exact⟨rfl,_,rfl,(Sub.keep [3,5,6,7,9] rfl rfl)⟩
    rintro x s' ⟨rfl,p,rfl,hsub⟩
    refine Goes.sub hsub ?_
    refine sq ?_
    refine sh fol (kBP d.1 ((5,vl (qa .u64) ([1000000000000000000]:List Int))::(kAI g [(7,vl (qa .u64) j.1),(9,.str p),(42,.bool (decide ((j.1.length:Int)>0)))]))) ?_
    obtain⟨Z,g16,g7⟩:=bnd g7
    refine Goes.imp (Q:=fun x s'=>(x= .normal/\ ∃k,k=Z/\Sub s' (ofG 69 (kBP d.1 ((5,vl (qa .u64) ([1000000000000000000]:List Int))::(kAI g [(7,vl (qa .u64) j.1),(9,.str k)]))),(kAK g [])))) ?_ ?_
    ·refine ihD g16 (fun a0 g16=>?_) (fun a0 g16=>?_)
     ·obtain⟨a1,A,g16⟩:=bnd g16
      obtain⟨O,B,g16⟩:=bnd g16
      refine gr fol [3,5] (kBP d.1 ((5,vl (qa .u64) ([1000000000000000000]:List Int))::(kAI g [(7,vl (qa .u64) j.1),(9,.str O)]))) (ac (cv (qhC [48] (w64 (18-(p.length:Int))) A)) (ac (hs (.done (.opt (ko ZT .add 9 (.tmp 46) (.tmp 47) (.str a1) (.str p))) (.str O)) (qap B)) az)) ?_
      obtain rfl:=si g16
      exact⟨rfl,_,rfl,(Sub.refl _)⟩
     refine Goes.skip ?_
     obtain rfl:=si g16
     exact⟨rfl,_,rfl,(Sub.keep [3,5,6,7,9] rfl rfl)⟩
    rintro x s' ⟨rfl,k,rfl,hsub⟩
    refine Goes.sub hsub ?_
    obtain⟨n,C,g7⟩:=bnd g7
    refine sq (gq fol [3] (kBP d.1 [(5,vl (qa .u64) ([1000000000000000000]:List Int)),(6,.gslice 2 n.length 1),(7,vl (qa .u64) j.1)]) (.dead:: .cells [.str k]::(kAK n [])) (ac (hs (.run [0,1] (yQ ZT [175,175] (.gslice 0 g.length 1) (.slice 1 0 1 1 1)) (kAK g [.cells [.str k]]) (.gslice 2 n.length 1) (.dead:: .cells [.str k]::(kAK n [])) true) (qbs qpM (E:=encS) rfl (qfb (E:=encS) (ys:=[k]) rfl rfl rfl rfl) (qf8 (E:=encS) (l:=g) rfl rfl rfl C rfl))) az) ?_)
    refine gh fol (kBP d.1 [(4,vl (qa .u64) j.1),(5,vl (qa .u64) ([1000000000000000000]:List Int)),(6,.gslice 2 n.length 1)]) ?_
    exact⟨M,(ofG 69 (kBP d.1 ((4,vl (qa .u64) j.1)::(5,vl (qa .u64) ([1000000000000000000]:List Int))::(kAI n []))),(kAK n [])),Nat.lt_succ_self _,(Sub.norm [] [some 2] rfl rfl (.keep (.same nB) (.keep (.same (qd (qa .u64) _)) (.keep (.same (qd (qa .u64) _)) (.keep (.gslice rfl) .nil)))) (.ks .nil)),_,_,rfl,g7⟩
   refine Goes.exit ?_
   obtain rfl:=si g7
   exact⟨rfl,_,rfl,(Sub.keep [3,6] rfl rfl)⟩
 rintro x s' ⟨rfl,b,rfl,hsub⟩
 refine Goes.sub hsub ?_
 refine sg fol (kBP d.1 (kAI b (kBT []))) (kAK b [.bld 126 5 [.nilptr,.nilslice]]) ?_
 refine sq ?_
 refine sh fol (kAI b (kBT [(54,.bool d.1)])) ?_
 obtain⟨a2,g23,h⟩:=bnd h
 refine Goes.imp (Q:=fun x s'=>(x= .normal/\ ∃ok21 u,(ok21,u)=a2/\Sub s' (ofG 69 (kAI b (kBT [])),(kAK b [.bld 126 5 [pz ok21 1 0,hsl 2 1 u],.cells ((hof u).flatMap (qa .u8).c)])))) ?_ ?_
 ·refine ihB g23 (fun a3 g23=>?_) (fun a3 g23=>?_)
  ·refine Goes.sub (s':=(ofG 69 (kAI b (kBT [(54,.bool d.1)])),(kAK b [.bld 126 5 [pz false 1 0,.nilslice]]))) (Sub.norm [] [some 0,some 1] rfl rfl (.keep (.gslice rfl) (.kp (.keep (.same nB) .nil))) (.ks (.kb rfl (.bld (rc (jh.pz0) (rc (.same (qC.nilslice)) rn))) .nil))) ?_
   refine Goes.sub (s':=(ofG 69 (kAI b (kBT [(54,.bool d.1)])),(kAK b [.bld 126 5 [pz false 1 0,hsl 2 1 (none:Option (List Int))],.cells ((hof (none:Option (List Int))).flatMap (qa .u8).c)]))) (Sub.norm [] [some 0,some 1,none] rfl rfl (.keep (.gslice rfl) (.kp (.keep (.same nB) .nil))) (.ks (.kb rfl (.bld (rc (jh.pz0) (rc .hs0 rn))) (.fresh .nil)))) ?_
   obtain⟨v,D,g23⟩:=bnd g23
   refine gq fol [0] (kAI b (kBT [])) (kAK b [.bld 126 5 [pz true 1 0,hsl 3 1 (some v)],.dead,.cells ((hof (some v)).flatMap (qa .u8).c)]) (ac (hs (.callH 102 [.ptr 1 0,.str [45]] (kAK b [.bld 126 5 [pz false 1 0,hsl 2 1 (none:Option (List Int))],.cells ((hof (none:Option (List Int))).flatMap (qa .u8).c)]) [1,2] (.tuple [.i (([45].length:Nat):Int),.niliface]) (kAK b [.bld 126 5 [pz true 1 0,hsl 3 1 (some v)],.dead,.cells ((hof (some v)).flatMap (qa .u8).c)])) (qfV [some 1,some 2] [none,some 0,none,some 2] (qoz false (none:Option (List Int)) [45] D) (.kb rfl (.bld (rc (jh.pz0) (rc .hs0 rn))) (.ks .nil)) rfl rfl (.old rfl rfl (.back rfl rfl (.bld (rc ((jh.pz rfl)) (rc (.hs rfl) rn))) rfl (.dead (.new rfl rfl (.same fa) rfl .nil)))) (rc (.ptr rfl) (rc (.same nS) rn)) (.same (qC.tuple sn)) rfl)) az) ?_
   obtain rfl:=si g23
   exact⟨rfl,_,_,rfl,(Sub.norm [] [some 0,some 1,some 3] rfl rfl (.keep (.gslice rfl) (.kp .nil)) (.ks (.kb rfl (.bld (rc ((jh.pz rfl)) (rc (.hs rfl) rn))) (.ks .nil))))⟩
  refine Goes.skip ?_
  obtain rfl:=si g23
  exact⟨rfl,_,_,rfl,(Sub.norm [] [some 0,some 1,none] rfl rfl (.keep (.gslice rfl) (.kp .nil)) (.ks (.kb rfl (.bld (rc (jh.pz0) (rc .hs0 rn))) (.fresh .nil))))⟩
 rintro x s' ⟨rfl,ok21,u,rfl,hsub⟩
 try dsimp only at h
 refine Goes.sub hsub ?_
 refine sq ?_
 refine sh fol (kAI b (kBT [(11,.i (w64 ((b.length:Int)-1)))])) ?_
 refine Goes.block ?_
 obtain⟨P,g32,h⟩:=bnd h
 refine Goes.imp (Q:=fun x s'=>(x= .exit 2/\ ∃ok30 o,(ok30,o)=P/\Sub s' (ofG 69 [(10,.ptr 0 0)],[.bld 126 5 [pz ok30 0 0,hsl 1 1 o],.cells ((hof o).flatMap (qa .u8).c)]))) ?_ ?_
 ·refine Uc (fun M s=> ∃(ok27:Bool) (e:Option (List Int)) (f:Int),s=(ofG 69 (kAI b (kBT [(11,.i f)])),(kAK b [.bld 126 5 [pz ok27 1 0,hsl 2 1 e],.cells ((hof e).flatMap (qa .u8).c)]))/\zt b M ok27 e f=some P) ?_ (m:=N) ⟨_,_,_,rfl,g32⟩
  rintro M s ⟨ok27,e,f,rfl,g32⟩
  cases M with
  |zero=>simp only[zt]at g32;cases g32
  |succ M=>
   rw[zt]at g32
   refine sq ?_
   refine sh fol (kAI b (kBT [(11,.i f),(60,.bool (decide (f>=0)))])) ?_
   refine ihD g32 (fun a4 g32=>?_) (fun a4 g32=>?_)
   ·refine Goes.skip ?_
    refine sq (Goes.block ?_)
    obtain⟨y,t,g32⟩:=bnd g32
    obtain⟨q,F,g32⟩:=bnd g32
    refine gq fol [2,3,4] (kAI b (kBT [(11,.i f)])) (kAK b [.bld 126 5 [pz true 1 0,hsl 3 1 (some q)],.dead,.cells ((hof (some q)).flatMap (qa .u8).c)]) (ac (hs (.done (.opt (qg ZT 175 (.gslice 0 b.length 1) (.i f))) (.ptr 0 ((f:Int).toNat*1+0))) (ix_gs qpM t)) (ac (hs (.run [0] (ji ZT 9 (.ptr 0 ((f:Int).toNat*1+0))) (kAK b [.bld 126 5 [pz ok27 1 0,hsl 2 1 e],.cells ((hof e).flatMap (qa .u8).c)]) (.str y) (kAK b [.bld 126 5 [pz ok27 1 0,hsl 2 1 e],.cells ((hof e).flatMap (qa .u8).c)]) false) (qce ce9 (E:=encS) (l:=b) rfl rfl t (nl rfl) rfl)) (ac (hs (.callH 102 [.ptr 1 0,.str y] (kAK b [.bld 126 5 [pz ok27 1 0,hsl 2 1 e],.cells ((hof e).flatMap (qa .u8).c)]) [1,2] (.tuple [.i ((y.length:Nat):Int),.niliface]) (kAK b [.bld 126 5 [pz true 1 0,hsl 3 1 (some q)],.dead,.cells ((hof (some q)).flatMap (qa .u8).c)])) (qfV [some 1,some 2] [none,some 0,none,some 2] (qoz ok27 e y F) (.kb rfl (.bld (rc ((jh.pz rfl)) (rc (.hs rfl) rn))) (.ks .nil)) rfl rfl (.old rfl rfl (.back rfl rfl (.bld (rc ((jh.pz rfl)) (rc (.hs rfl) rn))) rfl (.dead (.new rfl rfl (.same fa) rfl .nil)))) (rc (.ptr rfl) (rc (.same nS) rn)) (.same (qC.tuple sn)) rfl)) az))) ?_
    refine gh fol (kAI b (kBT [(11,.i (w64 (f-1)))])) ?_
    exact⟨M,(ofG 69 (kAI b (kBT [(11,.i (w64 (f-1)))])),(kAK b [.bld 126 5 [pz true 1 0,hsl 2 1 (some q)],.cells ((hof (some q)).flatMap (qa .u8).c)])),Nat.lt_succ_self _,(Sub.norm [] [some 0,some 1,some 3] rfl rfl (.keep (.gslice rfl) (.kp (.keep (.same nI) .nil))) (.ks (.kb rfl (.bld (rc ((jh.pz rfl)) (rc (.hs rfl) rn))) (.ks .nil)))),_,_,_,rfl,g32⟩
   refine Goes.exit ?_
   obtain rfl:=si g32
   exact⟨rfl,_,_,rfl,(Sub.norm [] [some 1,some 2] rfl rfl (.drop (.kp .nil)) (.kb rfl (.bld (rc ((jh.pz rfl)) (rc (.hs rfl) rn))) (.ks .nil)))⟩
 rintro x s' ⟨rfl,ok30,o,rfl,hsub⟩
 try dsimp only at h
 refine Goes.sub hsub ?_
 obtain⟨G,H,h⟩:=bnd h
 refine sq (gq fol [0] (kBS G) [.dead,.dead] (ac (hs (.callH 104 [.ptr 0 0] [.bld 126 5 [pz ok30 0 0,hsl 1 1 o],.cells ((hof o).flatMap (qa .u8).c)] [0,1] (.str G) [.dead,.dead]) (qfV [some 0,some 1] [none,none] (qpw ok30 o H) (.kb rfl (.bld (rc ((jh.pz rfl)) (rc (.hs rfl) rn))) (.ks .nil)) rfl rfl (.dead (.dead .nil)) (rc (.ptr rfl) rn) (.same nS) rfl)) az) ?_)
 refine Goes.ret ?_
 obtain rfl:=si h
 exact(gw2 [.str G] (Ua tS))
def qa9 (a:qj):Option Int:=
 (qK a).bind fun b=>
 if(b.2.length:Int)=0 then
 some 0
 else
 (idx b.2 (w64 ((b.2.length:Int)-1))).bind fun c=>
 (bits_Len64 c).bind fun d=>
 some (w64 ((w64 (64*(w64 ((b.2.length:Int)-1))))+d))
theorem qdx (a:qj) {res:Int} (h:qa9 a=some res):qb ZT (.fn 153) [.agg (nz1 a)] [] (.i res) []:=by
 unfold qa9 at h
 refine Ub Tryz.func153 rfl rfl (m:=25) rfl (rs:=[.tmp 2]) rfl (l:=[(0,.agg (nz1 a))]) rfl ?_
 refine sg fol (kAY []) [.cells (nz1 a)] ?_
 obtain⟨c,d,h⟩:=bnd h
 refine sq (gr fol [1] [(4,vl (qa .u64) c.2)] (ac (cv (zM a d)) az) ?_)
 refine sq ?_
 refine sh fol ((4,vl (qa .u64) c.2)::(kBM (decide ((c.2.length:Int)=0)))) ?_
 refine ihD h (fun g h=>?_) (fun g h=>?_)
 ·refine sh fol [(2,.i 0)] ?_
  refine Goes.ret ?_
  obtain rfl:=si h
  exact(gw2 [.i 0] (Ua tI))
 refine Goes.skip ?_
 obtain⟨j,b,h⟩:=bnd h
 obtain⟨f,e,h⟩:=bnd h
 refine sq (gr fol [8,9,10] (kBB (w64 ((w64 (64*(w64 ((c.2.length:Int)-1))))+f))) (ac (iv zN (qa .u64) b) (ac (lv 0 zW (qa .u64) b rfl) (ac (cv (qeD j e)) az))) ?_)
 refine Goes.ret ?_
 obtain rfl:=si h
 exact(gw2 [.i (w64 ((w64 (64*(w64 ((c.2.length:Int)-1))))+f))] (Ua tI))
def qcF (N:Nat) (n:qj):Option Bool:=
 ((qa9 n).bind fun a=>
 if a>1800 then
 (vw N n).bind fun b=>
 (strings_TrimPrefix b [45]).bind fun c=>
 some (decide ((c.length:Int)>600))
 else
 some false:Option Bool).bind fun d=>
 some d
theorem qdZ (N:Nat) (n:qj) {res:Bool} (h:qcF N n=some res):qb ZT (.fn 127) [.agg (nz1 n)] [] (.bool res) []:=by
 unfold qcF at h
 refine Ub Tryz.func127 rfl rfl (m:=13) rfl (rs:=[.tmp 2]) rfl (l:=[(0,.agg (nz1 n))]) rfl ?_
 refine sg fol (kAY []) [.cells (nz1 n)] ?_
 refine sq ?_
 obtain⟨f,a,h⟩:=bnd h
 refine Goes.cut (s':=(ofG 13 [(2,.bool f)],[.cells (nz1 n)])) ?_ ?_
 ·obtain⟨j,b,a⟩:=bnd a
  rcases wyD a with⟨e,a⟩|⟨e,a⟩
  ·obtain⟨g,c,a⟩:=bnd a
   obtain⟨i,d,a⟩:=bnd a
   obtain rfl:=si a
   exact tr fol [1,3,5,6] [(2,.bool (decide ((i.length:Int)>600)))] (ac (cv (qdx n b)) (ac (gw e) (ac (cv (xO N n c)) (ac (cv (qbe g [45] d)) az))))
  obtain rfl:=si a
  exact tr fol [1,3] [(2,.bool false)] (ac (cv (qdx n b)) (ac (gw e) az))
 refine Goes.ret ?_
 obtain rfl:=si h
 exact(gw2 [.bool f] (Ua tB))
def yX (N:Nat) (a:ql):Option Bool:=
 ((qcF N a.Num).bind fun b=>
 if b=true then
 some true
 else
 (qcF N a.Den).bind fun c=>
 some c:Option Bool).bind fun d=>
 some d
theorem qaT (N:Nat) (a:ql) {res:Bool} (h:yX N a=some res):qb ZT (.fn 82) [.agg (nq1 a)] [] (.bool res) []:=by
 unfold yX at h
 refine Ub Tryz.func82 rfl rfl (m:=11) rfl (rs:=[.tmp 2]) rfl (l:=[(0,.agg (nq1 a))]) rfl ?_
 refine sg fol (kAY []) [.cells (nq1 a)] ?_
 refine sq ?_
 obtain⟨f,b,h⟩:=bnd h
 refine Goes.cut (s':=(ofG 11 [(2,.bool f)],[.cells (nq1 a)])) ?_ ?_
 ·obtain⟨i,c,b⟩:=bnd b
  rcases wyB b with⟨e,b⟩|⟨e,b⟩
  ·obtain rfl:=si b
   exact tr fol [2,3] [(2,.bool true)] (ac (cv (qdZ N a.Num c)) (ac (gw e) az))
  obtain⟨g,d,b⟩:=bnd b
  obtain rfl:=si b
  exact tr fol [2,3,6] [(2,.bool g)] (ac (cv (qdZ N a.Num c)) (ac (gw e) (ac (cv (qdZ N a.Den d)) az)))
 refine Goes.ret ?_
 obtain rfl:=si h
 exact(gw2 [.bool f] (Ua tB))
def xK (N:Nat) (a:ql):Option Str:=
 (yT a).bind fun b=>
 if b=true then
 (vw N a.Num).bind fun c=>
 some c
 else
 (vw N a.Num).bind fun d=>
 (cat d [47]).bind fun e=>
 (vw N a.Den).bind fun f=>
 (cat e f).bind fun g=>
 some g
theorem qcX (N:Nat) (a:ql) {res:Str} (h:xK N a=some res):qb ZT (.fn 83) [.agg (nq1 a)] [] (.str res) []:=by
 unfold xK at h
 refine Ub Tryz.func83 rfl rfl (m:=16) rfl (rs:=[.tmp 2]) rfl (l:=[(0,.agg (nq1 a))]) rfl ?_
 refine sg fol (kAY []) [.cells (nq1 a)] ?_
 refine sq ?_
 obtain⟨n,b,h⟩:=bnd h
 refine sq (gr fol [1] (kAY (kA6 n)) (ac (cv (qeA a b)) az) ?_)
 refine ihB h (fun o h=>?_) (fun o h=>?_)
 ·obtain⟨j,c,h⟩:=bnd h
  refine sq (gr fol [2] (kBS j) (ac (cv (xO N a.Num c)) az) ?_)
  refine Goes.ret ?_
  obtain rfl:=si h
  exact(gw2 [.str j] (Ua tS))
 refine Goes.skip ?_
 obtain⟨p,d,h⟩:=bnd h
 obtain⟨k,e,h⟩:=bnd h
 obtain⟨q,f,h⟩:=bnd h
 obtain⟨i,g,h⟩:=bnd h
 refine sq (gr fol [2,3,6,7] (kBS i) (ac (cv (xO N a.Num d)) (ac (hs (.done (.opt (ko ZT .add 9 (.tmp 10) (.const (.string ⟨#[47]⟩)) (.str p) (.str [47]))) (.str k)) (qap e)) (ac (cv (xO N a.Den f)) (ac (hs (.done (.opt (ko ZT .add 9 (.tmp 11) (.tmp 14) (.str k) (.str q))) (.str i)) (qap g)) az)))) ?_)
 refine Goes.ret ?_
 obtain rfl:=si h
 exact(gw2 [.str i] (Ua tS))
def qaQ (N:Nat) (a:ql):Option ql:=
 (qbB N a.Den a.Num).bind fun b=>
 some b
theorem qgd (N:Nat) (a:ql) {res:ql} (h:qaQ N a=some res):qb ZT (.fn 42) [.agg (nq1 a)] [] (.agg (nq1 res)) []:=by
 unfold qaQ at h
 refine Ub Tryz.func42 rfl rfl (m:=8) rfl (rs:=[.cell 2 57]) rfl (l:=[(0,.agg (nq1 a))]) rfl ?_
 refine sg fol (kAY kAo) (.cells (nq1 a)::(kE [])) ?_
 obtain⟨c,b,h⟩:=bnd h
 refine sq (gq fol [4,5] kAo [.cells (nq1 a),.cells (nq1 c)] (ac (cv (qck N a.Den a.Num b)) (ac (hs (.run [1] (qp ZT 57 (.ptr 1 0) (.agg (nq1 c))) (.cells (nq1 a)::(kE [])) .undef [.cells (nq1 a),.cells (nq1 c)] true) (ku (n:=4) (by kernel_rfl) rfl rfl rfl rfl (cac rfl (cac nvc (cac rfl (cac nvc can)))) rfl)) az)) ?_)
 refine Goes.ret ?_
 obtain rfl:=si h
 exact(gw2 [.agg (nq1 c)] (FzW.agg (qc.cons (Ua tI) (qc.cons (Ua (qz (qa .u64) _ (nl rfl))) (qc.cons (Ua tI) (qc.cons (Ua (qz (qa .u64) _ (nl rfl))) qc.nil))))))
def xw (N:Nat) (a:ql) (b:ql):Option ql:=
 (qaQ N b).bind fun c=>
 (yC N a c).bind fun d=>
 some d
theorem qgj (N:Nat) (a:ql) (b:ql) {res:ql} (h:xw N a b=some res):qb ZT (.fn 40) [.agg (nq1 a),.agg (nq1 b)] [] (.agg (nq1 res)) []:=by
 unfold xw at h
 refine Ub Tryz.func40 rfl rfl (m:=9) rfl (rs:=[.cell 4 57]) rfl (l:=[(0,.agg (nq1 a)),(1,.agg (nq1 b))]) rfl ?_
 refine sg fol (kG []) (.cells (nq1 a):: .cells (nq1 b)::(kE [])) ?_
 obtain⟨f,c,h⟩:=bnd h
 obtain⟨e,d,h⟩:=bnd h
 refine sq (gq fol [2,3,4] (kAM []) [.cells (nq1 a),.cells (nq1 b),.cells (nq1 e)] (ac (cv (qgd N b c)) (ac (cv (qdA N a f d)) (ac (hs (.run [2] (qp ZT 57 (.ptr 2 0) (.agg (nq1 e))) (.cells (nq1 a):: .cells (nq1 b)::(kE [])) .undef [.cells (nq1 a),.cells (nq1 b),.cells (nq1 e)] true) (ku (n:=4) (by kernel_rfl) rfl rfl rfl rfl (cac rfl (cac nvc (cac rfl (cac nvc can)))) rfl)) az))) ?_)
 refine Goes.ret ?_
 obtain rfl:=si h
 exact(gw2 [.agg (nq1 e)] (FzW.agg (qc.cons (Ua tI) (qc.cons (Ua (qz (qa .u64) _ (nl rfl))) (qc.cons (Ua tI) (qc.cons (Ua (qz (qa .u64) _ (nl rfl))) qc.nil))))))
def xL (a:ql):Option Int:=
 (kw a.Num).bind fun b=>
 some b
theorem qbl (a:ql) {res:Int} (h:xL a=some res):qb ZT (.fn 68) [.agg (nq1 a)] [] (.i res) []:=by
 unfold xL at h
 refine Ub Tryz.func68 rfl rfl (m:=6) rfl (rs:=[.tmp 2]) rfl (l:=[(0,.agg (nq1 a))]) rfl ?_
 refine sg fol (kAY []) [.cells (nq1 a)] ?_
 obtain⟨c,b,h⟩:=bnd h
 refine sq (gr fol [2] (kBB c) (ac (cv (yw a.Num b)) az) ?_)
 refine Goes.ret ?_
 obtain rfl:=si h
 exact(gw2 [.i c] (Ua tI))
def qbT (a:Str):Option Str:=
 (yg a).bind fun b=>
 if b<0 then
 (cut a 1 (a.length:Int)).bind fun c=>
 some c
 else
 (yg a).bind fun d=>
 if d=0 then
 some a
 else
 (cat [45] a).bind fun e=>
 some e
theorem qi6 (a:Str) {res:Str} (h:qbT a=some res):qb ZT (.fn 8) [.str a] [] (.str res) []:=by
 unfold qbT at h
 refine Ub Tryz.func8 rfl rfl (m:=14) rfl (rs:=[.tmp 2]) rfl (l:=(kAQ a [])) rfl ?_
 refine sh fol (kAQ a []) ?_
 refine sq ?_
 obtain⟨j,b,h⟩:=bnd h
 refine sq (gr fol [1] (kAQ a [(5,.bool (decide (j<0)))]) (ac (cv (zV a b)) az) ?_)
 refine ihD h (fun k h=>?_) (fun k h=>?_)
 ·obtain⟨f,c,h⟩:=bnd h
  refine sq (gr fol [1] (kBS f) (ac (hs (.done (.opt (qV ZT 22 (.str a) (some (.i 1)) none none)) (.str f)) (zT qlg (some 1) none c)) az) ?_)
  refine Goes.ret ?_
  obtain rfl:=si h
  exact(gw2 [.str f] (Ua tS))
 refine Goes.skip ?_
 refine sq ?_
 obtain⟨n,d,h⟩:=bnd h
 refine sq (gr fol [1] (kAQ a [(10,.bool (decide (n=0)))]) (ac (cv (zV a d)) az) ?_)
 refine ihD h (fun o h=>?_) (fun o h=>?_)
 ·refine sh fol (kBS a) ?_
  refine Goes.ret ?_
  obtain rfl:=si h
  exact(gw2 [.str a] (Ua tS))
 refine Goes.skip ?_
 obtain⟨g,e,h⟩:=bnd h
 refine sq (gr fol [1] (kBS g) (ac (hs (.done (.opt (ko ZT .add 22 (.const (.string ⟨#[45]⟩)) (.tmp 12) (.str [45]) (.str a))) (.str g)) (qap e)) az) ?_)
 refine Goes.ret ?_
 obtain rfl:=si h
 exact(gw2 [.str g] (Ua tS))
def qN (least:Int):Nat->Int->Str->Option Str
 |0,_,_=>none
 |K+1,a,b=>
  (if a>0 then
  some true
  else
  some (decide ((b.length:Int)<least)):Option Bool).bind fun d=>
  if d=true then
  (cut [48,49,50,51,52,53,54,55,56,57] (a.tmod 10) (w64 ((a.tmod 10)+1))).bind fun e=>
  (cat e b).bind fun c=>
  qN least K (w64 (a.tdiv 10)) c
  else
  some b
def zI (N:Nat) (n:Int) (least:Int):Option Str:=
 (qN least N n []).bind fun a=>
 some a
theorem qaq (N:Nat) (n:Int) (least:Int) {res:Str} (h:zI N n least=some res):qb ZT (.fn 58) [.i n,.i least] [] (.str res) []:=by
 unfold zI at h
 refine Ub Tryz.func58 rfl rfl (m:=25) rfl (rs:=[.tmp 4]) rfl (l:=(kAU n least [])) rfl ?_
 refine sh fol (kAU n least []) ?_
 refine sh fol (kAU n least [(5,.str [])]) ?_
 refine sq (Goes.block ?_)
 obtain⟨k,g4,h⟩:=bnd h
 refine Goes.imp (Q:=fun x s'=>(x= .exit 0/\ ∃f,f=k/\Sub s' (ofG 25 [(5,.str f)],[]))) ?_ ?_
 ·refine Uc (fun M s=> ∃(b:Int) (d:Str),s=(ofG 25 (kAU b least [(5,.str d)]),[])/\qN least M b d=some k) ?_ (m:=N) ⟨_,_,rfl,g4⟩
  rintro M s ⟨b,d,rfl,g4⟩
  cases M with
  |zero=>simp only[qN]at g4;cases g4
  |succ M=>
   rw[qN]at g4
   refine sq ?_
   refine sq ?_
   obtain⟨p,a,g4⟩:=bnd g4
   refine Goes.cut (s':=(ofG 25 (kAU b least ((5,.str d)::(kBU p))),[])) ?_ ?_
   ·rcases wyD a with⟨j,a⟩|⟨j,a⟩
    ·obtain rfl:=si a
     exact tr fol [2] (kAU b least [(5,.str d),(13,.bool true)]) (ac (gw j) az)
    obtain rfl:=si a
    exact tr fol [2] (kAU b least ((5,.str d)::(kBU (decide ((d.length:Int)<least))))) (ac (gw j) az)
   refine ihB g4 (fun q g4=>?_) (fun q g4=>?_)
   ·refine Goes.skip ?_
    refine Goes.block ?_
    obtain⟨o,g,g4⟩:=bnd g4
    obtain⟨c,e,g4⟩:=bnd g4
    refine sq (gr fol [5,7] (kAU b least [(5,.str c)]) (ac (hs (.done (.opt (qV ZT 9 (.str [48,49,50,51,52,53,54,55,56,57]) (some (.i (b.tmod 10))) (some (.i (w64 ((b.tmod 10)+1)))) none)) (.str o)) (zT st9 (some (b.tmod 10)) (some (w64 ((b.tmod 10)+1))) g)) (ac (hs (.done (.opt (ko ZT .add 9 (.tmp 19) (.tmp 20) (.str o) (.str d))) (.str c)) (qap e)) az)) ?_)
    refine gh fol (kAU (w64 (b.tdiv 10)) least [(5,.str c)]) ?_
    exact⟨M,(ofG 25 (kAU (w64 (b.tdiv 10)) least [(5,.str c)]),[]),Nat.lt_succ_self _,(Sub.refl _),_,_,rfl,g4⟩
   refine Goes.exit ?_
   obtain rfl:=si g4
   exact⟨rfl,_,rfl,(Sub.keep [5] rfl rfl)⟩
 rintro x s' ⟨rfl,f,rfl,hsub⟩
 refine Goes.sub hsub ?_
 refine sh fol [(4,.str f)] ?_
 refine Goes.ret ?_
 obtain rfl:=si h
 exact(gw2 [.str f] (Ua tS))
def vQ (N:Nat) (a:qI):Nat->Str->Int->Option Str
 |0,_,_=>none
 |K+1,e,b=>
  if b>=0 then
  (idx a.w b).bind fun f=>
  (zI N f 9).bind fun c=>
  (cat e c).bind fun d=>
  vQ N a K d (w64 (b-1))
  else
  some e
def qbh (N:Nat) (a:qI):Option Str:=
 if(a.w.length:Int)=0 then
 some [48]
 else
 (idx a.w (w64 ((a.w.length:Int)-1))).bind fun d=>
 (zI N d 1).bind fun e=>
 (vQ N a N e (w64 ((a.w.length:Int)-2))).bind fun c=>
 if a.neg=true then
 (cat [45] c).bind fun b=>
 some b
 else
 some c
theorem qeF (N:Nat) (a:qI) {res:Str} (h:qbh N a=some res):qb ZT (.fn 50) [.agg (kAg a.neg a.w)] [] (.str res) []:=by
 unfold qbh at h
 refine Ub Tryz.func50 rfl rfl (m:=39) rfl (rs:=[.tmp 2]) rfl (l:=[(0,.agg [.bool a.neg,vl encI a.w])]) rfl ?_
 refine sg fol (kAY []) (kAV a.neg a.w []) ?_
 refine sq ?_
 refine sh fol (kAY (kBX (decide ((a.w.length:Int)=0)))) ?_
 refine ihD h (fun u h=>?_) (fun u h=>?_)
 ·refine sh fol [(2,.str [48])] ?_
  refine Goes.ret ?_
  obtain rfl:=si h
  exact(gw2 [.str [48]] (Ua tS))
 refine Goes.skip ?_
 obtain⟨v,c,h⟩:=bnd h
 obtain⟨r,n,h⟩:=bnd h
 refine sq (gr fol [6,7,8] (kAY [(3,.str r)]) (ac (iv jW encI c) (ac (lv 0 ce3 encI c rfl) (ac (cv (qaq N v 1 n)) az))) ?_)
 refine sq ?_
 refine sh fol (kAY (kAq r (w64 ((a.w.length:Int)-2)) [])) ?_
 refine Goes.block ?_
 obtain⟨t,g7,h⟩:=bnd h
 refine Goes.imp (Q:=fun x s'=>(x= .exit 0/\ ∃f,f=t/\Sub s' (ofG 39 (kAY [(3,.str f)]),(kAV a.neg a.w [])))) ?_ ?_
 ·refine Uc (fun M s=> ∃(o:Str) (d:Int),s=(ofG 39 (kAY (kAq o d [])),(kAV a.neg a.w []))/\vQ N a M o d=some t) ?_ (m:=N) ⟨_,_,rfl,g7⟩
  rintro M s ⟨o,d,rfl,g7⟩
  cases M with
  |zero=>simp only[vQ]at g7;cases g7
  |succ M=>
   rw[vQ]at g7
   refine sq ?_
   refine sh fol (kAY (kAq o d [(23,.bool (decide (d>=0)))])) ?_
   refine ihD g7 (fun y g7=>?_) (fun y g7=>?_)
   ·refine Goes.skip ?_
    refine sq (Goes.block ?_)
    obtain⟨z,e,g7⟩:=bnd g7
    obtain⟨p,g,g7⟩:=bnd g7
    obtain⟨b,i,g7⟩:=bnd g7
    refine gr fol [4,5,6,7] (kAY (kAq b d [])) (ac (iv jW encI e) (ac (lv 0 ce3 encI e rfl) (ac (cv (qaq N z 9 g)) (ac (hs (.done (.opt (ko ZT .add 9 (.tmp 26) (.tmp 32) (.str o) (.str p))) (.str b)) (qap i)) az)))) ?_
    refine gh fol (kAY (kAq b (w64 (d-1)) [])) ?_
    exact⟨M,(ofG 39 (kAY (kAq b (w64 (d-1)) [])),(kAV a.neg a.w [])),Nat.lt_succ_self _,(Sub.refl _),_,_,rfl,g7⟩
   refine Goes.exit ?_
   obtain rfl:=si g7
   exact⟨rfl,_,rfl,(Sub.keep [1,3] rfl rfl)⟩
 rintro x s' ⟨rfl,f,rfl,hsub⟩
 refine Goes.sub hsub ?_
 refine sq ?_
 refine sh fol [(3,.str f),(35,.bool a.neg)] ?_
 refine ihB h (fun q h=>?_) (fun q h=>?_)
 ·obtain⟨j,k,h⟩:=bnd h
  refine sq (gr fol [1] (kBS j) (ac (hs (.done (.opt (ko ZT .add 9 (.const (.string ⟨#[45]⟩)) (.tmp 36) (.str [45]) (.str f))) (.str j)) (qap k)) az) ?_)
  refine Goes.ret ?_
  obtain rfl:=si h
  exact(gw2 [.str j] (Ua tS))
 refine Goes.skip ?_
 refine sh fol (kBS f) ?_
 refine Goes.ret ?_
 obtain rfl:=si h
 exact(gw2 [.str f] (Ua tS))
end Go.Av
