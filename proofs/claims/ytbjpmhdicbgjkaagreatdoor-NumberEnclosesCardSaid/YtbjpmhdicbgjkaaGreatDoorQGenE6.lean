/-
  Walks of functions: what each computes, as a plain function.
-/
import Derived.Test.YtbjpmhdicbgjkaaGreatDoorQGenE5
noncomputable section
namespace Go.Av
open Go.Proofs Go.RowKit
set_option linter.unusedSectionVars false
set_option linter.unusedVariables false
set_option linter.unusedSimpArgs false
set_option maxRecDepth 100000
def xZ (N:Nat) (a:qA) (b:Str):Option Bool:=
 ((xg N a.Low b).bind fun c=>
 if c<=0 then
 (xg N b a.High).bind fun d=>
 some (decide (d<=0))
 else
 some false:Option Bool).bind fun e=>
 some e
theorem yH (N:Nat) (b:qA) (d:Str) {res:Bool} (h:xZ N b d=some res):qc ZT (.fn 46) (kS b.Low b.High [.str d]) [] (.bool res) []:=by
 unfold xZ at h
 refine Ub Tryz.func46 rfl rfl (m:=17) rfl (rs:=[.tmp 4]) rfl (l:=[(0,.agg [.str b.Low,.str b.High]),(1,.str d)]) rfl ?_
 refine sg fol ((1,.str d)::(kAM [])) (kB b.Low b.High []) ?_
 refine sq ?_
 obtain⟨g,a,h⟩:=bnd h
 refine Goes.cut (s':=(ofG 17 (kAl g),(kB b.Low b.High []))) ?_ ?_
 ·obtain⟨j,c,a⟩:=bnd a
  rcases wyD a with⟨f,a⟩|⟨f,a⟩
  ·obtain⟨i,e,a⟩:=bnd a
   obtain rfl:=si a
   exact tr fol [3,5,9] (kAl (decide (i<=0))) (ac (cv (qaF N b.Low d c)) (ac (gw f) (ac (cv (qaF N d b.High e)) az)))
  obtain rfl:=si a
  exact tr fol [3,5] kAT (ac (cv (qaF N b.Low d c)) (ac (gw f) az))
 refine Goes.ret ?_
 obtain rfl:=si h
 exact(gw2 [.bool g] (Ua tB))
def qab (N:Nat) (a:qA) (digits:Int):Option Bool:=
 ((qcg N a.Low digits).bind fun b=>
 if b=true then
 (qcg N a.High digits).bind fun c=>
 if c=true then
 (zM N a).bind fun d=>
 some (decide (d=0))
 else
 some false
 else
 some false:Option Bool).bind fun e=>
 some e
theorem qbz (N:Nat) (b:qA) (digits:Int) {res:Bool} (h:qab N b digits=some res):qc ZT (.fn 48) (kS b.Low b.High [.i digits]) [] (.bool res) []:=by
 unfold qab at h
 refine Ub Tryz.func48 rfl rfl (m:=20) rfl (rs:=[.tmp 4]) rfl (l:=[(0,.agg [.str b.Low,.str b.High]),(1,.i digits)]) rfl ?_
 refine sg fol ((1,.i digits)::(kAM [])) (kB b.Low b.High []) ?_
 refine sq ?_
 obtain⟨j,a,h⟩:=bnd h
 refine Goes.cut (s':=(ofG 20 (kAl j),(kB b.Low b.High []))) ?_ ?_
 ·obtain⟨n,c,a⟩:=bnd a
  rcases wyB a with⟨f,a⟩|⟨f,a⟩
  ·obtain⟨o,d,a⟩:=bnd a
   rcases wyB a with⟨g,a⟩|⟨g,a⟩
   ·obtain⟨k,e,a⟩:=bnd a
    obtain rfl:=si a
    exact tr fol [3,4,8,10,12] (kAl (decide (k=0))) (ac (cv (qa8 N b.Low digits c)) (ac (gw f) (ac (cv (qa8 N b.High digits d)) (ac (gw g) (ac (cv (qB N b e)) az)))))
   obtain rfl:=si a
   exact tr fol [3,4,8,10] kAT (ac (cv (qa8 N b.Low digits c)) (ac (gw f) (ac (cv (qa8 N b.High digits d)) (ac (gw g) az))))
  obtain rfl:=si a
  exact tr fol [3,4] kAT (ac (cv (qa8 N b.Low digits c)) (ac (gw f) az))
 refine Goes.ret ?_
 obtain rfl:=si h
 exact(gw2 [.bool j] (Ua tB))
def qaE (N:Nat) (a:qA) (part:Int):Option Str:=
 (qcp N (w64 part) 255).bind fun b=>
 (qbB N a.High a.Low).bind fun c=>
 (qbE N b c).bind fun d=>
 (qbA N a.Low d).bind fun e=>
 some e
theorem qd6 (N:Nat) (a:qA) (part:Int) {res:Str} (h:qaE N a part=some res):qc ZT (.fn 49) (kS a.Low a.High [.int .u8 part]) [] (.str res) []:=by
 unfold qaE at h
 refine Ub Tryz.func49 rfl rfl (m:=17) rfl (rs:=[.tmp 4]) rfl (l:=[(0,.agg [.str a.Low,.str a.High]),(1,.int .u8 part)]) rfl ?_
 refine sg fol ((1,.int .u8 part)::(kAM [])) (kB a.Low a.High []) ?_
 obtain⟨g,b,h⟩:=bnd h
 obtain⟨i,c,h⟩:=bnd h
 obtain⟨j,d,h⟩:=bnd h
 obtain⟨f,e,h⟩:=bnd h
 refine sq (gr fol [4,9,10,11] (kBb f) (ac (cv (qeL N (w64 part) 255 b)) (ac (cv (qb9 N a.High a.Low c)) (ac (cv (qdA N g i d)) (ac (cv (qbb N a.Low j e)) az)))) ?_)
 refine Goes.ret ?_
 obtain rfl:=si h
 exact(gw2 [.str f] (Ua tS))
def yj (N:Nat) (a:qA) (b:qA):Option (Int×Int):=
 (qF N a).bind fun i=>
 (qF N b).bind fun j=>
 (zQ N ([i,j]:List Int)).bind fun h=>
 if(!decide (h=0))=true then
 some (0,h)
 else
 (if((a.Low==b.Low)&&((a.High==b.High)&&true))=true then
 some (a.Low==a.High)
 else
 some false:Option Bool).bind fun k=>
 if k=true then
 some (0,0)
 else
 (yw N a.High).bind fun l=>
 (yw N b.Low).bind fun c=>
 (ja N l c).bind fun d=>
 if d<0 then
 some ((-1),0)
 else
 (yw N b.High).bind fun e=>
 (yw N a.Low).bind fun f=>
 (ja N e f).bind fun g=>
 if g<0 then
 some (1,0)
 else
 some (0,24)
theorem qbn (N:Nat) (a:qA) (b:qA) {res:Int×Int} (h:yj N a b=some res):qc ZT (.fn 50) (kS a.Low a.High (kS b.Low b.High [])) [] (.tuple [.i res.1,.i res.2]) []:=by
 unfold yj at h
 refine Ub Tryz.func50 rfl rfl (m:=45) rfl (rs:=[.tmp 4,.tmp 5]) rfl (l:=(kAC a.Low a.High b.Low b.High [])) rfl ?_
 refine sg fol (kR []) (kB a.Low a.High (kB b.Low b.High [])) ?_
 refine sq ?_
 obtain⟨o,p,h⟩:=bnd h
 obtain⟨q,r,h⟩:=bnd h
 obtain⟨n,s,h⟩:=bnd h
 refine sq (gq fol [1,3,5] (kR (kB4 n)) (kB a.Low a.High (kB b.Low b.High (kAE o q))) (ac (cv (ky N a p)) (ac (cv (ky N b r)) (ac (hs (.call 79 [.slice 2 0 2 2 1] (kB a.Low a.High (kB b.Low b.High (kAE o q))) [2] [vl encI ([o,q]:List Int)] (.i n)) (qcW (FzL.cons (Fz.lit rfl rfl (Ud (AllST.cons tI (AllST.cons tI AllST.nil)))) FzL.nil) (vO N ([o,q]:List Int) s) tI rfl)) az))) ?_)
 refine sh fol (kR ((6,.i n)::(kBh (!decide (n=0))))) ?_
 refine ihB h (fun C h=>?_) (fun C h=>?_)
 ·refine sh fol ((4,.i 0)::(kA5 n)) ?_
  refine Goes.ret ?_
  obtain rfl:=si h
  exact(gw2 [.i 0,.i n] (FzW.tuple (qb.cons (Ua tI) (qb.cons (Ua tI) qb.nil))))
 refine Goes.skip ?_
 refine sq (Goes.block ?_)
 refine sq ?_
 obtain⟨D,c,h⟩:=bnd h
 refine Goes.cut (s':=(ofG 45 (kR [(16,.bool D)]),(kB a.Low a.High (kB b.Low b.High (kAE o q))))) ?_ ?_
 ·rcases wyB c with⟨u,c⟩|⟨u,c⟩
  ·obtain rfl:=si c
   exact tr fol [2,3] (kR [(16,.bool (a.Low==a.High))]) (ac (hs (.done (.opt (zf ZT .eql 44 (.tmp 17) (.tmp 18) (.agg (kAR a.Low a.High)) (.agg (kAR b.Low b.High)))) (.bool ((a.Low==b.Low)&&((a.High==b.High)&&true)))) (qql qqi (e:=((a.Low==b.Low)&&((a.High==b.High)&&true))) (.cons (a:= .str a.Low) (b:= .str b.Low) rfl (by kernel_rfl) (by kernel_rfl) (by kernel_rfl) (.cons (a:= .str a.High) (b:= .str b.High) rfl (by kernel_rfl) (by kernel_rfl) (by kernel_rfl) .nil)))) (ac (gw u) az))
  obtain rfl:=si c
  exact tr fol [2,3] (kR [(16,.bool false)]) (ac (hs (.done (.opt (zf ZT .eql 44 (.tmp 17) (.tmp 18) (.agg (kAR a.Low a.High)) (.agg (kAR b.Low b.High)))) (.bool ((a.Low==b.Low)&&((a.High==b.High)&&true)))) (qql qqi (e:=((a.Low==b.Low)&&((a.High==b.High)&&true))) (.cons (a:= .str a.Low) (b:= .str b.Low) rfl (by kernel_rfl) (by kernel_rfl) (by kernel_rfl) (.cons (a:= .str a.High) (b:= .str b.High) rfl (by kernel_rfl) (by kernel_rfl) (by kernel_rfl) .nil)))) (ac (gw u) az))
 refine ihB h (fun E h=>?_) (fun E h=>?_)
 ·refine sh fol [(4,.i 0),(5,.i 0)] ?_
  refine Goes.ret ?_
  obtain rfl:=si h
  exact(gw2 [.i 0,.i 0] (FzW.tuple (qb.cons (Ua tI) (qb.cons (Ua tI) qb.nil))))
 obtain⟨F,t,h⟩:=bnd h
 obtain⟨v,d,h⟩:=bnd h
 obtain⟨w,f,h⟩:=bnd h
 refine sq (gr fol [2,5,6] (kR [(27,.bool (decide (w<0)))]) (ac (cv (vX N a.High t)) (ac (cv (vX N b.Low d)) (ac (cv (xS N F v f)) az))) ?_)
 refine ihD h (fun x h=>?_) (fun x h=>?_)
 ·refine sh fol [(4,.i (-1)),(5,.i 0)] ?_
  refine Goes.ret ?_
  obtain rfl:=si h
  exact(gw2 [.i (-1),.i 0] (FzW.tuple (qb.cons (Ua tI) (qb.cons (Ua tI) qb.nil))))
 obtain⟨y,g,h⟩:=bnd h
 obtain⟨z,j,h⟩:=bnd h
 obtain⟨A,k,h⟩:=bnd h
 refine sq (gr fol [2,5,6] [(36,.bool (decide (A<0)))] (ac (cv (vX N b.High g)) (ac (cv (vX N a.Low j)) (ac (cv (xS N y z k)) az))) ?_)
 refine ihD h (fun B h=>?_) (fun B h=>?_)
 ·refine sh fol [(4,.i 1),(5,.i 0)] ?_
  refine Goes.ret ?_
  obtain rfl:=si h
  exact(gw2 [.i 1,.i 0] (FzW.tuple (qb.cons (Ua tI) (qb.cons (Ua tI) qb.nil))))
 refine Goes.skip ?_
 refine sh fol [(4,.i 0),(5,.i 24)] ?_
 refine Goes.ret ?_
 obtain rfl:=si h
 exact(gw2 [.i 0,.i 24] (FzW.tuple (qb.cons (Ua tI) (qb.cons (Ua tI) qb.nil))))
end Go.Av
