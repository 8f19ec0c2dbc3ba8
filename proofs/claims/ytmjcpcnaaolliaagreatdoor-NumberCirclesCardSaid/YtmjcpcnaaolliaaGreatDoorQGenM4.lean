/-
  Walks of functions: what each computes, as a plain function.
-/
import Derived.Test.YtmjcpcnaaolliaaGreatDoorQGenM3
noncomputable section
namespace Go.Av
open Go.Proofs Go.RowKit
set_option linter.unusedSectionVars false
set_option linter.unusedVariables false
set_option linter.unusedSimpArgs false
set_option maxRecDepth 100000
def qZ (N:Nat) (b:List qo):Nat->Int->(List Int)->Int->(List Int)->Int->Option (Int×(List Int)×Int×(List Int))
 |0,_,_,_,_,_=>none
 |K+1,c,d,e,f,g=>
  if g<(b.length:Int)then
  (((idx b g).bind fun a=>
  (jR N a (⟨(⟨c,d⟩:qm),(⟨e,f⟩:qm)⟩:qo)).bind fun h=>
  if h<0 then
  some (a.Num.s,a.Num.w,a.Den.s,a.Den.w)
  else
  some (c,d,e,f):Option (Int×(List Int)×Int×(List Int)))).bind fun(i,j,k,l)=>
  qZ N b K i j k l (w64 (g+1))
  else
  some (c,d,e,f)
def zO (N:Nat) (a:List qo):Option qo:=
 ((if(a.length:Int)<1 then
 none
 else
 some ():Option Unit)).bind fun _=>
 (idx a 0).bind fun b=>
 (qZ N a N b.Num.s b.Num.w b.Den.s b.Den.w 1).bind fun(f,c,d,e)=>
 some (⟨(⟨f,c⟩:qm),(⟨d,e⟩:qm)⟩:qo)
theorem qaH (N:Nat) (a:List qo) {res:qo} (h:zO N a=some res):qb ZT (.fn 198) [vl qh a,.func (.func 86) [] []] [] (.agg (nq1 res)) []:=by
 unfold zO at h
 refine Ub Tryz.func198 rfl rfl (m:=33) rfl (rs:=[.cell 4 100]) rfl (l:=(kAd a [(1,.func (.func 86) [] [])])) rfl ?_
 refine sg fol (kAd a ((1,.func (.func 86) [] [])::(kX []))) (kH []) ?_
 refine sq ?_
 refine sh fol (kAd a ((1,.func (.func 86) [] [])::(kX [(9,.bool (decide ((a.length:Int)<1)))]))) ?_
 obtain⟨F,g1,h⟩:=bnd h
 refine Goes.imp (Q:=fun x s'=>(x= .normal/\()=F/\Sub s' (ofG 33 (kAd a ((1,.func (.func 86) [] [])::(kX []))),(kH [])))) ?_ ?_
 ·refine ihD g1 (fun G g1=>?_) (fun G g1=>?_)
  ·cases g1
  refine Goes.skip ?_
  obtain rfl:=si g1
  exact⟨rfl,rfl,(Sub.keep [0,1,4] rfl rfl)⟩
 rintro x s' ⟨rfl,rfl,hsub⟩
 refine Goes.sub hsub ?_
 obtain⟨A,r,h⟩:=bnd h
 refine sq (gq fol [1,2,4] (kAd a ((1,.func (.func 86) [] [])::(kX [(5,.ptr 1 0)]))) (kH [.cells (nq1 A)]) (ac (iv qcQ qh r) (ac (la qfc qh r) (ac (hs (.run [1] (qw ZT 100 (.ptr 1 0) (.agg (nq1 A))) (kH (kH [])) .undef (kH [.cells (nq1 A)]) true) (kw (n:=4) (by kernel_rfl) rfl rfl rfl rfl (cac rfl (cac nvc (cac rfl (cac nvc can)))) rfl)) az))) ?_)
 refine sq ?_
 refine sh fol (kAd a ((1,.func (.func 86) [] [])::(kX [(5,.ptr 1 0),(6,.i 1)]))) ?_
 refine Goes.block ?_
 obtain⟨u,g13,h⟩:=bnd h
 refine Goes.imp (Q:=fun x s'=>(x= .exit 0/\ ∃f b c d,(f,b,c,d)=u/\Sub s' (ofG 33 (kX [(5,.ptr 1 0)]),(kH [.cells (ni2 f b c d)])))) ?_ ?_
 ·refine Uc (fun M s=> ∃(v:Int) (w:List Int) (y:Int) (z:List Int) (g:Int),s=(ofG 33 (kAd a ((1,.func (.func 86) [] [])::(kX (kAW g [])))),(kH [.cells (ni2 v w y z)]))/\qZ N a M v w y z g=some u) ?_ (m:=N) ⟨_,_,_,_,_,rfl,g13⟩
  rintro M s ⟨v,w,y,z,g,rfl,g13⟩
  cases M with
  |zero=>simp only[qZ]at g13;cases g13
  |succ M=>
   rw[qZ]at g13
   refine sq ?_
   refine sh fol (kAd a ((1,.func (.func 86) [] [])::(kX (kAW g [(17,.bool (decide (g<(a.length:Int))))])))) ?_
   refine ihD g13 (fun B g13=>?_) (fun B g13=>?_)
   ·refine Goes.skip ?_
    refine sq ?_
    obtain⟨C,g19,g13⟩:=bnd g13
    refine Goes.imp (Q:=fun x s'=>(x= .normal/\ ∃j k o p,(j,k,o,p)=C/\Sub s' (ofG 33 (kAd a ((1,.func (.func 86) [] [])::(kX (kAW g [])))),(kH [.cells (ni2 j k o p)])))) ?_ ?_
    ·refine Goes.block ?_
     obtain⟨q,e,g19⟩:=bnd g19
     obtain⟨D,t,g19⟩:=bnd g19
     refine sq (gr fol [3,4,6] (kAd a ((1,.func (.func 86) [] [])::(kX (kAW g [(27,.bool (decide (D<0)))])))) (ac (iv qcQ qh e) (ac (la qfc qh e) (ac (cv (qbR N q (⟨(⟨v,w⟩:qm),(⟨y,z⟩:qm)⟩:qo) t)) az))) ?_)
     refine ihD g19 (fun E g19=>?_) (fun E g19=>?_)
     ·refine gq fol [2,3,4] (kAd a ((1,.func (.func 86) [] [])::(kX (kAW g [])))) (kH [.cells (nq1 q)]) (ac (iv qcQ qh e) (ac (la qfc qh e) (ac (hs (.run [1] (qw ZT 100 (.ptr 1 0) (.agg (nq1 q))) (kH [.cells (ni2 v w y z)]) .undef (kH [.cells (nq1 q)]) true) (kw (n:=4) (by kernel_rfl) rfl rfl rfl rfl (cac rfl (cac nvc (cac rfl (cac nvc can)))) rfl)) az))) ?_
      obtain rfl:=si g19
      exact⟨rfl,_,_,_,_,rfl,(Sub.refl _)⟩
     refine Goes.skip ?_
     obtain rfl:=si g19
     exact⟨rfl,_,_,_,_,rfl,(Sub.keep [0,1,4,5,6] rfl rfl)⟩
    rintro x s' ⟨rfl,j,k,o,p,rfl,hsub⟩
    try dsimp only at g13
    refine Goes.sub hsub ?_
    refine gh fol (kAd a ((1,.func (.func 86) [] [])::(kX (kAW (w64 (g+1)) [])))) ?_
    exact⟨M,(ofG 33 (kAd a ((1,.func (.func 86) [] [])::(kX (kAW (w64 (g+1)) [])))),(kH [.cells (ni2 j k o p)])),Nat.lt_succ_self _,(Sub.refl _),_,_,_,_,_,rfl,g13⟩
   refine Goes.exit ?_
   obtain rfl:=si g13
   exact⟨rfl,_,_,_,_,rfl,(Sub.keep [4,5] rfl rfl)⟩
 rintro x s' ⟨rfl,f,b,c,d,rfl,hsub⟩
 try dsimp only at h
 refine Goes.sub hsub ?_
 refine sq (gq fol [1] (kX []) [.cells (ni2 f b c d),.cells (ni2 f b c d)] (ac (hs (.run [0] (qw ZT 100 (.ptr 0 0) (.agg (ni2 f b c d))) (kH [.cells (ni2 f b c d)]) .undef [.cells (ni2 f b c d),.cells (ni2 f b c d)] true) (kw (n:=4) (by kernel_rfl) rfl rfl rfl rfl (cac rfl (cac nvc (cac rfl (cac nvc can)))) rfl)) az) ?_)
 refine Goes.ret ?_
 obtain rfl:=si h
 exact(gw2 [.agg (ni2 f b c d)] (FzW.agg (qc.cons (Ua tI) (qc.cons (Ua (qA (qa .u64) _ (nl rfl))) (qc.cons (Ua tI) (qc.cons (Ua (qA (qa .u64) _ (nl rfl))) qc.nil))))))
def kg (N:Nat) (b:List qo):Nat->Int->(List Int)->Int->(List Int)->Int->Option (Int×(List Int)×Int×(List Int))
 |0,_,_,_,_,_=>none
 |K+1,c,d,e,f,g=>
  if g<(b.length:Int)then
  (((idx b g).bind fun a=>
  (jR N a (⟨(⟨c,d⟩:qm),(⟨e,f⟩:qm)⟩:qo)).bind fun h=>
  if h>0 then
  some (a.Num.s,a.Num.w,a.Den.s,a.Den.w)
  else
  some (c,d,e,f):Option (Int×(List Int)×Int×(List Int)))).bind fun(i,j,k,l)=>
  kg N b K i j k l (w64 (g+1))
  else
  some (c,d,e,f)
def zQ (N:Nat) (a:List qo):Option qo:=
 ((if(a.length:Int)<1 then
 none
 else
 some ():Option Unit)).bind fun _=>
 (idx a 0).bind fun b=>
 (kg N a N b.Num.s b.Num.w b.Den.s b.Den.w 1).bind fun(f,c,d,e)=>
 some (⟨(⟨f,c⟩:qm),(⟨d,e⟩:qm)⟩:qo)
theorem qaG (N:Nat) (a:List qo) {res:qo} (h:zQ N a=some res):qb ZT (.fn 199) [vl qh a,.func (.func 86) [] []] [] (.agg (nq1 res)) []:=by
 unfold zQ at h
 refine Ub Tryz.func199 rfl rfl (m:=33) rfl (rs:=[.cell 4 100]) rfl (l:=(kAd a [(1,.func (.func 86) [] [])])) rfl ?_
 refine sg fol (kAd a ((1,.func (.func 86) [] [])::(kX []))) (kH []) ?_
 refine sq ?_
 refine sh fol (kAd a ((1,.func (.func 86) [] [])::(kX [(9,.bool (decide ((a.length:Int)<1)))]))) ?_
 obtain⟨F,g1,h⟩:=bnd h
 refine Goes.imp (Q:=fun x s'=>(x= .normal/\()=F/\Sub s' (ofG 33 (kAd a ((1,.func (.func 86) [] [])::(kX []))),(kH [])))) ?_ ?_
 ·refine ihD g1 (fun G g1=>?_) (fun G g1=>?_)
  ·cases g1
  refine Goes.skip ?_
  obtain rfl:=si g1
  exact⟨rfl,rfl,(Sub.keep [0,1,4] rfl rfl)⟩
 rintro x s' ⟨rfl,rfl,hsub⟩
 refine Goes.sub hsub ?_
 obtain⟨A,r,h⟩:=bnd h
 refine sq (gq fol [1,2,4] (kAd a ((1,.func (.func 86) [] [])::(kX [(5,.ptr 1 0)]))) (kH [.cells (nq1 A)]) (ac (iv qcQ qh r) (ac (la qfc qh r) (ac (hs (.run [1] (qw ZT 100 (.ptr 1 0) (.agg (nq1 A))) (kH (kH [])) .undef (kH [.cells (nq1 A)]) true) (kw (n:=4) (by kernel_rfl) rfl rfl rfl rfl (cac rfl (cac nvc (cac rfl (cac nvc can)))) rfl)) az))) ?_)
 refine sq ?_
 refine sh fol (kAd a ((1,.func (.func 86) [] [])::(kX [(5,.ptr 1 0),(6,.i 1)]))) ?_
 refine Goes.block ?_
 obtain⟨u,g13,h⟩:=bnd h
 refine Goes.imp (Q:=fun x s'=>(x= .exit 0/\ ∃f b c d,(f,b,c,d)=u/\Sub s' (ofG 33 (kX [(5,.ptr 1 0)]),(kH [.cells (ni2 f b c d)])))) ?_ ?_
 ·refine Uc (fun M s=> ∃(v:Int) (w:List Int) (y:Int) (z:List Int) (g:Int),s=(ofG 33 (kAd a ((1,.func (.func 86) [] [])::(kX (kAW g [])))),(kH [.cells (ni2 v w y z)]))/\kg N a M v w y z g=some u) ?_ (m:=N) ⟨_,_,_,_,_,rfl,g13⟩
  rintro M s ⟨v,w,y,z,g,rfl,g13⟩
  cases M with
  |zero=>simp only[kg]at g13;cases g13
  |succ M=>
   rw[kg]at g13
   refine sq ?_
   refine sh fol (kAd a ((1,.func (.func 86) [] [])::(kX (kAW g [(17,.bool (decide (g<(a.length:Int))))])))) ?_
   refine ihD g13 (fun B g13=>?_) (fun B g13=>?_)
   ·refine Goes.skip ?_
    refine sq ?_
    obtain⟨C,g19,g13⟩:=bnd g13
    refine Goes.imp (Q:=fun x s'=>(x= .normal/\ ∃j k o p,(j,k,o,p)=C/\Sub s' (ofG 33 (kAd a ((1,.func (.func 86) [] [])::(kX (kAW g [])))),(kH [.cells (ni2 j k o p)])))) ?_ ?_
    ·refine Goes.block ?_
     obtain⟨q,e,g19⟩:=bnd g19
     obtain⟨D,t,g19⟩:=bnd g19
     refine sq (gr fol [3,4,6] (kAd a ((1,.func (.func 86) [] [])::(kX (kAW g [(27,.bool (decide (D>0)))])))) (ac (iv qcQ qh e) (ac (la qfc qh e) (ac (cv (qbR N q (⟨(⟨v,w⟩:qm),(⟨y,z⟩:qm)⟩:qo) t)) az))) ?_)
     refine ihD g19 (fun E g19=>?_) (fun E g19=>?_)
     ·refine gq fol [2,3,4] (kAd a ((1,.func (.func 86) [] [])::(kX (kAW g [])))) (kH [.cells (nq1 q)]) (ac (iv qcQ qh e) (ac (la qfc qh e) (ac (hs (.run [1] (qw ZT 100 (.ptr 1 0) (.agg (nq1 q))) (kH [.cells (ni2 v w y z)]) .undef (kH [.cells (nq1 q)]) true) (kw (n:=4) (by kernel_rfl) rfl rfl rfl rfl (cac rfl (cac nvc (cac rfl (cac nvc can)))) rfl)) az))) ?_
      obtain rfl:=si g19
      exact⟨rfl,_,_,_,_,rfl,(Sub.refl _)⟩
     refine Goes.skip ?_
     obtain rfl:=si g19
     exact⟨rfl,_,_,_,_,rfl,(Sub.keep [0,1,4,5,6] rfl rfl)⟩
    rintro x s' ⟨rfl,j,k,o,p,rfl,hsub⟩
    try dsimp only at g13
    refine Goes.sub hsub ?_
    refine gh fol (kAd a ((1,.func (.func 86) [] [])::(kX (kAW (w64 (g+1)) [])))) ?_
    exact⟨M,(ofG 33 (kAd a ((1,.func (.func 86) [] [])::(kX (kAW (w64 (g+1)) [])))),(kH [.cells (ni2 j k o p)])),Nat.lt_succ_self _,(Sub.refl _),_,_,_,_,_,rfl,g13⟩
   refine Goes.exit ?_
   obtain rfl:=si g13
   exact⟨rfl,_,_,_,_,rfl,(Sub.keep [4,5] rfl rfl)⟩
 rintro x s' ⟨rfl,f,b,c,d,rfl,hsub⟩
 try dsimp only at h
 refine Goes.sub hsub ?_
 refine sq (gq fol [1] (kX []) [.cells (ni2 f b c d),.cells (ni2 f b c d)] (ac (hs (.run [0] (qw ZT 100 (.ptr 0 0) (.agg (ni2 f b c d))) (kH [.cells (ni2 f b c d)]) .undef [.cells (ni2 f b c d),.cells (ni2 f b c d)] true) (kw (n:=4) (by kernel_rfl) rfl rfl rfl rfl (cac rfl (cac nvc (cac rfl (cac nvc can)))) rfl)) az) ?_)
 refine Goes.ret ?_
 obtain rfl:=si h
 exact(gw2 [.agg (ni2 f b c d)] (FzW.agg (qc.cons (Ua tI) (qc.cons (Ua (qA (qa .u64) _ (nl rfl))) (qc.cons (Ua tI) (qc.cons (Ua (qA (qa .u64) _ (nl rfl))) qc.nil))))))
def qF (N:Nat) (f:qo) (b:List qo):Nat->(List qo)->Int->Option (List qo)
 |0,_,_=>none
 |K+1,g,a=>
  if a<(b.length:Int)then
  (idx b a).bind fun c=>
  (xI N f c).bind fun d=>
  (app 64 g [d]).bind fun e=>
  qF N f b K e (w64 (a+1))
  else
  some g
def qH (N:Nat) (a:qC) (b:List qo):Nat->(List qo)->Int->Option (List qo)
 |0,_,_=>none
 |K+1,e,c=>
  if c<(b.length:Int)then
  (idx b c).bind fun f=>
  (xc N ([a.Low,a.High]:List Str)).bind fun g=>
  (qF N f g N e 0).bind fun d=>
  qH N a b K d (w64 (c+1))
  else
  some e
def yu (N:Nat) (a:qC) (c:qC):Option (qC×Int):=
 (xc N ([a.Low,a.High]:List Str)).bind fun g=>
 (qH N c g N ([]:List qo) 0).bind fun f=>
 (zO N f).bind fun d=>
 (zQ N f).bind fun e=>
 (qal N d e).bind fun b=>
 some (b.1,b.2)
theorem qeu (N:Nat) (b:qC) (a:qC) {res:qC×Int} (h:yu N b a=some res):qb ZT (.fn 124) (kW b.Low b.High (kW a.Low a.High [.func (.func 75) [] []])) [] (.tuple (kW res.1.Low res.1.High [.i res.2])) []:=by
 unfold yu at h
 refine Ub Tryz.func124 rfl rfl (m:=51) rfl (rs:=[.cell 6 24,.tmp 7]) rfl (l:=(kAP b.Low b.High a.Low a.High [(2,.func (.func 75) [] [])])) rfl ?_
 refine sg fol ((2,.func (.func 75) [] [])::(kAH [])) (kD b.Low b.High a.Low a.High (kN [])) ?_
 refine sh fol ((2,.func (.func 75) [] [])::(kAH [(8,.nilslice)])) ?_
 refine sq ?_
 obtain⟨d,F,h⟩:=bnd h
 refine sq (gq fol [5] ((2,.func (.func 75) [] [])::(4,.ptr 1 0)::(6,.ptr 2 0)::(kAT d (d.length:Int))) (kD b.Low b.High a.Low a.High (kN (kBC b.Low b.High))) (ac (hs (.callF 197 [.slice 3 0 2 2 1] (kD b.Low b.High a.Low a.High (kN (kV b.Low b.High []))) [3] [vl encS ([b.Low,b.High]:List Str)] (vl qh d)) (yj (FzL.cons (Fz.lit rfl rfl (Ue (AllST.cons tS (AllST.cons tS AllST.nil)))) FzL.nil) (qbk N ([b.Low,b.High]:List Str) F) (qy qh _ (nl rfl)))) az) ?_)
 refine Goes.sub (show Sub (ofG 51 ((2,.func (.func 75) [] [])::(4,.ptr 1 0)::(6,.ptr 2 0)::(kAT d (d.length:Int))),(kD b.Low b.High a.Low a.High (kN (kBC b.Low b.High)))) (ofG 51 ((2,.func (.func 75) [] [])::(kX ((6,.ptr 1 0)::(kAT d (d.length:Int))))),(kV a.Low a.High (kN [])))from(Sub.norm [] [some 1,some 2] rfl rfl (.keep (.same (qD.func sn sn)) (.kp (.kp (.keep (.same (qD.nilslice)) (.keep (.same (qf qh _)) (.keep (.same nI) (.keep (.same nI) .nil))))))) (.kb rfl (.same sn) (.kb rfl (.same sn) .nil)))) ?_
 refine Goes.block ?_
 obtain⟨L,g5,h⟩:=bnd h
 refine Goes.imp (Q:=fun x s'=>(x= .exit 0/\ ∃t,t=L/\Sub s' (ofG 51 [(6,.ptr 0 0),(8,.gslice 1 t.length 4)],(kN (kAB t))))) ?_ ?_
 ·refine Goes.sub (s':=(ofG 51 ((2,.func (.func 75) [] [])::(kX [(6,.ptr 1 0),(8,.gslice 2 ([]:List qo).length 4),(18,vl qh d),(19,.i (d.length:Int)),(20,.i 0)])),(kV a.Low a.High (kN [.cells (([]:List qo).flatMap qh.c)])))) (Sub.norm [] [some 0,some 1,none] rfl rfl (.keep (.same (qD.func sn sn)) (.kp (.kp (.keep .nil (.keep (.same (qf qh _)) (.keep (.same nI) (.keep (.same nI) .nil))))))) (.kb rfl (.same sn) (.kb rfl (.same sn) (.fresh .nil)))) ?_
  refine Uc (fun M s=> ∃(o:List qo) (j:Int),s=(ofG 51 ((2,.func (.func 75) [] [])::(kQ o d (d.length:Int) j [])),(kE a.Low a.High o []))/\qH N a d M o j=some L) ?_ (m:=N) ⟨_,_,rfl,g5⟩
  rintro M s ⟨o,j,rfl,g5⟩
  cases M with
  |zero=>simp only[qH]at g5;cases g5
  |succ M=>
   rw[qH]at g5
   refine sh fol ((2,.func (.func 75) [] [])::(kQ o d (d.length:Int) j [(21,.bool (decide (j<(d.length:Int))))])) ?_
   refine sq ?_
   refine ihD g5 (fun O g5=>?_) (fun O g5=>?_)
   ·refine Goes.skip ?_
    refine sq (Goes.block ?_)
    obtain⟨k,y,g5⟩:=bnd g5
    refine sq (gq fol [0,1,3] ((2,.func (.func 75) [] [])::(kX (kAv o [(18,vl qh d),(19,.i (d.length:Int)),(20,.i j)]))) (kE a.Low a.High o [.cells (nq1 k)]) (ac (iv qcQ qh y) (ac (la qfc qh y) (ac (hs (.run [3] (qw ZT 100 (.ptr 3 0) (.agg (nq1 k))) (kE a.Low a.High o (kH [])) .undef (kE a.Low a.High o [.cells (nq1 k)]) true) (kw (n:=4) (by kernel_rfl) rfl rfl rfl rfl (cac rfl (cac nvc (cac rfl (cac nvc can)))) rfl)) az))) ?_)
    obtain⟨f,G,g5⟩:=bnd g5
    refine sq (gq fol [5] ((2,.func (.func 75) [] [])::(kK o d (d.length:Int) j f (f.length:Int) [(31,.i 0)])) (kE a.Low a.High o (.cells (nq1 k)::(kBC a.Low a.High))) (ac (hs (.callF 197 [.slice 4 0 2 2 1] (kE a.Low a.High o (.cells (nq1 k)::(kV a.Low a.High []))) [4] [vl encS ([a.Low,a.High]:List Str)] (vl qh f)) (yj (FzL.cons (Fz.lit rfl rfl (Ue (AllST.cons tS (AllST.cons tS AllST.nil)))) FzL.nil) (qbk N ([a.Low,a.High]:List Str) G) (qy qh _ (nl rfl)))) az) ?_)
    refine Goes.sub (show Sub (ofG 51 ((2,.func (.func 75) [] [])::(kK o d (d.length:Int) j f (f.length:Int) [(31,.i 0)])),(kE a.Low a.High o (.cells (nq1 k)::(kBC a.Low a.High)))) (ofG 51 ((2,.func (.func 75) [] [])::(kK o d (d.length:Int) j f (f.length:Int) [(31,.i 0)])),(kE a.Low a.High o [.cells (nq1 k)]))from(Sub.norm [] [some 0,some 1,some 2,some 3] rfl rfl (.keep (.same (qD.func sn sn)) (.kp (.kp (.keep (.gslice rfl) (.kp (.keep (.same (qf qh _)) (.keep (.same nI) (.keep (.same nI) (.keep (.same (qf qh _)) (.keep (.same nI) (.keep (.same nI) .nil))))))))))) (.kb rfl (.same sn) (.kb rfl (.same sn) (.ks (.kb rfl (.same sn) .nil)))))) ?_
    refine Goes.block ?_
    obtain⟨H,g12,g5⟩:=bnd g5
    refine Goes.imp (Q:=fun x s'=>(x= .exit 2/\ ∃p,p=H/\Sub s' (ofG 51 ((2,.func (.func 75) [] [])::(kQ p d (d.length:Int) j [])),(kE a.Low a.High p [])))) ?_ ?_
    ·refine Uc (fun M s=> ∃(u:List qo) (g:Int),s=(ofG 51 ((2,.func (.func 75) [] [])::(kK u d (d.length:Int) j f (f.length:Int) [(31,.i g)])),(kE a.Low a.High u [.cells (nq1 k)]))/\qF N k f M u g=some H) ?_ (m:=N) ⟨_,_,rfl,g12⟩
     rintro M s ⟨u,g,rfl,g12⟩
     cases M with
     |zero=>simp only[qF]at g12;cases g12
     |succ M=>
      rw[qF]at g12
      refine sh fol ((2,.func (.func 75) [] [])::(kK u d (d.length:Int) j f (f.length:Int) [(31,.i g),(32,.bool (decide (g<(f.length:Int))))])) ?_
      refine sq ?_
      refine ihD g12 (fun K g12=>?_) (fun K g12=>?_)
      ·refine Goes.skip ?_
       refine sq (Goes.block ?_)
       obtain⟨q,v,g12⟩:=bnd g12
       refine sq (gq fol [0,1,3] ((2,.func (.func 75) [] [])::(kX (kAv u [(12,.ptr 4 0),(18,vl qh d),(19,.i (d.length:Int)),(20,.i j),(29,vl qh f),(30,.i (f.length:Int)),(31,.i g)]))) (kE a.Low a.High u [.cells (nq1 k),.cells (nq1 q)]) (ac (iv qcQ qh v) (ac (la qfc qh v) (ac (hs (.run [4] (qw ZT 100 (.ptr 4 0) (.agg (nq1 q))) (kE a.Low a.High u (.cells (nq1 k)::(kH []))) .undef (kE a.Low a.High u [.cells (nq1 k),.cells (nq1 q)]) true) (kw (n:=4) (by kernel_rfl) rfl rfl rfl rfl (cac rfl (cac nvc (cac rfl (cac nvc can)))) rfl)) az))) ?_)
       obtain⟨w,z,g12⟩:=bnd g12
       obtain⟨r,A,g12⟩:=bnd g12
       refine gq fol [4,6] ((2,.func (.func 75) [] [])::(kX (kAK r d (d.length:Int) j f (f.length:Int) g))) (kV a.Low a.High (kN (.dead:: .cells (nq1 k):: .cells (nq1 q):: .cells (nq1 w)::(kAB r)))) (ac (cv (qgL N k q z)) (ac (hs (.run [2,5] (yM ZT [169,169] (.gslice 2 u.length 4) (.slice 5 0 1 1 4)) (kE a.Low a.High u [.cells (nq1 k),.cells (nq1 q),.cells (nq1 w)]) (.gslice 6 r.length 4) (kV a.Low a.High (kN (.dead:: .cells (nq1 k):: .cells (nq1 q):: .cells (nq1 w)::(kAB r)))) true) (qbC qcQ (E:=qh) rfl (qfN (E:=qh) (ys:=[w]) rfl rfl rfl rfl) (qgC (E:=qh) (l:=u) rfl rfl rfl A rfl))) az)) ?_
       refine gh fol ((2,.func (.func 75) [] [])::(kX (kAK r d (d.length:Int) j f (f.length:Int) (w64 (g+1))))) ?_
       exact⟨M,(ofG 51 ((2,.func (.func 75) [] [])::(kK r d (d.length:Int) j f (f.length:Int) [(31,.i (w64 (g+1)))])),(kE a.Low a.High r [.cells (nq1 k)])),Nat.lt_succ_self _,(Sub.norm [] [some 0,some 1,some 6,some 3] rfl rfl (.keep (.same (qD.func sn sn)) (.kp (.kp (.keep (.gslice rfl) (.kp (.keep (.same (qf qh _)) (.keep (.same nI) (.keep (.same nI) (.keep (.same (qf qh _)) (.keep (.same nI) (.keep (.same nI) .nil))))))))))) (.kb rfl (.same sn) (.kb rfl (.same sn) (.ks (.kb rfl (.same sn) .nil))))),_,_,rfl,g12⟩
      refine Goes.exit ?_
      obtain rfl:=si g12
      exact⟨rfl,_,rfl,(Sub.norm [] [some 0,some 1,some 2] rfl rfl (.keep (.same (qD.func sn sn)) (.kp (.kp (.keep (.gslice rfl) (.drop (.keep (.same (qf qh _)) (.keep (.same nI) (.keep (.same nI) .nil)))))))) (.kb rfl (.same sn) (.kb rfl (.same sn) (.ks .nil))))⟩
    rintro x s' ⟨rfl,p,rfl,hsub⟩
    refine Goes.sub hsub ?_
    refine gh fol ((2,.func (.func 75) [] [])::(kQ p d (d.length:Int) (w64 (j+1)) [])) ?_
    exact⟨M,(ofG 51 ((2,.func (.func 75) [] [])::(kQ p d (d.length:Int) (w64 (j+1)) [])),(kE a.Low a.High p [])),Nat.lt_succ_self _,(Sub.refl _),_,_,rfl,g5⟩
   refine Goes.exit ?_
   obtain rfl:=si g5
   exact⟨rfl,_,rfl,(Sub.norm [] [some 1,some 2] rfl rfl (.drop (.drop (.kp (.keep (.gslice rfl) .nil)))) (.kb rfl (.same sn) (.ks .nil)))⟩
 rintro x s' ⟨rfl,t,rfl,hsub⟩
 refine Goes.sub hsub ?_
 obtain⟨I,B,h⟩:=bnd h
 obtain⟨J,C,h⟩:=bnd h
 obtain⟨e,D,h⟩:=bnd h
 refine sq (gq fol [1,3,4] (kBK e.2) (kV e.1.Low e.1.High (kA0 t)) (ac (hs (.callF 198 [.gslice 1 t.length 4,.func (.func 86) [] []] (kN (kAB t)) [1] [vl qh t,.func (.func 86) [] []] (.agg (nq1 I))) (yj (FzL.cons (Fz.gs (E:=qh) rfl rfl (nl rfl)) (FzL.cons (Fz.func FzL.nil FzL.nil) FzL.nil)) (qaH N t B) (Still.agg (AllST.cons tI (AllST.cons (qA (qa .u64) _ (nl rfl)) (AllST.cons tI (AllST.cons (qA (qa .u64) _ (nl rfl)) AllST.nil))))))) (ac (hs (.callF 199 [.gslice 1 t.length 4,.func (.func 86) [] []] (kN (kA0 t)) [1] [vl qh t,.func (.func 86) [] []] (.agg (nq1 J))) (yj (FzL.cons (Fz.gsF (E:=qh) rfl rfl (nl rfl)) (FzL.cons (Fz.func FzL.nil FzL.nil) FzL.nil)) (qaG N t C) (Still.agg (AllST.cons tI (AllST.cons (qA (qa .u64) _ (nl rfl)) (AllST.cons tI (AllST.cons (qA (qa .u64) _ (nl rfl)) AllST.nil))))))) (ac (cv (qcw N I J D)) az))) ?_)
 refine Goes.sub (show Sub (ofG 51 (kBK e.2),(kV e.1.Low e.1.High (kA0 t))) (ofG 51 (kBK e.2),(kV e.1.Low e.1.High []))from(Sub.norm [] [some 0] rfl rfl (.kp (.keep (.same nI) .nil)) (.kb rfl (.same sn) .nil))) ?_
 refine Goes.ret ?_
 obtain rfl:=si h
 exact(gw2 (kW e.1.Low e.1.High [.i e.2]) (FzW.tuple (qc.cons (FzW.agg (qc.cons (Ua tS) (qc.cons (Ua tS) qc.nil))) (qc.cons (Ua tI) qc.nil))))
def vN (N:Nat) (a:qC) (b:qC):Option (qC×Int):=
 (zt N a).bind fun e=>
 (zt N b).bind fun f=>
 (jV N ([e,f]:List Int)).bind fun c=>
 if(!decide (c=0))=true then
 some ((⟨[],[]⟩:qC),c)
 else
 (yu N a b).bind fun d=>
 some (d.1,d.2)
theorem qcB (N:Nat) (a:qC) (b:qC) {res:qC×Int} (h:vN N a b=some res):qb ZT (.fn 74) (kW a.Low a.High (kW b.Low b.High [.func (.func 75) [] []])) [] (.tuple (kW res.1.Low res.1.High [.i res.2])) []:=by
 unfold vN at h
 refine Ub Tryz.func74 rfl rfl (m:=25) rfl (rs:=[.cell 6 24,.tmp 7]) rfl (l:=(kAP a.Low a.High b.Low b.High [(2,.func (.func 75) [] [])])) rfl ?_
 refine sg fol ((2,.func (.func 75) [] [])::(kAH [])) (kD a.Low a.High b.Low b.High (kN [])) ?_
 refine sq ?_
 obtain⟨e,f,h⟩:=bnd h
 obtain⟨g,j,h⟩:=bnd h
 obtain⟨d,k,h⟩:=bnd h
 refine sq (gq fol [1,3,5] ((2,.func (.func 75) [] [])::(kAH [(8,.i d)])) (kD a.Low a.High b.Low b.High (kN (kA3 e g))) (ac (cv (yK N a f)) (ac (cv (yK N b j)) (ac (hs (.call 79 [.slice 3 0 2 2 1] (kD a.Low a.High b.Low b.High (kN (kA3 e g))) [3] [vl encI ([e,g]:List Int)] (.i d)) (qey (FzL.cons (Fz.lit rfl rfl (Ue (AllST.cons tI (AllST.cons tI AllST.nil)))) FzL.nil) (qaO N ([e,g]:List Int) k) tI rfl)) az))) ?_)
 refine sh fol ((2,.func (.func 75) [] [])::(kAH [(8,.i d),(16,.bool (!decide (d=0)))])) ?_
 refine ihB h (fun o h=>?_) (fun o h=>?_)
 ·refine sh fol [(6,.ptr 2 0),(7,.i d)] ?_
  refine Goes.ret ?_
  obtain rfl:=si h
  exact(gw2 [.agg [.str [],.str []],.i d] (FzW.tuple (qc.cons (FzW.agg (qc.cons (Ua tS) (qc.cons (Ua tS) qc.nil))) (qc.cons (Ua tI) qc.nil))))
 refine Goes.skip ?_
 obtain⟨c,n,h⟩:=bnd h
 refine sq (gq fol [3] [(6,.ptr 2 0),(7,.i c.2)] (kD a.Low a.High b.Low b.High (kV c.1.Low c.1.High (kA3 e g))) (ac (hs (.call 124 (kW a.Low a.High (kW b.Low b.High [.func (.func 75) [] []])) [] [] (kW a.Low a.High (kW b.Low b.High [.func (.func 75) [] []])) (.tuple (kW c.1.Low c.1.High [.i c.2]))) (qjn (FzL.cons (Uh (Still.agg (AllST.cons tS (AllST.cons tS AllST.nil)))) (FzL.cons (Uh (Still.agg (AllST.cons tS (AllST.cons tS AllST.nil)))) (FzL.cons (Fz.func FzL.nil FzL.nil) FzL.nil))) (qeu N a b n) (Still.tuple (AllST.cons (Still.agg (AllST.cons tS (AllST.cons tS AllST.nil))) (AllST.cons tI AllST.nil))))) az) ?_)
 refine Goes.ret ?_
 obtain rfl:=si h
 exact(gw2 (kW c.1.Low c.1.High [.i c.2]) (FzW.tuple (qc.cons (FzW.agg (qc.cons (Ua tS) (qc.cons (Ua tS) qc.nil))) (qc.cons (Ua tI) qc.nil))))
def qaB (N:Nat) (a:qC) (b:qC):Option (qC×Int):=
 (vN N a b).bind fun c=>
 some (c.1,c.2)
theorem qd3 (N:Nat) (a:qC) (b:qC) {res:qC×Int} (h:qaB N a b=some res):qb ZT (.fn 19) (kW a.Low a.High (kW b.Low b.High [])) [] (.tuple (kW res.1.Low res.1.High [.i res.2])) []:=by
 unfold qaB at h
 refine Ub Tryz.func19 rfl rfl (m:=11) rfl (rs:=[.cell 4 24,.tmp 5]) rfl (l:=(kAP a.Low a.High b.Low b.High [])) rfl ?_
 refine sg fol (kF []) (kD a.Low a.High b.Low b.High (kN [])) ?_
 obtain⟨c,d,h⟩:=bnd h
 refine sq (gq fol [2] (kAR (kA6 c.2)) (kD a.Low a.High b.Low b.High (kV c.1.Low c.1.High [])) (ac (hs (.call 74 (kW a.Low a.High (kW b.Low b.High [.func (.func 75) [] []])) [] [] (kW a.Low a.High (kW b.Low b.High [.func (.func 75) [] []])) (.tuple (kW c.1.Low c.1.High [.i c.2]))) (qjn (FzL.cons (Uh (Still.agg (AllST.cons tS (AllST.cons tS AllST.nil)))) (FzL.cons (Uh (Still.agg (AllST.cons tS (AllST.cons tS AllST.nil)))) (FzL.cons (Fz.func FzL.nil FzL.nil) FzL.nil))) (qcB N a b d) (Still.tuple (AllST.cons (Still.agg (AllST.cons tS (AllST.cons tS AllST.nil))) (AllST.cons tI AllST.nil))))) az) ?_)
 refine Goes.ret ?_
 obtain rfl:=si h
 exact(gw2 (kW c.1.Low c.1.High [.i c.2]) (FzW.tuple (qc.cons (FzW.agg (qc.cons (Ua tS) (qc.cons (Ua tS) qc.nil))) (qc.cons (Ua tI) qc.nil))))
def xH (N:Nat) (a:qo) (b:qo):Option qo:=
 ((jQ a).bind fun g=>
 if g=true then
 (jQ b).bind fun h=>
 some h
 else
 some false:Option Bool).bind fun i=>
 if i=true then
 (jF N a.Num b.Num).bind fun j=>
 (qb8 j).bind fun k=>
 some k
 else
 (qK N a.Num b.Den).bind fun l=>
 (qK N b.Num a.Den).bind fun c=>
 (jF N l c).bind fun d=>
 (qK N a.Den b.Den).bind fun e=>
 (qbd N d e).bind fun f=>
 some f
theorem qgI (N:Nat) (a:qo) (b:qo) {res:qo} (h:xH N a b=some res):qb ZT (.fn 76) [.agg (nq1 a),.agg (nq1 b)] [] (.agg (nq1 res)) []:=by
 unfold xH at h
 refine Ub Tryz.func76 rfl rfl (m:=34) rfl (rs:=[.cell 4 100]) rfl (l:=[(0,.agg (nq1 a)),(1,.agg (nq1 b))]) rfl ?_
 refine sg fol (kF []) (.cells (nq1 a):: .cells (nq1 b)::(kH [])) ?_
 refine sq ?_
 refine sq ?_
 obtain⟨w,c,h⟩:=bnd h
 refine Goes.cut (s':=(ofG 34 (kF [(10,.bool w)]),(.cells (nq1 a):: .cells (nq1 b)::(kH [])))) ?_ ?_
 ·obtain⟨B,e,c⟩:=bnd c
  rcases wyB c with⟨s,c⟩|⟨s,c⟩
  ·obtain⟨x,k,c⟩:=bnd c
   obtain rfl:=si c
   exact tr fol [1,2,4] (kF [(10,.bool x)]) (ac (cv (yL a e)) (ac (gw s) (ac (cv (yL b k)) az)))
  obtain rfl:=si c
  exact tr fol [1,2] (kF [(10,.bool false)]) (ac (cv (yL a e)) (ac (gw s) az))
 refine ihB h (fun y h=>?_) (fun y h=>?_)
 ·obtain⟨z,o,h⟩:=bnd h
  obtain⟨r,p,h⟩:=bnd h
  refine sq (gq fol [4,5,6] (kAR []) [.cells (nq1 a),.cells (nq1 b),.cells (nq1 r)] (ac (cv (yY N a.Num b.Num o)) (ac (cv (qfJ z p)) (ac (hs (.run [2] (qw ZT 100 (.ptr 2 0) (.agg (nq1 r))) (.cells (nq1 a):: .cells (nq1 b)::(kH [])) .undef [.cells (nq1 a),.cells (nq1 b),.cells (nq1 r)] true) (kw (n:=4) (by kernel_rfl) rfl rfl rfl rfl (cac rfl (cac nvc (cac rfl (cac nvc can)))) rfl)) az))) ?_)
  refine Goes.ret ?_
  obtain rfl:=si h
  exact(gw2 [.agg (nq1 r)] (FzW.agg (qc.cons (Ua tI) (qc.cons (Ua (qA (qa .u64) _ (nl rfl))) (qc.cons (Ua tI) (qc.cons (Ua (qA (qa .u64) _ (nl rfl))) qc.nil))))))
 refine Goes.skip ?_
 obtain⟨A,q,h⟩:=bnd h
 obtain⟨t,f,h⟩:=bnd h
 obtain⟨u,g,h⟩:=bnd h
 obtain⟨v,i,h⟩:=bnd h
 obtain⟨d,j,h⟩:=bnd h
 refine sq (gq fol [4,9,10,15,16,17] (kAR []) [.cells (nq1 a),.cells (nq1 b),.cells (nq1 d)] (ac (cv (zW N a.Num b.Den q)) (ac (cv (zW N b.Num a.Den f)) (ac (cv (yY N A t g)) (ac (cv (zW N a.Den b.Den i)) (ac (cv (qcS N u v j)) (ac (hs (.run [2] (qw ZT 100 (.ptr 2 0) (.agg (nq1 d))) (.cells (nq1 a):: .cells (nq1 b)::(kH [])) .undef [.cells (nq1 a),.cells (nq1 b),.cells (nq1 d)] true) (kw (n:=4) (by kernel_rfl) rfl rfl rfl rfl (cac rfl (cac nvc (cac rfl (cac nvc can)))) rfl)) az)))))) ?_)
 refine Goes.ret ?_
 obtain rfl:=si h
 exact(gw2 [.agg (nq1 d)] (FzW.agg (qc.cons (Ua tI) (qc.cons (Ua (qA (qa .u64) _ (nl rfl))) (qc.cons (Ua tI) (qc.cons (Ua (qA (qa .u64) _ (nl rfl))) qc.nil))))))
def qG (N:Nat) (f:qo) (b:List qo):Nat->(List qo)->Int->Option (List qo)
 |0,_,_=>none
 |K+1,g,a=>
  if a<(b.length:Int)then
  (idx b a).bind fun c=>
  (xH N f c).bind fun d=>
  (app 64 g [d]).bind fun e=>
  qG N f b K e (w64 (a+1))
  else
  some g
def qI (N:Nat) (a:qC) (b:List qo):Nat->(List qo)->Int->Option (List qo)
 |0,_,_=>none
 |K+1,e,c=>
  if c<(b.length:Int)then
  (idx b c).bind fun f=>
  (xc N ([a.Low,a.High]:List Str)).bind fun g=>
  (qG N f g N e 0).bind fun d=>
  qI N a b K d (w64 (c+1))
  else
  some e
def yo (N:Nat) (a:qC) (c:qC):Option (qC×Int):=
 (xc N ([a.Low,a.High]:List Str)).bind fun g=>
 (qI N c g N ([]:List qo) 0).bind fun f=>
 (zO N f).bind fun d=>
 (zQ N f).bind fun e=>
 (qal N d e).bind fun b=>
 some (b.1,b.2)
theorem qez (N:Nat) (b:qC) (a:qC) {res:qC×Int} (h:yo N b a=some res):qb ZT (.fn 124) (kW b.Low b.High (kW a.Low a.High [.func (.func 76) [] []])) [] (.tuple (kW res.1.Low res.1.High [.i res.2])) []:=by
 unfold yo at h
 refine Ub Tryz.func124 rfl rfl (m:=51) rfl (rs:=[.cell 6 24,.tmp 7]) rfl (l:=(kAP b.Low b.High a.Low a.High [(2,.func (.func 76) [] [])])) rfl ?_
 refine sg fol ((2,.func (.func 76) [] [])::(kAH [])) (kD b.Low b.High a.Low a.High (kN [])) ?_
 refine sh fol ((2,.func (.func 76) [] [])::(kAH [(8,.nilslice)])) ?_
 refine sq ?_
 obtain⟨d,F,h⟩:=bnd h
 refine sq (gq fol [5] ((2,.func (.func 76) [] [])::(4,.ptr 1 0)::(6,.ptr 2 0)::(kAT d (d.length:Int))) (kD b.Low b.High a.Low a.High (kN (kBC b.Low b.High))) (ac (hs (.callF 197 [.slice 3 0 2 2 1] (kD b.Low b.High a.Low a.High (kN (kV b.Low b.High []))) [3] [vl encS ([b.Low,b.High]:List Str)] (vl qh d)) (yj (FzL.cons (Fz.lit rfl rfl (Ue (AllST.cons tS (AllST.cons tS AllST.nil)))) FzL.nil) (qbk N ([b.Low,b.High]:List Str) F) (qy qh _ (nl rfl)))) az) ?_)
 refine Goes.sub (show Sub (ofG 51 ((2,.func (.func 76) [] [])::(4,.ptr 1 0)::(6,.ptr 2 0)::(kAT d (d.length:Int))),(kD b.Low b.High a.Low a.High (kN (kBC b.Low b.High)))) (ofG 51 ((2,.func (.func 76) [] [])::(kX ((6,.ptr 1 0)::(kAT d (d.length:Int))))),(kV a.Low a.High (kN [])))from(Sub.norm [] [some 1,some 2] rfl rfl (.keep (.same (qD.func sn sn)) (.kp (.kp (.keep (.same (qD.nilslice)) (.keep (.same (qf qh _)) (.keep (.same nI) (.keep (.same nI) .nil))))))) (.kb rfl (.same sn) (.kb rfl (.same sn) .nil)))) ?_
 refine Goes.block ?_
 obtain⟨L,g5,h⟩:=bnd h
 refine Goes.imp (Q:=fun x s'=>(x= .exit 0/\ ∃t,t=L/\Sub s' (ofG 51 [(6,.ptr 0 0),(8,.gslice 1 t.length 4)],(kN (kAB t))))) ?_ ?_
 ·refine Goes.sub (s':=(ofG 51 ((2,.func (.func 76) [] [])::(kX [(6,.ptr 1 0),(8,.gslice 2 ([]:List qo).length 4),(18,vl qh d),(19,.i (d.length:Int)),(20,.i 0)])),(kV a.Low a.High (kN [.cells (([]:List qo).flatMap qh.c)])))) (Sub.norm [] [some 0,some 1,none] rfl rfl (.keep (.same (qD.func sn sn)) (.kp (.kp (.keep .nil (.keep (.same (qf qh _)) (.keep (.same nI) (.keep (.same nI) .nil))))))) (.kb rfl (.same sn) (.kb rfl (.same sn) (.fresh .nil)))) ?_
  refine Uc (fun M s=> ∃(o:List qo) (j:Int),s=(ofG 51 ((2,.func (.func 76) [] [])::(kQ o d (d.length:Int) j [])),(kE a.Low a.High o []))/\qI N a d M o j=some L) ?_ (m:=N) ⟨_,_,rfl,g5⟩
  rintro M s ⟨o,j,rfl,g5⟩
  cases M with
  |zero=>simp only[qI]at g5;cases g5
  |succ M=>
   rw[qI]at g5
   refine sh fol ((2,.func (.func 76) [] [])::(kQ o d (d.length:Int) j [(21,.bool (decide (j<(d.length:Int))))])) ?_
   refine sq ?_
   refine ihD g5 (fun O g5=>?_) (fun O g5=>?_)
   ·refine Goes.skip ?_
    refine sq (Goes.block ?_)
    obtain⟨k,y,g5⟩:=bnd g5
    refine sq (gq fol [0,1,3] ((2,.func (.func 76) [] [])::(kX (kAv o [(18,vl qh d),(19,.i (d.length:Int)),(20,.i j)]))) (kE a.Low a.High o [.cells (nq1 k)]) (ac (iv qcQ qh y) (ac (la qfc qh y) (ac (hs (.run [3] (qw ZT 100 (.ptr 3 0) (.agg (nq1 k))) (kE a.Low a.High o (kH [])) .undef (kE a.Low a.High o [.cells (nq1 k)]) true) (kw (n:=4) (by kernel_rfl) rfl rfl rfl rfl (cac rfl (cac nvc (cac rfl (cac nvc can)))) rfl)) az))) ?_)
    obtain⟨f,G,g5⟩:=bnd g5
    refine sq (gq fol [5] ((2,.func (.func 76) [] [])::(kK o d (d.length:Int) j f (f.length:Int) [(31,.i 0)])) (kE a.Low a.High o (.cells (nq1 k)::(kBC a.Low a.High))) (ac (hs (.callF 197 [.slice 4 0 2 2 1] (kE a.Low a.High o (.cells (nq1 k)::(kV a.Low a.High []))) [4] [vl encS ([a.Low,a.High]:List Str)] (vl qh f)) (yj (FzL.cons (Fz.lit rfl rfl (Ue (AllST.cons tS (AllST.cons tS AllST.nil)))) FzL.nil) (qbk N ([a.Low,a.High]:List Str) G) (qy qh _ (nl rfl)))) az) ?_)
    refine Goes.sub (show Sub (ofG 51 ((2,.func (.func 76) [] [])::(kK o d (d.length:Int) j f (f.length:Int) [(31,.i 0)])),(kE a.Low a.High o (.cells (nq1 k)::(kBC a.Low a.High)))) (ofG 51 ((2,.func (.func 76) [] [])::(kK o d (d.length:Int) j f (f.length:Int) [(31,.i 0)])),(kE a.Low a.High o [.cells (nq1 k)]))from(Sub.norm [] [some 0,some 1,some 2,some 3] rfl rfl (.keep (.same (qD.func sn sn)) (.kp (.kp (.keep (.gslice rfl) (.kp (.keep (.same (qf qh _)) (.keep (.same nI) (.keep (.same nI) (.keep (.same (qf qh _)) (.keep (.same nI) (.keep (.same nI) .nil))))))))))) (.kb rfl (.same sn) (.kb rfl (.same sn) (.ks (.kb rfl (.same sn) .nil)))))) ?_
    refine Goes.block ?_
    obtain⟨H,g12,g5⟩:=bnd g5
    refine Goes.imp (Q:=fun x s'=>(x= .exit 2/\ ∃p,p=H/\Sub s' (ofG 51 ((2,.func (.func 76) [] [])::(kQ p d (d.length:Int) j [])),(kE a.Low a.High p [])))) ?_ ?_
    ·refine Uc (fun M s=> ∃(u:List qo) (g:Int),s=(ofG 51 ((2,.func (.func 76) [] [])::(kK u d (d.length:Int) j f (f.length:Int) [(31,.i g)])),(kE a.Low a.High u [.cells (nq1 k)]))/\qG N k f M u g=some H) ?_ (m:=N) ⟨_,_,rfl,g12⟩
     rintro M s ⟨u,g,rfl,g12⟩
     cases M with
     |zero=>simp only[qG]at g12;cases g12
     |succ M=>
      rw[qG]at g12
      refine sh fol ((2,.func (.func 76) [] [])::(kK u d (d.length:Int) j f (f.length:Int) [(31,.i g),(32,.bool (decide (g<(f.length:Int))))])) ?_
      refine sq ?_
      refine ihD g12 (fun K g12=>?_) (fun K g12=>?_)
      ·refine Goes.skip ?_
       refine sq (Goes.block ?_)
       obtain⟨q,v,g12⟩:=bnd g12
       refine sq (gq fol [0,1,3] ((2,.func (.func 76) [] [])::(kX (kAv u [(12,.ptr 4 0),(18,vl qh d),(19,.i (d.length:Int)),(20,.i j),(29,vl qh f),(30,.i (f.length:Int)),(31,.i g)]))) (kE a.Low a.High u [.cells (nq1 k),.cells (nq1 q)]) (ac (iv qcQ qh v) (ac (la qfc qh v) (ac (hs (.run [4] (qw ZT 100 (.ptr 4 0) (.agg (nq1 q))) (kE a.Low a.High u (.cells (nq1 k)::(kH []))) .undef (kE a.Low a.High u [.cells (nq1 k),.cells (nq1 q)]) true) (kw (n:=4) (by kernel_rfl) rfl rfl rfl rfl (cac rfl (cac nvc (cac rfl (cac nvc can)))) rfl)) az))) ?_)
       obtain⟨w,z,g12⟩:=bnd g12
       obtain⟨r,A,g12⟩:=bnd g12
       refine gq fol [4,6] ((2,.func (.func 76) [] [])::(kX (kAK r d (d.length:Int) j f (f.length:Int) g))) (kV a.Low a.High (kN (.dead:: .cells (nq1 k):: .cells (nq1 q):: .cells (nq1 w)::(kAB r)))) (ac (cv (qgI N k q z)) (ac (hs (.run [2,5] (yM ZT [169,169] (.gslice 2 u.length 4) (.slice 5 0 1 1 4)) (kE a.Low a.High u [.cells (nq1 k),.cells (nq1 q),.cells (nq1 w)]) (.gslice 6 r.length 4) (kV a.Low a.High (kN (.dead:: .cells (nq1 k):: .cells (nq1 q):: .cells (nq1 w)::(kAB r)))) true) (qbC qcQ (E:=qh) rfl (qfN (E:=qh) (ys:=[w]) rfl rfl rfl rfl) (qgC (E:=qh) (l:=u) rfl rfl rfl A rfl))) az)) ?_
       refine gh fol ((2,.func (.func 76) [] [])::(kX (kAK r d (d.length:Int) j f (f.length:Int) (w64 (g+1))))) ?_
       exact⟨M,(ofG 51 ((2,.func (.func 76) [] [])::(kK r d (d.length:Int) j f (f.length:Int) [(31,.i (w64 (g+1)))])),(kE a.Low a.High r [.cells (nq1 k)])),Nat.lt_succ_self _,(Sub.norm [] [some 0,some 1,some 6,some 3] rfl rfl (.keep (.same (qD.func sn sn)) (.kp (.kp (.keep (.gslice rfl) (.kp (.keep (.same (qf qh _)) (.keep (.same nI) (.keep (.same nI) (.keep (.same (qf qh _)) (.keep (.same nI) (.keep (.same nI) .nil))))))))))) (.kb rfl (.same sn) (.kb rfl (.same sn) (.ks (.kb rfl (.same sn) .nil))))),_,_,rfl,g12⟩
      refine Goes.exit ?_
      obtain rfl:=si g12
      exact⟨rfl,_,rfl,(Sub.norm [] [some 0,some 1,some 2] rfl rfl (.keep (.same (qD.func sn sn)) (.kp (.kp (.keep (.gslice rfl) (.drop (.keep (.same (qf qh _)) (.keep (.same nI) (.keep (.same nI) .nil)))))))) (.kb rfl (.same sn) (.kb rfl (.same sn) (.ks .nil))))⟩
    rintro x s' ⟨rfl,p,rfl,hsub⟩
    refine Goes.sub hsub ?_
    refine gh fol ((2,.func (.func 76) [] [])::(kQ p d (d.length:Int) (w64 (j+1)) [])) ?_
    exact⟨M,(ofG 51 ((2,.func (.func 76) [] [])::(kQ p d (d.length:Int) (w64 (j+1)) [])),(kE a.Low a.High p [])),Nat.lt_succ_self _,(Sub.refl _),_,_,rfl,g5⟩
   refine Goes.exit ?_
   obtain rfl:=si g5
   exact⟨rfl,_,rfl,(Sub.norm [] [some 1,some 2] rfl rfl (.drop (.drop (.kp (.keep (.gslice rfl) .nil)))) (.kb rfl (.same sn) (.ks .nil)))⟩
 rintro x s' ⟨rfl,t,rfl,hsub⟩
 refine Goes.sub hsub ?_
 obtain⟨I,B,h⟩:=bnd h
 obtain⟨J,C,h⟩:=bnd h
 obtain⟨e,D,h⟩:=bnd h
 refine sq (gq fol [1,3,4] (kBK e.2) (kV e.1.Low e.1.High (kA0 t)) (ac (hs (.callF 198 [.gslice 1 t.length 4,.func (.func 86) [] []] (kN (kAB t)) [1] [vl qh t,.func (.func 86) [] []] (.agg (nq1 I))) (yj (FzL.cons (Fz.gs (E:=qh) rfl rfl (nl rfl)) (FzL.cons (Fz.func FzL.nil FzL.nil) FzL.nil)) (qaH N t B) (Still.agg (AllST.cons tI (AllST.cons (qA (qa .u64) _ (nl rfl)) (AllST.cons tI (AllST.cons (qA (qa .u64) _ (nl rfl)) AllST.nil))))))) (ac (hs (.callF 199 [.gslice 1 t.length 4,.func (.func 86) [] []] (kN (kA0 t)) [1] [vl qh t,.func (.func 86) [] []] (.agg (nq1 J))) (yj (FzL.cons (Fz.gsF (E:=qh) rfl rfl (nl rfl)) (FzL.cons (Fz.func FzL.nil FzL.nil) FzL.nil)) (qaG N t C) (Still.agg (AllST.cons tI (AllST.cons (qA (qa .u64) _ (nl rfl)) (AllST.cons tI (AllST.cons (qA (qa .u64) _ (nl rfl)) AllST.nil))))))) (ac (cv (qcw N I J D)) az))) ?_)
 refine Goes.sub (show Sub (ofG 51 (kBK e.2),(kV e.1.Low e.1.High (kA0 t))) (ofG 51 (kBK e.2),(kV e.1.Low e.1.High []))from(Sub.norm [] [some 0] rfl rfl (.kp (.keep (.same nI) .nil)) (.kb rfl (.same sn) .nil))) ?_
 refine Goes.ret ?_
 obtain rfl:=si h
 exact(gw2 (kW e.1.Low e.1.High [.i e.2]) (FzW.tuple (qc.cons (FzW.agg (qc.cons (Ua tS) (qc.cons (Ua tS) qc.nil))) (qc.cons (Ua tI) qc.nil))))
def vO (N:Nat) (a:qC) (b:qC):Option (qC×Int):=
 (zt N a).bind fun e=>
 (zt N b).bind fun f=>
 (jV N ([e,f]:List Int)).bind fun c=>
 if(!decide (c=0))=true then
 some ((⟨[],[]⟩:qC),c)
 else
 (yo N a b).bind fun d=>
 some (d.1,d.2)
theorem qcA (N:Nat) (a:qC) (b:qC) {res:qC×Int} (h:vO N a b=some res):qb ZT (.fn 74) (kW a.Low a.High (kW b.Low b.High [.func (.func 76) [] []])) [] (.tuple (kW res.1.Low res.1.High [.i res.2])) []:=by
 unfold vO at h
 refine Ub Tryz.func74 rfl rfl (m:=25) rfl (rs:=[.cell 6 24,.tmp 7]) rfl (l:=(kAP a.Low a.High b.Low b.High [(2,.func (.func 76) [] [])])) rfl ?_
 refine sg fol ((2,.func (.func 76) [] [])::(kAH [])) (kD a.Low a.High b.Low b.High (kN [])) ?_
 refine sq ?_
 obtain⟨e,f,h⟩:=bnd h
 obtain⟨g,j,h⟩:=bnd h
 obtain⟨d,k,h⟩:=bnd h
 refine sq (gq fol [1,3,5] ((2,.func (.func 76) [] [])::(kAH [(8,.i d)])) (kD a.Low a.High b.Low b.High (kN (kA3 e g))) (ac (cv (yK N a f)) (ac (cv (yK N b j)) (ac (hs (.call 79 [.slice 3 0 2 2 1] (kD a.Low a.High b.Low b.High (kN (kA3 e g))) [3] [vl encI ([e,g]:List Int)] (.i d)) (qey (FzL.cons (Fz.lit rfl rfl (Ue (AllST.cons tI (AllST.cons tI AllST.nil)))) FzL.nil) (qaO N ([e,g]:List Int) k) tI rfl)) az))) ?_)
 refine sh fol ((2,.func (.func 76) [] [])::(kAH [(8,.i d),(16,.bool (!decide (d=0)))])) ?_
 refine ihB h (fun o h=>?_) (fun o h=>?_)
 ·refine sh fol [(6,.ptr 2 0),(7,.i d)] ?_
  refine Goes.ret ?_
  obtain rfl:=si h
  exact(gw2 [.agg [.str [],.str []],.i d] (FzW.tuple (qc.cons (FzW.agg (qc.cons (Ua tS) (qc.cons (Ua tS) qc.nil))) (qc.cons (Ua tI) qc.nil))))
 refine Goes.skip ?_
 obtain⟨c,n,h⟩:=bnd h
 refine sq (gq fol [3] [(6,.ptr 2 0),(7,.i c.2)] (kD a.Low a.High b.Low b.High (kV c.1.Low c.1.High (kA3 e g))) (ac (hs (.call 124 (kW a.Low a.High (kW b.Low b.High [.func (.func 76) [] []])) [] [] (kW a.Low a.High (kW b.Low b.High [.func (.func 76) [] []])) (.tuple (kW c.1.Low c.1.High [.i c.2]))) (qjn (FzL.cons (Uh (Still.agg (AllST.cons tS (AllST.cons tS AllST.nil)))) (FzL.cons (Uh (Still.agg (AllST.cons tS (AllST.cons tS AllST.nil)))) (FzL.cons (Fz.func FzL.nil FzL.nil) FzL.nil))) (qez N a b n) (Still.tuple (AllST.cons (Still.agg (AllST.cons tS (AllST.cons tS AllST.nil))) (AllST.cons tI AllST.nil))))) az) ?_)
 refine Goes.ret ?_
 obtain rfl:=si h
 exact(gw2 (kW c.1.Low c.1.High [.i c.2]) (FzW.tuple (qc.cons (FzW.agg (qc.cons (Ua tS) (qc.cons (Ua tS) qc.nil))) (qc.cons (Ua tI) qc.nil))))
def qa0 (N:Nat) (a:qC) (b:qC):Option (qC×Int):=
 (vO N a b).bind fun c=>
 some (c.1,c.2)
theorem qec (N:Nat) (a:qC) (b:qC) {res:qC×Int} (h:qa0 N a b=some res):qb ZT (.fn 20) (kW a.Low a.High (kW b.Low b.High [])) [] (.tuple (kW res.1.Low res.1.High [.i res.2])) []:=by
 unfold qa0 at h
 refine Ub Tryz.func20 rfl rfl (m:=11) rfl (rs:=[.cell 4 24,.tmp 5]) rfl (l:=(kAP a.Low a.High b.Low b.High [])) rfl ?_
 refine sg fol (kF []) (kD a.Low a.High b.Low b.High (kN [])) ?_
 obtain⟨c,d,h⟩:=bnd h
 refine sq (gq fol [2] (kAR (kA6 c.2)) (kD a.Low a.High b.Low b.High (kV c.1.Low c.1.High [])) (ac (hs (.call 74 (kW a.Low a.High (kW b.Low b.High [.func (.func 76) [] []])) [] [] (kW a.Low a.High (kW b.Low b.High [.func (.func 76) [] []])) (.tuple (kW c.1.Low c.1.High [.i c.2]))) (qjn (FzL.cons (Uh (Still.agg (AllST.cons tS (AllST.cons tS AllST.nil)))) (FzL.cons (Uh (Still.agg (AllST.cons tS (AllST.cons tS AllST.nil)))) (FzL.cons (Fz.func FzL.nil FzL.nil) FzL.nil))) (qcA N a b d) (Still.tuple (AllST.cons (Still.agg (AllST.cons tS (AllST.cons tS AllST.nil))) (AllST.cons tI AllST.nil))))) az) ?_)
 refine Goes.ret ?_
 obtain rfl:=si h
 exact(gw2 (kW c.1.Low c.1.High [.i c.2]) (FzW.tuple (qc.cons (FzW.agg (qc.cons (Ua tS) (qc.cons (Ua tS) qc.nil))) (qc.cons (Ua tI) qc.nil))))
end Go.Av
