/-
  Walks of functions: what each computes, as a plain function.
-/
import Derived.Test.YtbjpmhdicbgjkaaGreatDoorQGenE5
noncomputable section
namespace Go.Av
open Go.Proofs Go.RowKit
set_option linter.unusedSectionVars false
set_option linter.unusedVariables false
set_option linter.unusedSimpArgs false
set_option maxRecDepth 100000
def qdB (N:Nat) (a:Str) (b:Str):Option Str:=
 (qaG N a b).bind fun c=>
 if c>=0 then
 some a
 else
 some b
theorem qjr (N:Nat) (a:Str) (b:Str) {res:Str} (h:qdB N a b=some res):qb ZT (.fn 180) (kAR a b) [] (.str res) []:=by
 unfold qdB at h
 refine Ub Tryz.func180 rfl rfl (m:=11) rfl (rs:=[.tmp 4]) rfl (l:=(kJ a b [])) rfl ?_
 refine sh fol (kJ a b []) ?_
 refine sq ?_
 obtain⟨d,c,h⟩:=bnd h
 refine sq (gr fol [2] (kJ a b (kAz (decide (d>=0)))) (ac (cv (qaL N a b c)) az) ?_)
 refine ihD h (fun e h=>?_) (fun e h=>?_)
 ·refine sh fol (kBb a) ?_
  refine Goes.ret ?_
  obtain rfl:=si h
  exact(gw2 [.str a] (Ua tS))
 refine Goes.skip ?_
 refine sh fol (kBb b) ?_
 refine Goes.ret ?_
 obtain rfl:=si h
 exact(gw2 [.str b] (Ua tS))
def yY (N:Nat) (l:List Str):Nat->Str->Str->Int->Option (Str×Str)
 |0,_,_,_=>none
 |K+1,d,e,a=>
  if a<(l.length:Int)then
  (idx l a).bind fun f=>
  (qdp N d f).bind fun b=>
  (qdB N e f).bind fun c=>
  yY N l K b c (w64 (a+1))
  else
  some (d,e)
def qbz (N:Nat) (l:List Str):Option qo:=
 (idx l 0).bind fun a=>
 (yY N l N a a 1).bind fun(b,c)=>
 some (⟨b,c⟩:qo)
theorem qfe (N:Nat) (l:List Str) {res:qo} (h:qbz N l=some res):qb ZT (.fn 123) [vl encS l] [] (.agg (kAR res.Low res.High)) []:=by
 unfold qbz at h
 refine Ub Tryz.func123 rfl rfl (m:=35) rfl (rs:=[.cell 2 44]) rfl (l:=(kBp l [])) rfl ?_
 refine sg fol (kBp l (kAM [])) (kN []) ?_
 obtain⟨p,a,h⟩:=bnd h
 refine sq (gq fol [1,2,4,5] (kBp l (kR [])) (kN [.cells [.str p,.str p]]) (ac (iv qjW encS a) (ac (lv 0 qj6 encS a rfl) (ac (iv qjW encS a) (ac (lv 0 qj6 encS a rfl) az)))) ?_)
 refine sq ?_
 refine sh fol (kBp l (kR [(4,.i 1)])) ?_
 refine Goes.block ?_
 obtain⟨q,g7,h⟩:=bnd h
 refine Goes.imp (Q:=fun x s'=>(x= .exit 0/\ ∃f g,(f,g)=q/\Sub s' (ofG 35 (kR []),(kN (kB f g []))))) ?_ ?_
 ·refine Uc (fun M s=> ∃(n:Str) (o:Str) (c:Int),s=(ofG 35 (kBp l (kR (kB7 c))),(kN (kB n o [])))/\yY N l M n o c=some q) ?_ (m:=N) ⟨_,_,_,rfl,g7⟩
  rintro M s ⟨n,o,c,rfl,g7⟩
  cases M with
  |zero=>simp only[yY]at g7;cases g7
  |succ M=>
   rw[yY]at g7
   refine sq ?_
   refine sh fol (kBp l (kR ((4,.i c)::(kBa (decide (c<(l.length:Int))))))) ?_
   refine ihD g7 (fun t g7=>?_) (fun t g7=>?_)
   ·refine Goes.skip ?_
    refine sq (Goes.block ?_)
    obtain⟨r,b,g7⟩:=bnd g7
    obtain⟨j,d,g7⟩:=bnd g7
    obtain⟨k,e,g7⟩:=bnd g7
    refine gq fol [4,5,6,11,12,13] (kBp l (kR (kB7 c))) (kN (kB j k [])) (ac (iv qjW encS b) (ac (lv 0 qj6 encS b rfl) (ac (cv (qjn N n r d)) (ac (iv qjW encS b) (ac (lv 0 qj6 encS b rfl) (ac (cv (qjr N o r e)) az)))))) ?_
    refine gh fol (kBp l (kR (kB7 (w64 (c+1))))) ?_
    exact⟨M,(ofG 35 (kBp l (kR (kB7 (w64 (c+1))))),(kN (kB j k []))),Nat.lt_succ_self _,(Sub.refl _),_,_,_,rfl,g7⟩
   refine Goes.exit ?_
   obtain rfl:=si g7
   exact⟨rfl,_,_,rfl,(Sub.keep [2,3] rfl rfl)⟩
 rintro x s' ⟨rfl,f,g,rfl,hsub⟩
 try dsimp only at h
 refine Goes.sub hsub ?_
 refine sg fol (kAM []) (kB f g (kB f g [])) ?_
 refine Goes.ret ?_
 obtain rfl:=si h
 exact(gw2 [.agg (kAR f g)] (FzW.agg (qc.cons (Ua tS) (qc.cons (Ua tS) qc.nil))))
def qbO (N:Nat) (a:qo) (b:qo):Option qo:=
 (qaM N a.Low b.Low).bind fun c=>
 (qaM N a.Low b.High).bind fun d=>
 (qaM N a.High b.Low).bind fun e=>
 (qaM N a.High b.High).bind fun f=>
 (qbz N ([c,d,e,f]:List Str)).bind fun g=>
 some g
theorem qhD (N:Nat) (a:qo) (b:qo) {res:qo} (h:qbO N a b=some res):qb ZT (.fn 45) (kS a.Low a.High (kS b.Low b.High [])) [] (.agg (kAR res.Low res.High)) []:=by
 unfold qbO at h
 refine Ub Tryz.func45 rfl rfl (m:=27) rfl (rs:=[.cell 4 44]) rfl (l:=(kAC a.Low a.High b.Low b.High [])) rfl ?_
 refine sg fol (kH []) (kB a.Low a.High (kB b.Low b.High (kN []))) ?_
 obtain⟨j,d,h⟩:=bnd h
 obtain⟨k,e,h⟩:=bnd h
 obtain⟨n,f,h⟩:=bnd h
 obtain⟨o,g,h⟩:=bnd h
 obtain⟨c,i,h⟩:=bnd h
 refine sq (gq fol [4,9,14,19,21] (kAU []) (kB a.Low a.High (kB b.Low b.High (kB c.Low c.High (kB1 j k n o)))) (ac (cv (qbl N a.Low b.Low d)) (ac (cv (qbl N a.Low b.High e)) (ac (cv (qbl N a.High b.Low f)) (ac (cv (qbl N a.High b.High g)) (ac (hs (.call 123 [.slice 3 0 4 4 1] (kB a.Low a.High (kB b.Low b.High (kN (kB1 j k n o)))) [3] [vl encS ([j,k,n,o]:List Str)] (.agg (kAR c.Low c.High))) (qbk (FzL.cons (Fz.lit rfl rfl (Ud (AllST.cons tS (AllST.cons tS (AllST.cons tS (AllST.cons tS AllST.nil)))))) FzL.nil) (qfe N ([j,k,n,o]:List Str) i) (Still.agg (AllST.cons tS (AllST.cons tS AllST.nil))) rfl)) az))))) ?_)
 refine Goes.ret ?_
 obtain rfl:=si h
 exact(gw2 [.agg (kAR c.Low c.High)] (FzW.agg (qc.cons (Ua tS) (qc.cons (Ua tS) qc.nil))))
def qck (N:Nat) (a:qo) (b:Str):Option Bool:=
 ((qaG N a.Low b).bind fun c=>
 if c<=0 then
 (qaG N b a.High).bind fun d=>
 some (decide (d<=0))
 else
 some false:Option Bool).bind fun e=>
 some e
theorem qjY (N:Nat) (b:qo) (d:Str) {res:Bool} (h:qck N b d=some res):qb ZT (.fn 46) (kS b.Low b.High [.str d]) [] (.bool res) []:=by
 unfold qck at h
 refine Ub Tryz.func46 rfl rfl (m:=17) rfl (rs:=[.tmp 4]) rfl (l:=[(0,.agg [.str b.Low,.str b.High]),(1,.str d)]) rfl ?_
 refine sg fol ((1,.str d)::(kAM [])) (kB b.Low b.High []) ?_
 refine sq ?_
 obtain⟨g,a,h⟩:=bnd h
 refine Goes.cut (s':=(ofG 17 (kAl g),(kB b.Low b.High []))) ?_ ?_
 ·obtain⟨j,c,a⟩:=bnd a
  rcases wyD a with⟨f,a⟩|⟨f,a⟩
  ·obtain⟨i,e,a⟩:=bnd a
   obtain rfl:=si a
   exact tr fol [3,5,9] (kAl (decide (i<=0))) (ac (cv (qaL N b.Low d c)) (ac (gw f) (ac (cv (qaL N d b.High e)) az)))
  obtain rfl:=si a
  exact tr fol [3,5] kAT (ac (cv (qaL N b.Low d c)) (ac (gw f) az))
 refine Goes.ret ?_
 obtain rfl:=si h
 exact(gw2 [.bool g] (Ua tB))
def qcE (N:Nat) (a:qo) (b:qo):Option qo:=
 (qa5 N a.Low b.Low).bind fun c=>
 (qa5 N a.Low b.High).bind fun d=>
 (qa5 N a.High b.Low).bind fun e=>
 (qa5 N a.High b.High).bind fun f=>
 (qbz N ([c,d,e,f]:List Str)).bind fun g=>
 some g
theorem qiD (N:Nat) (a:qo) (b:qo) {res:qo} (h:qcE N a b=some res):qb ZT (.fn 47) (kS a.Low a.High (kS b.Low b.High [])) [] (.agg (kAR res.Low res.High)) []:=by
 unfold qcE at h
 refine Ub Tryz.func47 rfl rfl (m:=27) rfl (rs:=[.cell 4 44]) rfl (l:=(kAC a.Low a.High b.Low b.High [])) rfl ?_
 refine sg fol (kH []) (kB a.Low a.High (kB b.Low b.High (kN []))) ?_
 obtain⟨j,d,h⟩:=bnd h
 obtain⟨k,e,h⟩:=bnd h
 obtain⟨n,f,h⟩:=bnd h
 obtain⟨o,g,h⟩:=bnd h
 obtain⟨c,i,h⟩:=bnd h
 refine sq (gq fol [4,9,14,19,21] (kAU []) (kB a.Low a.High (kB b.Low b.High (kB c.Low c.High (kB1 j k n o)))) (ac (cv (qce N a.Low b.Low d)) (ac (cv (qce N a.Low b.High e)) (ac (cv (qce N a.High b.Low f)) (ac (cv (qce N a.High b.High g)) (ac (hs (.call 123 [.slice 3 0 4 4 1] (kB a.Low a.High (kB b.Low b.High (kN (kB1 j k n o)))) [3] [vl encS ([j,k,n,o]:List Str)] (.agg (kAR c.Low c.High))) (qbk (FzL.cons (Fz.lit rfl rfl (Ud (AllST.cons tS (AllST.cons tS (AllST.cons tS (AllST.cons tS AllST.nil)))))) FzL.nil) (qfe N ([j,k,n,o]:List Str) i) (Still.agg (AllST.cons tS (AllST.cons tS AllST.nil))) rfl)) az))))) ?_)
 refine Goes.ret ?_
 obtain rfl:=si h
 exact(gw2 [.agg (kAR c.Low c.High)] (FzW.agg (qc.cons (Ua tS) (qc.cons (Ua tS) qc.nil))))
def qeQ (N:Nat) (a:qo) (b:qo):Option (Int×Int):=
 (qD N a).bind fun i=>
 (qD N b).bind fun j=>
 (zR N ([i,j]:List Int)).bind fun h=>
 if(!decide (h=0))=true then
 some (0,h)
 else
 (if((a.Low==b.Low)&&((a.High==b.High)&&true))=true then
 some (a.Low==a.High)
 else
 some false:Option Bool).bind fun k=>
 if k=true then
 some (0,0)
 else
 (yw N a.High).bind fun l=>
 (yw N b.Low).bind fun c=>
 (jd N l c).bind fun d=>
 if d<0 then
 some ((-1),0)
 else
 (yw N b.High).bind fun e=>
 (yw N a.Low).bind fun f=>
 (jd N e f).bind fun g=>
 if g<0 then
 some (1,0)
 else
 some (0,24)
end Go.Av
