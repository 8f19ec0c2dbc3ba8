/-
  Walks of functions: what each computes, as a plain function.
-/
import Derived.Test.YtojjlmnhhgebhaaGreatDoorQGenBu3
noncomputable section
namespace Go.Av
open Go.Proofs Go.RowKit
set_option linter.unusedSectionVars false
set_option linter.unusedVariables false
set_option linter.unusedSimpArgs false
set_option maxRecDepth 100000
def qO (N:Nat) (a:List (List qj)):Nat->Int->Option (Unit⊕Int)
 |0,_=>none
 |K+1,b=>
  if b<(a.length:Int)then
  (idx a b).bind fun c=>
  (qar N c).bind fun d=>
  if d=true then
  some (.inr b)
  else
  qO N a K (w64 (b+1))
  else
  some (.inl ())
def jS (N:Nat) (a:List (List qj)):Option Int:=
 (qO N a N 0).bind (fun
 |(.inl ())=>
 some (-1)
 |(.inr b)=>
 some b)
theorem qcc (N:Nat) (a:List (List qj)) {res:Int} (h:jS N a=some res):qc ZT (.fn 105) [vl (qE qb) a,.func (.func 43) [] []] [] (.i res) []:=by
 unfold jS at h;refine Ub Tryz.func105 rfl rfl (m:=19) rfl (rs:=[.tmp 4]) rfl (l:=[(0,vl (qE qb) a),(1,.func (.func 43) [] [])]) rfl ?_;refine sh fol [(0,vl (qE qb) a),(1,.func (.func 43) [] [])] ?_;refine sq ?_;refine sh fol [(0,vl (qE qb) a),(1,.func (.func 43) [] []),(7,.i (a.length:Int)),(8,.i 0)] ?_;refine Goes.block ?_;obtain⟨e,g2,h⟩:=bnd h;refine Goes.imp (Q:=fun x s'=>(x= .exit 0/\(.inl ())=e/\Sub s' (ofG 19 [],[]))\/(x= .ret/\ ∃f,(.inr f)=e/\zJ ZT [.tmp 4] (.i f) .ret s')) ?_ ?_
 ·refine Ud (fun M s=> ∃(b:Int),s=(ofG 19 ((0,vl (qE qb) a)::(1,.func (.func 43) [] [])::(kAI (a.length:Int) b)),[])/\qO N a M b=some e) ?_ (m:=N) ⟨_,rfl,g2⟩;rintro M s ⟨b,rfl,g2⟩
  cases M with
  |zero=>simp only[qO]at g2;cases g2
  |succ M=>
   rw[qO]at g2;refine sh fol [(0,vl (qE qb) a),(1,.func (.func 43) [] []),(7,.i (a.length:Int)),(8,.i b),(9,.bool (decide (b<(a.length:Int))))] ?_;refine sq ?_;refine ihD g2 (fun g g2=>?_) (fun g g2=>?_)
   ·refine Goes.skip ?_;refine sq (Goes.block ?_);refine sh fol ((0,vl (qE qb) a)::(1,.func (.func 43) [] [])::(5,.i b)::(kAI (a.length:Int) b)) ?_;obtain⟨j,c,g2⟩:=bnd g2;obtain⟨k,d,g2⟩:=bnd g2;refine sq (gr fol [3,4,5] [(0,vl (qE qb) a),(1,.func (.func 43) [] []),(5,.i b),(7,.i (a.length:Int)),(8,.i b),(16,.bool k)] (ac (iv qm5 (qE qb) c) (ac (lv 0 ce84 (qE qb) c rfl) (ac (cv (qgd N j d)) az))) ?_);refine ihB g2 (fun n g2=>?_) (fun n g2=>?_)
    ·refine sh fol (kBN b) ?_;refine Goes.ret ?_;obtain rfl:=si g2;exact Or.inr (⟨rfl,_,rfl,(gw2 [.i b] (Ua tI))⟩)
    refine Goes.skip ?_;refine gh fol ((0,vl (qE qb) a)::(1,.func (.func 43) [] [])::(kAI (a.length:Int) (w64 (b+1)))) ?_;exact⟨M,(ofG 19 ((0,vl (qE qb) a)::(1,.func (.func 43) [] [])::(kAI (a.length:Int) (w64 (b+1)))),[]),Nat.lt_succ_self _,(Sub.refl _),_,rfl,g2⟩
   refine Goes.exit ?_;obtain rfl:=si g2;exact Or.inl (⟨rfl,rfl,(Sub.keep [] rfl rfl)⟩)
 rintro x s' (⟨rfl,rfl,hsub⟩|⟨rfl,o,rfl,hret⟩)
 ·try dsimp only at h
  refine Goes.sub hsub ?_;refine sh fol kBF ?_;refine Goes.ret ?_;obtain rfl:=si h;exact(gw2 [.i (-1)] (Ua tI))
 try dsimp only at h
 obtain rfl:=si h;exact hret
def zm (N:Nat) (a:List (List qj)):Option Bool:=
 (jS N a).bind fun b=>
 some (decide (b>=0))
theorem qbx (N:Nat) (a:List (List qj)) {res:Bool} (h:zm N a=some res):qc ZT (.fn 42) [vl (qE qb) a,.func (.func 43) [] []] [] (.bool res) []:=by
 unfold zm at h;refine Ub Tryz.func42 rfl rfl (m:=9) rfl (rs:=[.tmp 4]) rfl (l:=[(0,vl (qE qb) a),(1,.func (.func 43) [] [])]) rfl ?_;refine sh fol [(0,vl (qE qb) a),(1,.func (.func 43) [] [])] ?_;obtain⟨c,b,h⟩:=bnd h;refine sq (gr fol [2] (kAq (decide (c>=0))) (ac (hs (.call 105 [vl (qE qb) a,.func (.func 43) [] []] [] [] [vl (qE qb) a,.func (.func 43) [] []] (.i c)) (qfr (FzL.cons (Ug (qw (qE qb) _ (nl rfl))) (FzL.cons (Fz.func FzL.nil FzL.nil) FzL.nil)) (qcc N a b) tI)) az) ?_);refine Goes.ret ?_;obtain rfl:=si h;exact(gw2 [.bool (decide (c>=0))] (Ua tB))
def kz (N:Nat) (a:List (List qj)):Nat->(List (List Str))->Int->Option (List (List Str))
 |0,_,_=>none
 |K+1,c,b=>
  if b<(a.length:Int)then
  (idx a b).bind fun d=>
  (qde N d).bind fun e=>
  (app 24 c [e]).bind fun f=>
  kz N a K f (w64 (b+1))
  else
  some c
def vQ (N:Nat) (a:List (List qj)):Option (List (List Str)):=
 (kz N a N ([]:List (List Str)) 0).bind fun b=>
 some b
theorem qdw (N:Nat) (a:List (List qj)) {res:List (List Str)} (h:vQ N a=some res):qc ZT (.fn 46) [vl (qE qb) a,.func (.func 47) [] []] [] (vl (qE encS) res) []:=by
 unfold vQ at h;refine Ub Tryz.func46 rfl rfl (m:=22) rfl (rs:=[.tmp 4]) rfl (l:=[(0,vl (qE qb) a),(1,.func (.func 47) [] [])]) rfl ?_;refine sh fol [(0,vl (qE qb) a),(1,.func (.func 47) [] [])] ?_;refine sh fol [(0,vl (qE qb) a),(1,.func (.func 47) [] []),(5,.nilslice)] ?_;refine sq ?_;refine sh fol [(1,.func (.func 47) [] []),(5,.nilslice),(8,vl (qE qb) a),(9,.i (a.length:Int)),(10,.i 0)] ?_;refine Goes.block ?_;obtain⟨o,g4,h⟩:=bnd h;refine Goes.imp (Q:=fun x s'=>(x= .exit 0/\ ∃g,g=o/\Sub s' (ofG 22 (kAG g []),[.cells (g.flatMap (qE encS).c)]))) ?_ ?_
 ·refine Goes.sub (s':=(ofG 22 [(1,.func (.func 47) [] []),(5,.gslice 0 ([]:List (List Str)).length 1),(8,vl (qE qb) a),(9,.i (a.length:Int)),(10,.i 0)],[.cells (([]:List (List Str)).flatMap (qE encS).c)])) (Uc [] [none] rfl rfl (.keep (.same (qH.func sn sn)) (.keep .nil (.keep (.same (qg (qE qb) _)) (.keep (.same nI) (.keep (.same nI) .nil))))) (.fresh .nil)) ?_;refine Ud (fun M s=> ∃(b:List (List Str)) (d:Int),s=(ofG 22 ((1,.func (.func 47) [] [])::(kAG b [(8,vl (qE qb) a),(9,.i (a.length:Int)),(10,.i d)])),[.cells (b.flatMap (qE encS).c)])/\kz N a M b d=some o) ?_ (m:=N) ⟨_,_,rfl,g4⟩;rintro M s ⟨b,d,rfl,g4⟩
  cases M with
  |zero=>simp only[kz]at g4;cases g4
  |succ M=>
   rw[kz]at g4;refine sh fol ((1,.func (.func 47) [] [])::(kAG b [(8,vl (qE qb) a),(9,.i (a.length:Int)),(10,.i d),(11,.bool (decide (d<(a.length:Int))))])) ?_;refine sq ?_;refine ihD g4 (fun q g4=>?_) (fun q g4=>?_)
   ·refine Goes.skip ?_;refine sq (Goes.block ?_);obtain⟨p,e,g4⟩:=bnd g4;refine sq (gr fol [0,1] ((1,.func (.func 47) [] [])::(kAG b [(7,vl qb p),(8,vl (qE qb) a),(9,.i (a.length:Int)),(10,.i d)])) (ac (iv qm5 (qE qb) e) (ac (lv 0 ce84 (qE qb) e rfl) az)) ?_);obtain⟨n,j,g4⟩:=bnd g4;obtain⟨f,k,g4⟩:=bnd g4;refine gq fol [3,5] ((1,.func (.func 47) [] [])::(kBI f [(8,vl (qE qb) a),(9,.i (a.length:Int)),(10,.i d)])) [.dead,.cells [vl encS n],.cells (f.flatMap (qE encS).c)] (ac (cv (qjB N p j)) (ac (hs (.run [0,1] (yC ZT [29,29] (.gslice 0 b.length 1) (.slice 1 0 1 1 1)) [.cells (b.flatMap (qE encS).c),.cells [vl encS n]] (.gslice 2 f.length 1) [.dead,.cells [vl encS n],.cells (f.flatMap (qE encS).c)] true) (qbG qhD (E:=(qE encS)) rfl (qfn (E:=(qE encS)) (ys:=[n]) rfl rfl rfl rfl) (qgL (E:=(qE encS)) (l:=b) rfl rfl rfl k rfl))) az)) ?_;refine gh fol ((1,.func (.func 47) [] [])::(kBI f [(8,vl (qE qb) a),(9,.i (a.length:Int)),(10,.i (w64 (d+1)))])) ?_;exact⟨M,(ofG 22 ((1,.func (.func 47) [] [])::(kAG f [(8,vl (qE qb) a),(9,.i (a.length:Int)),(10,.i (w64 (d+1)))])),[.cells (f.flatMap (qE encS).c)]),Nat.lt_succ_self _,(Uc [] [some 2] rfl rfl (.keep (.same (qH.func sn sn)) (.keep (.gslice rfl) (.keep (.same (qg (qE qb) _)) (.keep (.same nI) (.keep (.same nI) .nil))))) (.ks .nil)),_,_,rfl,g4⟩
   refine Goes.exit ?_;obtain rfl:=si g4;exact⟨rfl,_,rfl,(Sub.keep [5] rfl rfl)⟩
 rintro x s' ⟨rfl,g,rfl,hsub⟩;refine Goes.sub hsub ?_;refine sh fol [(4,.gslice 0 g.length 1)] ?_;refine Goes.ret ?_;obtain rfl:=si h;exact(gw2 [.gslice 0 g.length 1] (FzW.fz (Fz.gs (E:=(qE encS)) rfl rfl (nl rfl))))
def qal (N:Nat) (n:Int) (w:List Int) (t:Str):Option ((List (List Str))×Int):=
 (xN N n w).bind fun d=>
 (qbj N t).bind fun e=>
 (jJ (t==[48]) 6).bind fun f=>
 (yP N ([d,e,f]:List Int)).bind fun b=>
 if(!decide (b=0))=true then
 some ([],b)
 else
 (qez N t).bind fun g=>
 (qbK N n w g).bind fun c=>
 (zm N c).bind fun h=>
 if h=true then
 some ([],4)
 else
 (vQ N c).bind fun a=>
 some (a,0)
theorem qhi (N:Nat) (n:Int) (w:List Int) (t:Str) {res:(List (List Str))×Int} (h:qal N n w t=some res):qc ZT (.fn 9) [.i n,vl encI w,.str t] [] (.tuple [vl (qE encS) res.1,.i res.2]) []:=by
 unfold qal at h;refine Ub Tryz.func9 rfl rfl (m:=32) rfl (rs:=[.tmp 6,.tmp 7]) rfl (l:=(kM n w t [])) rfl ?_;refine sh fol (kM n w t []) ?_;refine sq ?_;obtain⟨q,e,h⟩:=bnd h;obtain⟨r,f,h⟩:=bnd h;obtain⟨s,g,h⟩:=bnd h;obtain⟨d,j,h⟩:=bnd h;refine sq (gq fol [2,4,7,9] (kM n w t (kBH d)) [.cells [.i q,.i r,.i s]] (ac (cv (qft N n w e)) (ac (cv (qgW N t f)) (ac (cv (qaJ (t==[48]) 6 g)) (ac (hs (.call 36 [.slice 0 0 3 3 1] [.cells [.i q,.i r,.i s]] [0] [vl encI ([q,r,s]:List Int)] (.i d)) (qfG (FzL.cons (Fz.lit rfl rfl (Uj (AllST.cons tI (AllST.cons tI (AllST.cons tI AllST.nil))))) FzL.nil) (qep N ([q,r,s]:List Int) j) tI rfl)) az)))) ?_);refine sh fol (kM n w t [(8,.i d),(21,.bool (!decide (d=0)))]) ?_;refine ihB h (fun v h=>?_) (fun v h=>?_)
 ·refine sh fol [(6,.nilslice),(7,.i d)] ?_;refine Goes.ret ?_;obtain rfl:=si h;exact(gw2 [.nilslice,.i d] (FzW.tuple (qf.cons (FzW.nilv (E:=(qE encS))) (qf.cons (Ua tI) qf.nil))))
 refine Goes.skip ?_;obtain⟨x,k,h⟩:=bnd h;obtain⟨a,o,h⟩:=bnd h;refine sq (gr fol [3,4] [(9,vl (qE qb) a)] (ac (cv (qkQ N t k)) (ac (cv (qhz N n w x o)) az)) ?_);refine sq ?_;obtain⟨u,p,h⟩:=bnd h;refine sq (gr fol [1] [(9,vl (qE qb) a),(29,.bool u)] (ac (hs (.call 42 [vl (qE qb) a,.func (.func 43) [] []] [] [] [vl (qE qb) a,.func (.func 43) [] []] (.bool u)) (qfr (FzL.cons (Ug (qw (qE qb) _ (nl rfl))) (FzL.cons (Fz.func FzL.nil FzL.nil) FzL.nil)) (qbx N a p) tB)) az) ?_);refine ihB h (fun y h=>?_) (fun y h=>?_)
 ·refine sh fol [(6,.nilslice),(7,.i 4)] ?_;refine Goes.ret ?_;obtain rfl:=si h;exact(gw2 [.nilslice,.i 4] (FzW.tuple (qf.cons (FzW.nilv (E:=(qE encS))) (qf.cons (Ua tI) qf.nil))))
 refine Goes.skip ?_;obtain⟨b,c,h⟩:=bnd h;refine sq (gr fol [1] [(6,vl (qE encS) b),(7,.i 0)] (ac (hs (.call 46 [vl (qE qb) a,.func (.func 47) [] []] [] [] [vl (qE qb) a,.func (.func 47) [] []] (vl (qE encS) b)) (qfr (FzL.cons (Ug (qw (qE qb) _ (nl rfl))) (FzL.cons (Fz.func FzL.nil FzL.nil) FzL.nil)) (qdw N a c) (qw (qE encS) _ (nl rfl)))) az) ?_);refine Goes.ret ?_;obtain rfl:=si h;exact(gw2 [vl (qE encS) b,.i 0] (FzW.tuple (qf.cons (Ua (qw (qE encS) _ (nl rfl))) (qf.cons (Ua tI) qf.nil))))
def qcv (c:Int):Option Int:=
 some (if(w64 (0-c))>c then(w64 (0-c))else c)
theorem qiB (c:Int) {res:Int} (h:qcv c=some res):qc ZT (.fn 49) [.i c] [] (.i res) []:=by
 unfold qcv at h;refine Ub Tryz.func49 rfl rfl (m:=7) rfl (rs:=[.tmp 2]) rfl (l:=[(0,.i c)]) rfl ?_;refine sh fol [(0,.i c)] ?_;refine sh fol (kBA (if(w64 (0-c))>c then(w64 (0-c))else c)) ?_;refine Goes.ret ?_;obtain rfl:=si h;exact(gw2 [.i (if(w64 (0-c))>c then(w64 (0-c))else c)] (Ua tI))
def vE (N:Nat) (a:Str):Option (Int×Int×Bool):=
 if(a.length:Int)>20 then
 some (0,0,false)
 else
 (if(a.length:Int)>0 then
 (idx a 0).bind fun l=>
 some (decide ((l.toNat:Int)=45))
 else
 some false:Option Bool).bind fun k=>
 ((if k=true then
 (cut a 1 (a.length:Int)).bind fun m=>
 some m
 else
 some a:Option Str)).bind fun c=>
 (yR N c).bind fun b=>
 (if b>9 then
 some true
 else
 some (decide ((w64 ((c.length:Int)-b))>10)):Option Bool).bind fun e=>
 if e=true then
 some (0,0,false)
 else
 (cut c 0 b).bind fun f=>
 (xA N f).bind fun d=>
 ((if b<(c.length:Int)then
 (cut c (w64 (b+1)) (c.length:Int)).bind fun g=>
 (xA N g).bind fun h=>
 some h
 else
 some 1:Option Int)).bind fun i=>
 ((if k=true then
 some (w64 (0-d))
 else
 some d:Option Int)).bind fun j=>
 some (j,i,true)
theorem qa7 (N:Nat) (a:Str) {res:Int×Int×Bool} (h:vE N a=some res):qc ZT (.fn 109) [.str a] [] (.tuple [.i res.1,.i res.2.1,.bool res.2.2]) []:=by
 unfold vE at h;refine Ub Tryz.func109 rfl rfl (m:=54) rfl (rs:=[.tmp 2,.tmp 3,.tmp 4]) rfl (l:=(kAY a)) rfl ?_;refine sh fol (kAY a) ?_;refine sh fol [(5,.str a)] ?_;refine sq ?_;refine sh fol ((5,.str a)::(kBC (decide ((a.length:Int)>20)))) ?_;refine ihD h (fun I h=>?_) (fun I h=>?_)
 ·refine sh fol ((2,.i 0)::(3,.i 0)::kAm) ?_;refine Goes.ret ?_;obtain rfl:=si h;exact(gw2 [.i 0,.i 0,.bool false] (FzW.tuple (qf.cons (Ua tI) (qf.cons (Ua tI) (qf.cons (Ua tB) qf.nil)))))
 refine Goes.skip ?_;refine sq ?_;obtain⟨f,c,h⟩:=bnd h;refine Ue (s':=(ofG 54 (kAx a f []),[])) ?_ ?_
 ·rcases wyD c with⟨y,c⟩|⟨y,c⟩
  ·obtain⟨G,t,c⟩:=bnd c;obtain rfl:=si c;exact tr fol [3,5] (kAx a (decide ((G.toNat:Int)=45)) []) (ac (gw y) (ac (hs (.done (.opt (yF ZT 9 (.str a) (.i 0))) (.int .u8 (G.toNat:Int))) (qaF st9 t)) az))
  obtain rfl:=si c;exact tr fol [3] [(5,.str a),(6,.bool false)] (ac (gw y) az)
 refine sq ?_;refine sh fol (kAx a f [(22,.bool f)]) ?_;obtain⟨J,g7,h⟩:=bnd h;refine Goes.imp (Q:=fun x s'=>(x= .normal/\ ∃g,g=J/\Sub s' (ofG 54 (kAx g f []),[]))) ?_ ?_
 ·refine ihB g7 (fun K g7=>?_) (fun K g7=>?_)
  ·obtain⟨H,u,g7⟩:=bnd g7;refine gr fol [1] (kAx H f []) (ac (hs (.done (.opt (qK ZT 9 (.str a) (some (.i 1)) none none)) (.str H)) (ja st9 (some 1) none u)) az) ?_;obtain rfl:=si g7;exact⟨rfl,_,rfl,(Sub.refl _)⟩
  refine Goes.skip ?_;obtain rfl:=si g7;exact⟨rfl,_,rfl,(Sub.keep [5,6] rfl rfl)⟩
 rintro x s' ⟨rfl,g,rfl,hsub⟩;refine Goes.sub hsub ?_;obtain⟨b,n,h⟩:=bnd h;refine sq (gr fol [1] (kAx g f [(7,.i b)]) (ac (cv (qae N g n)) az) ?_);refine sq ?_;refine sq ?_;obtain⟨z,d,h⟩:=bnd h;refine Ue (s':=(ofG 54 (kAx g f [(7,.i b),(35,.bool z)]),[])) ?_ ?_
 ·rcases wyD d with⟨o,d⟩|⟨o,d⟩
  ·obtain rfl:=si d;exact tr fol [2] (kAx g f [(7,.i b),(35,.bool true)]) (ac (gw o) az)
  obtain rfl:=si d;exact tr fol [2] (kAx g f [(7,.i b),(35,.bool (decide ((w64 ((g.length:Int)-b))>10)))]) (ac (gw o) az)
 refine ihB h (fun A h=>?_) (fun A h=>?_)
 ·refine sh fol ((2,.i 0)::(3,.i 0)::kAm) ?_;refine Goes.ret ?_;obtain rfl:=si h;exact(gw2 [.i 0,.i 0,.bool false] (FzW.tuple (qf.cons (Ua tI) (qf.cons (Ua tI) (qf.cons (Ua tB) qf.nil)))))
 refine Goes.skip ?_;obtain⟨v,p,h⟩:=bnd h;obtain⟨j,q,h⟩:=bnd h;refine sq (gr fol [2,3] (kAx g f [(7,.i b),(8,.i j),(9,.i 1)]) (ac (hs (.done (.opt (qK ZT 9 (.str g) none (some (.i b)) none)) (.str v)) (ja st9 none (some b) p)) (ac (cv (qbn N v q)) az)) ?_);refine sq ?_;refine sh fol (kAx g f [(7,.i b),(8,.i j),(9,.i 1),(43,.bool (decide (b<(g.length:Int))))]) ?_;obtain⟨B,g18,h⟩:=bnd h;refine Goes.imp (Q:=fun x s'=>(x= .normal/\ ∃e,e=B/\Sub s' (ofG 54 ((6,.bool f)::(kAl j e [])),[]))) ?_ ?_
 ·refine ihD g18 (fun C g18=>?_) (fun C g18=>?_)
  ·obtain⟨w,r,g18⟩:=bnd g18;obtain⟨D,s,g18⟩:=bnd g18;refine gr fol [3,4] ((6,.bool f)::(kAl j D [])) (ac (hs (.done (.opt (qK ZT 9 (.str g) (some (.i (w64 (b+1)))) none none)) (.str w)) (ja st9 (some (w64 (b+1))) none r)) (ac (cv (qbn N w s)) az)) ?_;obtain rfl:=si g18;exact⟨rfl,_,rfl,(Sub.refl _)⟩
  refine Goes.skip ?_;obtain rfl:=si g18;exact⟨rfl,_,rfl,(Sub.keep [6,8,9] rfl rfl)⟩
 rintro x s' ⟨rfl,e,rfl,hsub⟩;refine Goes.sub hsub ?_;refine sq ?_;refine sh fol (kAl j e [(49,.bool f)]) ?_;obtain⟨E,g23,h⟩:=bnd h;refine Goes.imp (Q:=fun x s'=>(x= .normal/\ ∃k,k=E/\Sub s' (ofG 54 (kAl k e []),[]))) ?_ ?_
 ·refine ihB g23 (fun F g23=>?_) (fun F g23=>?_)
  ·refine gh fol (kAl (w64 (0-j)) e []) ?_;obtain rfl:=si g23;exact⟨rfl,_,rfl,(Sub.refl _)⟩
  refine Goes.skip ?_;obtain rfl:=si g23;exact⟨rfl,_,rfl,(Sub.keep [8,9] rfl rfl)⟩
 rintro x s' ⟨rfl,k,rfl,hsub⟩;refine Goes.sub hsub ?_;refine sh fol [(2,.i k),(3,.i e),(4,.bool true)] ?_;refine Goes.ret ?_;obtain rfl:=si h;exact(gw2 [.i k,.i e,.bool true] (FzW.tuple (qf.cons (Ua tI) (qf.cons (Ua tI) (qf.cons (Ua tB) qf.nil)))))
def xy (N:Nat) (a:qF):Option qF:=
 (zI N (!a.neg) a.w).bind fun b=>
 some b
theorem qey (N:Nat) (a:qF) {res:qF} (h:xy N a=some res):qc ZT (.fn 184) [.agg (kAa a.neg a.w)] [] (.agg (kAa res.neg res.w)) []:=by
 unfold xy at h;refine Ub Tryz.func184 rfl rfl (m:=9) rfl (rs:=[.cell 2 66]) rfl (l:=[(0,.agg [.bool a.neg,vl encI a.w])]) rfl ?_;refine sg fol (kAb []) (kAT a.neg a.w (kS [])) ?_;obtain⟨c,b,h⟩:=bnd h;refine sq (gq fol [5] kBM (kP a.neg a.w c.neg c.w []) (ac (cv (zW N (!a.neg) a.w b)) az) ?_);refine Goes.ret ?_;obtain rfl:=si h;exact(gw2 [.agg (kAa c.neg c.w)] (FzW.agg (qf.cons (Ua tB) (qf.cons (Ua (qw encI _ (nl rfl))) qf.nil))))
def qR (least:Int):Nat->Int->Str->Option Str
 |0,_,_=>none
 |K+1,a,b=>
  (if a>0 then
  some true
  else
  some (decide ((b.length:Int)<least)):Option Bool).bind fun d=>
  if d=true then
  (cut [48,49,50,51,52,53,54,55,56,57] (a.tmod 10) (w64 ((a.tmod 10)+1))).bind fun e=>
  (cat e b).bind fun c=>
  qR least K (w64 (a.tdiv 10)) c
  else
  some b
def zG (N:Nat) (n:Int) (least:Int):Option Str:=
 (qR least N n []).bind fun a=>
 some a
theorem qau (N:Nat) (n:Int) (least:Int) {res:Str} (h:zG N n least=some res):qc ZT (.fn 183) [.i n,.i least] [] (.str res) []:=by
 unfold zG at h;refine Ub Tryz.func183 rfl rfl (m:=25) rfl (rs:=[.tmp 4]) rfl (l:=(kAK n least [])) rfl ?_;refine sh fol (kAK n least []) ?_;refine sh fol (kAK n least [(5,.str [])]) ?_;refine sq (Goes.block ?_);obtain⟨k,g4,h⟩:=bnd h;refine Goes.imp (Q:=fun x s'=>(x= .exit 0/\ ∃f,f=k/\Sub s' (ofG 25 [(5,.str f)],[]))) ?_ ?_
 ·refine Ud (fun M s=> ∃(b:Int) (d:Str),s=(ofG 25 (kAK b least [(5,.str d)]),[])/\qR least M b d=some k) ?_ (m:=N) ⟨_,_,rfl,g4⟩;rintro M s ⟨b,d,rfl,g4⟩
  cases M with
  |zero=>simp only[qR]at g4;cases g4
  |succ M=>
   rw[qR]at g4;refine sq ?_;refine sq ?_;obtain⟨p,a,g4⟩:=bnd g4;refine Ue (s':=(ofG 25 (kAK b least ((5,.str d)::(kBC p))),[])) ?_ ?_
   ·rcases wyD a with⟨j,a⟩|⟨j,a⟩
    ·obtain rfl:=si a;exact tr fol [2] (kAK b least [(5,.str d),(13,.bool true)]) (ac (gw j) az)
    obtain rfl:=si a;exact tr fol [2] (kAK b least ((5,.str d)::(kBC (decide ((d.length:Int)<least))))) (ac (gw j) az)
   refine ihB g4 (fun q g4=>?_) (fun q g4=>?_)
   ·refine Goes.skip ?_;refine Goes.block ?_;obtain⟨o,g,g4⟩:=bnd g4;obtain⟨c,e,g4⟩:=bnd g4;refine sq (gr fol [5,7] (kAK b least [(5,.str c)]) (ac (hs (.done (.opt (qK ZT 9 (.str [48,49,50,51,52,53,54,55,56,57]) (some (.i (b.tmod 10))) (some (.i (w64 ((b.tmod 10)+1)))) none)) (.str o)) (ja st9 (some (b.tmod 10)) (some (w64 ((b.tmod 10)+1))) g)) (ac (hs (.done (.opt (ku ZT .add 9 (.tmp 19) (.tmp 20) (.str o) (.str d))) (.str c)) (qaO e)) az)) ?_);refine gh fol (kAK (w64 (b.tdiv 10)) least [(5,.str c)]) ?_;exact⟨M,(ofG 25 (kAK (w64 (b.tdiv 10)) least [(5,.str c)]),[]),Nat.lt_succ_self _,(Sub.refl _),_,_,rfl,g4⟩
   refine Goes.exit ?_;obtain rfl:=si g4;exact⟨rfl,_,rfl,(Sub.keep [5] rfl rfl)⟩
 rintro x s' ⟨rfl,f,rfl,hsub⟩;refine Goes.sub hsub ?_;refine sh fol (kBO f) ?_;refine Goes.ret ?_;obtain rfl:=si h;exact(gw2 [.str f] (Ua tS))
def vZ (N:Nat) (a:qF):Nat->Str->Int->Option Str
 |0,_,_=>none
 |K+1,e,b=>
  if b>=0 then
  (idx a.w b).bind fun f=>
  (zG N f 9).bind fun c=>
  (cat e c).bind fun d=>
  vZ N a K d (w64 (b-1))
  else
  some e
def qbB (N:Nat) (a:qF):Option Str:=
 if(a.w.length:Int)=0 then
 some [48]
 else
 (idx a.w (w64 ((a.w.length:Int)-1))).bind fun d=>
 (zG N d 1).bind fun e=>
 (vZ N a N e (w64 ((a.w.length:Int)-2))).bind fun c=>
 if a.neg=true then
 (cat [45] c).bind fun b=>
 some b
 else
 some c
theorem qfd (N:Nat) (a:qF) {res:Str} (h:qbB N a=some res):qc ZT (.fn 185) [.agg (kAa a.neg a.w)] [] (.str res) []:=by
 unfold qbB at h;refine Ub Tryz.func185 rfl rfl (m:=39) rfl (rs:=[.tmp 2]) rfl (l:=[(0,.agg [.bool a.neg,vl encI a.w])]) rfl ?_;refine sg fol (kAu []) (kAT a.neg a.w []) ?_;refine sq ?_;refine sh fol (kAu (kBJ (decide ((a.w.length:Int)=0)))) ?_;refine ihD h (fun u h=>?_) (fun u h=>?_)
 ·refine sh fol [(2,.str [48])] ?_;refine Goes.ret ?_;obtain rfl:=si h;exact(gw2 [.str [48]] (Ua tS))
 refine Goes.skip ?_;obtain⟨v,c,h⟩:=bnd h;obtain⟨r,n,h⟩:=bnd h;refine sq (gr fol [6,7,8] (kAu [(3,.str r)]) (ac (iv ji encI c) (ac (lv 0 ce3 encI c rfl) (ac (cv (qau N v 1 n)) az))) ?_);refine sq ?_;refine sh fol (kAu (kAh r (w64 ((a.w.length:Int)-2)) [])) ?_;refine Goes.block ?_;obtain⟨t,g7,h⟩:=bnd h;refine Goes.imp (Q:=fun x s'=>(x= .exit 0/\ ∃f,f=t/\Sub s' (ofG 39 (kAu [(3,.str f)]),(kAT a.neg a.w [])))) ?_ ?_
 ·refine Ud (fun M s=> ∃(o:Str) (d:Int),s=(ofG 39 (kAu (kAh o d [])),(kAT a.neg a.w []))/\vZ N a M o d=some t) ?_ (m:=N) ⟨_,_,rfl,g7⟩;rintro M s ⟨o,d,rfl,g7⟩
  cases M with
  |zero=>simp only[vZ]at g7;cases g7
  |succ M=>
   rw[vZ]at g7;refine sq ?_;refine sh fol (kAu (kAh o d [(23,.bool (decide (d>=0)))])) ?_;refine ihD g7 (fun y g7=>?_) (fun y g7=>?_)
   ·refine Goes.skip ?_;refine sq (Goes.block ?_);obtain⟨z,e,g7⟩:=bnd g7;obtain⟨p,g,g7⟩:=bnd g7;obtain⟨b,i,g7⟩:=bnd g7;refine gr fol [4,5,6,7] (kAu (kAh b d [])) (ac (iv ji encI e) (ac (lv 0 ce3 encI e rfl) (ac (cv (qau N z 9 g)) (ac (hs (.done (.opt (ku ZT .add 9 (.tmp 26) (.tmp 32) (.str o) (.str p))) (.str b)) (qaO i)) az)))) ?_;refine gh fol (kAu (kAh b (w64 (d-1)) [])) ?_;exact⟨M,(ofG 39 (kAu (kAh b (w64 (d-1)) [])),(kAT a.neg a.w [])),Nat.lt_succ_self _,(Sub.refl _),_,_,rfl,g7⟩
   refine Goes.exit ?_;obtain rfl:=si g7;exact⟨rfl,_,rfl,(Sub.keep [1,3] rfl rfl)⟩
 rintro x s' ⟨rfl,f,rfl,hsub⟩;refine Goes.sub hsub ?_;refine sq ?_;refine sh fol [(3,.str f),(35,.bool a.neg)] ?_;refine ihB h (fun q h=>?_) (fun q h=>?_)
 ·obtain⟨j,k,h⟩:=bnd h;refine sq (gr fol [1] [(2,.str j)] (ac (hs (.done (.opt (ku ZT .add 9 (.const (.string ⟨#[45]⟩)) (.tmp 36) (.str [45]) (.str f))) (.str j)) (qaO k)) az) ?_);refine Goes.ret ?_;obtain rfl:=si h;exact(gw2 [.str j] (Ua tS))
 refine Goes.skip ?_;refine sh fol [(2,.str f)] ?_;refine Goes.ret ?_;obtain rfl:=si h;exact(gw2 [.str f] (Ua tS))
def ve (N:Nat) (n:qF) (d:qF):Option Str:=
 ((if d.neg=true then
 (xy N n).bind fun l=>
 (xy N d).bind fun m=>
 some (l.neg,l.w,m.neg,m.w)
 else
 some (n.neg,n.w,d.neg,d.w):Option (Bool×(List Int)×Bool×(List Int)))).bind fun(r,o,s,p)=>
 (qaz N o p).bind fun q=>
 (jB N o q).bind fun c=>
 (jB N p q).bind fun a=>
 (zI N r c.1).bind fun e=>
 (qbB N e).bind fun b=>
 (if(a.1.length:Int)=1 then
 (idx a.1 0).bind fun f=>
 some (decide (f=1))
 else
 some false:Option Bool).bind fun g=>
 if g=true then
 some b
 else
 (cat b [47]).bind fun h=>
 (zI N false a.1).bind fun i=>
 (qbB N i).bind fun j=>
 (cat h j).bind fun k=>
 some k
theorem xX (N:Nat) (n:qF) (d:qF) {res:Str} (h:ve N n d=some res):qc ZT (.fn 111) (kAn n.neg n.w d.neg d.w) [] (.str res) []:=by
 unfold ve at h;refine Ub Tryz.func111 rfl rfl (m:=57) rfl (rs:=[.tmp 4]) rfl (l:=[(0,.agg [.bool n.neg,vl encI n.w]),(1,.agg [.bool d.neg,vl encI d.w])]) rfl ?_;refine sg fol (kAE (kA5 [])) (kP n.neg n.w d.neg d.w []) ?_;refine sq ?_;refine sh fol (kAE (kA5 (kA8 d.neg))) ?_;obtain⟨O,g5,h⟩:=bnd h;refine Goes.imp (Q:=fun x s'=>(x= .normal/\ ∃y u D v,(y,u,D,v)=O/\Sub s' (ofG 57 (kAE (kA5 [])),(kP y u D v [])))) ?_ ?_
 ·refine ihB g5 (fun P g5=>?_) (fun P g5=>?_)
  ·obtain⟨L,z,g5⟩:=bnd g5;obtain⟨M,A,g5⟩:=bnd g5;refine gq fol [1,3] (kAE (kA5 [])) (kP L.neg L.w M.neg M.w []) (ac (cv (qey N n z)) (ac (cv (qey N d A)) az)) ?_;obtain rfl:=si g5;exact⟨rfl,_,_,_,_,rfl,(Sub.refl _)⟩
  refine Goes.skip ?_;obtain rfl:=si g5;exact⟨rfl,_,_,_,_,rfl,(Sub.keep [2,3] rfl rfl)⟩
 rintro x s' ⟨rfl,y,u,D,v,rfl,hsub⟩
 try dsimp only at h
 refine Goes.sub hsub ?_;obtain⟨E,B,h⟩:=bnd h;refine sq (gr fol [4] (kAE (kA5 (kBB E []))) (ac (cv (qd5 N u v B)) az) ?_);obtain⟨f,g,h⟩:=bnd h;refine sq (gr fol [3] (kAE (kA5 (kBB E [(6,vl encI f.1)]))) (ac (cv (qaU N u E g)) az) ?_);obtain⟨c,i,h⟩:=bnd h;refine sq (gr fol [3] (kAE [(6,vl encI f.1),(8,vl encI c.1)]) (ac (cv (qaU N v E i)) az) ?_);obtain⟨F,j,h⟩:=bnd h;obtain⟨b,k,h⟩:=bnd h;refine sq (gr fol [3,4] [(8,vl encI c.1),(10,.str b)] (ac (cv (zW N y f.1 j)) (ac (cv (qfd N F k)) az)) ?_);refine sq ?_;refine sq ?_;obtain⟨G,a,h⟩:=bnd h;refine Ue (s':=(ofG 57 [(8,vl encI c.1),(10,.str b),(49,.bool G)],(kP y u D v []))) ?_ ?_
 ·rcases wyD a with⟨o,a⟩|⟨o,a⟩
  ·obtain⟨H,e,a⟩:=bnd a;obtain rfl:=si a;exact tr fol [3,5,6] [(8,vl encI c.1),(10,.str b),(49,.bool (decide (H=1)))] (ac (gw o) (ac (iv ji encI e) (ac (lv 0 ce3 encI e rfl) az)))
  obtain rfl:=si a;exact tr fol [3] [(8,vl encI c.1),(10,.str b),(49,.bool false)] (ac (gw o) az)
 refine ihB h (fun I h=>?_) (fun I h=>?_)
 ·refine sh fol (kBO b) ?_;refine Goes.ret ?_;obtain rfl:=si h;exact(gw2 [.str b] (Ua tS))
 refine Goes.skip ?_;obtain⟨C,p,h⟩:=bnd h;obtain⟨J,q,h⟩:=bnd h;obtain⟨K,r,h⟩:=bnd h;obtain⟨s,t,h⟩:=bnd h;refine sq (gr fol [1,3,4,5] (kBO s) (ac (hs (.done (.opt (ku ZT .add 9 (.tmp 51) (.const (.string ⟨#[47]⟩)) (.str b) (.str [47]))) (.str C)) (qaO p)) (ac (cv (zW N false c.1 q)) (ac (cv (qfd N J r)) (ac (hs (.done (.opt (ku ZT .add 9 (.tmp 52) (.tmp 55) (.str C) (.str K))) (.str s)) (qaO t)) az)))) ?_);refine Goes.ret ?_;obtain rfl:=si h;exact(gw2 [.str s] (Ua tS))
def jT:Nat->Int->Int->Option Int
 |0,_,_=>none
 |K+1,b,a=>
  if a>0 then
  (qeG .i64 b a).bind fun c=>
  jT K a c
  else
  some b
def qdu (N:Nat) (a:Int) (b:Int):Option Int:=
 (jT N a b).bind fun c=>
 some c
theorem qjk (N:Nat) (a:Int) (b:Int) {res:Int} (h:qdu N a b=some res):qc ZT (.fn 182) [.i a,.i b] [] (.i res) []:=by
 unfold qdu at h;refine Ub Tryz.func182 rfl rfl (m:=12) rfl (rs:=[.tmp 4]) rfl (l:=(kAK a b [])) rfl ?_;refine sh fol (kAK a b []) ?_;refine sq (Goes.block ?_);obtain⟨j,g4,h⟩:=bnd h;refine Goes.imp (Q:=fun x s'=>(x= .exit 0/\ ∃d,d=j/\Sub s' (ofG 12 [(0,.i d)],[]))) ?_ ?_
 ·refine Ud (fun M s=> ∃(e:Int) (c:Int),s=(ofG 12 (kAK e c []),[])/\jT M e c=some j) ?_ (m:=N) ⟨_,_,rfl,g4⟩;rintro M s ⟨e,c,rfl,g4⟩
  cases M with
  |zero=>simp only[jT]at g4;cases g4
  |succ M=>
   rw[jT]at g4;refine sq ?_;refine sh fol (kAK e c [(6,.bool (decide (c>0)))]) ?_;refine ihD g4 (fun k g4=>?_) (fun k g4=>?_)
   ·refine Goes.skip ?_;refine Goes.block ?_;obtain⟨g,f,g4⟩:=bnd g4;refine gr fol [3] (kAK c g []) (ac (hs (.done (.opt (ku ZT .rem 3 (.tmp 8) (.tmp 9) (.i e) (.i c))) (.i g)) (qfN f)) az) ?_;exact⟨M,(ofG 12 (kAK c g []),[]),Nat.lt_succ_self _,(Sub.refl _),_,_,rfl,g4⟩
   refine Goes.exit ?_;obtain rfl:=si g4;exact⟨rfl,_,rfl,(Sub.keep [0] rfl rfl)⟩
 rintro x s' ⟨rfl,d,rfl,hsub⟩;refine Goes.sub hsub ?_;refine sh fol (kBN d) ?_;refine Goes.ret ?_;obtain rfl:=si h;exact(gw2 [.i d] (Ua tI))
def qdr (N:Nat) (num:Int) (den:Int):Option Str:=
 (if num<(-4000000000000000000)then
 some true
 else
 if num>4000000000000000000 then
 some true
 else
 if den<(-4000000000000000000)then
 some true
 else
 some (decide (den>4000000000000000000)):Option Bool).bind fun m=>
 if m=true then
 (qap N num).bind fun n=>
 (qap N den).bind fun o=>
 (ve N n o).bind fun p=>
 some p
 else
 ((if den<0 then
 some (w64 (0-num),w64 (0-den))
 else
 some (num,den):Option (Int×Int))).bind fun(a,c)=>
 (qdu N (if(w64 (0-a))>a then(w64 (0-a))else a) c).bind fun d=>
 (qco .i64 a d).bind fun b=>
 (qco .i64 c d).bind fun e=>
 ((if b<0 then
 some [45]
 else
 some []:Option Str)).bind fun g=>
 (zG N (if(w64 (0-b))>b then(w64 (0-b))else b) 1).bind fun h=>
 (cat g h).bind fun f=>
 ((if e>1 then
 (cat f [47]).bind fun i=>
 (zG N e 1).bind fun j=>
 (cat i j).bind fun k=>
 some k
 else
 some f:Option Str)).bind fun l=>
 some l
theorem qgN (N:Nat) (num:Int) (den:Int) {res:Str} (h:qdr N num den=some res):qc ZT (.fn 110) [.i num,.i den] [] (.str res) []:=by
 unfold qdr at h;refine Ub Tryz.func110 rfl rfl (m:=61) rfl (rs:=[.tmp 4]) rfl (l:=(kAK num den [])) rfl ?_;refine sh fol (kAK num den []) ?_;refine sq ?_;refine sq ?_;obtain⟨O,a,h⟩:=bnd h;refine Ue (s':=(ofG 61 (kAK num den [(20,.bool O)]),[])) ?_ ?_
 ·rcases wyD a with⟨v,a⟩|⟨v,a⟩
  ·obtain rfl:=si a;exact tr fol [2] (kAK num den [(20,.bool true)]) (ac (gw v) az)
  rcases wyD a with⟨C,a⟩|⟨C,a⟩
  ·obtain rfl:=si a;exact tr fol [2,6] (kAK num den [(20,.bool true)]) (ac (gw v) (ac (gw C) az))
  rcases wyD a with⟨D,a⟩|⟨D,a⟩
  ·obtain rfl:=si a;exact tr fol [2,6,10] (kAK num den [(20,.bool true)]) (ac (gw v) (ac (gw C) (ac (gw D) az)))
  obtain rfl:=si a;exact tr fol [2,6,10] (kAK num den [(20,.bool (decide (den>4000000000000000000)))]) (ac (gw v) (ac (gw C) (ac (gw D) az)))
 refine ihB h (fun P h=>?_) (fun P h=>?_)
 ·obtain⟨U,w,h⟩:=bnd h;obtain⟨V,y,h⟩:=bnd h;obtain⟨M,z,h⟩:=bnd h;refine sq (gr fol [1,3,4] (kBO M) (ac (cv (qcB N num w)) (ac (cv (qcB N den y)) (ac (cv (xX N U V z)) az))) ?_);refine Goes.ret ?_;obtain rfl:=si h;exact(gw2 [.str M] (Ua tS))
 refine Goes.skip ?_;refine sq ?_;refine sh fol (kAK num den [(27,.bool (decide (den<0)))]) ?_;obtain⟨E,g12,h⟩:=bnd h;refine Goes.imp (Q:=fun x s'=>(x= .normal/\ ∃d e,(d,e)=E/\Sub s' (ofG 61 (kAK d e []),[]))) ?_ ?_
 ·refine ihD g12 (fun F g12=>?_) (fun F g12=>?_)
  ·refine gh fol (kAK (w64 (0-num)) (w64 (0-den)) []) ?_;obtain rfl:=si g12;exact⟨rfl,_,_,rfl,(Sub.refl _)⟩
  refine Goes.skip ?_;obtain rfl:=si g12;exact⟨rfl,_,_,rfl,(Sub.keep [0,1] rfl rfl)⟩
 rintro x s' ⟨rfl,d,e,rfl,hsub⟩
 try dsimp only at h
 refine Goes.sub hsub ?_;obtain⟨k,n,h⟩:=bnd h;refine sq (gr fol [5] (kAK d e (kAt k)) (ac (cv (qjk N (if(w64 (0-d))>d then(w64 (0-d))else d) e n)) az) ?_);obtain⟨b,o,h⟩:=bnd h;obtain⟨c,p,h⟩:=bnd h;refine sq (gr fol [2,5] (kAK b c []) (ac (hs (.done (.opt (ku ZT .quo 3 (.tmp 38) (.tmp 39) (.i d) (.i k))) (.i b)) (qb2 o)) (ac (hs (.done (.opt (ku ZT .quo 3 (.tmp 41) (.tmp 42) (.i e) (.i k))) (.i c)) (qb2 p)) az)) ?_);refine sh fol (kAK b c [(6,.str [])]) ?_;refine sq ?_;refine sh fol (kAK b c [(6,.str []),(45,.bool (decide (b<0)))]) ?_;obtain⟨G,g18,h⟩:=bnd h;refine Goes.imp (Q:=fun x s'=>(x= .normal/\ ∃g,g=G/\Sub s' (ofG 61 (kAK b c [(6,.str g)]),[]))) ?_ ?_
 ·refine ihD g18 (fun H g18=>?_) (fun H g18=>?_)
  ·refine gh fol (kAK b c [(6,.str [45])]) ?_;obtain rfl:=si g18;exact⟨rfl,_,rfl,(Sub.refl _)⟩
  refine Goes.skip ?_;obtain rfl:=si g18;exact⟨rfl,_,rfl,(Sub.keep [0,1,6] rfl rfl)⟩
 rintro x s' ⟨rfl,g,rfl,hsub⟩;refine Goes.sub hsub ?_;obtain⟨I,q,h⟩:=bnd h;obtain⟨j,r,h⟩:=bnd h;refine sq (gr fol [5,6] [(1,.i c),(6,.str j)] (ac (cv (qau N (if(w64 (0-b))>b then(w64 (0-b))else b) 1 q)) (ac (hs (.done (.opt (ku ZT .add 9 (.tmp 46) (.tmp 51) (.str g) (.str I))) (.str j)) (qaO r)) az)) ?_);refine sq ?_;refine sh fol [(1,.i c),(6,.str j),(54,.bool (decide (c>1)))] ?_;obtain⟨J,g23,h⟩:=bnd h;refine Goes.imp (Q:=fun x s'=>(x= .normal/\ ∃f,f=J/\Sub s' (ofG 61 [(6,.str f)],[]))) ?_ ?_
 ·refine ihD g23 (fun K g23=>?_) (fun K g23=>?_)
  ·obtain⟨A,s,g23⟩:=bnd g23;obtain⟨L,t,g23⟩:=bnd g23;obtain⟨B,u,g23⟩:=bnd g23;refine gr fol [1,3,4] [(6,.str B)] (ac (hs (.done (.opt (ku ZT .add 9 (.tmp 55) (.const (.string ⟨#[47]⟩)) (.str j) (.str [47]))) (.str A)) (qaO s)) (ac (cv (qau N c 1 t)) (ac (hs (.done (.opt (ku ZT .add 9 (.tmp 56) (.tmp 58) (.str A) (.str L))) (.str B)) (qaO u)) az))) ?_;obtain rfl:=si g23;exact⟨rfl,_,rfl,(Sub.refl _)⟩
  refine Goes.skip ?_;obtain rfl:=si g23;exact⟨rfl,_,rfl,(Sub.keep [6] rfl rfl)⟩
 rintro x s' ⟨rfl,f,rfl,hsub⟩;refine Goes.sub hsub ?_;refine sh fol (kBO f) ?_;refine Goes.ret ?_;obtain rfl:=si h;exact(gw2 [.str f] (Ua tS))
def qaq (a:List Int) (i:Int):Option Int:=
 if i<(a.length:Int)then
 (idx a i).bind fun b=>
 some b
 else
 some 0
theorem qcl (a:List Int) (i:Int) {res:Int} (h:qaq a i=some res):qc ZT (.fn 228) [vl encI a,.i i] [] (.i res) []:=by
 unfold qaq at h;refine Ub Tryz.func228 rfl rfl (m:=13) rfl (rs:=[.tmp 4]) rfl (l:=(kAL a [(1,.i i)])) rfl ?_;refine sh fol (kAL a [(1,.i i)]) ?_;refine sq ?_;refine sh fol (kAL a ((1,.i i)::(kBJ (decide (i<(a.length:Int)))))) ?_;refine ihD h (fun d h=>?_) (fun d h=>?_)
 ·obtain⟨c,b,h⟩:=bnd h;refine sq (gr fol [2,3] (kBN c) (ac (iv ji encI b) (ac (lv 0 ce3 encI b rfl) az)) ?_);refine Goes.ret ?_;obtain rfl:=si h;exact(gw2 [.i c] (Ua tI))
 refine Goes.skip ?_;refine sh fol [(4,.i 0)] ?_;refine Goes.ret ?_;obtain rfl:=si h;exact(gw2 [.i 0] (Ua tI))
def zy (a:List Int) (b:List Int):Nat->(List Int)->Int->Int->Option (List Int)
 |0,_,_,_=>none
 |K+1,h,f,c=>
  (if c<(a.length:Int)then
  some true
  else
  if c<(b.length:Int)then
  some true
  else
  some (decide (f>0)):Option Bool).bind fun i=>
  if i=true then
  (qaq a c).bind fun d=>
  (qaq b c).bind fun e=>
  (app 8 h [(w64 ((w64 (d+e))+f)).tmod 1000000000]).bind fun g=>
  zy a b K g (w64 ((w64 ((w64 (d+e))+f)).tdiv 1000000000)) (w64 (c+1))
  else
  some h
def xJ (N:Nat) (a:List Int) (b:List Int):Option (List Int):=
 (zy a b N ([]:List Int) 0 0).bind fun c=>
 some c
theorem qfC (N:Nat) (a:List Int) (b:List Int) {res:List Int} (h:xJ N a b=some res):qc ZT (.fn 186) (kBD a b) [] (vl encI res) []:=by
 unfold xJ at h;refine Ub Tryz.func186 rfl rfl (m:=42) rfl (rs:=[.tmp 4]) rfl (l:=(kH a b [])) rfl ?_;refine sh fol (kH a b []) ?_;refine sh fol (kH a b [(5,.nilslice)]) ?_;refine sh fol (kH a b [(5,.nilslice),(6,.i 0)]) ?_;refine sq ?_;refine sh fol (kH a b [(5,.nilslice),(6,.i 0),(7,.i 0)]) ?_;refine Goes.block ?_;obtain⟨v,g5,h⟩:=bnd h;refine Goes.imp (Q:=fun x s'=>(x= .exit 0/\ ∃q,q=v/\Sub s' (ofG 42 (kAG q []),(kB q [])))) ?_ ?_
 ·refine Goes.sub (s':=(ofG 42 (kH a b [(5,.gslice 0 ([]:List Int).length 1),(6,.i 0),(7,.i 0)]),kA4)) (Uc [] [none] rfl rfl (.keep (.same (qg encI _)) (.keep (.same (qg encI _)) (.keep .nil (.keep (.same nI) (.keep (.same nI) .nil))))) (.fresh .nil)) ?_;refine Ud (fun M s=> ∃(k:List Int) (f:Int) (j:Int),s=(ofG 42 (kH a b (kAG k (kAS f j []))),(kB k []))/\zy a b M k f j=some v) ?_ (m:=N) ⟨_,_,_,rfl,g5⟩;rintro M s ⟨k,f,j,rfl,g5⟩
  cases M with
  |zero=>simp only[zy]at g5;cases g5
  |succ M=>
   rw[zy]at g5;refine sq ?_;refine sq ?_;obtain⟨w,c,g5⟩:=bnd g5;refine Ue (s':=(ofG 42 (kH a b (kAG k (kAS f j [(22,.bool w)]))),(kB k []))) ?_ ?_
   ·rcases wyD c with⟨r,c⟩|⟨r,c⟩
    ·obtain rfl:=si c;exact tr fol [4] (kH a b (kAG k (kAS f j [(22,.bool true)]))) (ac (gw r) az)
    rcases wyD c with⟨t,c⟩|⟨t,c⟩
    ·obtain rfl:=si c;exact tr fol [4,10] (kH a b (kAG k (kAS f j [(22,.bool true)]))) (ac (gw r) (ac (gw t) az))
    obtain rfl:=si c;exact tr fol [4,10] (kH a b (kAG k (kAS f j [(22,.bool (decide (f>0)))]))) (ac (gw r) (ac (gw t) az))
   refine ihB g5 (fun u g5=>?_) (fun u g5=>?_)
   ·refine Goes.skip ?_;refine sq (Goes.block ?_);obtain⟨d,n,g5⟩:=bnd g5;obtain⟨e,o,g5⟩:=bnd g5;refine sq (gr fol [2,5] (kH a b (kAG k (kAI j (w64 ((w64 (d+e))+f))))) (ac (cv (qcl a j n)) (ac (cv (qcl b j o)) az)) ?_);obtain⟨g,p,g5⟩:=bnd g5;refine sq (gq fol [4] (kH a b (kBI g (kAI j (w64 ((w64 (d+e))+f))))) (kA6 ((w64 ((w64 (d+e))+f)).tmod 1000000000) (kB g [])) (ac (hs (.run [0,1] (yC ZT [22,22] (.gslice 0 k.length 1) (.slice 1 0 1 1 1)) (kB k [.cells [.i ((w64 ((w64 (d+e))+f)).tmod 1000000000)]]) (.gslice 2 g.length 1) (kA6 ((w64 ((w64 (d+e))+f)).tmod 1000000000) (kB g [])) true) (qbG ji (E:=encI) rfl (qfn (E:=encI) (ys:=[(w64 ((w64 (d+e))+f)).tmod 1000000000]) rfl rfl rfl rfl) (qgL (E:=encI) (l:=k) rfl rfl rfl p rfl))) az) ?_);refine gh fol (kH a b (kBI g (kAS (w64 ((w64 ((w64 (d+e))+f)).tdiv 1000000000)) j []))) ?_;refine gh fol (kH a b (kBI g (kAS (w64 ((w64 ((w64 (d+e))+f)).tdiv 1000000000)) (w64 (j+1)) []))) ?_;exact⟨M,(ofG 42 (kH a b (kAG g (kAS (w64 ((w64 ((w64 (d+e))+f)).tdiv 1000000000)) (w64 (j+1)) []))),(kB g [])),Nat.lt_succ_self _,(Uc [] [some 2] rfl rfl (.keep (.same (qg encI _)) (.keep (.same (qg encI _)) (.keep (.gslice rfl) (.keep (.same nI) (.keep (.same nI) .nil))))) (.ks .nil)),_,_,_,rfl,g5⟩
   refine Goes.exit ?_;obtain rfl:=si g5;exact⟨rfl,_,rfl,(Sub.keep [5] rfl rfl)⟩
 rintro x s' ⟨rfl,q,rfl,hsub⟩;refine Goes.sub hsub ?_;refine sh fol [(4,.gslice 0 q.length 1)] ?_;refine Goes.ret ?_;obtain rfl:=si h;exact(gw2 [.gslice 0 q.length 1] (FzW.fz (Fz.gs (E:=encI) rfl rfl (nl rfl))))
def kw (a:List Int) (b:List Int):Nat->(List Int)->Int->Int->Option (List Int)
 |0,_,_,_=>none
 |K+1,i,d,c=>
  if c<(a.length:Int)then
  (idx a c).bind fun e=>
  (qaq b c).bind fun f=>
  ((if(w64 ((w64 (e-f))-d))<0 then
  some (1,w64 ((w64 ((w64 (e-f))-d))+1000000000))
  else
  some (0,w64 ((w64 (e-f))-d)):Option (Int×Int))).bind fun(j,g)=>
  (app 8 i [g]).bind fun h=>
  kw a b K h j (w64 (c+1))
  else
  some i
def yG (N:Nat) (a:List Int) (b:List Int):Option (List Int):=
 (kw a b N ([]:List Int) 0 0).bind fun d=>
 (yB N d).bind fun c=>
 some c
theorem qcq (N:Nat) (a:List Int) (b:List Int) {res:List Int} (h:yG N a b=some res):qc ZT (.fn 187) (kBD a b) [] (vl encI res) []:=by
 unfold yG at h;refine Ub Tryz.func187 rfl rfl (m:=35) rfl (rs:=[.tmp 4]) rfl (l:=(kH a b [])) rfl ?_;refine sh fol (kH a b []) ?_;refine sh fol (kH a b [(5,.nilslice)]) ?_;refine sh fol (kH a b [(5,.nilslice),(6,.i 0)]) ?_;refine sq ?_;refine sh fol (kH a b [(5,.nilslice),(6,.i 0),(7,.i 0)]) ?_;refine Goes.block ?_;obtain⟨y,g5,h⟩:=bnd h;refine Goes.imp (Q:=fun x s'=>(x= .exit 0/\ ∃j,j=y/\Sub s' (ofG 35 (kAG j []),(kB j [])))) ?_ ?_
 ·refine Goes.sub (s':=(ofG 35 (kH a b [(5,.gslice 0 ([]:List Int).length 1),(6,.i 0),(7,.i 0)]),kA4)) (Uc [] [none] rfl rfl (.keep (.same (qg encI _)) (.keep (.same (qg encI _)) (.keep .nil (.keep (.same nI) (.keep (.same nI) .nil))))) (.fresh .nil)) ?_;refine Ud (fun M s=> ∃(c:List Int) (k:Int) (d:Int),s=(ofG 35 (kH a b (kAG c (kAS k d []))),(kB c []))/\kw a b M c k d=some y) ?_ (m:=N) ⟨_,_,_,rfl,g5⟩;rintro M s ⟨c,k,d,rfl,g5⟩
  cases M with
  |zero=>simp only[kw]at g5;cases g5
  |succ M=>
   rw[kw]at g5;refine sq ?_;refine sh fol (kH a b (kAG c (kAS k d (kA8 (decide (d<(a.length:Int))))))) ?_;refine ihD g5 (fun z g5=>?_) (fun z g5=>?_)
   ·refine Goes.skip ?_;refine sq (Goes.block ?_);obtain⟨q,n,g5⟩:=bnd g5;obtain⟨r,u,g5⟩:=bnd g5;refine sq (gr fol [2,3,6] (kH a b (kAG c (kAI d (w64 ((w64 (q-r))-k))))) (ac (iv ji encI n) (ac (lv 0 ce3 encI n rfl) (ac (cv (qcl b d u)) az))) ?_);refine sh fol (kH a b (kAG c ((6,.i 0)::(kAI d (w64 ((w64 (q-r))-k)))))) ?_;refine sq ?_;refine sh fol (kH a b (kAG c [(6,.i 0),(7,.i d),(8,.i (w64 ((w64 (q-r))-k))),(26,.bool (decide ((w64 ((w64 (q-r))-k))<0)))])) ?_;obtain⟨v,g11,g5⟩:=bnd g5;refine Goes.imp (Q:=fun x s'=>(x= .normal/\ ∃t e,(t,e)=v/\Sub s' (ofG 35 (kH a b (kAG c ((6,.i t)::(kAI d e)))),(kB c [])))) ?_ ?_
    ·refine ihD g11 (fun w g11=>?_) (fun w g11=>?_)
     ·refine sh fol (kH a b (kAG c (kAI d (w64 ((w64 ((w64 (q-r))-k))+1000000000))))) ?_;refine gh fol (kH a b (kAG c ((6,.i 1)::(kAI d (w64 ((w64 ((w64 (q-r))-k))+1000000000)))))) ?_;obtain rfl:=si g11;exact⟨rfl,_,_,rfl,(Sub.refl _)⟩
     refine Goes.skip ?_;obtain rfl:=si g11;exact⟨rfl,_,_,rfl,(Sub.keep [0,1,5,6,7,8] rfl rfl)⟩
    rintro x s' ⟨rfl,t,e,rfl,hsub⟩
    try dsimp only at g5
    refine Goes.sub hsub ?_;obtain⟨f,o,g5⟩:=bnd g5;refine gq fol [3] (kH a b (kBI f (kAS t d []))) (kA6 e (kB f [])) (ac (hs (.run [0,1] (yC ZT [22,22] (.gslice 0 c.length 1) (.slice 1 0 1 1 1)) (kB c [.cells [.i e]]) (.gslice 2 f.length 1) (kA6 e (kB f [])) true) (qbG ji (E:=encI) rfl (qfn (E:=encI) (ys:=[e]) rfl rfl rfl rfl) (qgL (E:=encI) (l:=c) rfl rfl rfl o rfl))) az) ?_;refine gh fol (kH a b (kBI f (kAS t (w64 (d+1)) []))) ?_;exact⟨M,(ofG 35 (kH a b (kAG f (kAS t (w64 (d+1)) []))),(kB f [])),Nat.lt_succ_self _,(Uc [] [some 2] rfl rfl (.keep (.same (qg encI _)) (.keep (.same (qg encI _)) (.keep (.gslice rfl) (.keep (.same nI) (.keep (.same nI) .nil))))) (.ks .nil)),_,_,_,rfl,g5⟩
   refine Goes.exit ?_;obtain rfl:=si g5;exact⟨rfl,_,rfl,(Sub.keep [5] rfl rfl)⟩
 rintro x s' ⟨rfl,j,rfl,hsub⟩;refine Goes.sub hsub ?_;obtain⟨g,p,h⟩:=bnd h;refine sq (gq fol [1] [(4,vl encI g)] (kAU j) (ac (hs (.callF 158 [.gslice 0 j.length 1] (kB j []) [0] [vl encI j] (vl encI g)) (qaZ (FzL.cons (Fz.gs (E:=encI) rfl rfl (nl rfl)) FzL.nil) (yU N j p) (qw encI _ (nl rfl)))) az) ?_);refine Goes.sub (show Sub (ofG 35 [(4,vl encI g)],(kAU j)) (ofG 35 [(4,vl encI g)],[])from(Uc [] [] rfl rfl (.keep (.same (qg encI _)) .nil) .nil)) ?_;refine Goes.ret ?_;obtain rfl:=si h;exact(gw2 [vl encI g] (Ua (qw encI _ (nl rfl))))
def qck (N:Nat) (a:qF) (b:qF):Option qF:=
 if(a.neg==b.neg)=true then
 (xJ N a.w b.w).bind fun c=>
 (zI N a.neg c).bind fun d=>
 some d
 else
 (jy N a.w b.w).bind fun e=>
 if e>=0 then
 (yG N a.w b.w).bind fun f=>
 (zI N a.neg f).bind fun g=>
 some g
 else
 (yG N b.w a.w).bind fun h=>
 (zI N b.neg h).bind fun i=>
 some i
theorem qiD (N:Nat) (a:qF) (b:qF) {res:qF} (h:qck N a b=some res):qc ZT (.fn 112) (kAn a.neg a.w b.neg b.w) [] (.agg (kAa res.neg res.w)) []:=by
 unfold qck at h;refine Ub Tryz.func112 rfl rfl (m:=40) rfl (rs:=[.cell 4 66]) rfl (l:=[(0,.agg [.bool a.neg,vl encI a.w]),(1,.agg [.bool b.neg,vl encI b.w])]) rfl ?_;refine sg fol (kG []) (kP a.neg a.w b.neg b.w (kS [])) ?_;refine sq ?_;refine sh fol (kG [(9,.bool (a.neg==b.neg))]) ?_;refine ihB h (fun p h=>?_) (fun p h=>?_)
 ·obtain⟨q,c,h⟩:=bnd h;obtain⟨k,d,h⟩:=bnd h;refine sq (gq fol [6,7] kAc (kP a.neg a.w b.neg b.w (kAT k.neg k.w [])) (ac (cv (qfC N a.w b.w c)) (ac (cv (zW N a.neg q d)) az)) ?_);refine Goes.ret ?_;obtain rfl:=si h;exact(gw2 [.agg (kAa k.neg k.w)] (FzW.agg (qf.cons (Ua tB) (qf.cons (Ua (qw encI _ (nl rfl))) qf.nil))))
 refine Goes.skip ?_;refine sq ?_;obtain⟨r,e,h⟩:=bnd h;refine sq (gr fol [4] (kG [(23,.bool (decide (r>=0)))]) (ac (cv (qbk N a.w b.w e)) az) ?_);refine ihD h (fun s h=>?_) (fun s h=>?_)
 ·obtain⟨t,f,h⟩:=bnd h;obtain⟨n,g,h⟩:=bnd h;refine sq (gq fol [6,7] kAc (kP a.neg a.w b.neg b.w (kAT n.neg n.w [])) (ac (cv (qcq N a.w b.w f)) (ac (cv (zW N a.neg t g)) az)) ?_);refine Goes.ret ?_;obtain rfl:=si h;exact(gw2 [.agg (kAa n.neg n.w)] (FzW.agg (qf.cons (Ua tB) (qf.cons (Ua (qw encI _ (nl rfl))) qf.nil))))
 refine Goes.skip ?_;obtain⟨u,i,h⟩:=bnd h;obtain⟨o,j,h⟩:=bnd h;refine sq (gq fol [6,7] kAc (kP a.neg a.w b.neg b.w (kAT o.neg o.w [])) (ac (cv (qcq N b.w a.w i)) (ac (cv (zW N b.neg u j)) az)) ?_);refine Goes.ret ?_;obtain rfl:=si h;exact(gw2 [.agg (kAa o.neg o.w)] (FzW.agg (qf.cons (Ua tB) (qf.cons (Ua (qw encI _ (nl rfl))) qf.nil))))
def yN (N:Nat) (a:qF) (b:qF):Option qF:=
 (vP N a.w b.w).bind fun c=>
 (zI N (!(a.neg==b.neg)) c).bind fun d=>
 some d
theorem qat (N:Nat) (a:qF) (b:qF) {res:qF} (h:yN N a b=some res):qc ZT (.fn 113) (kAn a.neg a.w b.neg b.w) [] (.agg (kAa res.neg res.w)) []:=by
 unfold yN at h;refine Ub Tryz.func113 rfl rfl (m:=16) rfl (rs:=[.cell 4 66]) rfl (l:=[(0,.agg [.bool a.neg,vl encI a.w]),(1,.agg [.bool b.neg,vl encI b.w])]) rfl ?_;refine sg fol (kG []) (kP a.neg a.w b.neg b.w (kS [])) ?_;obtain⟨f,c,h⟩:=bnd h;obtain⟨e,d,h⟩:=bnd h;refine sq (gq fol [9,10] kAc (kP a.neg a.w b.neg b.w (kAT e.neg e.w [])) (ac (cv (qaR N a.w b.w c)) (ac (cv (zW N (!(a.neg==b.neg)) f d)) az)) ?_);refine Goes.ret ?_;obtain rfl:=si h;exact(gw2 [.agg (kAa e.neg e.w)] (FzW.agg (qf.cons (Ua tB) (qf.cons (Ua (qw encI _ (nl rfl))) qf.nil))))
def qbE (N:Nat) (a:Str) (b:Str):Option Str:=
 (vE N a).bind fun c=>
 (vE N b).bind fun d=>
 (if c.2.2=true then
 some d.2.2
 else
 some false:Option Bool).bind fun l=>
 if l=true then
 (qdr N (w64 ((w64 (c.1*d.2.1))+(w64 (d.1*c.2.1)))) (w64 (c.2.1*d.2.1))).bind fun m=>
 some m
 else
 (jC N a).bind fun e=>
 (jC N b).bind fun f=>
 (yN N e.1 f.2).bind fun g=>
 (yN N f.1 e.2).bind fun h=>
 (qck N g h).bind fun i=>
 (yN N e.2 f.2).bind fun j=>
 (ve N i j).bind fun k=>
 some k
theorem qdU (N:Nat) (a:Str) (b:Str) {res:Str} (h:qbE N a b=some res):qc ZT (.fn 50) [.str a,.str b] [] (.str res) []:=by
 unfold qbE at h;refine Ub Tryz.func50 rfl rfl (m:=63) rfl (rs:=[.tmp 4]) rfl (l:=(kV a b [])) rfl ?_;refine sh fol (kV a b []) ?_;obtain⟨d,q,h⟩:=bnd h;refine sq (gr fol [1] (kV a b [(5,.i d.1),(6,.i d.2.1),(7,.bool d.2.2)]) (ac (cv (qa7 N a q)) az) ?_);obtain⟨e,r,h⟩:=bnd h;refine sq (gr fol [1] (kV a b ((5,.i d.1)::(6,.i d.2.1)::(7,.bool d.2.2)::(kAl e.1 e.2.1 (kA9 e.2.2)))) (ac (cv (qa7 N b r)) az) ?_);refine sq ?_;refine sq ?_;obtain⟨D,c,h⟩:=bnd h;refine Ue (s':=(ofG 63 (kV a b ((5,.i d.1)::(6,.i d.2.1)::(kAl e.1 e.2.1 [(30,.bool D)]))),[])) ?_ ?_
 ·rcases wyB c with⟨x,c⟩|⟨x,c⟩
  ·obtain rfl:=si c;exact tr fol [1] (kV a b ((5,.i d.1)::(6,.i d.2.1)::(kAl e.1 e.2.1 [(30,.bool e.2.2)]))) (ac (gw x) az)
  obtain rfl:=si c;exact tr fol [1] (kV a b ((5,.i d.1)::(6,.i d.2.1)::(kAl e.1 e.2.1 [(30,.bool false)]))) (ac (gw x) az)
 refine ihB h (fun E h=>?_) (fun E h=>?_)
 ·obtain⟨C,s,h⟩:=bnd h;refine sq (gr fol [10] (kBO C) (ac (cv (qgN N (w64 ((w64 (d.1*e.2.1))+(w64 (e.1*d.2.1)))) (w64 (d.2.1*e.2.1)) s)) az) ?_);refine Goes.ret ?_;obtain rfl:=si h;exact(gw2 [.str C] (Ua tS))
 refine Goes.skip ?_;obtain⟨f,t,h⟩:=bnd h;refine sq (gq fol [1] [(1,.str b),(11,.ptr 0 0),(12,.ptr 1 0)] (kP f.1.neg f.1.w f.2.neg f.2.w []) (ac (cv (xk N a t)) az) ?_);obtain⟨g,u,h⟩:=bnd h;refine sq (gq fol [1] [(11,.ptr 0 0),(12,.ptr 1 0),(13,.ptr 2 0),(14,.ptr 3 0)] (kP f.1.neg f.1.w f.2.neg f.2.w (kP g.1.neg g.1.w g.2.neg g.2.w [])) (ac (cv (xk N b u)) az) ?_);obtain⟨y,j,h⟩:=bnd h;obtain⟨z,k,h⟩:=bnd h;obtain⟨A,n,h⟩:=bnd h;obtain⟨B,o,h⟩:=bnd h;obtain⟨v,p,h⟩:=bnd h;refine sq (gr fol [2,5,6,9,10] (kBO v) (ac (cv (qat N f.1 g.2 j)) (ac (cv (qat N g.1 f.2 k)) (ac (cv (qiD N y z n)) (ac (cv (qat N f.2 g.2 o)) (ac (cv (xX N A B p)) az))))) ?_);refine Goes.ret ?_;obtain rfl:=si h;exact(gw2 [.str v] (Ua tS))
def xR (N:Nat) (a:Str) (b:Str):Option Str:=
 (vE N a).bind fun c=>
 (vE N b).bind fun d=>
 (if c.2.2=true then
 some d.2.2
 else
 some false:Option Bool).bind fun j=>
 if j=true then
 (qdr N (w64 (c.1*d.1)) (w64 (c.2.1*d.2.1))).bind fun k=>
 some k
 else
 (jC N a).bind fun h=>
 (jC N b).bind fun i=>
 (yN N h.1 i.1).bind fun e=>
 (yN N h.2 i.2).bind fun f=>
 (ve N e f).bind fun g=>
 some g
theorem qbe (N:Nat) (a:Str) (b:Str) {res:Str} (h:xR N a b=some res):qc ZT (.fn 51) [.str a,.str b] [] (.str res) []:=by
 unfold xR at h;refine Ub Tryz.func51 rfl rfl (m:=55) rfl (rs:=[.tmp 4]) rfl (l:=(kV a b [])) rfl ?_;refine sh fol (kV a b []) ?_;obtain⟨d,o,h⟩:=bnd h;refine sq (gr fol [1] (kV a b [(5,.i d.1),(6,.i d.2.1),(7,.bool d.2.2)]) (ac (cv (qa7 N a o)) az) ?_);obtain⟨e,p,h⟩:=bnd h;refine sq (gr fol [1] (kV a b ((5,.i d.1)::(6,.i d.2.1)::(7,.bool d.2.2)::(kAl e.1 e.2.1 (kA9 e.2.2)))) (ac (cv (qa7 N b p)) az) ?_);refine sq ?_;refine sq ?_;obtain⟨z,c,h⟩:=bnd h;refine Ue (s':=(ofG 55 (kV a b ((5,.i d.1)::(6,.i d.2.1)::(kAl e.1 e.2.1 [(30,.bool z)]))),[])) ?_ ?_
 ·rcases wyB c with⟨u,c⟩|⟨u,c⟩
  ·obtain rfl:=si c;exact tr fol [1] (kV a b ((5,.i d.1)::(6,.i d.2.1)::(kAl e.1 e.2.1 [(30,.bool e.2.2)]))) (ac (gw u) az)
  obtain rfl:=si c;exact tr fol [1] (kV a b ((5,.i d.1)::(6,.i d.2.1)::(kAl e.1 e.2.1 [(30,.bool false)]))) (ac (gw u) az)
 refine ihB h (fun A h=>?_) (fun A h=>?_)
 ·obtain⟨y,q,h⟩:=bnd h;refine sq (gr fol [6] (kBO y) (ac (cv (qgN N (w64 (d.1*e.1)) (w64 (d.2.1*e.2.1)) q)) az) ?_);refine Goes.ret ?_;obtain rfl:=si h;exact(gw2 [.str y] (Ua tS))
 refine Goes.skip ?_;obtain⟨f,r,h⟩:=bnd h;refine sq (gq fol [1] [(1,.str b),(11,.ptr 0 0),(12,.ptr 1 0)] (kP f.1.neg f.1.w f.2.neg f.2.w []) (ac (cv (xk N a r)) az) ?_);obtain⟨n,s,h⟩:=bnd h;refine sq (gq fol [1] [(11,.ptr 0 0),(12,.ptr 1 0),(13,.ptr 2 0),(14,.ptr 3 0)] (kP f.1.neg f.1.w f.2.neg f.2.w (kP n.1.neg n.1.w n.2.neg n.2.w [])) (ac (cv (xk N b s)) az) ?_);obtain⟨v,g,h⟩:=bnd h;obtain⟨x,j,h⟩:=bnd h;obtain⟨t,k,h⟩:=bnd h;refine sq (gr fol [2,5,6] (kBO t) (ac (cv (qat N f.1 n.1 g)) (ac (cv (qat N f.2 n.2 j)) (ac (cv (xX N v x k)) az))) ?_);refine Goes.ret ?_;obtain rfl:=si h;exact(gw2 [.str t] (Ua tS))
def qds (a:Str):Option Str:=
 (qaj a).bind fun b=>
 if b<0 then
 (cut a 1 (a.length:Int)).bind fun c=>
 some c
 else
 (qaj a).bind fun d=>
 if d=0 then
 some a
 else
 (cat [45] a).bind fun e=>
 some e
theorem qjE (a:Str) {res:Str} (h:qds a=some res):qc ZT (.fn 114) [.str a] [] (.str res) []:=by
 unfold qds at h;refine Ub Tryz.func114 rfl rfl (m:=14) rfl (rs:=[.tmp 2]) rfl (l:=(kAY a)) rfl ?_;refine sh fol (kAY a) ?_;refine sq ?_;obtain⟨j,b,h⟩:=bnd h;refine sq (gr fol [1] [(0,.str a),(5,.bool (decide (j<0)))] (ac (cv (qc7 a b)) az) ?_);refine ihD h (fun k h=>?_) (fun k h=>?_)
 ·obtain⟨f,c,h⟩:=bnd h;refine sq (gr fol [1] [(2,.str f)] (ac (hs (.done (.opt (qK ZT 23 (.str a) (some (.i 1)) none none)) (.str f)) (ja qlm (some 1) none c)) az) ?_);refine Goes.ret ?_;obtain rfl:=si h;exact(gw2 [.str f] (Ua tS))
 refine Goes.skip ?_;refine sq ?_;obtain⟨n,d,h⟩:=bnd h;refine sq (gr fol [1] ((0,.str a)::(kA9 (decide (n=0)))) (ac (cv (qc7 a d)) az) ?_);refine ihD h (fun o h=>?_) (fun o h=>?_)
 ·refine sh fol [(2,.str a)] ?_;refine Goes.ret ?_;obtain rfl:=si h;exact(gw2 [.str a] (Ua tS))
 refine Goes.skip ?_;obtain⟨g,e,h⟩:=bnd h;refine sq (gr fol [1] [(2,.str g)] (ac (hs (.done (.opt (ku ZT .add 23 (.const (.string ⟨#[45]⟩)) (.tmp 12) (.str [45]) (.str a))) (.str g)) (qaO e)) az) ?_);refine Goes.ret ?_;obtain rfl:=si h;exact(gw2 [.str g] (Ua tS))
def qcg (N:Nat) (a:Str) (b:Str):Option Str:=
 (qds b).bind fun c=>
 (qbE N a c).bind fun d=>
 some d
theorem qge (N:Nat) (a:Str) (b:Str) {res:Str} (h:qcg N a b=some res):qc ZT (.fn 52) [.str a,.str b] [] (.str res) []:=by
 unfold qcg at h;refine Ub Tryz.func52 rfl rfl (m:=9) rfl (rs:=[.tmp 4]) rfl (l:=(kV a b [])) rfl ?_;refine sh fol (kV a b []) ?_;obtain⟨f,c,h⟩:=bnd h;obtain⟨e,d,h⟩:=bnd h;refine sq (gr fol [2,3] (kBO e) (ac (cv (qjE b c)) (ac (cv (qdU N a f d)) az)) ?_);refine Goes.ret ?_;obtain rfl:=si h;exact(gw2 [.str e] (Ua tS))
def xn (N:Nat) (a:Str):Option Str:=
 (jC N a).bind fun b=>
 (ve N b.2 b.1).bind fun c=>
 some c
theorem qe6 (N:Nat) (a:Str) {res:Str} (h:xn N a=some res):qc ZT (.fn 115) [.str a] [] (.str res) []:=by
 unfold xn at h;refine Ub Tryz.func115 rfl rfl (m:=13) rfl (rs:=[.tmp 2]) rfl (l:=(kAY a)) rfl ?_;refine sh fol (kAY a) ?_;obtain⟨b,c,h⟩:=bnd h;refine sq (gq fol [1] ((3,.ptr 0 0)::kA3) (kP b.1.neg b.1.w b.2.neg b.2.w []) (ac (cv (xk N a c)) az) ?_);obtain⟨e,d,h⟩:=bnd h;refine sq (gr fol [2] [(2,.str e)] (ac (cv (xX N b.2 b.1 d)) az) ?_);refine Goes.ret ?_;obtain rfl:=si h;exact(gw2 [.str e] (Ua tS))
def qdm (N:Nat) (a:Str) (b:Str):Option Str:=
 (xn N b).bind fun c=>
 (xR N a c).bind fun d=>
 some d
theorem qjD (N:Nat) (a:Str) (b:Str) {res:Str} (h:qdm N a b=some res):qc ZT (.fn 53) [.str a,.str b] [] (.str res) []:=by
 unfold qdm at h;refine Ub Tryz.func53 rfl rfl (m:=9) rfl (rs:=[.tmp 4]) rfl (l:=(kV a b [])) rfl ?_;refine sh fol (kV a b []) ?_;obtain⟨f,c,h⟩:=bnd h;obtain⟨e,d,h⟩:=bnd h;refine sq (gr fol [2,3] (kBO e) (ac (cv (qe6 N b c)) (ac (cv (qbe N a f d)) az)) ?_);refine Goes.ret ?_;obtain rfl:=si h;exact(gw2 [.str e] (Ua tS))
def jm (a:Int):Nat->(List Str)->Int->Option (List Str)
 |0,_,_=>none
 |K+1,b,c=>
  if c<a then
  (app 16 b [[48]]).bind fun d=>
  jm a K d (w64 (c+1))
  else
  some b
def qaf (N:Nat) (a:Int):Option (List Str):=
 (jm a N ([]:List Str) 0).bind fun b=>
 some b
theorem qgf (N:Nat) (a:Int) {j:List Str} (h:qaf N a=some j):qc ZT (.fn 48) [.i a] [] (.gslice 0 j.length 1) (kI j []):=by
 unfold qaf at h;refine Goes.fnH Tryz.func48 rfl rfl (m:=14) rfl (rs:=[.tmp 2]) rfl (l:=[(0,.i a)]) rfl ?_;intro B hB;refine sh fol [(0,.i a)] ?_;refine sh fol [(0,.i a),(3,.nilslice)] ?_;refine sq ?_;refine sh fol [(0,.i a),(3,.nilslice),(4,.i 0)] ?_;refine Goes.block ?_;obtain⟨k,g5,h⟩:=bnd h;refine Goes.imp (Q:=fun x s'=>(x= .exit 0/\ ∃f,f=k/\Sub s' (ofG 14 [(3,.gslice 0 f.length 1)],(kI f [])))) ?_ ?_
 ·refine Goes.sub (s':=(ofG 14 [(0,.i a),(3,.gslice 0 ([]:List Str).length 1),(4,.i 0)],[.cells (([]:List Str).flatMap encS.c)])) (Uc [] [none] (by rw[hB];rfl) rfl (.keep (.same nI) (.keep .nil (.keep (.same nI) .nil))) (.fresh .nil)) ?_;refine Ud (fun M s=> ∃(b:List Str) (d:Int),s=(ofG 14 ((0,.i a)::(3,.gslice 0 b.length 1)::(kBN d)),(kI b []))/\jm a M b d=some k) ?_ (m:=N) ⟨_,_,rfl,g5⟩;rintro M s ⟨b,d,rfl,g5⟩
  cases M with
  |zero=>simp only[jm]at g5;cases g5
  |succ M=>
   rw[jm]at g5;refine sq ?_;refine sh fol [(0,.i a),(3,.gslice 0 b.length 1),(4,.i d),(7,.bool (decide (d<a)))] ?_;refine ihD g5 (fun n g5=>?_) (fun n g5=>?_)
   ·refine Goes.skip ?_;refine sq (Goes.block ?_);obtain⟨e,g,g5⟩:=bnd g5;refine gq fol [2] ((0,.i a)::(3,.gslice 2 e.length 1)::(kBN d)) (.dead:: .cells [.str [48]]::(kI e [])) (ac (hs (.run [0,1] (yC ZT [59,59] (.gslice 0 b.length 1) (.slice 1 0 1 1 1)) (kI b [.cells [.str [48]]]) (.gslice 2 e.length 1) (.dead:: .cells [.str [48]]::(kI e [])) true) (qbG qgn (E:=encS) rfl (qfn (E:=encS) (ys:=[[48]]) rfl rfl rfl rfl) (qgL (E:=encS) (l:=b) rfl rfl rfl g rfl))) az) ?_;refine gh fol ((0,.i a)::(3,.gslice 2 e.length 1)::(kBN (w64 (d+1)))) ?_;exact⟨M,(ofG 14 ((0,.i a)::(3,.gslice 0 e.length 1)::(kBN (w64 (d+1)))),(kI e [])),Nat.lt_succ_self _,(Uc [] [some 2] (by rw[hB];rfl) rfl (.keep (.same nI) (.keep (.gslice rfl) (.keep (.same nI) .nil))) (.ks .nil)),_,_,rfl,g5⟩
   refine Goes.exit ?_;obtain rfl:=si g5;exact⟨rfl,_,rfl,(Sub.keep [3] rfl rfl)⟩
 rintro x s' ⟨rfl,f,rfl,hsub⟩;refine Goes.sub hsub ?_;refine sh fol [(2,.gslice 0 f.length 1)] ?_;refine Goes.ret ?_;obtain rfl:=si h;exact(gh2 [.gslice 0 f.length 1] (qgo.refl _ _))
def yl (N:Nat) (n:Int):Nat->(List (List Str))->Int->Option (List (List Str))
 |0,_,_=>none
 |K+1,c,a=>
  if a<n then
  (qaf N n).bind fun d=>
  (idx d a).bind fun f=>
  (put d a [49]).bind fun e=>
  (app 24 c [e]).bind fun b=>
  yl N n K b (w64 (a+1))
  else
  some c
def vC (N:Nat) (n:Int) (w:List Int) (t:Str) (g:Int) (b:Int):Nat->(List (List Str))->Int->Option (List (List Str))
 |0,_,_=>none
 |K+1,c,a=>
  if a<n then
  (((idx c a).bind fun d=>
  (idx d (w64 (b-1))).bind fun e=>
  (idx d b).bind fun f=>
  (idx w g).bind fun p=>
  if p>0 then
  (idx (qx c a d) a).bind fun h=>
  (qcg N [49] t).bind fun q=>
  (xR N e q).bind fun r=>
  (qbE N r f).bind fun s=>
  (idx h (w64 (b-1))).bind fun D=>
  (put h (w64 (b-1)) s).bind fun i=>
  (idx (qx (qx c a d) a i) a).bind fun j=>
  (xR N e t).bind fun u=>
  (idx j b).bind fun E=>
  (put j b u).bind fun v=>
  some (qx (qx (qx c a d) a i) a v)
  else
  (qdm N [49] t).bind fun k=>
  (idx (qx c a d) a).bind fun l=>
  (xR N f k).bind fun x=>
  (idx l (w64 (b-1))).bind fun F=>
  (put l (w64 (b-1)) x).bind fun m=>
  (idx (qx (qx c a d) a m) a).bind fun o=>
  (qcg N [49] k).bind fun y=>
  (xR N f y).bind fun z=>
  (qbE N e z).bind fun A=>
  (idx o b).bind fun G=>
  (put o b A).bind fun B=>
  some (qx (qx (qx c a d) a m) a B):Option (List (List Str)))).bind fun C=>
  vC N n w t g b K C (w64 (a+1))
  else
  some c
def yw (N:Nat) (n:Int) (w:List Int) (t:Str):Nat->(List (List Str))->Int->Option (List (List Str))
 |0,_,_=>none
 |K+1,b,a=>
  if a<(w.length:Int)then
  (idx w a).bind fun c=>
  (qcv c).bind fun d=>
  (vC N n w t a d N b 0).bind fun e=>
  yw N n w t K e (w64 (a+1))
  else
  some b
def qbN (N:Nat) (n:Int) (w:List Int) (t:Str):Option (List (List Str)):=
 (yl N n N ([]:List (List Str)) 0).bind fun b=>
 (yw N n w t N b 0).bind fun a=>
 some a
theorem qir (N:Nat) (n:Int) (w:List Int) (t:Str) {res:List (List Str)} (h:qbN N n w t=some res):qc ZT (.fn 10) [.i n,vl encI w,.str t] [] (vl (qE encS) res) []:=by
 unfold qbN at h;refine Ub Tryz.func10 rfl rfl (m:=113) rfl (rs:=[.tmp 6]) rfl (l:=(kM n w t [])) rfl ?_;refine sh fol (kM n w t []) ?_;refine sh fol (kM n w t [(7,.nilslice)]) ?_;refine sq ?_;refine sh fol (kM n w t [(7,.nilslice),(8,.i 0)]) ?_;refine Goes.block ?_;obtain⟨r4,g4,h⟩:=bnd h;refine Goes.imp (Q:=fun x s'=>(x= .exit 0/\ ∃l3,l3=r4/\Sub s' (ofG 113 (kM n w t (kAR l3 [])),[bg encS l3]))) ?_ ?_
 ·refine Goes.sub (s':=(ofG 113 (kM n w t [(7,.gslice 0 ([]:List (List Str)).length 1),(8,.i 0)]),[bg encS ([]:List (List Str))])) (Uc [] [none] rfl rfl (.keep (.same nI) (.keep (.same (qg encI _)) (.keep (.same nS) (.keep .nil (.keep (.same nI) .nil))))) (.fresh .nil)) ?_;refine Ud (fun M s=> ∃(B:List (List Str)) (J:Int),s=(ofG 113 (kM n w t (kAR B (kBH J))),[bg encS B])/\yl N n M B J=some r4) ?_ (m:=N) ⟨_,_,rfl,g4⟩;rintro M s ⟨B,J,rfl,g4⟩
  cases M with
  |zero=>simp only[yl]at g4;cases g4
  |succ M=>
   rw[yl]at g4;refine sq ?_;refine sh fol (kM n w t (kAR B [(8,.i J),(18,.bool (decide (J<n)))])) ?_;refine ihD g4 (fun c5 g4=>?_) (fun c5 g4=>?_)
   ·refine Goes.skip ?_;refine sq (Goes.block ?_);obtain⟨l7,e_r6,g4⟩:=bnd g4;refine sq (gq fol [1] (kM n w t (kAR B [(8,.i J),(9,.gslice 1 l7.length 1)])) (bg encS B::(kI l7 [])) (ac (hs (.callH 48 [.i n] [bg encS B] [] (.gslice 1 l7.length 1) (bg encS B::(kI l7 []))) (qew [] [none,some 0] (qgf N n e_r6) .nil rfl rfl (.old rfl rfl (.new rfl rfl (.same fa) rfl .nil)) (rc (.same nI) rn) (.gslice rfl) rfl)) az) ?_);obtain⟨x8,e_x8,g4⟩:=bnd g4;obtain⟨I,e_l9,g4⟩:=bnd g4;refine sq (gq fol [2,3] (kM n w t (kAR B [(8,.i J),(9,.gslice 1 l7.length 1)])) (bg encS B::(kI I [])) (ac (hs (.done (.opt (qd ZT 59 (.gslice 1 l7.length 1) (.i J))) (.ptr 1 ((J:Int).toNat*1+0))) (qa9 qgn e_x8)) (ac (hs (.run [1] (qp ZT 23 (.ptr 1 ((J:Int).toNat*1+0)) (.str [49])) (bg encS B::(kI l7 [])) .undef (bg encS B::(kI I [])) true) (vT (E:=encS) (l:=l7) (y:=[49]) rfl (show _=some 1 by kernel_rfl) rfl e_x8 rfl rfl rfl rfl rfl e_l9 rfl)) az)) ?_);refine Goes.sub (show Sub (ofG 113 (kM n w t (kAR B [(8,.i J),(9,.gslice 1 l7.length 1)])),(bg encS B::(kI I []))) (ofG 113 (kM n w t (kAR B [(8,.i J),(9,.gslice 1 I.length 1)])),(bg encS B::(kI I [])))from(Uc [] [some 0,some 1] rfl rfl (.keep (.same nI) (.keep (.same (qg encI _)) (.keep (.same nS) (.keep (.gslice rfl) (.keep (.same nI) (.keep (.gsliceE rfl (zn e_l9)) .nil)))))) (.kb rfl yZ.bgs (.ks .nil)))) ?_;obtain⟨K,Y,g4⟩:=bnd g4;refine gq fol [3] (kM n w t ((7,.gslice 3 K.length 1)::(kBH J))) (.dead::(kI I [.cells [.gslice 1 I.length 1],.bag (B.map (qW encS)++[.av (.gslice 1 I.length 1)])])) (ac (hs (.run [0,2] (yC ZT [29,29] (.gslice 0 B.length 1) (.slice 2 0 1 1 1)) (bg encS B::(kI I [.cells [.gslice 1 I.length 1]])) (.gslice 3 K.length 1) (.dead::(kI I [.cells [.gslice 1 I.length 1],.bag (B.map (qW encS)++[.av (.gslice 1 I.length 1)])])) true) (qp7 qhD (E:=encS) (l:=B) (x:=I) rfl rfl rfl rfl rfl Y rfl)) az) ?_;refine Goes.sub (show Sub (ofG 113 (kM n w t ((7,.gslice 3 K.length 1)::(kBH J))),(.dead::(kI I [.cells [.gslice 1 I.length 1],.bag (B.map (qW encS)++[.av (.gslice 1 I.length 1)])]))) (ofG 113 (kM n w t ((7,.gslice 3 K.length 1)::(kBH J))),[.dead,.dead,.cells [.gslice 1 I.length 1],bg encS K])from(Sub.bagGiveA (E:=encS) (b:=3) (c:=1) (Nat.ne_of_beq_eq_false rfl) rfl rfl Y .g rfl)) ?_;refine gh fol (kM n w t ((7,.gslice 3 K.length 1)::(kBH (w64 (J+1))))) ?_;exact⟨M,(ofG 113 (kM n w t (kAR K (kBH (w64 (J+1))))),[bg encS K]),Nat.lt_succ_self _,(Uc [] [some 3] rfl rfl (.keep (.same nI) (.keep (.same (qg encI _)) (.keep (.same nS) (.keep (.gslice rfl) (.keep (.same nI) .nil))))) (.kb rfl yZ.bgs .nil)),_,_,rfl,g4⟩
   refine Goes.exit ?_;obtain rfl:=si g4;exact⟨rfl,_,rfl,(Sub.keep [0,1,2,7] rfl rfl)⟩
 rintro x s' ⟨rfl,l3,rfl,hsub⟩;refine Goes.sub hsub ?_;refine sq ?_;refine sh fol (kM n w t (kAR l3 [(10,.i 0)])) ?_;refine Goes.block ?_;obtain⟨r14,g14,h⟩:=bnd h;refine Goes.imp (Q:=fun x s'=>(x= .exit 2/\ ∃L,L=r14/\Sub s' (ofG 113 (kAR L []),[bg encS L]))) ?_ ?_
 ·refine Ud (fun M s=> ∃(O:List (List Str)) (j:Int),s=(ofG 113 (kM n w t (kAR O [(10,.i j)])),[bg encS O])/\yw N n w t M O j=some r14) ?_ (m:=N) ⟨_,_,rfl,g14⟩;rintro M s ⟨O,j,rfl,g14⟩
  cases M with
  |zero=>simp only[yw]at g14;cases g14
  |succ M=>
   rw[yw]at g14;refine sq ?_;refine sh fol (kM n w t (kAR O [(10,.i j),(33,.bool (decide (j<(w.length:Int))))])) ?_;refine ihD g14 (fun c15 g14=>?_) (fun c15 g14=>?_)
   ·refine Goes.skip ?_;refine sq (Goes.block ?_);obtain⟨x16,Z,g14⟩:=bnd g14;obtain⟨f,e_r17,g14⟩:=bnd g14;refine sq (gr fol [2,3,4] (kM n w t (kAR O [(10,.i j),(11,.i f)])) (ac (iv ji encI Z) (ac (lv 0 ce3 encI Z rfl) (ac (cv (qiB x16 e_r17)) az))) ?_);refine sh fol (kM n w t (kAR O [(10,.i j),(11,.i f),(12,.i 0)])) ?_;refine Goes.block ?_;obtain⟨r21,g21,g14⟩:=bnd g14;refine Goes.imp (Q:=fun x s'=>(x= .exit 4/\ ∃P,P=r21/\Sub s' (ofG 113 (kM n w t (kAR P [(10,.i j)])),[bg encS P]))) ?_ ?_
    ·refine Ud (fun M s=> ∃(e:List (List Str)) (a:Int),s=(ofG 113 (kC n w t e j f a []),[bg encS e])/\vC N n w t j f M e a=some r21) ?_ (m:=N) ⟨_,_,rfl,g21⟩;rintro M s ⟨e,a,rfl,g21⟩
     cases M with
     |zero=>simp only[vC]at g21;cases g21
     |succ M=>
      rw[vC]at g21;refine sq ?_;refine sh fol (kC n w t e j f a [(43,.bool (decide (a<n)))]) ?_;refine ihD g21 (fun c22 g21=>?_) (fun c22 g21=>?_)
      ·refine Goes.skip ?_;refine sq ?_;obtain⟨r24,g24,g21⟩:=bnd g21;refine Goes.imp (Q:=fun x s'=>(x= .normal/\ ∃U,U=r24/\Sub s' (ofG 113 (kC n w t U j f a []),[bg encS U]))) ?_ ?_
       ·refine Goes.block ?_;obtain⟨d,A,g24⟩:=bnd g24;refine sq (Goes.sub (s':=(ofG 113 (kC n w t e j f a [(43,.bool (decide (a<n)))]),(.bag ((e.map (qW encS)).set (a:Int).toNat (.av (.gslice 1 d.length 1)))::(kI d [])))) (Ul (E:=encS) (b:=0) rfl A) ?_);obtain⟨k,a0,g24⟩:=bnd g24;obtain⟨q,a1,g24⟩:=bnd g24;refine gr fol [2,3,6,7,10,11,13,14] (kC n w t e j f a (kAe k q [])) (ac (hs (.done (.opt (qd ZT 29 (.gslice 0 e.length 1) (.i a))) (.ptr 0 ((a:Int).toNat*1+0))) (qa9 qhD A)) (ac (hs (.run [0] (ko ZT 59 (.ptr 0 ((a:Int).toNat*1+0))) (.bag ((e.map (qW encS)).set (a:Int).toNat (.av (.gslice 1 d.length 1)))::(kI d [])) (.gslice 1 d.length 1) (.bag ((e.map (qW encS)).set (a:Int).toNat (.av (.gslice 1 d.length 1)))::(kI d [])) false) (qeE qjc rfl (at_set A))) (ac (hs (.done (.opt (qd ZT 59 (.gslice 1 d.length 1) (.i (w64 (f-1))))) (.ptr 1 ((w64 (f-1):Int).toNat*1+0))) (qa9 qgn a0)) (ac (hs (.run [1] (ko ZT 23 (.ptr 1 ((w64 (f-1):Int).toNat*1+0))) (.bag ((e.map (qW encS)).set (a:Int).toNat (.av (.gslice 1 d.length 1)))::(kI d [])) (.str k) (.bag ((e.map (qW encS)).set (a:Int).toNat (.av (.gslice 1 d.length 1)))::(kI d [])) false) (qcb qnV (E:=encS) (l:=d) rfl rfl a0 (nl rfl) rfl)) (ac (hs (.done (.opt (qd ZT 29 (.gslice 0 e.length 1) (.i a))) (.ptr 0 ((a:Int).toNat*1+0))) (qa9 qhD A)) (ac (hs (.run [0] (ko ZT 59 (.ptr 0 ((a:Int).toNat*1+0))) (.bag ((e.map (qW encS)).set (a:Int).toNat (.av (.gslice 1 d.length 1)))::(kI d [])) (.gslice 1 d.length 1) (.bag ((e.map (qW encS)).set (a:Int).toNat (.av (.gslice 1 d.length 1)))::(kI d [])) false) (qeE qjc rfl (at_set A))) (ac (hs (.done (.opt (qd ZT 59 (.gslice 1 d.length 1) (.i f))) (.ptr 1 ((f:Int).toNat*1+0))) (qa9 qgn a1)) (ac (hs (.run [1] (ko ZT 23 (.ptr 1 ((f:Int).toNat*1+0))) (.bag ((e.map (qW encS)).set (a:Int).toNat (.av (.gslice 1 d.length 1)))::(kI d [])) (.str q) (.bag ((e.map (qW encS)).set (a:Int).toNat (.av (.gslice 1 d.length 1)))::(kI d [])) false) (qcb qnV (E:=encS) (l:=d) rfl rfl a1 (nl rfl) rfl)) az)))))))) ?_;refine Goes.sub ((show Sub (ofG 113 (kC n w t e j f a (kAe k q [])),(.bag ((e.map (qW encS)).set (a:Int).toNat (.av (.gslice 1 d.length 1)))::(kI d []))) (ofG 113 (kC n w t e j f a (kAe k q [])),[bg encS (qx e a d),.dead])from(Ui (E:=encS) (b:=0) (c:=1) (Nat.ne_of_beq_eq_false rfl) rfl rfl A .g rfl)).trans (show Sub (ofG 113 (kC n w t e j f a (kAe k q [])),[bg encS (qx e a d),.dead]) (ofG 113 (kC n w t (qx e a d) j f a (kAe k q [])),[bg encS (qx e a d)])from(Uc [] [some 0] rfl rfl (.keep (.same nI) (.keep (.same (qg encI _)) (.keep (.same nS) (.keep (.gsliceE rfl (qbc _ _ _)) (.keep (.same nI) (.keep (.same nI) (.keep (.same nI) (.keep (.same nS) (.keep (.same nS) .nil))))))))) (.kb rfl yZ.bgs .nil)))) ?_;obtain⟨x29,a2,g24⟩:=bnd g24;refine sq (gr fol [2,3] (kC n w t (qx e a d) j f a (kAe k q [(65,.bool (decide (x29>0)))])) (ac (iv ji encI a2) (ac (lv 0 ce3 encI a2 rfl) az)) ?_);refine ihD g24 (fun c30 g24=>?_) (fun c30 g24=>?_)
        ·obtain⟨r,D,g24⟩:=bnd g24;refine sq (Goes.sub (s':=(ofG 113 (kC n w t (qx e a d) j f a (kAe k q [(65,.bool (decide (x29>0)))])),(.bag (((qx e a d).map (qW encS)).set (a:Int).toNat (.av (.gslice 1 r.length 1)))::(kI r [])))) (Ul (E:=encS) (b:=0) rfl D) ?_);obtain⟨r33,e_r33,g24⟩:=bnd g24;obtain⟨r34,e_r34,g24⟩:=bnd g24;obtain⟨r35,e_r35,g24⟩:=bnd g24;obtain⟨x36,a3,g24⟩:=bnd g24;obtain⟨o,a4,g24⟩:=bnd g24;refine gq fol [2,3,8,9,11,12,13] (kC n w t (qx e a d) j f a [(13,.str k)]) (.bag (((qx e a d).map (qW encS)).set (a:Int).toNat (.av (.gslice 1 r.length 1)))::(kI o [])) (ac (hs (.done (.opt (qd ZT 29 (.gslice 0 (qx e a d).length 1) (.i a))) (.ptr 0 ((a:Int).toNat*1+0))) (qa9 qhD D)) (ac (hs (.run [0] (ko ZT 59 (.ptr 0 ((a:Int).toNat*1+0))) (.bag (((qx e a d).map (qW encS)).set (a:Int).toNat (.av (.gslice 1 r.length 1)))::(kI r [])) (.gslice 1 r.length 1) (.bag (((qx e a d).map (qW encS)).set (a:Int).toNat (.av (.gslice 1 r.length 1)))::(kI r [])) false) (qeE qjc rfl (at_set D))) (ac (cv (qge N [49] t e_r33)) (ac (cv (qbe N k r33 e_r34)) (ac (cv (qdU N r34 q e_r35)) (ac (hs (.done (.opt (qd ZT 59 (.gslice 1 r.length 1) (.i (w64 (f-1))))) (.ptr 1 ((w64 (f-1):Int).toNat*1+0))) (qa9 qgn a3)) (ac (hs (.run [1] (qp ZT 23 (.ptr 1 ((w64 (f-1):Int).toNat*1+0)) (.str r35)) (.bag (((qx e a d).map (qW encS)).set (a:Int).toNat (.av (.gslice 1 r.length 1)))::(kI r [])) .undef (.bag (((qx e a d).map (qW encS)).set (a:Int).toNat (.av (.gslice 1 r.length 1)))::(kI o [])) true) (vT (E:=encS) (l:=r) (y:=r35) rfl (show _=some 1 by kernel_rfl) rfl a3 rfl rfl rfl rfl rfl a4 rfl)) az))))))) ?_;refine Goes.sub ((show Sub (ofG 113 (kC n w t (qx e a d) j f a [(13,.str k)]),(.bag (((qx e a d).map (qW encS)).set (a:Int).toNat (.av (.gslice 1 r.length 1)))::(kI o []))) (ofG 113 (kC n w t (qx e a d) j f a [(13,.str k)]),[bg encS (qx (qx e a d) a o),.dead])from(Ui (E:=encS) (b:=0) (c:=1) (Nat.ne_of_beq_eq_false rfl) rfl rfl D .g (zn a4))).trans (show Sub (ofG 113 (kC n w t (qx e a d) j f a [(13,.str k)]),[bg encS (qx (qx e a d) a o),.dead]) (ofG 113 (kC n w t (qx (qx e a d) a o) j f a [(13,.str k)]),[bg encS (qx (qx e a d) a o)])from(Uc [] [some 0] rfl rfl (.keep (.same nI) (.keep (.same (qg encI _)) (.keep (.same nS) (.keep (.gsliceE rfl (qbc _ _ _)) (.keep (.same nI) (.keep (.same nI) (.keep (.same nI) (.keep (.same nS) .nil)))))))) (.kb rfl yZ.bgs .nil)))) ?_;obtain⟨u,F,g24⟩:=bnd g24;refine Goes.sub (s':=(ofG 113 (kC n w t (qx (qx e a d) a o) j f a [(13,.str k)]),(.bag (((qx (qx e a d) a o).map (qW encS)).set (a:Int).toNat (.av (.gslice 1 u.length 1)))::(kI u [])))) (Ul (E:=encS) (b:=0) rfl F) ?_;obtain⟨r40,e_r40,g24⟩:=bnd g24;obtain⟨x41,a5,g24⟩:=bnd g24;obtain⟨V,a6,g24⟩:=bnd g24;refine gq fol [2,3,7,8,9] (kC n w t (qx (qx e a d) a o) j f a []) (.bag (((qx (qx e a d) a o).map (qW encS)).set (a:Int).toNat (.av (.gslice 1 u.length 1)))::(kI V [])) (ac (hs (.done (.opt (qd ZT 29 (.gslice 0 (qx (qx e a d) a o).length 1) (.i a))) (.ptr 0 ((a:Int).toNat*1+0))) (qa9 qhD F)) (ac (hs (.run [0] (ko ZT 59 (.ptr 0 ((a:Int).toNat*1+0))) (.bag (((qx (qx e a d) a o).map (qW encS)).set (a:Int).toNat (.av (.gslice 1 u.length 1)))::(kI u [])) (.gslice 1 u.length 1) (.bag (((qx (qx e a d) a o).map (qW encS)).set (a:Int).toNat (.av (.gslice 1 u.length 1)))::(kI u [])) false) (qeE qjc rfl (at_set F))) (ac (cv (qbe N k t e_r40)) (ac (hs (.done (.opt (qd ZT 59 (.gslice 1 u.length 1) (.i f))) (.ptr 1 ((f:Int).toNat*1+0))) (qa9 qgn a5)) (ac (hs (.run [1] (qp ZT 23 (.ptr 1 ((f:Int).toNat*1+0)) (.str r40)) (.bag (((qx (qx e a d) a o).map (qW encS)).set (a:Int).toNat (.av (.gslice 1 u.length 1)))::(kI u [])) .undef (.bag (((qx (qx e a d) a o).map (qW encS)).set (a:Int).toNat (.av (.gslice 1 u.length 1)))::(kI V [])) true) (vT (E:=encS) (l:=u) (y:=r40) rfl (show _=some 1 by kernel_rfl) rfl a5 rfl rfl rfl rfl rfl a6 rfl)) az))))) ?_;obtain rfl:=si g24;exact⟨rfl,_,rfl,(((show Sub (ofG 113 (kC n w t (qx (qx e a d) a o) j f a []),(.bag (((qx (qx e a d) a o).map (qW encS)).set (a:Int).toNat (.av (.gslice 1 u.length 1)))::(kI V []))) (ofG 113 (kC n w t (qx (qx e a d) a o) j f a []),[bg encS (qx (qx (qx e a d) a o) a V),.dead])from(Ui (E:=encS) (b:=0) (c:=1) (Nat.ne_of_beq_eq_false rfl) rfl rfl F .g (zn a6))).trans (show Sub (ofG 113 (kC n w t (qx (qx e a d) a o) j f a []),[bg encS (qx (qx (qx e a d) a o) a V),.dead]) (ofG 113 (kC n w t (qx (qx (qx e a d) a o) a V) j f a []),[bg encS (qx (qx (qx e a d) a o) a V)])from(Uc [] [some 0] rfl rfl (.keep (.same nI) (.keep (.same (qg encI _)) (.keep (.same nS) (.keep (.gsliceE rfl (qbc _ _ _)) (.keep (.same nI) (.keep (.same nI) (.keep (.same nI) .nil))))))) (.kb rfl yZ.bgs .nil)))).trans (Sub.refl _))⟩
        obtain⟨C,e_r43,g24⟩:=bnd g24;refine sq (gr fol [1] (kC n w t (qx e a d) j f a (kAe k q [(15,.str C)])) (ac (cv (qjD N [49] t e_r43)) az) ?_);obtain⟨v,G,g24⟩:=bnd g24;refine sq (Goes.sub (s':=(ofG 113 (kC n w t (qx e a d) j f a (kAe k q [(15,.str C)])),(.bag (((qx e a d).map (qW encS)).set (a:Int).toNat (.av (.gslice 1 v.length 1)))::(kI v [])))) (Ul (E:=encS) (b:=0) rfl G) ?_);obtain⟨r46,e_r46,g24⟩:=bnd g24;obtain⟨x47,a7,g24⟩:=bnd g24;obtain⟨p,a8,g24⟩:=bnd g24;refine gq fol [2,3,8,9,10] (kC n w t (qx e a d) j f a (kAe k q [(15,.str C)])) (.bag (((qx e a d).map (qW encS)).set (a:Int).toNat (.av (.gslice 1 v.length 1)))::(kI p [])) (ac (hs (.done (.opt (qd ZT 29 (.gslice 0 (qx e a d).length 1) (.i a))) (.ptr 0 ((a:Int).toNat*1+0))) (qa9 qhD G)) (ac (hs (.run [0] (ko ZT 59 (.ptr 0 ((a:Int).toNat*1+0))) (.bag (((qx e a d).map (qW encS)).set (a:Int).toNat (.av (.gslice 1 v.length 1)))::(kI v [])) (.gslice 1 v.length 1) (.bag (((qx e a d).map (qW encS)).set (a:Int).toNat (.av (.gslice 1 v.length 1)))::(kI v [])) false) (qeE qjc rfl (at_set G))) (ac (cv (qbe N q C e_r46)) (ac (hs (.done (.opt (qd ZT 59 (.gslice 1 v.length 1) (.i (w64 (f-1))))) (.ptr 1 ((w64 (f-1):Int).toNat*1+0))) (qa9 qgn a7)) (ac (hs (.run [1] (qp ZT 23 (.ptr 1 ((w64 (f-1):Int).toNat*1+0)) (.str r46)) (.bag (((qx e a d).map (qW encS)).set (a:Int).toNat (.av (.gslice 1 v.length 1)))::(kI v [])) .undef (.bag (((qx e a d).map (qW encS)).set (a:Int).toNat (.av (.gslice 1 v.length 1)))::(kI p [])) true) (vT (E:=encS) (l:=v) (y:=r46) rfl (show _=some 1 by kernel_rfl) rfl a7 rfl rfl rfl rfl rfl a8 rfl)) az))))) ?_;refine Goes.sub ((show Sub (ofG 113 (kC n w t (qx e a d) j f a (kAe k q [(15,.str C)])),(.bag (((qx e a d).map (qW encS)).set (a:Int).toNat (.av (.gslice 1 v.length 1)))::(kI p []))) (ofG 113 (kC n w t (qx e a d) j f a (kAe k q [(15,.str C)])),[bg encS (qx (qx e a d) a p),.dead])from(Ui (E:=encS) (b:=0) (c:=1) (Nat.ne_of_beq_eq_false rfl) rfl rfl G .g (zn a8))).trans (show Sub (ofG 113 (kC n w t (qx e a d) j f a (kAe k q [(15,.str C)])),[bg encS (qx (qx e a d) a p),.dead]) (ofG 113 (kC n w t (qx (qx e a d) a p) j f a (kAe k q [(15,.str C)])),[bg encS (qx (qx e a d) a p)])from(Uc [] [some 0] rfl rfl (.keep (.same nI) (.keep (.same (qg encI _)) (.keep (.same nS) (.keep (.gsliceE rfl (qbc _ _ _)) (.keep (.same nI) (.keep (.same nI) (.keep (.same nI) (.keep (.same nS) (.keep (.same nS) (.keep (.same nS) .nil)))))))))) (.kb rfl yZ.bgs .nil)))) ?_;obtain⟨z,H,g24⟩:=bnd g24;refine Goes.sub (s':=(ofG 113 (kC n w t (qx (qx e a d) a p) j f a (kAe k q [(15,.str C)])),(.bag (((qx (qx e a d) a p).map (qW encS)).set (a:Int).toNat (.av (.gslice 1 z.length 1)))::(kI z [])))) (Ul (E:=encS) (b:=0) rfl H) ?_;obtain⟨r51,e_r51,g24⟩:=bnd g24;obtain⟨r52,e_r52,g24⟩:=bnd g24;obtain⟨r53,e_r53,g24⟩:=bnd g24;obtain⟨x54,a9,g24⟩:=bnd g24;obtain⟨X,b0,g24⟩:=bnd g24;refine gq fol [2,3,8,9,10,11,12] (kC n w t (qx (qx e a d) a p) j f a []) (.bag (((qx (qx e a d) a p).map (qW encS)).set (a:Int).toNat (.av (.gslice 1 z.length 1)))::(kI X [])) (ac (hs (.done (.opt (qd ZT 29 (.gslice 0 (qx (qx e a d) a p).length 1) (.i a))) (.ptr 0 ((a:Int).toNat*1+0))) (qa9 qhD H)) (ac (hs (.run [0] (ko ZT 59 (.ptr 0 ((a:Int).toNat*1+0))) (.bag (((qx (qx e a d) a p).map (qW encS)).set (a:Int).toNat (.av (.gslice 1 z.length 1)))::(kI z [])) (.gslice 1 z.length 1) (.bag (((qx (qx e a d) a p).map (qW encS)).set (a:Int).toNat (.av (.gslice 1 z.length 1)))::(kI z [])) false) (qeE qjc rfl (at_set H))) (ac (cv (qge N [49] C e_r51)) (ac (cv (qbe N q r51 e_r52)) (ac (cv (qdU N k r52 e_r53)) (ac (hs (.done (.opt (qd ZT 59 (.gslice 1 z.length 1) (.i f))) (.ptr 1 ((f:Int).toNat*1+0))) (qa9 qgn a9)) (ac (hs (.run [1] (qp ZT 23 (.ptr 1 ((f:Int).toNat*1+0)) (.str r53)) (.bag (((qx (qx e a d) a p).map (qW encS)).set (a:Int).toNat (.av (.gslice 1 z.length 1)))::(kI z [])) .undef (.bag (((qx (qx e a d) a p).map (qW encS)).set (a:Int).toNat (.av (.gslice 1 z.length 1)))::(kI X [])) true) (vT (E:=encS) (l:=z) (y:=r53) rfl (show _=some 1 by kernel_rfl) rfl a9 rfl rfl rfl rfl rfl b0 rfl)) az))))))) ?_;obtain rfl:=si g24;exact⟨rfl,_,rfl,(((show Sub (ofG 113 (kC n w t (qx (qx e a d) a p) j f a []),(.bag (((qx (qx e a d) a p).map (qW encS)).set (a:Int).toNat (.av (.gslice 1 z.length 1)))::(kI X []))) (ofG 113 (kC n w t (qx (qx e a d) a p) j f a []),[bg encS (qx (qx (qx e a d) a p) a X),.dead])from(Ui (E:=encS) (b:=0) (c:=1) (Nat.ne_of_beq_eq_false rfl) rfl rfl H .g (zn b0))).trans (show Sub (ofG 113 (kC n w t (qx (qx e a d) a p) j f a []),[bg encS (qx (qx (qx e a d) a p) a X),.dead]) (ofG 113 (kC n w t (qx (qx (qx e a d) a p) a X) j f a []),[bg encS (qx (qx (qx e a d) a p) a X)])from(Uc [] [some 0] rfl rfl (.keep (.same nI) (.keep (.same (qg encI _)) (.keep (.same nS) (.keep (.gsliceE rfl (qbc _ _ _)) (.keep (.same nI) (.keep (.same nI) (.keep (.same nI) .nil))))))) (.kb rfl yZ.bgs .nil)))).trans (Sub.refl _))⟩
       rintro x s' ⟨rfl,U,rfl,hsub⟩;refine Goes.sub hsub ?_;refine gh fol (kC n w t U j f (w64 (a+1)) []) ?_;exact⟨M,(ofG 113 (kC n w t U j f (w64 (a+1)) []),[bg encS U]),Nat.lt_succ_self _,(Sub.refl _),_,_,rfl,g21⟩
      refine Goes.exit ?_;obtain rfl:=si g21;exact⟨rfl,_,rfl,(Sub.keep [0,1,2,7,10] rfl rfl)⟩
    rintro x s' ⟨rfl,P,rfl,hsub⟩;refine Goes.sub hsub ?_;refine gh fol (kM n w t (kAR P [(10,.i (w64 (j+1)))])) ?_;exact⟨M,(ofG 113 (kM n w t (kAR P [(10,.i (w64 (j+1)))])),[bg encS P]),Nat.lt_succ_self _,(Sub.refl _),_,_,rfl,g14⟩
   refine Goes.exit ?_;obtain rfl:=si g14;exact⟨rfl,_,rfl,(Sub.keep [7] rfl rfl)⟩
 rintro x s' ⟨rfl,L,rfl,hsub⟩;refine Goes.sub hsub ?_;refine sh fol (kAC L []) ?_;refine Goes.sub (s':=(ofG 113 (kAC L []),[.frozen (L.flatMap (qE encS).c)])) (Sub.bagFreeze (E:=encS) (b:=0) rfl) ?_;refine Goes.ret ?_;obtain rfl:=si h;exact(gw2 [.gslice 0 L.length 1] (FzW.fz (Fz.gsF (E:=(qE encS)) rfl rfl (nl rfl))))
def qbV (N:Nat) (a:Str):Option Int:=
 ((qa3 N a).bind fun b=>
 (qa1 b).bind fun c=>
 if(c.length:Int)>600 then
 some true
 else
 (qa4 N a).bind fun d=>
 some (decide ((d.length:Int)>600)):Option Bool).bind fun e=>
 if e=true then
 some 4
 else
 some 0
theorem qht (N:Nat) (a:Str) {res:Int} (h:qbV N a=some res):qc ZT (.fn 116) [.str a] [] (.i res) []:=by
 unfold qbV at h;refine Ub Tryz.func116 rfl rfl (m:=14) rfl (rs:=[.tmp 2]) rfl (l:=(kAY a)) rfl ?_;refine sh fol (kAY a) ?_;refine sq ?_;refine sq ?_;obtain⟨j,b,h⟩:=bnd h;refine Ue (s':=(ofG 14 (kBC j),[])) ?_ ?_
 ·obtain⟨g,c,b⟩:=bnd b;obtain⟨o,d,b⟩:=bnd b;rcases wyD b with⟨f,b⟩|⟨f,b⟩
  ·obtain rfl:=si b;exact tr fol [1,2,5] [(13,.bool true)] (ac (cv (qb5 N a c)) (ac (cv (qb3 g d)) (ac (gw f) az)))
  obtain⟨k,e,b⟩:=bnd b;obtain rfl:=si b;exact tr fol [1,2,5,7] (kBC (decide ((k.length:Int)>600))) (ac (cv (qb5 N a c)) (ac (cv (qb3 g d)) (ac (gw f) (ac (cv (qfK N a e)) az))))
 refine ihB h (fun n h=>?_) (fun n h=>?_)
 ·refine sh fol [(2,.i 4)] ?_;refine Goes.ret ?_;obtain rfl:=si h;exact(gw2 [.i 4] (Ua tI))
 refine Goes.skip ?_;refine sh fol [(2,.i 0)] ?_;refine Goes.ret ?_;obtain rfl:=si h;exact(gw2 [.i 0] (Ua tI))
def jo (N:Nat) (l:List Str):Nat->Int->Option (Unit⊕Int)
 |0,_=>none
 |K+1,a=>
  if a<(l.length:Int)then
  (idx l a).bind fun b=>
  (qbV N b).bind fun c=>
  if(!decide (c=0))=true then
  some (.inr 4)
  else
  jo N l K (w64 (a+1))
  else
  some (.inl ())
def qa8 (N:Nat) (l:List Str):Option Int:=
 (jo N l N 0).bind (fun
 |(.inl ())=>
 some 0
 |(.inr a)=>
 some a)
theorem qfQ (N:Nat) (l:List Str) {res:Int} (h:qa8 N l=some res):qc ZT (.fn 54) [vl encS l] [] (.i res) []:=by
 unfold qa8 at h;refine Ub Tryz.func54 rfl rfl (m:=16) rfl (rs:=[.tmp 2]) rfl (l:=[(0,vl encS l)]) rfl ?_;refine sh fol [(0,vl encS l)] ?_;refine sq ?_;refine sh fol [(0,vl encS l),(3,.i 0)] ?_;refine Goes.block ?_;obtain⟨d,g2,h⟩:=bnd h;refine Goes.imp (Q:=fun x s'=>(x= .exit 0/\(.inl ())=d/\Sub s' (ofG 16 [],[]))\/(x= .ret/\ ∃e,(.inr e)=d/\zJ ZT [.tmp 2] (.i e) .ret s')) ?_ ?_
 ·refine Ud (fun M s=> ∃(a:Int),s=(ofG 16 [(0,vl encS l),(3,.i a)],[])/\jo N l M a=some d) ?_ (m:=N) ⟨_,rfl,g2⟩;rintro M s ⟨a,rfl,g2⟩
  cases M with
  |zero=>simp only[jo]at g2;cases g2
  |succ M=>
   rw[jo]at g2;refine sq ?_;refine sh fol [(0,vl encS l),(3,.i a),(7,.bool (decide (a<(l.length:Int))))] ?_;refine ihD g2 (fun f g2=>?_) (fun f g2=>?_)
   ·refine Goes.skip ?_;refine sq (Goes.block ?_);obtain⟨g,b,g2⟩:=bnd g2;obtain⟨j,c,g2⟩:=bnd g2;refine sq (gr fol [2,3,4] [(0,vl encS l),(3,.i a),(15,.bool (!decide (j=0)))] (ac (iv qgn encS b) (ac (lv 0 qnV encS b rfl) (ac (cv (qht N g c)) az))) ?_);refine ihB g2 (fun k g2=>?_) (fun k g2=>?_)
    ·refine sh fol [(2,.i 4)] ?_;refine Goes.ret ?_;obtain rfl:=si g2;exact Or.inr (⟨rfl,_,rfl,(gw2 [.i 4] (Ua tI))⟩)
    refine Goes.skip ?_;refine gh fol [(0,vl encS l),(3,.i (w64 (a+1)))] ?_;exact⟨M,(ofG 16 [(0,vl encS l),(3,.i (w64 (a+1)))],[]),Nat.lt_succ_self _,(Sub.refl _),_,rfl,g2⟩
   refine Goes.exit ?_;obtain rfl:=si g2;exact Or.inl (⟨rfl,rfl,(Sub.keep [] rfl rfl)⟩)
 rintro x s' (⟨rfl,rfl,hsub⟩|⟨rfl,n,rfl,hret⟩)
 ·try dsimp only at h
  refine Goes.sub hsub ?_;refine sh fol [(2,.i 0)] ?_;refine Goes.ret ?_;obtain rfl:=si h;exact(gw2 [.i 0] (Ua tI))
 try dsimp only at h
 obtain rfl:=si h;exact hret
def zB (N:Nat) (m:List (List Str)):Nat->Int->Option (Unit⊕Int)
 |0,_=>none
 |K+1,a=>
  if a<(m.length:Int)then
  (idx m a).bind fun c=>
  (qa8 N c).bind fun b=>
  if(!decide (b=0))=true then
  some (.inr b)
  else
  zB N m K (w64 (a+1))
  else
  some (.inl ())
def yK (N:Nat) (m:List (List Str)):Option Int:=
 (zB N m N 0).bind (fun
 |(.inl ())=>
 some 0
 |(.inr a)=>
 some a)
theorem qel (N:Nat) (m:List (List Str)) {res:Int} (h:yK N m=some res):qc ZT (.fn 11) [vl (qE encS) m] [] (.i res) []:=by
 unfold yK at h;refine Ub Tryz.func11 rfl rfl (m:=19) rfl (rs:=[.tmp 2]) rfl (l:=[(0,vl (qE encS) m)]) rfl ?_;refine sh fol [(0,vl (qE encS) m)] ?_;refine sq ?_;refine sh fol [(0,vl (qE encS) m),(3,.i 0)] ?_;refine Goes.block ?_;obtain⟨e,g2,h⟩:=bnd h;refine Goes.imp (Q:=fun x s'=>(x= .exit 0/\(.inl ())=e/\Sub s' (ofG 19 [],[]))\/(x= .ret/\ ∃f,(.inr f)=e/\zJ ZT [.tmp 2] (.i f) .ret s')) ?_ ?_
 ·refine Ud (fun M s=> ∃(a:Int),s=(ofG 19 [(0,vl (qE encS) m),(3,.i a)],[])/\zB N m M a=some e) ?_ (m:=N) ⟨_,rfl,g2⟩;rintro M s ⟨a,rfl,g2⟩
  cases M with
  |zero=>simp only[zB]at g2;cases g2
  |succ M=>
   rw[zB]at g2;refine sq ?_;refine sh fol ((0,vl (qE encS) m)::(3,.i a)::(kBJ (decide (a<(m.length:Int))))) ?_;refine ihD g2 (fun g g2=>?_) (fun g g2=>?_)
   ·refine Goes.skip ?_;refine sq (Goes.block ?_);obtain⟨j,b,g2⟩:=bnd g2;obtain⟨c,d,g2⟩:=bnd g2;refine sq (gr fol [2,3,4] ((0,vl (qE encS) m)::(3,.i a)::(kBN c)) (ac (iv qhD (qE encS) b) (ac (lv 0 qjc (qE encS) b rfl) (ac (cv (qfQ N j d)) az))) ?_);refine sh fol [(0,vl (qE encS) m),(3,.i a),(4,.i c),(17,.bool (!decide (c=0)))] ?_;refine ihB g2 (fun k g2=>?_) (fun k g2=>?_)
    ·refine sh fol (kBA c) ?_;refine Goes.ret ?_;obtain rfl:=si g2;exact Or.inr (⟨rfl,_,rfl,(gw2 [.i c] (Ua tI))⟩)
    refine Goes.skip ?_;refine gh fol [(0,vl (qE encS) m),(3,.i (w64 (a+1)))] ?_;exact⟨M,(ofG 19 [(0,vl (qE encS) m),(3,.i (w64 (a+1)))],[]),Nat.lt_succ_self _,(Sub.refl _),_,rfl,g2⟩
   refine Goes.exit ?_;obtain rfl:=si g2;exact Or.inl (⟨rfl,rfl,(Sub.keep [] rfl rfl)⟩)
 rintro x s' (⟨rfl,rfl,hsub⟩|⟨rfl,n,rfl,hret⟩)
 ·try dsimp only at h
  refine Goes.sub hsub ?_;refine sh fol [(2,.i 0)] ?_;refine Goes.ret ?_;obtain rfl:=si h;exact(gw2 [.i 0] (Ua tI))
 try dsimp only at h
 obtain rfl:=si h;exact hret
def jI (a:List Str) (b:List Str):Nat->Int->Option (Unit⊕Bool)
 |0,_=>none
 |K+1,c=>
  if c<(a.length:Int)then
  (idx a c).bind fun d=>
  (idx b c).bind fun e=>
  if(!(d==e))=true then
  some (.inr false)
  else
  jI a b K (w64 (c+1))
  else
  some (.inl ())
def qaI (N:Nat) (a:List Str) (b:List Str):Option Bool:=
 if(!decide ((a.length:Int)=(b.length:Int)))=true then
 some false
 else
 (jI a b N 0).bind (fun
 |(.inl ())=>
 some true
 |(.inr c)=>
 some c)
theorem qgm (N:Nat) (a:List Str) (b:List Str) {res:Bool} (h:qaI N a b=some res):qc ZT (.fn 55) [vl encS a,vl encS b] [] (.bool res) []:=by
 unfold qaI at h;refine Ub Tryz.func55 rfl rfl (m:=26) rfl (rs:=[.tmp 4]) rfl (l:=(kA0 a b [])) rfl ?_;refine sh fol (kA0 a b []) ?_;refine sq ?_;refine sh fol (kA0 a b (kA9 (!decide ((a.length:Int)=(b.length:Int))))) ?_;refine ihB h (fun j h=>?_) (fun j h=>?_)
 ·refine sh fol kAm ?_;refine Goes.ret ?_;obtain rfl:=si h;exact(gw2 [.bool false] (Ua tB))
 refine Goes.skip ?_;refine sq ?_;refine sh fol (kA0 a b [(5,.i 0)]) ?_;refine Goes.block ?_;obtain⟨f,g3,h⟩:=bnd h;refine Goes.imp (Q:=fun x s'=>(x= .exit 0/\(.inl ())=f/\Sub s' (ofG 26 [],[]))\/(x= .ret/\ ∃g,(.inr g)=f/\zJ ZT [.tmp 4] (.bool g) .ret s')) ?_ ?_
 ·refine Ud (fun M s=> ∃(c:Int),s=(ofG 26 (kA0 a b (kAt c)),[])/\jI a b M c=some f) ?_ (m:=N) ⟨_,rfl,g3⟩;rintro M s ⟨c,rfl,g3⟩
  cases M with
  |zero=>simp only[jI]at g3;cases g3
  |succ M=>
   rw[jI]at g3;refine sq ?_;refine sh fol (kA0 a b [(5,.i c),(14,.bool (decide (c<(a.length:Int))))]) ?_;refine ihD g3 (fun k g3=>?_) (fun k g3=>?_)
   ·refine Goes.skip ?_;refine sq (Goes.block ?_);obtain⟨n,d,g3⟩:=bnd g3;obtain⟨o,e,g3⟩:=bnd g3;refine sq (gr fol [2,3,6,7] (kA0 a b [(5,.i c),(25,.bool (!(n==o)))]) (ac (iv qgn encS d) (ac (lv 0 qnV encS d rfl) (ac (iv qgn encS e) (ac (lv 0 qnV encS e rfl) az)))) ?_);refine ihB g3 (fun p g3=>?_) (fun p g3=>?_)
    ·refine sh fol kAm ?_;refine Goes.ret ?_;obtain rfl:=si g3;exact Or.inr (⟨rfl,_,rfl,(gw2 [.bool false] (Ua tB))⟩)
    refine Goes.skip ?_;refine gh fol (kA0 a b (kAt (w64 (c+1)))) ?_;exact⟨M,(ofG 26 (kA0 a b (kAt (w64 (c+1)))),[]),Nat.lt_succ_self _,(Sub.refl _),_,rfl,g3⟩
   refine Goes.exit ?_;obtain rfl:=si g3;exact Or.inl (⟨rfl,rfl,(Sub.keep [] rfl rfl)⟩)
 rintro x s' (⟨rfl,rfl,hsub⟩|⟨rfl,q,rfl,hret⟩)
 ·try dsimp only at h
  refine Goes.sub hsub ?_;refine sh fol [(4,.bool true)] ?_;refine Goes.ret ?_;obtain rfl:=si h;exact(gw2 [.bool true] (Ua tB))
 try dsimp only at h
 obtain rfl:=si h;exact hret
def zL (N:Nat) (a:List (List Str)) (b:List (List Str)):Nat->Int->Option (Unit⊕Bool)
 |0,_=>none
 |K+1,c=>
  if c<(a.length:Int)then
  (idx a c).bind fun d=>
  (idx b c).bind fun e=>
  (qaI N d e).bind fun f=>
  if(!f)=true then
  some (.inr false)
  else
  zL N a b K (w64 (c+1))
  else
  some (.inl ())
def y8 (N:Nat) (a:List (List Str)) (b:List (List Str)):Option Bool:=
 if(!decide ((a.length:Int)=(b.length:Int)))=true then
 some false
 else
 (zL N a b N 0).bind (fun
 |(.inl ())=>
 some true
 |(.inr c)=>
 some c)
theorem qe7 (N:Nat) (a:List (List Str)) (b:List (List Str)) {res:Bool} (h:y8 N a b=some res):qc ZT (.fn 12) [vl (qE encS) a,vl (qE encS) b] [] (.bool res) []:=by
 unfold y8 at h;refine Ub Tryz.func12 rfl rfl (m:=27) rfl (rs:=[.tmp 4]) rfl (l:=[(0,vl (qE encS) a),(1,vl (qE encS) b)]) rfl ?_;refine sh fol [(0,vl (qE encS) a),(1,vl (qE encS) b)] ?_;refine sq ?_;refine sh fol ((0,vl (qE encS) a)::(1,vl (qE encS) b)::(kA9 (!decide ((a.length:Int)=(b.length:Int))))) ?_;refine ihB h (fun k h=>?_) (fun k h=>?_)
 ·refine sh fol kAm ?_;refine Goes.ret ?_;obtain rfl:=si h;exact(gw2 [.bool false] (Ua tB))
 refine Goes.skip ?_;refine sq ?_;refine sh fol [(0,vl (qE encS) a),(1,vl (qE encS) b),(5,.i 0)] ?_;refine Goes.block ?_;obtain⟨g,g3,h⟩:=bnd h;refine Goes.imp (Q:=fun x s'=>(x= .exit 0/\(.inl ())=g/\Sub s' (ofG 27 [],[]))\/(x= .ret/\ ∃j,(.inr j)=g/\zJ ZT [.tmp 4] (.bool j) .ret s')) ?_ ?_
 ·refine Ud (fun M s=> ∃(c:Int),s=(ofG 27 ((0,vl (qE encS) a)::(1,vl (qE encS) b)::(kAt c)),[])/\zL N a b M c=some g) ?_ (m:=N) ⟨_,rfl,g3⟩;rintro M s ⟨c,rfl,g3⟩
  cases M with
  |zero=>simp only[zL]at g3;cases g3
  |succ M=>
   rw[zL]at g3;refine sq ?_;refine sh fol [(0,vl (qE encS) a),(1,vl (qE encS) b),(5,.i c),(14,.bool (decide (c<(a.length:Int))))] ?_;refine ihD g3 (fun n g3=>?_) (fun n g3=>?_)
   ·refine Goes.skip ?_;refine sq (Goes.block ?_);obtain⟨o,d,g3⟩:=bnd g3;obtain⟨p,e,g3⟩:=bnd g3;obtain⟨q,f,g3⟩:=bnd g3;refine sq (gr fol [2,3,6,7,8] [(0,vl (qE encS) a),(1,vl (qE encS) b),(5,.i c),(26,.bool (!q))] (ac (iv qhD (qE encS) d) (ac (lv 0 qjc (qE encS) d rfl) (ac (iv qhD (qE encS) e) (ac (lv 0 qjc (qE encS) e rfl) (ac (cv (qgm N o p f)) az))))) ?_);refine ihB g3 (fun r g3=>?_) (fun r g3=>?_)
    ·refine sh fol kAm ?_;refine Goes.ret ?_;obtain rfl:=si g3;exact Or.inr (⟨rfl,_,rfl,(gw2 [.bool false] (Ua tB))⟩)
    refine Goes.skip ?_;refine gh fol ((0,vl (qE encS) a)::(1,vl (qE encS) b)::(kAt (w64 (c+1)))) ?_;exact⟨M,(ofG 27 ((0,vl (qE encS) a)::(1,vl (qE encS) b)::(kAt (w64 (c+1)))),[]),Nat.lt_succ_self _,(Sub.refl _),_,rfl,g3⟩
   refine Goes.exit ?_;obtain rfl:=si g3;exact Or.inl (⟨rfl,rfl,(Sub.keep [] rfl rfl)⟩)
 rintro x s' (⟨rfl,rfl,hsub⟩|⟨rfl,t,rfl,hret⟩)
 ·try dsimp only at h
  refine Goes.sub hsub ?_;refine sh fol [(4,.bool true)] ?_;refine Goes.ret ?_;obtain rfl:=si h;exact(gw2 [.bool true] (Ua tB))
 try dsimp only at h
 obtain rfl:=si h;exact hret
end Go.Av
