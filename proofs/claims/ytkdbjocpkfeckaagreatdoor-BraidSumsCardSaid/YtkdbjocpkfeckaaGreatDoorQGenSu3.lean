/-
  Walks of functions: what each computes, as a plain function.
-/
import Derived.Test.YtkdbjocpkfeckaaGreatDoorQGenSu2
noncomputable section
namespace Go.Av
open Go.Proofs Go.RowKit
set_option linter.unusedSectionVars false
set_option linter.unusedVariables false
set_option linter.unusedSimpArgs false
set_option maxRecDepth 100000
def qN (N:Nat) (a:List (List qm)):Nat->Int->Option (Unit⊕Int)
 |0,_=>none
 |K+1,b=>
  if b<(a.length:Int)then
  (idx a b).bind fun c=>
  (xJ N c).bind fun d=>
  if d=true then
  some (.inr b)
  else
  qN N a K (w64 (b+1))
  else
  some (.inl ())
def jR (N:Nat) (a:List (List qm)):Option Int:=
 (qN N a N 0).bind (fun
 |(.inl ())=>
 some (-1)
 |(.inr b)=>
 some b)
theorem qbE (N:Nat) (a:List (List qm)) {res:Int} (h:jR N a=some res):qf ZT (.fn 150) [vl (qc qd) a,.func (.func 78) [] []] [] (.i res) []:=by
 unfold jR at h;refine Ub Tryz.func150 rfl rfl (m:=19) rfl (rs:=[.tmp 4]) rfl (l:=[(0,vl (qc qd) a),(1,.func (.func 78) [] [])]) rfl ?_;refine sh fol [(0,vl (qc qd) a),(1,.func (.func 78) [] [])] ?_;refine sq ?_;refine sh fol [(0,vl (qc qd) a),(1,.func (.func 78) [] []),(7,.i (a.length:Int)),(8,.i 0)] ?_;refine Goes.block ?_;obtain⟨e,g2,h⟩:=bnd h;refine Goes.imp (Q:=fun x s'=>(x= .exit 0/\(.inl ())=e/\Sub s' (ofG 19 [],[]))\/(x= .ret/\ ∃f,(.inr f)=e/\qZ ZT [.tmp 4] (.i f) .ret s')) ?_ ?_
 ·refine Uc (fun M s=> ∃(b:Int),s=(ofG 19 ((0,vl (qc qd) a)::(1,.func (.func 78) [] [])::(kZ (a.length:Int) b [])),[])/\qN N a M b=some e) ?_ (m:=N) ⟨_,rfl,g2⟩;rintro M s ⟨b,rfl,g2⟩
  cases M with
  |zero=>simp only[qN]at g2;cases g2
  |succ M=>
   rw[qN]at g2;refine sh fol ((0,vl (qc qd) a)::(1,.func (.func 78) [] [])::(kZ (a.length:Int) b [(9,.bool (decide (b<(a.length:Int))))])) ?_;refine sq ?_;refine ihD g2 (fun g g2=>?_) (fun g g2=>?_)
   ·refine Goes.skip ?_;refine sq (Goes.block ?_);refine sh fol ((0,vl (qc qd) a)::(1,.func (.func 78) [] [])::(5,.i b)::(kZ (a.length:Int) b [])) ?_;obtain⟨j,c,g2⟩:=bnd g2;obtain⟨k,d,g2⟩:=bnd g2;refine sq (gr fol [3,4,5] ((0,vl (qc qd) a)::(1,.func (.func 78) [] [])::(5,.i b)::(kZ (a.length:Int) b [(16,.bool k)])) (ac (iv qim (qc qd) c) (ac (lv 0 qlY (qc qd) c rfl) (ac (cv (qfj N j d)) az))) ?_);refine ihB g2 (fun n g2=>?_) (fun n g2=>?_)
    ·refine sh fol (kBF b) ?_;refine Goes.ret ?_;obtain rfl:=si g2;exact Or.inr (⟨rfl,_,rfl,(gw2 [.i b] (Ua tI))⟩)
    refine Goes.skip ?_;refine gh fol ((0,vl (qc qd) a)::(1,.func (.func 78) [] [])::(kZ (a.length:Int) (w64 (b+1)) [])) ?_;exact⟨M,(ofG 19 ((0,vl (qc qd) a)::(1,.func (.func 78) [] [])::(kZ (a.length:Int) (w64 (b+1)) [])),[]),Nat.lt_succ_self _,(Sub.refl _),_,rfl,g2⟩
   refine Goes.exit ?_;obtain rfl:=si g2;exact Or.inl (⟨rfl,rfl,(Sub.keep [] rfl rfl)⟩)
 rintro x s' (⟨rfl,rfl,hsub⟩|⟨rfl,o,rfl,hret⟩)
 ·try dsimp only at h
  refine Goes.sub hsub ?_;refine sh fol [(4,.i (-1))] ?_;refine Goes.ret ?_;obtain rfl:=si h;exact(gw2 [.i (-1)] (Ua tI))
 try dsimp only at h
 obtain rfl:=si h;exact hret
def zu (N:Nat) (a:List (List qm)):Option Bool:=
 (jR N a).bind fun b=>
 some (decide (b>=0))
theorem qa4 (N:Nat) (a:List (List qm)) {res:Bool} (h:zu N a=some res):qf ZT (.fn 77) [vl (qc qd) a,.func (.func 78) [] []] [] (.bool res) []:=by
 unfold zu at h;refine Ub Tryz.func77 rfl rfl (m:=9) rfl (rs:=[.tmp 4]) rfl (l:=[(0,vl (qc qd) a),(1,.func (.func 78) [] [])]) rfl ?_;refine sh fol [(0,vl (qc qd) a),(1,.func (.func 78) [] [])] ?_;obtain⟨c,b,h⟩:=bnd h;refine sq (gr fol [2] (kAk (decide (c>=0))) (ac (hs (.call 150 [vl (qc qd) a,.func (.func 78) [] []] [] [] [vl (qc qd) a,.func (.func 78) [] []] (.i c)) (qeD (FzL.cons (Ui (qE (qc qd) _ (nl rfl))) (FzL.cons (Fz.func FzL.nil FzL.nil) FzL.nil)) (qbE N a b) tI)) az) ?_);refine Goes.ret ?_;obtain rfl:=si h;exact(gw2 [.bool (decide (c>=0))] (Ua tB))
def zg (N:Nat) (a:List (List qm)):Nat->(List (List Str))->Int->Option (List (List Str))
 |0,_,_=>none
 |K+1,c,b=>
  if b<(a.length:Int)then
  (idx a b).bind fun d=>
  (qcS N d).bind fun e=>
  (app 24 c [e]).bind fun f=>
  zg N a K f (w64 (b+1))
  else
  some c
def vw (N:Nat) (a:List (List qm)):Option (List (List Str)):=
 (zg N a N ([]:List (List Str)) 0).bind fun b=>
 some b
theorem qcY (N:Nat) (a:List (List qm)) {res:List (List Str)} (h:vw N a=some res):qf ZT (.fn 81) [vl (qc qd) a,.func (.func 82) [] []] [] (vl (qc encS) res) []:=by
 unfold vw at h;refine Ub Tryz.func81 rfl rfl (m:=22) rfl (rs:=[.tmp 4]) rfl (l:=[(0,vl (qc qd) a),(1,.func (.func 82) [] [])]) rfl ?_;refine sh fol [(0,vl (qc qd) a),(1,.func (.func 82) [] [])] ?_;refine sh fol [(0,vl (qc qd) a),(1,.func (.func 82) [] []),(5,.nilslice)] ?_;refine sq ?_;refine sh fol [(1,.func (.func 82) [] []),(5,.nilslice),(8,vl (qc qd) a),(9,.i (a.length:Int)),(10,.i 0)] ?_;refine Goes.block ?_;obtain⟨o,g4,h⟩:=bnd h;refine Goes.imp (Q:=fun x s'=>(x= .exit 0/\ ∃g,g=o/\Sub s' (ofG 22 (kAE g []),[.cells (g.flatMap (qc encS).c)]))) ?_ ?_
 ·refine Goes.sub (s':=(ofG 22 [(1,.func (.func 82) [] []),(5,.gslice 0 ([]:List (List Str)).length 1),(8,vl (qc qd) a),(9,.i (a.length:Int)),(10,.i 0)],[.cells (([]:List (List Str)).flatMap (qc encS).c)])) (Sub.norm [] [none] rfl rfl (.keep (.same (qD.func sn sn)) (.keep .nil (.keep (.same (qw (qc qd) _)) (.keep (.same nI) (.keep (.same nI) .nil))))) (.fresh .nil)) ?_;refine Uc (fun M s=> ∃(b:List (List Str)) (d:Int),s=(ofG 22 ((1,.func (.func 82) [] [])::(kAE b [(8,vl (qc qd) a),(9,.i (a.length:Int)),(10,.i d)])),[.cells (b.flatMap (qc encS).c)])/\zg N a M b d=some o) ?_ (m:=N) ⟨_,_,rfl,g4⟩;rintro M s ⟨b,d,rfl,g4⟩
  cases M with
  |zero=>simp only[zg]at g4;cases g4
  |succ M=>
   rw[zg]at g4;refine sh fol ((1,.func (.func 82) [] [])::(kAE b [(8,vl (qc qd) a),(9,.i (a.length:Int)),(10,.i d),(11,.bool (decide (d<(a.length:Int))))])) ?_;refine sq ?_;refine ihD g4 (fun q g4=>?_) (fun q g4=>?_)
   ·refine Goes.skip ?_;refine sq (Goes.block ?_);obtain⟨p,e,g4⟩:=bnd g4;refine sq (gr fol [0,1] ((1,.func (.func 82) [] [])::(kAE b [(7,vl qd p),(8,vl (qc qd) a),(9,.i (a.length:Int)),(10,.i d)])) (ac (iv qim (qc qd) e) (ac (lv 0 qlY (qc qd) e rfl) az)) ?_);obtain⟨n,j,g4⟩:=bnd g4;obtain⟨f,k,g4⟩:=bnd g4;refine gq fol [3,5] [(1,.func (.func 82) [] []),(5,.gslice 2 f.length 1),(8,vl (qc qd) a),(9,.i (a.length:Int)),(10,.i d)] [.dead,.cells [vl encS n],.cells (f.flatMap (qc encS).c)] (ac (cv (qiU N p j)) (ac (hs (.run [0,1] (jv ZT [68,68] (.gslice 0 b.length 1) (.slice 1 0 1 1 1)) [.cells (b.flatMap (qc encS).c),.cells [vl encS n]] (.gslice 2 f.length 1) [.dead,.cells [vl encS n],.cells (f.flatMap (qc encS).c)] true) (qbH qhK (E:=(qc encS)) rfl (qeZ (E:=(qc encS)) (ys:=[n]) rfl rfl rfl rfl) (qfY (E:=(qc encS)) (l:=b) rfl rfl rfl k rfl))) az)) ?_;refine gh fol [(1,.func (.func 82) [] []),(5,.gslice 2 f.length 1),(8,vl (qc qd) a),(9,.i (a.length:Int)),(10,.i (w64 (d+1)))] ?_;exact⟨M,(ofG 22 ((1,.func (.func 82) [] [])::(kAE f [(8,vl (qc qd) a),(9,.i (a.length:Int)),(10,.i (w64 (d+1)))])),[.cells (f.flatMap (qc encS).c)]),Nat.lt_succ_self _,(Sub.norm [] [some 2] rfl rfl (.keep (.same (qD.func sn sn)) (.keep (.gslice rfl) (.keep (.same (qw (qc qd) _)) (.keep (.same nI) (.keep (.same nI) .nil))))) (.ks .nil)),_,_,rfl,g4⟩
   refine Goes.exit ?_;obtain rfl:=si g4;exact⟨rfl,_,rfl,(Sub.keep [5] rfl rfl)⟩
 rintro x s' ⟨rfl,g,rfl,hsub⟩;refine Goes.sub hsub ?_;refine sh fol [(4,.gslice 0 g.length 1)] ?_;refine Goes.ret ?_;obtain rfl:=si h;exact(gw2 [.gslice 0 g.length 1] (Ux (Fz.gs (E:=(qc encS)) rfl rfl (nl rfl))))
def xB (N:Nat) (n:Int) (w:List Int) (t:Str):Option ((List (List Str))×Int):=
 (qY N n w).bind fun d=>
 (qbK N t).bind fun e=>
 (jE (t==[48]) 6).bind fun f=>
 (vE N ([d,e,f]:List Int)).bind fun b=>
 if(!decide (b=0))=true then
 some ([],b)
 else
 (qeV N t).bind fun g=>
 (qbr N n w g).bind fun c=>
 (zu N c).bind fun h=>
 if h=true then
 some ([],4)
 else
 (vw N c).bind fun a=>
 some (a,0)
theorem qcd (N:Nat) (n:Int) (w:List Int) (t:Str) {res:(List (List Str))×Int} (h:xB N n w t=some res):qf ZT (.fn 32) [.i n,vl encI w,.str t] [] (.tuple [vl (qc encS) res.1,.i res.2]) []:=by
 unfold xB at h;refine Ub Tryz.func32 rfl rfl (m:=32) rfl (rs:=[.tmp 6,.tmp 7]) rfl (l:=(kI n w [(2,.str t)])) rfl ?_;refine sh fol (kI n w [(2,.str t)]) ?_;refine sq ?_;obtain⟨q,e,h⟩:=bnd h;obtain⟨r,f,h⟩:=bnd h;obtain⟨s,g,h⟩:=bnd h;obtain⟨d,j,h⟩:=bnd h;refine sq (gq fol [2,4,7,9] (kI n w [(2,.str t),(8,.i d)]) [.cells [.i q,.i r,.i s]] (ac (cv (ze N n w e)) (ac (cv (qf6 N t f)) (ac (cv (qak (t==[48]) 6 g)) (ac (hs (.call 62 [.slice 0 0 3 3 1] [.cells [.i q,.i r,.i s]] [0] [vl encI ([q,r,s]:List Int)] (.i d)) (qeE (FzL.cons (Fz.lit rfl rfl (Up (AllST.cons tI (AllST.cons tI (AllST.cons tI AllST.nil))))) FzL.nil) (qb9 N ([q,r,s]:List Int) j) tI rfl)) az)))) ?_);refine sh fol (kI n w [(2,.str t),(8,.i d),(21,.bool (!decide (d=0)))]) ?_;refine ihB h (fun v h=>?_) (fun v h=>?_)
 ·refine sh fol ((6,.nilslice)::(kA9 d)) ?_;refine Goes.ret ?_;obtain rfl:=si h;exact(gw2 [.nilslice,.i d] (FzW.tuple (qh.cons (FzW.nilv (E:=(qc encS))) (qh.cons (Ua tI) qh.nil))))
 refine Goes.skip ?_;obtain⟨x,k,h⟩:=bnd h;obtain⟨a,o,h⟩:=bnd h;refine sq (gr fol [3,4] [(9,vl (qc qd) a)] (ac (cv (qkd N t k)) (ac (cv (qg1 N n w x o)) az)) ?_);refine sq ?_;obtain⟨u,p,h⟩:=bnd h;refine sq (gr fol [1] [(9,vl (qc qd) a),(29,.bool u)] (ac (hs (.call 77 [vl (qc qd) a,.func (.func 78) [] []] [] [] [vl (qc qd) a,.func (.func 78) [] []] (.bool u)) (qeD (FzL.cons (Ui (qE (qc qd) _ (nl rfl))) (FzL.cons (Fz.func FzL.nil FzL.nil) FzL.nil)) (qa4 N a p) tB)) az) ?_);refine ihB h (fun y h=>?_) (fun y h=>?_)
 ·refine sh fol [(6,.nilslice),(7,.i 4)] ?_;refine Goes.ret ?_;obtain rfl:=si h;exact(gw2 [.nilslice,.i 4] (FzW.tuple (qh.cons (FzW.nilv (E:=(qc encS))) (qh.cons (Ua tI) qh.nil))))
 refine Goes.skip ?_;obtain⟨b,c,h⟩:=bnd h;refine sq (gr fol [1] [(6,vl (qc encS) b),(7,.i 0)] (ac (hs (.call 81 [vl (qc qd) a,.func (.func 82) [] []] [] [] [vl (qc qd) a,.func (.func 82) [] []] (vl (qc encS) b)) (qeD (FzL.cons (Ui (qE (qc qd) _ (nl rfl))) (FzL.cons (Fz.func FzL.nil FzL.nil) FzL.nil)) (qcY N a c) (qE (qc encS) _ (nl rfl)))) az) ?_);refine Goes.ret ?_;obtain rfl:=si h;exact(gw2 [vl (qc encS) b,.i 0] (FzW.tuple (qh.cons (Ua (qE (qc encS) _ (nl rfl))) (qh.cons (Ua tI) qh.nil))))
def jS (b:Str):Nat->Int->Option (Unit⊕Int)
 |0,_=>none
 |K+1,a=>
  if a<(b.length:Int)then
  (idx b a).bind fun c=>
  if(c.toNat:Int)=47 then
  some (.inr a)
  else
  jS b K (w64 (a+1))
  else
  some (.inl ())
def xG (N:Nat) (a:Str):Option Int:=
 (jS a N 0).bind (fun
 |(.inl ())=>
 some (a.length:Int)
 |(.inr b)=>
 some b)
theorem qb2 (N:Nat) (a:Str) {res:Int} (h:xG N a=some res):qf ZT (.fn 204) [.str a] [] (.i res) []:=by
 unfold xG at h;refine Ub Tryz.func204 rfl rfl (m:=17) rfl (rs:=[.tmp 2]) rfl (l:=(kAw a)) rfl ?_;refine sh fol (kAw a) ?_;refine sq ?_;refine sh fol [(0,.str a),(3,.i 0)] ?_;refine Goes.block ?_;obtain⟨d,g2,h⟩:=bnd h;refine Goes.imp (Q:=fun x s'=>(x= .exit 0/\(.inl ())=d/\Sub s' (ofG 17 (kAw a),[]))\/(x= .ret/\ ∃e,(.inr e)=d/\qZ ZT [.tmp 2] (.i e) .ret s')) ?_ ?_
 ·refine Uc (fun M s=> ∃(b:Int),s=(ofG 17 (kAh a b []),[])/\jS a M b=some d) ?_ (m:=N) ⟨_,rfl,g2⟩;rintro M s ⟨b,rfl,g2⟩
  cases M with
  |zero=>simp only[jS]at g2;cases g2
  |succ M=>
   rw[jS]at g2;refine sq ?_;refine sh fol (kAh a b [(7,.bool (decide (b<(a.length:Int))))]) ?_;refine ihD g2 (fun g g2=>?_) (fun g g2=>?_)
   ·refine Goes.skip ?_;refine sq (Goes.block ?_);obtain⟨f,c,g2⟩:=bnd g2;refine sq (gr fol [2] (kAh a b (kA2 (decide ((f.toNat:Int)=47)))) (ac (hs (.done (.opt (yx ZT 9 (.str a) (.i b))) (.int .u8 (f.toNat:Int))) (qaq st9 c)) az) ?_);refine ihD g2 (fun j g2=>?_) (fun j g2=>?_)
    ·refine sh fol (kAx b) ?_;refine Goes.ret ?_;obtain rfl:=si g2;exact Or.inr (⟨rfl,_,rfl,(gw2 [.i b] (Ua tI))⟩)
    refine Goes.skip ?_;refine gh fol (kAh a (w64 (b+1)) []) ?_;exact⟨M,(ofG 17 (kAh a (w64 (b+1)) []),[]),Nat.lt_succ_self _,(Sub.refl _),_,rfl,g2⟩
   refine Goes.exit ?_;obtain rfl:=si g2;exact Or.inl (⟨rfl,rfl,(Sub.keep [0] rfl rfl)⟩)
 rintro x s' (⟨rfl,rfl,hsub⟩|⟨rfl,k,rfl,hret⟩)
 ·try dsimp only at h
  refine Goes.sub hsub ?_;refine sh fol (kAx (a.length:Int)) ?_;refine Goes.ret ?_;obtain rfl:=si h;exact(gw2 [.i (a.length:Int)] (Ua tI))
 try dsimp only at h
 obtain rfl:=si h;exact hret
def yz:Nat->(List Int)->Option (List Int)
 |0,_=>none
 |K+1,a=>
  (if(a.length:Int)>0 then
  (idx a (w64 ((a.length:Int)-1))).bind fun b=>
  some (decide (b=0))
  else
  some false:Option Bool).bind fun c=>
  if c=true then
  (cut a 0 (w64 ((a.length:Int)-1))).bind fun d=>
  yz K d
  else
  some a
def qau (N:Nat) (w:List Int):Option (List Int):=
 (yz N w).bind fun a=>
 some a
theorem qcA (N:Nat) (w:List Int) {res:List Int} (h:qau N w=some res):qf ZT (.fn 270) [vl encI w] [] (vl encI res) []:=by
 unfold qau at h;refine Ub Tryz.func270 rfl rfl (m:=21) rfl (rs:=[.tmp 2]) rfl (l:=(kAC w [])) rfl ?_;refine sh fol (kAC w []) ?_;refine sq (Goes.block ?_);obtain⟨j,g3,h⟩:=bnd h;refine Goes.imp (Q:=fun x s'=>(x= .exit 0/\ ∃d,d=j/\Sub s' (ofG 21 (kAC d []),[]))) ?_ ?_
 ·refine Uc (fun M s=> ∃(b:List Int),s=(ofG 21 (kAC b []),[])/\yz M b=some j) ?_ (m:=N) ⟨_,rfl,g3⟩;rintro M s ⟨b,rfl,g3⟩
  cases M with
  |zero=>simp only[yz]at g3;cases g3
  |succ M=>
   rw[yz]at g3;refine sq ?_;refine sq ?_;obtain⟨k,a,g3⟩:=bnd g3;refine Goes.cut (s':=(ofG 21 (kAC b [(14,.bool k)]),[])) ?_ ?_
   ·rcases wyD a with⟨f,a⟩|⟨f,a⟩
    ·obtain⟨n,c,a⟩:=bnd a;obtain rfl:=si a;exact tr fol [3,8,9] (kAC b [(14,.bool (decide (n=0)))]) (ac (gw f) (ac (iv qP encI c) (ac (lv 0 ce3 encI c rfl) az)))
    obtain rfl:=si a;exact tr fol [3] (kAC b [(14,.bool false)]) (ac (gw f) az)
   refine ihB g3 (fun o g3=>?_) (fun o g3=>?_)
   ·refine Goes.skip ?_;refine Goes.block ?_;obtain⟨g,e,g3⟩:=bnd g3;refine gr fol [4] (kAC g []) (ac (hs (.done (.opt (qM ZT 22 (vl encI b) none (some (.i (w64 ((b.length:Int)-1)))) none)) (vl encI g)) (vl_sl qP (E:=encI) rfl none (some (w64 ((b.length:Int)-1))) e)) az) ?_;exact⟨M,(ofG 21 (kAC g []),[]),Nat.lt_succ_self _,(Sub.refl _),_,rfl,g3⟩
   refine Goes.exit ?_;obtain rfl:=si g3;exact⟨rfl,_,rfl,(Sub.keep [0] rfl rfl)⟩
 rintro x s' ⟨rfl,d,rfl,hsub⟩;refine Goes.sub hsub ?_;refine sh fol [(2,vl encI d)] ?_;refine Goes.ret ?_;obtain rfl:=si h;exact(gw2 [vl encI d] (Ua (qE encI _ (nl rfl))))
def xX (N:Nat) (neg:Bool) (w:List Int):Option yH:=
 (qau N w).bind fun a=>
 (if neg=true then
 some (decide ((a.length:Int)>0))
 else
 some false:Option Bool).bind fun b=>
 some (⟨b,a⟩:yH)
theorem qdx (N:Nat) (neg:Bool) (w:List Int) {res:yH} (h:xX N neg w=some res):qf ZT (.fn 215) (.bool neg::(kAn w)) [] (.agg (.bool res.neg::(kAn res.w))) []:=by
 unfold xX at h;refine Ub Tryz.func215 rfl rfl (m:=15) rfl (rs:=[.cell 4 184]) rfl (l:=((0,.bool neg)::(kAy w []))) rfl ?_;refine sg fol ((0,.bool neg)::(kAy w [(4,.ptr 0 0)])) (kP []) ?_;obtain⟨b,c,h⟩:=bnd h;refine sq (gr fol [1] ((0,.bool neg)::(kAy b [(4,.ptr 0 0)])) (ac (cv (qcA N w c)) az) ?_);refine sq ?_;obtain⟨e,a,h⟩:=bnd h;refine Goes.cut (s':=(ofG 15 [(4,.ptr 0 0)],(kV e b []))) ?_ ?_
 ·rcases wyB a with⟨d,a⟩|⟨d,a⟩
  ·obtain rfl:=si a;exact yK.rq fol [1] [(4,.ptr 0 0)] (kV (decide ((b.length:Int)>0)) b []) (ac (gw d) az)
  obtain rfl:=si a;exact yK.rq fol [1] [(4,.ptr 0 0)] [.cells [.bool false,vl encI b]] (ac (gw d) az)
 refine Goes.ret ?_;obtain rfl:=si h;exact(gw2 [.agg (.bool e::(kAn b))] (FzW.agg (qh.cons (Ua tB) (qh.cons (Ua (qE encI _ (nl rfl))) qh.nil))))
def xD:Nat->(List Int)->Int->Option (List Int)
 |0,_,_=>none
 |K+1,b,a=>
  if(!decide (a=0))=true then
  ((if(a.tmod 1000000000)<0 then
  some (w64 (0-(a.tmod 1000000000)))
  else
  some (a.tmod 1000000000):Option Int)).bind fun c=>
  (app 8 b [c]).bind fun d=>
  xD K d (w64 (a.tdiv 1000000000))
  else
  some b
def qd8 (N:Nat) (n:Int):Option yH:=
 (xD N ([]:List Int) n).bind fun b=>
 (xX N (decide (n<0)) b).bind fun a=>
 some a
theorem qhq (N:Nat) (n:Int) {res:yH} (h:qd8 N n=some res):qf ZT (.fn 208) [.i n] [] (.agg (.bool res.neg::(kAn res.w))) []:=by
 unfold qd8 at h;refine Ub Tryz.func208 rfl rfl (m:=25) rfl (rs:=[.cell 2 184]) rfl (l:=[(0,.i n)]) rfl ?_;refine sg fol ((0,.i n)::(kW [])) (kP []) ?_;refine sh fol ((0,.i n)::(kW [(3,.nilslice)])) ?_;refine sh fol ((0,.i n)::(kW ((3,.nilslice)::(kAk (decide (n<0)))))) ?_;refine sq (Goes.block ?_);obtain⟨k,g4,h⟩:=bnd h;refine Goes.imp (Q:=fun x s'=>(x= .exit 0/\ ∃d,d=k/\Sub s' (ofG 25 (kW (kAZ d (decide (n<0)) [])),(kP (kA d []))))) ?_ ?_
 ·refine Goes.sub (s':=(ofG 25 ((0,.i n)::(kW ((3,.gslice 1 ([]:List Int).length 1)::(kAk (decide (n<0)))))),(kP kAf))) (Sub.norm [] [some 0,none] rfl rfl (.keep (.same nI) (.kp (.keep .nil (.keep (.same nB) .nil)))) (.kb rfl (.same sn) (.fresh .nil))) ?_;refine Uc (fun M s=> ∃(c:List Int) (b:Int),s=(ofG 25 ((0,.i b)::(kW (kAZ c (decide (n<0)) []))),(kP (kA c [])))/\xD M c b=some k) ?_ (m:=N) ⟨_,_,rfl,g4⟩;rintro M s ⟨c,b,rfl,g4⟩
  cases M with
  |zero=>simp only[xD]at g4;cases g4
  |succ M=>
   rw[xD]at g4;refine sq ?_;refine sh fol ((0,.i b)::(kW (kAZ c (decide (n<0)) [(9,.bool (!decide (b=0)))]))) ?_;refine ihB g4 (fun o g4=>?_) (fun o g4=>?_)
   ·refine Goes.skip ?_;refine Goes.block ?_;refine sh fol ((0,.i b)::(kW (kAZ c (decide (n<0)) (kAr (b.tmod 1000000000))))) ?_;refine sq ?_;refine sh fol ((0,.i b)::(kW (kAZ c (decide (n<0)) ((5,.i (b.tmod 1000000000))::(kA2 (decide ((b.tmod 1000000000)<0))))))) ?_;obtain⟨p,g7,g4⟩:=bnd g4;refine Goes.imp (Q:=fun x s'=>(x= .normal/\ ∃e,e=p/\Sub s' (ofG 25 ((0,.i b)::(kW (kAZ c (decide (n<0)) (kAr e)))),(kP (kA c []))))) ?_ ?_
    ·refine ihD g7 (fun q g7=>?_) (fun q g7=>?_)
     ·refine gh fol ((0,.i b)::(kW (kAZ c (decide (n<0)) (kAr (w64 (0-(b.tmod 1000000000))))))) ?_;obtain rfl:=si g7;exact⟨rfl,_,rfl,(Sub.refl _)⟩
     refine Goes.skip ?_;obtain rfl:=si g7;exact⟨rfl,_,rfl,(Sub.keep [0,2,3,4,5] rfl rfl)⟩
    rintro x s' ⟨rfl,e,rfl,hsub⟩;refine Goes.sub hsub ?_;obtain⟨f,j,g4⟩:=bnd g4;refine sq (gq fol [3] ((0,.i b)::(kW ((3,.gslice 3 f.length 1)::(kAk (decide (n<0)))))) (kP (.dead::(kAj e (kA f [])))) (ac (hs (.run [1,2] (jv ZT [22,22] (.gslice 1 c.length 1) (.slice 2 0 1 1 1)) (kP (kA c (kAj e []))) (.gslice 3 f.length 1) (kP (.dead::(kAj e (kA f [])))) true) (qbH qP (E:=encI) rfl (qeZ (E:=encI) (ys:=[e]) rfl rfl rfl rfl) (qfY (E:=encI) (l:=c) rfl rfl rfl j rfl))) az) ?_);refine gh fol ((0,.i (w64 (b.tdiv 1000000000)))::(kW ((3,.gslice 3 f.length 1)::(kAk (decide (n<0)))))) ?_;exact⟨M,(ofG 25 ((0,.i (w64 (b.tdiv 1000000000)))::(kW (kAZ f (decide (n<0)) []))),(kP (kA f []))),Nat.lt_succ_self _,(Sub.norm [] [some 0,some 3] rfl rfl (.keep (.same nI) (.kp (.keep (.gslice rfl) (.keep (.same nB) .nil)))) (.kb rfl (.same sn) (.ks .nil))),_,_,rfl,g4⟩
   refine Goes.exit ?_;obtain rfl:=si g4;exact⟨rfl,_,rfl,(Sub.keep [2,3,4] rfl rfl)⟩
 rintro x s' ⟨rfl,d,rfl,hsub⟩;refine Goes.sub hsub ?_;obtain⟨a,g,h⟩:=bnd h;refine sq (gq fol [2] (kW []) (kV a.neg a.w (kAl d)) (ac (hs (.callF 215 [.bool (decide (n<0)),.gslice 1 d.length 1] (kP (kA d [])) [1] (.bool (decide (n<0))::(kAn d)) (.agg (.bool a.neg::(kAn a.w)))) (qfV (FzL.cons (Ui tB) (FzL.cons (Fz.gs (E:=encI) rfl rfl (nl rfl)) FzL.nil)) (qdx N (decide (n<0)) d g) (Still.agg (AllST.cons tB (AllST.cons (qE encI _ (nl rfl)) AllST.nil))))) az) ?_);refine Goes.sub (show Sub (ofG 25 (kW []),(kV a.neg a.w (kAl d))) (ofG 25 (kW []),(kV a.neg a.w []))from(Sub.norm [] [some 0] rfl rfl (.kp .nil) (.kb rfl (.same sn) .nil))) ?_;refine Goes.ret ?_;obtain rfl:=si h;exact(gw2 [.agg (.bool a.neg::(kAn a.w))] (FzW.agg (qh.cons (Ua tB) (qh.cons (Ua (qE encI _ (nl rfl))) qh.nil))))
def jV (a:Str):Nat->Int->Int->Option Int
 |0,_,_=>none
 |K+1,c,b=>
  if b<(a.length:Int)then
  (idx a b).bind fun d=>
  jV a K (w64 ((w64 ((w64 (10*c))+(w64 (d.toNat:Int))))-48)) (w64 (b+1))
  else
  some c
def yc (N:Nat) (a:Str):Option Int:=
 (jV a N 0 0).bind fun b=>
 some b
theorem qaN (N:Nat) (a:Str) {res:Int} (h:yc N a=some res):qf ZT (.fn 207) [.str a] [] (.i res) []:=by
 unfold yc at h;refine Ub Tryz.func207 rfl rfl (m:=20) rfl (rs:=[.tmp 2]) rfl (l:=(kAw a)) rfl ?_;refine sh fol (kAw a) ?_;refine sh fol [(0,.str a),(3,.i 0)] ?_;refine sq ?_;refine sh fol [(0,.str a),(3,.i 0),(4,.i 0)] ?_;refine Goes.block ?_;obtain⟨g,g4,h⟩:=bnd h;refine Goes.imp (Q:=fun x s'=>(x= .exit 0/\ ∃d,d=g/\Sub s' (ofG 20 [(3,.i d)],[]))) ?_ ?_
 ·refine Uc (fun M s=> ∃(c:Int) (b:Int),s=(ofG 20 (kAh a c (kBF b)),[])/\jV a M c b=some g) ?_ (m:=N) ⟨_,_,rfl,g4⟩;rintro M s ⟨c,b,rfl,g4⟩
  cases M with
  |zero=>simp only[jV]at g4;cases g4
  |succ M=>
   rw[jV]at g4;refine sq ?_;refine sh fol (kAh a c ((4,.i b)::(kA5 (decide (b<(a.length:Int)))))) ?_;refine ihD g4 (fun j g4=>?_) (fun j g4=>?_)
   ·refine Goes.skip ?_;refine sq (Goes.block ?_);obtain⟨f,e,g4⟩:=bnd g4;refine gr fol [4] (kAh a (w64 ((w64 ((w64 (10*c))+(w64 (f.toNat:Int))))-48)) (kBF b)) (ac (hs (.done (.opt (yx ZT 9 (.str a) (.i b))) (.int .u8 (f.toNat:Int))) (qaq st9 e)) az) ?_;refine gh fol (kAh a (w64 ((w64 ((w64 (10*c))+(w64 (f.toNat:Int))))-48)) (kBF (w64 (b+1)))) ?_;exact⟨M,(ofG 20 (kAh a (w64 ((w64 ((w64 (10*c))+(w64 (f.toNat:Int))))-48)) (kBF (w64 (b+1)))),[]),Nat.lt_succ_self _,(Sub.refl _),_,_,rfl,g4⟩
   refine Goes.exit ?_;obtain rfl:=si g4;exact⟨rfl,_,rfl,(Sub.keep [3] rfl rfl)⟩
 rintro x s' ⟨rfl,d,rfl,hsub⟩;refine Goes.sub hsub ?_;refine sh fol (kAx d) ?_;refine Goes.ret ?_;obtain rfl:=si h;exact(gw2 [.i d] (Ua tI))
def vK (N:Nat):Nat->(List Int)->Str->Option ((List Int)×Str)
 |0,_,_=>none
 |K+1,f,a=>
  if(a.length:Int)>9 then
  (cut a (w64 ((a.length:Int)-9)) (a.length:Int)).bind fun b=>
  (yc N b).bind fun c=>
  (app 8 f [c]).bind fun d=>
  (cut a 0 (w64 ((a.length:Int)-9))).bind fun e=>
  vK N K d e
  else
  some (f,a)
def xN (N:Nat) (a:Str):Option yH:=
 (if(a.length:Int)>0 then
 (idx a 0).bind fun h=>
 some (decide ((h.toNat:Int)=45))
 else
 some false:Option Bool).bind fun g=>
 ((if g=true then
 (cut a 1 (a.length:Int)).bind fun i=>
 some i
 else
 some a:Option Str)).bind fun j=>
 (vK N N ([]:List Int) j).bind fun(b,c)=>
 (yc N c).bind fun d=>
 (app 8 b [d]).bind fun e=>
 (xX N g e).bind fun f=>
 some f
theorem qbY (N:Nat) (k:Str) {res:yH} (h:xN N k=some res):qf ZT (.fn 211) [.str k] [] (.agg (.bool res.neg::(kAn res.w))) []:=by
 unfold xN at h;refine Ub Tryz.func211 rfl rfl (m:=40) rfl (rs:=[.cell 2 184]) rfl (l:=(kAw k)) rfl ?_;refine sg fol ((0,.str k)::(kW [])) (kP []) ?_;refine sq ?_;obtain⟨e,b,h⟩:=bnd h;refine Goes.cut (s':=(ofG 40 (kQ k e []),(kP []))) ?_ ?_
 ·rcases wyD b with⟨H,b⟩|⟨H,b⟩
  ·obtain⟨J,B,b⟩:=bnd b;obtain rfl:=si b;exact tr fol [3,5] (kQ k (decide ((J.toNat:Int)=45)) []) (ac (gw H) (ac (hs (.done (.opt (yx ZT 9 (.str k) (.i 0))) (.int .u8 (J.toNat:Int))) (qaq st9 B)) az))
  obtain rfl:=si b;exact tr fol [3] ((0,.str k)::(kW [(3,.bool false)])) (ac (gw H) az)
 refine sq ?_;refine sh fol (kQ k e (kA2 e)) ?_;obtain⟨L,g6,h⟩:=bnd h;refine Goes.imp (Q:=fun x s'=>(x= .normal/\ ∃C,C=L/\Sub s' (ofG 40 (kQ C e []),(kP [])))) ?_ ?_
 ·refine ihB g6 (fun O g6=>?_) (fun O g6=>?_)
  ·obtain⟨K,D,g6⟩:=bnd g6;refine gr fol [1] (kQ K e []) (ac (hs (.done (.opt (qM ZT 9 (.str k) (some (.i 1)) none none)) (.str K)) (jI st9 (some 1) none D)) az) ?_;obtain rfl:=si g6;exact⟨rfl,_,rfl,(Sub.refl _)⟩
  refine Goes.skip ?_;obtain rfl:=si g6;exact⟨rfl,_,rfl,(Sub.keep [0,2,3] rfl rfl)⟩
 rintro x s' ⟨rfl,C,rfl,hsub⟩;refine Goes.sub hsub ?_;refine sh fol (kQ C e [(4,.nilslice)]) ?_;refine sq (Goes.block ?_);obtain⟨F,g13,h⟩:=bnd h;refine Goes.imp (Q:=fun x s'=>(x= .exit 0/\ ∃f n,(f,n)=F/\Sub s' (ofG 40 (kQ n e [(4,.gslice 1 f.length 1)]),(kP (kA f []))))) ?_ ?_
 ·refine Goes.sub (s':=(ofG 40 (kQ C e [(4,.gslice 1 ([]:List Int).length 1)]),(kP kAf))) (Sub.norm [] [some 0,none] rfl rfl (.keep (.same nS) (.kp (.keep (.same nB) (.keep .nil .nil)))) (.kb rfl (.same sn) (.fresh .nil))) ?_;refine Uc (fun M s=> ∃(p:List Int) (a:Str),s=(ofG 40 (kQ a e [(4,.gslice 1 p.length 1)]),(kP (kA p [])))/\vK N M p a=some F) ?_ (m:=N) ⟨_,_,rfl,g13⟩;rintro M s ⟨p,a,rfl,g13⟩
  cases M with
  |zero=>simp only[vK]at g13;cases g13
  |succ M=>
   rw[vK]at g13;refine sq ?_;refine sh fol (kQ a e [(4,.gslice 1 p.length 1),(18,.bool (decide ((a.length:Int)>9)))]) ?_;refine ihD g13 (fun I g13=>?_) (fun I g13=>?_)
   ·refine Goes.skip ?_;refine Goes.block ?_;obtain⟨G,q,g13⟩:=bnd g13;obtain⟨o,r,g13⟩:=bnd g13;obtain⟨g,t,g13⟩:=bnd g13;refine sq (gq fol [5,6,8] (kQ a e [(4,.gslice 3 g.length 1)]) (kP (.dead::(kAj o (kA g [])))) (ac (hs (.done (.opt (qM ZT 9 (.str a) (some (.i (w64 ((a.length:Int)-9)))) none none)) (.str G)) (jI st9 (some (w64 ((a.length:Int)-9))) none q)) (ac (cv (qaN N G r)) (ac (hs (.run [1,2] (jv ZT [22,22] (.gslice 1 p.length 1) (.slice 2 0 1 1 1)) (kP (kA p (kAj o []))) (.gslice 3 g.length 1) (kP (.dead::(kAj o (kA g [])))) true) (qbH qP (E:=encI) rfl (qeZ (E:=encI) (ys:=[o]) rfl rfl rfl rfl) (qfY (E:=encI) (l:=p) rfl rfl rfl t rfl))) az))) ?_);obtain⟨u,v,g13⟩:=bnd g13;refine gr fol [4] (kQ u e [(4,.gslice 3 g.length 1)]) (ac (hs (.done (.opt (qM ZT 9 (.str a) none (some (.i (w64 ((a.length:Int)-9)))) none)) (.str u)) (jI st9 none (some (w64 ((a.length:Int)-9))) v)) az) ?_;exact⟨M,(ofG 40 (kQ u e [(4,.gslice 1 g.length 1)]),(kP (kA g []))),Nat.lt_succ_self _,(Sub.norm [] [some 0,some 3] rfl rfl (.keep (.same nS) (.kp (.keep (.same nB) (.keep (.gslice rfl) .nil)))) (.kb rfl (.same sn) (.ks .nil))),_,_,rfl,g13⟩
   refine Goes.exit ?_;obtain rfl:=si g13;exact⟨rfl,_,_,rfl,(Sub.keep [0,2,3,4] rfl rfl)⟩
 rintro x s' ⟨rfl,f,n,rfl,hsub⟩
 try dsimp only at h
 refine Goes.sub hsub ?_;obtain⟨j,y,h⟩:=bnd h;obtain⟨d,z,h⟩:=bnd h;obtain⟨c,A,h⟩:=bnd h;refine sq (gq fol [3,5,6] (kW []) (kV c.neg c.w (.dead::(kAj j (kAl d)))) (ac (cv (qaN N n y)) (ac (hs (.run [1,2] (jv ZT [22,22] (.gslice 1 f.length 1) (.slice 2 0 1 1 1)) (kP (kA f (kAj j []))) (.gslice 3 d.length 1) (kP (.dead::(kAj j (kA d [])))) true) (qbH qP (E:=encI) rfl (qeZ (E:=encI) (ys:=[j]) rfl rfl rfl rfl) (qfY (E:=encI) (l:=f) rfl rfl rfl z rfl))) (ac (hs (.callF 215 [.bool e,.gslice 3 d.length 1] (kP (.dead::(kAj j (kA d [])))) [3] (.bool e::(kAn d)) (.agg (.bool c.neg::(kAn c.w)))) (qfV (FzL.cons (Ui tB) (FzL.cons (Fz.gs (E:=encI) rfl rfl (nl rfl)) FzL.nil)) (qdx N e d A) (Still.agg (AllST.cons tB (AllST.cons (qE encI _ (nl rfl)) AllST.nil))))) az))) ?_);refine Goes.sub (show Sub (ofG 40 (kW []),(kV c.neg c.w (.dead::(kAj j (kAl d))))) (ofG 40 (kW []),(kV c.neg c.w []))from(Sub.norm [] [some 0] rfl rfl (.kp .nil) (.kb rfl (.same sn) .nil))) ?_;refine Goes.ret ?_;obtain rfl:=si h;exact(gw2 [.agg (.bool c.neg::(kAn c.w))] (FzW.agg (qh.cons (Ua tB) (qh.cons (Ua (qE encI _ (nl rfl))) qh.nil))))
def qbp (N:Nat) (a:Str):Option (yH×yH):=
 (xG N a).bind fun b=>
 if b=(a.length:Int)then
 (xN N a).bind fun c=>
 (qd8 N 1).bind fun d=>
 some (c,d)
 else
 (cut a 0 b).bind fun e=>
 (xN N e).bind fun f=>
 (cut a (w64 (b+1)) (a.length:Int)).bind fun g=>
 (xN N g).bind fun h=>
 some (f,h)
theorem qgM (N:Nat) (a:Str) {res:yH×yH} (h:qbp N a=some res):qf ZT (.fn 157) [.str a] [] (.tuple [.agg [.bool res.1.neg,vl encI res.1.w],.agg [.bool res.2.neg,vl encI res.2.w]]) []:=by
 unfold qbp at h;refine Ub Tryz.func157 rfl rfl (m:=25) rfl (rs:=[.cell 2 184,.cell 3 184]) rfl (l:=(kAw a)) rfl ?_;refine sg fol ((0,.str a)::(kW (kAv []))) (kP (kP [])) ?_;refine sh fol (kW (kAv [(4,.str a)])) ?_;obtain⟨b,c,h⟩:=bnd h;refine sq (gr fol [1] (kW (kAv ((4,.str a)::(kAr b)))) (ac (cv (qb2 N a c)) az) ?_);refine sq ?_;refine sh fol (kW (kAv ((4,.str a)::(5,.i b)::(kBD (decide (b=(a.length:Int))))))) ?_;refine ihD h (fun t h=>?_) (fun t h=>?_)
 ·obtain⟨n,d,h⟩:=bnd h;obtain⟨o,e,h⟩:=bnd h;refine sq (gq fol [1,2] (kW (kAv [])) (kV n.neg n.w (kV o.neg o.w [])) (ac (cv (qbY N a d)) (ac (cv (qhq N 1 e)) az)) ?_);refine Goes.ret ?_;obtain rfl:=si h;exact(gw2 [.agg [.bool n.neg,vl encI n.w],.agg [.bool o.neg,vl encI o.w]] (FzW.tuple (qh.cons (FzW.agg (qh.cons (Ua tB) (qh.cons (Ua (qE encI _ (nl rfl))) qh.nil))) (qh.cons (FzW.agg (qh.cons (Ua tB) (qh.cons (Ua (qE encI _ (nl rfl))) qh.nil))) qh.nil))))
 refine Goes.skip ?_;obtain⟨r,f,h⟩:=bnd h;obtain⟨p,g,h⟩:=bnd h;obtain⟨s,j,h⟩:=bnd h;obtain⟨q,k,h⟩:=bnd h;refine sq (gq fol [2,3,7,8] (kW (kAv [])) (kV p.neg p.w (kV q.neg q.w [])) (ac (hs (.done (.opt (qM ZT 9 (.str a) none (some (.i b)) none)) (.str r)) (jI st9 none (some b) f)) (ac (cv (qbY N r g)) (ac (hs (.done (.opt (qM ZT 9 (.str a) (some (.i (w64 (b+1)))) none none)) (.str s)) (jI st9 (some (w64 (b+1))) none j)) (ac (cv (qbY N s k)) az)))) ?_);refine Goes.ret ?_;obtain rfl:=si h;exact(gw2 [.agg [.bool p.neg,vl encI p.w],.agg [.bool q.neg,vl encI q.w]] (FzW.tuple (qh.cons (FzW.agg (qh.cons (Ua tB) (qh.cons (Ua (qE encI _ (nl rfl))) qh.nil))) (qh.cons (FzW.agg (qh.cons (Ua tB) (qh.cons (Ua (qE encI _ (nl rfl))) qh.nil))) qh.nil))))
def jl (a:Str):Nat->Int->Option (Unit⊕Bool)
 |0,_=>none
 |K+1,b=>
  if b<(a.length:Int)then
  ((idx a b).bind fun c=>
  if(c.toNat:Int)<48 then
  some true
  else
  some (decide ((c.toNat:Int)>57)):Option Bool).bind fun d=>
  if d=true then
  some (.inr false)
  else
  jl a K (w64 (b+1))
  else
  some (.inl ())
def qaE (N:Nat) (b:Str):Option Bool:=
 (jl b N 0).bind (fun
 |(.inl ())=>
 some true
 |(.inr a)=>
 some a)
theorem qf9 (N:Nat) (b:Str) {res:Bool} (h:qaE N b=some res):qf ZT (.fn 268) [.str b] [] (.bool res) []:=by
 unfold qaE at h;refine Ub Tryz.func268 rfl rfl (m:=20) rfl (rs:=[.tmp 2]) rfl (l:=(kAw b)) rfl ?_;refine sh fol (kAw b) ?_;refine sq ?_;refine sh fol [(0,.str b),(3,.i 0)] ?_;refine Goes.block ?_;obtain⟨f,g2,h⟩:=bnd h;refine Goes.imp (Q:=fun x s'=>(x= .exit 0/\(.inl ())=f/\Sub s' (ofG 20 [],[]))\/(x= .ret/\ ∃j,(.inr j)=f/\qZ ZT [.tmp 2] (.bool j) .ret s')) ?_ ?_
 ·refine Uc (fun M s=> ∃(c:Int),s=(ofG 20 (kAh b c []),[])/\jl b M c=some f) ?_ (m:=N) ⟨_,rfl,g2⟩;rintro M s ⟨c,rfl,g2⟩
  cases M with
  |zero=>simp only[jl]at g2;cases g2
  |succ M=>
   rw[jl]at g2;refine sq ?_;refine sh fol (kAh b c [(7,.bool (decide (c<(b.length:Int))))]) ?_;refine ihD g2 (fun k g2=>?_) (fun k g2=>?_)
   ·refine Goes.skip ?_;refine sq (Goes.block ?_);refine sq ?_;obtain⟨n,a,g2⟩:=bnd g2;refine Goes.cut (s':=(ofG 20 (kAh b c [(19,.bool n)]),[])) ?_ ?_
    ·obtain⟨e,d,a⟩:=bnd a;rcases wyD a with⟨g,a⟩|⟨g,a⟩
     ·obtain rfl:=si a;exact tr fol [2,4] (kAh b c [(19,.bool true)]) (ac (hs (.done (.opt (yx ZT 9 (.str b) (.i c))) (.int .u8 (e.toNat:Int))) (qaq st9 d)) (ac (gw g) az))
     obtain rfl:=si a;exact tr fol [2,4,7] (kAh b c [(19,.bool (decide ((e.toNat:Int)>57)))]) (ac (hs (.done (.opt (yx ZT 9 (.str b) (.i c))) (.int .u8 (e.toNat:Int))) (qaq st9 d)) (ac (gw g) (ac (hs (.done (.opt (yx ZT 9 (.str b) (.i c))) (.int .u8 (e.toNat:Int))) (qaq st9 d)) az)))
    refine ihB g2 (fun o g2=>?_) (fun o g2=>?_)
    ·refine sh fol kA7 ?_;refine Goes.ret ?_;obtain rfl:=si g2;exact Or.inr (⟨rfl,_,rfl,(gw2 [.bool false] (Ua tB))⟩)
    refine Goes.skip ?_;refine gh fol (kAh b (w64 (c+1)) []) ?_;exact⟨M,(ofG 20 (kAh b (w64 (c+1)) []),[]),Nat.lt_succ_self _,(Sub.refl _),_,rfl,g2⟩
   refine Goes.exit ?_;obtain rfl:=si g2;exact Or.inl (⟨rfl,rfl,(Sub.keep [] rfl rfl)⟩)
 rintro x s' (⟨rfl,rfl,hsub⟩|⟨rfl,p,rfl,hret⟩)
 ·try dsimp only at h
  refine Goes.sub hsub ?_;refine sh fol [(2,.bool true)] ?_;refine Goes.ret ?_;obtain rfl:=si h;exact(gw2 [.bool true] (Ua tB))
 try dsimp only at h
 obtain rfl:=si h;exact hret
def j4 (N:Nat) (a:Str):Option Bool:=
 (if(a.length:Int)=0 then
 some true
 else
 if(a.length:Int)>1 then
 (idx a 0).bind fun b=>
 some (decide ((b.toNat:Int)=48))
 else
 some false:Option Bool).bind fun c=>
 if c=true then
 some false
 else
 (qaE N a).bind fun d=>
 some d
theorem zW (N:Nat) (b:Str) {res:Bool} (h:j4 N b=some res):qf ZT (.fn 205) [.str b] [] (.bool res) []:=by
 unfold j4 at h;refine Ub Tryz.func205 rfl rfl (m:=18) rfl (rs:=[.tmp 2]) rfl (l:=(kAw b)) rfl ?_;refine sh fol (kAw b) ?_;refine sq ?_;refine sq ?_;obtain⟨k,a,h⟩:=bnd h;refine Goes.cut (s':=(ofG 18 [(0,.str b),(15,.bool k)],[])) ?_ ?_
 ·rcases wyD a with⟨e,a⟩|⟨e,a⟩
  ·obtain rfl:=si a;exact tr fol [3] [(0,.str b),(15,.bool true)] (ac (gw e) az)
  rcases wyD a with⟨f,a⟩|⟨f,a⟩
  ·obtain⟨g,c,a⟩:=bnd a;obtain rfl:=si a;exact tr fol [3,7,9] [(0,.str b),(15,.bool (decide ((g.toNat:Int)=48)))] (ac (gw e) (ac (gw f) (ac (hs (.done (.opt (yx ZT 9 (.str b) (.i 0))) (.int .u8 (g.toNat:Int))) (qaq st9 c)) az)))
  obtain rfl:=si a;exact tr fol [3,7] [(0,.str b),(15,.bool false)] (ac (gw e) (ac (gw f) az))
 refine ihB h (fun n h=>?_) (fun n h=>?_)
 ·refine sh fol kA7 ?_;refine Goes.ret ?_;obtain rfl:=si h;exact(gw2 [.bool false] (Ua tB))
 refine Goes.skip ?_;obtain⟨j,d,h⟩:=bnd h;refine sq (gr fol [1] [(2,.bool j)] (ac (cv (qf9 N b d)) az) ?_);refine Goes.ret ?_;obtain rfl:=si h;exact(gw2 [.bool j] (Ua tB))
def ko (a:List Int) (b:List Int):Nat->Int->Option (Unit⊕Int)
 |0,_=>none
 |K+1,c=>
  if c>=0 then
  (idx a c).bind fun d=>
  (idx b c).bind fun e=>
  if d<e then
  some (.inr (-1))
  else
  if d>e then
  some (.inr 1)
  else
  ko a b K (w64 (c-1))
  else
  some (.inl ())
def vz (N:Nat) (a:List Int) (b:List Int):Option Int:=
 if(!decide ((a.length:Int)=(b.length:Int)))=true then
 if(a.length:Int)<(b.length:Int)then
 some (-1)
 else
 some 1
 else
 (ko a b N (w64 ((a.length:Int)-1))).bind (fun
 |(.inl ())=>
 some 0
 |(.inr c)=>
 some c)
theorem qdc (N:Nat) (a:List Int) (b:List Int) {res:Int} (h:vz N a b=some res):qf ZT (.fn 217) (vl encI a::(kAn b)) [] (.i res) []:=by
 unfold vz at h;refine Ub Tryz.func217 rfl rfl (m:=41) rfl (rs:=[.tmp 4]) rfl (l:=(kO a b [])) rfl ?_;refine sh fol (kO a b []) ?_;refine sq ?_;refine sh fol (kO a b (kA1 (!decide ((a.length:Int)=(b.length:Int))))) ?_;refine ihB h (fun o h=>?_) (fun o h=>?_)
 ·refine sq ?_;refine sh fol [(15,.bool (decide ((a.length:Int)<(b.length:Int))))] ?_;refine ihD h (fun p h=>?_) (fun p h=>?_)
  ·refine sh fol [(4,.i (-1))] ?_;refine Goes.ret ?_;obtain rfl:=si h;exact(gw2 [.i (-1)] (Ua tI))
  refine Goes.skip ?_;refine sh fol [(4,.i 1)] ?_;refine Goes.ret ?_;obtain rfl:=si h;exact(gw2 [.i 1] (Ua tI))
 refine Goes.skip ?_;refine sq ?_;refine sh fol (kO a b (kAr (w64 ((a.length:Int)-1)))) ?_;refine Goes.block ?_;obtain⟨f,g4,h⟩:=bnd h;refine Goes.imp (Q:=fun x s'=>(x= .exit 0/\(.inl ())=f/\Sub s' (ofG 41 [],[]))\/(x= .ret/\ ∃j,(.inr j)=f/\qZ ZT [.tmp 4] (.i j) .ret s')) ?_ ?_
 ·refine Uc (fun M s=> ∃(e:Int),s=(ofG 41 (kO a b (kAr e)),[])/\ko a b M e=some f) ?_ (m:=N) ⟨_,rfl,g4⟩;rintro M s ⟨e,rfl,g4⟩
  cases M with
  |zero=>simp only[ko]at g4;cases g4
  |succ M=>
   rw[ko]at g4;refine sq ?_;refine sh fol (kO a b [(5,.i e),(20,.bool (decide (e>=0)))]) ?_;refine ihD g4 (fun q g4=>?_) (fun q g4=>?_)
   ·refine Goes.skip ?_;refine sq (Goes.block ?_);refine sq ?_;obtain⟨k,c,g4⟩:=bnd g4;obtain⟨n,d,g4⟩:=bnd g4;refine sq (gr fol [2,3,6,7] (kO a b [(5,.i e),(31,.bool (decide (k<n)))]) (ac (iv qP encI c) (ac (lv 0 ce3 encI c rfl) (ac (iv qP encI d) (ac (lv 0 ce3 encI d rfl) az)))) ?_);refine ihD g4 (fun r g4=>?_) (fun r g4=>?_)
    ·refine sh fol [(4,.i (-1))] ?_;refine Goes.ret ?_;obtain rfl:=si g4;exact Or.inr (⟨rfl,_,rfl,(gw2 [.i (-1)] (Ua tI))⟩)
    refine Goes.skip ?_;refine sq (gr fol [2,3,6,7] (kO a b [(5,.i e),(40,.bool (decide (k>n)))]) (ac (iv qP encI c) (ac (lv 0 ce3 encI c rfl) (ac (iv qP encI d) (ac (lv 0 ce3 encI d rfl) az)))) ?_);refine ihD g4 (fun g g4=>?_) (fun g g4=>?_)
    ·refine sh fol [(4,.i 1)] ?_;refine Goes.ret ?_;obtain rfl:=si g4;exact Or.inr (⟨rfl,_,rfl,(gw2 [.i 1] (Ua tI))⟩)
    refine Goes.skip ?_;refine gh fol (kO a b (kAr (w64 (e-1)))) ?_;exact⟨M,(ofG 41 (kO a b (kAr (w64 (e-1)))),[]),Nat.lt_succ_self _,(Sub.refl _),_,rfl,g4⟩
   refine Goes.exit ?_;obtain rfl:=si g4;exact Or.inl (⟨rfl,rfl,(Sub.keep [] rfl rfl)⟩)
 rintro x s' (⟨rfl,rfl,hsub⟩|⟨rfl,t,rfl,hret⟩)
 ·try dsimp only at h
  refine Goes.sub hsub ?_;refine sh fol [(4,.i 0)] ?_;refine Goes.ret ?_;obtain rfl:=si h;exact(gw2 [.i 0] (Ua tI))
 try dsimp only at h
 obtain rfl:=si h;exact hret
def zC (a:List Int) (d:Int):Nat->(List Int)->Int->Int->Option ((List Int)×Int)
 |0,_,_,_=>none
 |K+1,c,e,b=>
  if b>=0 then
  (idx a b).bind fun i=>
  (qfq .i64 (w64 ((w64 (e*1000000000))+i)) d).bind fun f=>
  (idx c b).bind fun j=>
  (put c b f).bind fun g=>
  (qhf .i64 (w64 ((w64 (e*1000000000))+i)) d).bind fun h=>
  zC a d K g h (w64 (b-1))
  else
  some (c,e)
def xx (N:Nat) (a:List Int) (d:Int):Option ((List Int)×Int):=
 (mk 8 (a.length:Int) 0).bind fun c=>
 (zC a d N c 0 (w64 ((a.length:Int)-1))).bind fun(e,f)=>
 (qau N e).bind fun b=>
 some (b,f)
theorem qeX (N:Nat) (a:List Int) (d:Int) {res:(List Int)×Int} (h:xx N a d=some res):qf ZT (.fn 269) (kA4 a d) [] (.tuple (kA4 res.1 res.2)) []:=by
 unfold xx at h;refine Ub Tryz.func269 rfl rfl (m:=39) rfl (rs:=[.tmp 4,.tmp 5]) rfl (l:=(kAC a (kBC d))) rfl ?_;refine sh fol (kAC a (kBC d)) ?_;obtain⟨q,B,h⟩:=bnd h;refine sq (gq fol [2] (kT a d q []) (kA q []) (ac (hs (.run [] (jD ZT 22 (.i (a.length:Int)) (.i (a.length:Int))) [] (.slice 0 0 q.length q.length 1) (kA q []) false) (qdK qP (E:=encI) (z:=0) rfl (by kernel_rfl) B rfl)) az) ?_);refine sh fol (kT a d q [(7,.i 0)]) ?_;refine sq ?_;refine sh fol (kT a d q [(7,.i 0),(8,.i (w64 ((a.length:Int)-1)))]) ?_;refine Goes.block ?_;obtain⟨C,g7,h⟩:=bnd h;refine Goes.imp (Q:=fun x s'=>(x= .exit 0/\ ∃e r,(e,r)=C/\Sub s' (ofG 39 ((6,.slice 0 0 e.length e.length 1)::(kA9 r)),(kA e [])))) ?_ ?_
 ·refine Uc (fun M s=> ∃(f:List Int) (n:Int) (c:Int),s=(ofG 39 (kT a d f (kZ n c [])),(kA f []))/\zC a d M f n c=some C) ?_ (m:=N) ⟨_,_,_,rfl,g7⟩;rintro M s ⟨f,n,c,rfl,g7⟩
  cases M with
  |zero=>simp only[zC]at g7;cases g7
  |succ M=>
   rw[zC]at g7;refine sq ?_;refine sh fol (kT a d f (kZ n c [(17,.bool (decide (c>=0)))])) ?_;refine ihD g7 (fun D g7=>?_) (fun D g7=>?_)
   ·refine Goes.skip ?_;refine sq (Goes.block ?_);obtain⟨A,p,g7⟩:=bnd g7;refine sq (gr fol [4,5] (kT a d f (kAS c (w64 ((w64 (n*1000000000))+A)) [])) (ac (iv qP encI p) (ac (lv 0 ce3 encI p rfl) az)) ?_);obtain⟨t,u,g7⟩:=bnd g7;obtain⟨F,g,g7⟩:=bnd g7;obtain⟨b,j,g7⟩:=bnd g7;refine sq (gq fol [4,5,6] (kT a d f (kAS c (w64 ((w64 (n*1000000000))+A)) [])) (kA b []) (ac (hs (.done (.opt (jB ZT .quo 3 (.tmp 29) (.tmp 30) (.i (w64 ((w64 (n*1000000000))+A))) (.i d))) (.i t)) (qe7 u)) (ac (hs (.done (.opt (qo ZT 22 (.slice 0 0 f.length f.length 1) (.i c))) (.ptr 0 ((c:Int).toNat*1+0))) (yX qP g)) (ac (hs (.run [0] (qA ZT 3 (.ptr 0 ((c:Int).toNat*1+0)) (.i t)) (kA f []) .undef (kA b []) true) (qbl (E:=encI) (l:=f) (y:=t) rfl (show _=some 1 by kernel_rfl) rfl g rfl rfl rfl rfl rfl j rfl)) az))) ?_);refine Goes.sub (show Sub (ofG 39 (kT a d f (kAS c (w64 ((w64 (n*1000000000))+A)) [])),(kA b [])) (ofG 39 (kT a d b (kAS c (w64 ((w64 (n*1000000000))+A)) [])),(kA b []))from(Sub.norm [] [some 0] rfl rfl (.keep (.same (qw encI _)) (.keep (.same nI) (.keep (.sliceE rfl (vS j)) (.keep (.same nI) (.keep (.same nI) .nil))))) (.ks .nil))) ?_;obtain⟨o,v,g7⟩:=bnd g7;refine gr fol [2] (kT a d b (kZ o c [])) (ac (hs (.done (.opt (jB ZT .rem 3 (.tmp 33) (.tmp 34) (.i (w64 ((w64 (n*1000000000))+A))) (.i d))) (.i o)) (qiS v)) az) ?_;refine gh fol (kT a d b (kZ o (w64 (c-1)) [])) ?_;exact⟨M,(ofG 39 (kT a d b (kZ o (w64 (c-1)) [])),(kA b [])),Nat.lt_succ_self _,(Sub.refl _),_,_,_,rfl,g7⟩
   refine Goes.exit ?_;obtain rfl:=si g7;exact⟨rfl,_,_,rfl,(Sub.keep [6,7] rfl rfl)⟩
 rintro x s' ⟨rfl,e,r,rfl,hsub⟩
 try dsimp only at h
 refine Goes.sub hsub ?_;obtain⟨k,w,h⟩:=bnd h;refine sq (gq fol [1] ((4,vl encI k)::(kAr r)) (kAl e) (ac (hs (.callF 270 [.slice 0 0 e.length e.length 1] (kA e []) [0] [vl encI e] (vl encI k)) (qfV (FzL.cons (Fz.sl (E:=encI) rfl rfl (nl rfl)) FzL.nil) (qcA N e w) (qE encI _ (nl rfl)))) az) ?_);refine Goes.sub (show Sub (ofG 39 ((4,vl encI k)::(kAr r)),(kAl e)) (ofG 39 ((4,vl encI k)::(kAr r)),[])from(Sub.norm [] [] rfl rfl (.keep (.same (qw encI _)) (.keep (.same nI) .nil)) .nil)) ?_;refine Goes.ret ?_;obtain rfl:=si h;exact(gw2 (kA4 k r) (FzW.tuple (qh.cons (Ua (qE encI _ (nl rfl))) (qh.cons (Ua tI) qh.nil))))
def y8 (N:Nat) (a:List Int) (b:List Int):Option ((List Int)×(List Int)):=
 (vz N a b).bind fun d=>
 if d<0 then
 some ([],a)
 else
 if(b.length:Int)=1 then
 (idx b 0).bind fun e=>
 (xx N a e).bind fun c=>
 (qau N ([c.2]:List Int)).bind fun f=>
 some (c.1,f)
 else
 (idx b (w64 ((b.length:Int)-1))).bind fun g=>
 (qfq .i64 1000000000 (w64 (g+1))).bind fun h=>
 none
theorem qeO (N:Nat) (a:List Int) (b:List Int) {res:(List Int)×(List Int)} (h:y8 N a b=some res):qf ZT (.fn 213) (vl encI a::(kAn b)) [] (.tuple (vl encI res.1::(kAn res.2))) []:=by
 unfold y8 at h;refine Ub Tryz.func213 rfl rfl (m:=206) rfl (rs:=[.tmp 4,.tmp 5]) rfl (l:=(kO a b [])) rfl ?_;refine sh fol (kO a b []) ?_;refine sq ?_;obtain⟨p,f,h⟩:=bnd h;refine sq (gr fol [2] (kO a b [(27,.bool (decide (p<0)))]) (ac (cv (qdc N a b f)) az) ?_);refine ihD h (fun q h=>?_) (fun q h=>?_)
 ·refine sh fol [(4,.nilslice),(5,vl encI a)] ?_;refine Goes.ret ?_;obtain rfl:=si h;exact(gw2 (.nilslice::(kAn a)) (FzW.tuple (qh.cons (FzW.nilv (E:=encI)) (qh.cons (Ua (qE encI _ (nl rfl))) qh.nil))))
 refine Goes.skip ?_;refine sq ?_;refine sh fol (kO a b [(31,.bool (decide ((b.length:Int)=1)))]) ?_;refine ihD h (fun r h=>?_) (fun r h=>?_)
 ·obtain⟨s,d,h⟩:=bnd h;obtain⟨c,g,h⟩:=bnd h;refine sq (gr fol [2,3,4] ((6,vl encI c.1)::(kA9 c.2)) (ac (iv qP encI d) (ac (lv 0 ce3 encI d rfl) (ac (cv (qeX N a s g)) az))) ?_);obtain⟨j,k,h⟩:=bnd h;refine sq (gq fol [3] [(4,vl encI c.1),(5,vl encI j)] [.frozen [.i c.2]] (ac (hs (.callF 270 [.slice 0 0 1 1 1] (kAj c.2 []) [0] [vl encI ([c.2]:List Int)] (vl encI j)) (qfV (FzL.cons (Fz.lit rfl rfl (Up (AllST.cons tI AllST.nil))) FzL.nil) (qcA N ([c.2]:List Int) k) (qE encI _ (nl rfl)))) az) ?_);refine Goes.sub (show Sub (ofG 206 [(4,vl encI c.1),(5,vl encI j)],[.frozen [.i c.2]]) (ofG 206 [(4,vl encI c.1),(5,vl encI j)],[])from(Sub.norm [] [] rfl rfl (.keep (.same (qw encI _)) (.keep (.same (qw encI _)) .nil)) .nil)) ?_;refine Goes.ret ?_;obtain rfl:=si h;exact(gw2 (vl encI c.1::(kAn j)) (FzW.tuple (qh.cons (Ua (qE encI _ (nl rfl))) (qh.cons (Ua (qE encI _ (nl rfl))) qh.nil))))
 refine Goes.skip ?_;obtain⟨t,e,h⟩:=bnd h;obtain⟨o,n,h⟩:=bnd h;refine sq (gq fol [4,5,7] (kO a b [(8,.slice 0 0 1 1 1)]) (kAj o []) (ac (iv qP encI e) (ac (lv 0 ce3 encI e rfl) (ac (hs (.done (.opt (jB ZT .quo 3 (.const (.int .i64 1000000000)) (.tmp 50) (.i 1000000000) (.i (w64 (t+1))))) (.i o)) (qe7 n)) az))) ?_);refine sq ?_;cases h
def jm (N:Nat):Nat->(List Int)->(List Int)->Option (List Int)
 |0,_,_=>none
 |K+1,b,a=>
  if(a.length:Int)>0 then
  (y8 N b a).bind fun c=>
  jm N K a c.2
  else
  some b
def qaG (N:Nat) (a:List Int) (b:List Int):Option (List Int):=
 (jm N N a b).bind fun c=>
 some c
theorem qge (N:Nat) (a:List Int) (b:List Int) {res:List Int} (h:qaG N a b=some res):qf ZT (.fn 206) (vl encI a::(kAn b)) [] (vl encI res) []:=by
 unfold qaG at h;refine Ub Tryz.func206 rfl rfl (m:=19) rfl (rs:=[.tmp 4]) rfl (l:=(kO a b [])) rfl ?_;refine sh fol (kO a b []) ?_;refine sq (Goes.block ?_);obtain⟨i,g4,h⟩:=bnd h;refine Goes.imp (Q:=fun x s'=>(x= .exit 0/\ ∃d,d=i/\Sub s' (ofG 19 (kAC d []),[]))) ?_ ?_
 ·refine Uc (fun M s=> ∃(e:List Int) (c:List Int),s=(ofG 19 (kO e c []),[])/\jm N M e c=some i) ?_ (m:=N) ⟨_,_,rfl,g4⟩;rintro M s ⟨e,c,rfl,g4⟩
  cases M with
  |zero=>simp only[jm]at g4;cases g4
  |succ M=>
   rw[jm]at g4;refine sq ?_;refine sh fol (kO e c [(9,.bool (decide ((c.length:Int)>0)))]) ?_;refine ihD g4 (fun j g4=>?_) (fun j g4=>?_)
   ·refine Goes.skip ?_;refine Goes.block ?_;obtain⟨g,f,g4⟩:=bnd g4;refine sq (gr fol [2] (kAy c [(6,vl encI g.2)]) (ac (cv (qeO N e c f)) az) ?_);refine gh fol (kO c g.2 []) ?_;exact⟨M,(ofG 19 (kO c g.2 []),[]),Nat.lt_succ_self _,(Sub.refl _),_,_,rfl,g4⟩
   refine Goes.exit ?_;obtain rfl:=si g4;exact⟨rfl,_,rfl,(Sub.keep [0] rfl rfl)⟩
 rintro x s' ⟨rfl,d,rfl,hsub⟩;refine Goes.sub hsub ?_;refine sh fol [(4,vl encI d)] ?_;refine Goes.ret ?_;obtain rfl:=si h;exact(gw2 [vl encI d] (Ua (qE encI _ (nl rfl))))
def qbt (N:Nat) (a:Str):Option Int:=
 (if(a.length:Int)>0 then
 (idx a 0).bind fun t=>
 some (decide ((t.toNat:Int)=45))
 else
 some false:Option Bool).bind fun u=>
 ((if u=true then
 (cut a 1 (a.length:Int)).bind fun v=>
 some v
 else
 some a:Option Str)).bind fun b=>
 (xG N b).bind fun c=>
 ((cut b 0 c).bind fun f=>
 (j4 N f).bind fun g=>
 if(!g)=true then
 some true
 else
 (idx a 0).bind fun h=>
 if(h.toNat:Int)=45 then
 (cut b 0 c).bind fun i=>
 some (i==[48])
 else
 some false:Option Bool).bind fun j=>
 if j=true then
 some 1
 else
 (if c<(b.length:Int)then
 (cut b (w64 (c+1)) (b.length:Int)).bind fun k=>
 (j4 N k).bind fun l=>
 if(!l)=true then
 some true
 else
 (cut b (w64 (c+1)) (b.length:Int)).bind fun m=>
 if(m==[48])=true then
 some true
 else
 (cut b (w64 (c+1)) (b.length:Int)).bind fun n=>
 some (n==[49])
 else
 some false:Option Bool).bind fun o=>
 if o=true then
 some 1
 else
 (if c>600 then
 some true
 else
 some (decide ((w64 ((w64 ((b.length:Int)-c))-1))>600)):Option Bool).bind fun p=>
 if p=true then
 some 4
 else
 ((if c<(b.length:Int)then
 (qbp N b).bind fun d=>
 (qaG N d.1.w d.2.w).bind fun e=>
 (if(!decide ((e.length:Int)=1))=true then
 some true
 else
 (idx e 0).bind fun q=>
 some (!decide (q=1)):Option Bool).bind fun r=>
 if r=true then
 some (.inr 1)
 else
 some (.inl ())
 else
 some (.inl ()):Option (Unit⊕Int))).bind (fun
 |(.inl ())=>
 some 0
 |(.inr s)=>
 some s)
theorem qhk (N:Nat) (a:Str) {res:Int} (h:qbt N a=some res):qf ZT (.fn 154) [.str a] [] (.i res) []:=by
 unfold qbt at h;refine Ub Tryz.func154 rfl rfl (m:=96) rfl (rs:=[.tmp 2]) rfl (l:=(kAw a)) rfl ?_;refine sh fol (kAw a) ?_;refine sh fol [(0,.str a),(3,.str a)] ?_;refine sq ?_;refine sq ?_;obtain⟨b3,g,h⟩:=bnd h;refine Goes.cut (s':=(ofG 96 [(0,.str a),(3,.str a),(16,.bool b3)],[])) ?_ ?_
 ·rcases wyD g with⟨Y,g⟩|⟨Y,g⟩
  ·obtain⟨c2,J,g⟩:=bnd g;obtain rfl:=si g;exact tr fol [3,5] [(0,.str a),(3,.str a),(16,.bool (decide ((c2.toNat:Int)=45)))] (ac (gw Y) (ac (hs (.done (.opt (yx ZT 9 (.str a) (.i 0))) (.int .u8 (c2.toNat:Int))) (qaq st9 J)) az))
  obtain rfl:=si g;exact tr fol [3] [(0,.str a),(3,.str a),(16,.bool false)] (ac (gw Y) az)
 obtain⟨r6,g6,h⟩:=bnd h;refine Goes.imp (Q:=fun x s'=>(x= .normal/\ ∃e,e=r6/\Sub s' (ofG 96 [(0,.str a),(3,.str e)],[]))) ?_ ?_
 ·refine ihB g6 (fun c7 g6=>?_) (fun c7 g6=>?_)
  ·obtain⟨s8,K,g6⟩:=bnd g6;refine gr fol [1] [(0,.str a),(3,.str s8)] (ac (hs (.done (.opt (qM ZT 9 (.str a) (some (.i 1)) none none)) (.str s8)) (jI st9 (some 1) none K)) az) ?_;obtain rfl:=si g6;exact⟨rfl,_,rfl,(Sub.refl _)⟩
  refine Goes.skip ?_;obtain rfl:=si g6;exact⟨rfl,_,rfl,(Sub.keep [0,3] rfl rfl)⟩
 rintro x s' ⟨rfl,e,rfl,hsub⟩;refine Goes.sub hsub ?_;obtain⟨d,L,h⟩:=bnd h;refine sq (gr fol [1] ((0,.str a)::(kAY e d [])) (ac (cv (qb2 N e L)) az) ?_);refine sq ?_;refine sq ?_;obtain⟨Z,c,h⟩:=bnd h;refine Goes.cut (s':=(ofG 96 (kAY e d [(36,.bool Z)]),[])) ?_ ?_
 ·obtain⟨r,n,c⟩:=bnd c;obtain⟨r11,o,c⟩:=bnd c;rcases wyB c with⟨z,c⟩|⟨z,c⟩
  ·obtain rfl:=si c;exact tr fol [2,3,5] (kAY e d [(36,.bool true)]) (ac (hs (.done (.opt (qM ZT 9 (.str e) none (some (.i d)) none)) (.str r)) (jI st9 none (some d) n)) (ac (cv (zW N r o)) (ac (gw z) az)))
  obtain⟨M,t,c⟩:=bnd c;rcases wyD c with⟨B,c⟩|⟨B,c⟩
  ·obtain⟨O,C,c⟩:=bnd c;obtain rfl:=si c;exact tr fol [2,3,5,7,9,12] (kAY e d [(36,.bool (O==[48]))]) (ac (hs (.done (.opt (qM ZT 9 (.str e) none (some (.i d)) none)) (.str r)) (jI st9 none (some d) n)) (ac (cv (zW N r o)) (ac (gw z) (ac (hs (.done (.opt (yx ZT 71 (.str a) (.i 0))) (.int .u8 (M.toNat:Int))) (qaq st71 t)) (ac (gw B) (ac (hs (.done (.opt (qM ZT 9 (.str e) none (some (.i d)) none)) (.str O)) (jI st9 none (some d) C)) az))))))
  obtain rfl:=si c;exact tr fol [2,3,5,7,9] (kAY e d [(36,.bool false)]) (ac (hs (.done (.opt (qM ZT 9 (.str e) none (some (.i d)) none)) (.str r)) (jI st9 none (some d) n)) (ac (cv (zW N r o)) (ac (gw z) (ac (hs (.done (.opt (yx ZT 71 (.str a) (.i 0))) (.int .u8 (M.toNat:Int))) (qaq st71 t)) (ac (gw B) az)))))
 refine ihB h (fun a0 h=>?_) (fun a0 h=>?_)
 ·refine sh fol [(2,.i 1)] ?_;refine Goes.ret ?_;obtain rfl:=si h;exact(gw2 [.i 1] (Ua tI))
 refine Goes.skip ?_;refine sq ?_;refine sq ?_;obtain⟨a1,b,h⟩:=bnd h;refine Goes.cut (s':=(ofG 96 (kAY e d [(62,.bool a1)]),[])) ?_ ?_
 ·rcases wyD b with⟨u,b⟩|⟨u,b⟩
  ·obtain⟨s,p,b⟩:=bnd b;obtain⟨r21,q,b⟩:=bnd b;rcases wyB b with⟨A,b⟩|⟨A,b⟩
   ·obtain rfl:=si b;exact tr fol [4,8,9,11] (kAY e d [(62,.bool true)]) (ac (gw u) (ac (hs (.done (.opt (qM ZT 9 (.str e) (some (.i (w64 (d+1)))) none none)) (.str s)) (jI st9 (some (w64 (d+1))) none p)) (ac (cv (zW N s q)) (ac (gw A) az))))
   obtain⟨P,v,b⟩:=bnd b;rcases wyB b with⟨D,b⟩|⟨D,b⟩
   ·obtain rfl:=si b;exact tr fol [4,8,9,11,15,18] (kAY e d [(62,.bool true)]) (ac (gw u) (ac (hs (.done (.opt (qM ZT 9 (.str e) (some (.i (w64 (d+1)))) none none)) (.str s)) (jI st9 (some (w64 (d+1))) none p)) (ac (cv (zW N s q)) (ac (gw A) (ac (hs (.done (.opt (qM ZT 9 (.str e) (some (.i (w64 (d+1)))) none none)) (.str P)) (jI st9 (some (w64 (d+1))) none v)) (ac (gw D) az))))))
   obtain⟨U,E,b⟩:=bnd b;obtain rfl:=si b;exact tr fol [4,8,9,11,15,18,22] (kAY e d [(62,.bool (U==[49]))]) (ac (gw u) (ac (hs (.done (.opt (qM ZT 9 (.str e) (some (.i (w64 (d+1)))) none none)) (.str s)) (jI st9 (some (w64 (d+1))) none p)) (ac (cv (zW N s q)) (ac (gw A) (ac (hs (.done (.opt (qM ZT 9 (.str e) (some (.i (w64 (d+1)))) none none)) (.str P)) (jI st9 (some (w64 (d+1))) none v)) (ac (gw D) (ac (hs (.done (.opt (qM ZT 9 (.str e) (some (.i (w64 (d+1)))) none none)) (.str U)) (jI st9 (some (w64 (d+1))) none E)) az)))))))
  obtain rfl:=si b;exact tr fol [4] (kAY e d [(62,.bool false)]) (ac (gw u) az)
 refine ihB h (fun a2 h=>?_) (fun a2 h=>?_)
 ·refine sh fol [(2,.i 1)] ?_;refine Goes.ret ?_;obtain rfl:=si h;exact(gw2 [.i 1] (Ua tI))
 refine Goes.skip ?_;refine sq ?_;refine sq ?_;obtain⟨a3,j,h⟩:=bnd h;refine Goes.cut (s':=(ofG 96 (kAY e d [(72,.bool a3)]),[])) ?_ ?_
 ·rcases wyD j with⟨F,j⟩|⟨F,j⟩
  ·obtain rfl:=si j;exact tr fol [2] (kAY e d [(72,.bool true)]) (ac (gw F) az)
  obtain rfl:=si j;exact tr fol [2] (kAY e d [(72,.bool (decide ((w64 ((w64 ((e.length:Int)-d))-1))>600)))]) (ac (gw F) az)
 refine ihB h (fun a4 h=>?_) (fun a4 h=>?_)
 ·refine sh fol [(2,.i 4)] ?_;refine Goes.ret ?_;obtain rfl:=si h;exact(gw2 [.i 4] (Ua tI))
 refine Goes.skip ?_;refine sq ?_;refine sh fol [(3,.str e),(76,.bool (decide (d<(e.length:Int))))] ?_;obtain⟨V,g33,h⟩:=bnd h;refine Goes.imp (Q:=fun x s'=>(x= .normal/\(.inl ())=V/\Sub s' (ofG 96 [],[]))\/(x= .ret/\ ∃X,(.inr X)=V/\qZ ZT [.tmp 2] (.i X) .ret s')) ?_ ?_
 ·refine ihD g33 (fun a5 g33=>?_) (fun a5 g33=>?_)
  ·obtain⟨k,G,g33⟩:=bnd g33;refine sq (gq fol [1] [(5,.ptr 0 0),(6,.ptr 1 0)] (kV k.1.neg k.1.w (kV k.2.neg k.2.w [])) (ac (cv (qgM N e G)) az) ?_);obtain⟨a6,H,g33⟩:=bnd g33;refine sq (gr fol [4] [(7,vl encI a6)] (ac (cv (qge N k.1.w k.2.w H)) az) ?_);refine sq ?_;obtain⟨a7,f,g33⟩:=bnd g33;refine Goes.cut (s':=(ofG 96 [(95,.bool a7)],(kV k.1.neg k.1.w (kV k.2.neg k.2.w [])))) ?_ ?_
   ·rcases wyB f with⟨I,f⟩|⟨I,f⟩
    ·obtain rfl:=si f;exact tr fol [3] [(95,.bool true)] (ac (gw I) az)
    obtain⟨a8,y,f⟩:=bnd f;obtain rfl:=si f;exact tr fol [3,5,6] [(95,.bool (!decide (a8=1)))] (ac (gw I) (ac (iv qP encI y) (ac (lv 0 ce3 encI y rfl) az)))
   refine ihB g33 (fun a9 g33=>?_) (fun a9 g33=>?_)
   ·refine sh fol [(2,.i 1)] ?_;refine Goes.ret ?_;obtain rfl:=si g33;exact Or.inr (⟨rfl,_,rfl,(gw2 [.i 1] (Ua tI))⟩)
   refine Goes.skip ?_;obtain rfl:=si g33;exact Or.inl (⟨rfl,rfl,(Sub.norm [] [] rfl rfl .nil .nil)⟩)
  refine Goes.skip ?_;obtain rfl:=si g33;exact Or.inl (⟨rfl,rfl,(Sub.keep [] rfl rfl)⟩)
 rintro x s' (⟨rfl,rfl,hsub⟩|⟨rfl,q43,rfl,hret⟩)
 ·try dsimp only at h
  refine Goes.sub hsub ?_;refine sh fol [(2,.i 0)] ?_;refine Goes.ret ?_;obtain rfl:=si h;exact(gw2 [.i 0] (Ua tI))
 try dsimp only at h
 obtain rfl:=si h;exact hret
def je (N:Nat) (v:List Str):Nat->Int->Option (Unit⊕Int)
 |0,_=>none
 |K+1,a=>
  if a<(v.length:Int)then
  (idx v a).bind fun c=>
  (qbt N c).bind fun b=>
  if(!decide (b=0))=true then
  some (.inr b)
  else
  je N v K (w64 (a+1))
  else
  some (.inl ())
def xK (N:Nat) (v:List Str):Option Int:=
 (je N v N 0).bind (fun
 |(.inl ())=>
 some 0
 |(.inr a)=>
 some a)
theorem qfe (N:Nat) (v:List Str) {res:Int} (h:xK N v=some res):qf ZT (.fn 83) [vl encS v] [] (.i res) []:=by
 unfold xK at h;refine Ub Tryz.func83 rfl rfl (m:=19) rfl (rs:=[.tmp 2]) rfl (l:=[(0,vl encS v)]) rfl ?_;refine sh fol [(0,vl encS v)] ?_;refine sq ?_;refine sh fol [(0,vl encS v),(3,.i 0)] ?_;refine Goes.block ?_;obtain⟨e,g2,h⟩:=bnd h;refine Goes.imp (Q:=fun x s'=>(x= .exit 0/\(.inl ())=e/\Sub s' (ofG 19 [],[]))\/(x= .ret/\ ∃f,(.inr f)=e/\qZ ZT [.tmp 2] (.i f) .ret s')) ?_ ?_
 ·refine Uc (fun M s=> ∃(a:Int),s=(ofG 19 [(0,vl encS v),(3,.i a)],[])/\je N v M a=some e) ?_ (m:=N) ⟨_,rfl,g2⟩;rintro M s ⟨a,rfl,g2⟩
  cases M with
  |zero=>simp only[je]at g2;cases g2
  |succ M=>
   rw[je]at g2;refine sq ?_;refine sh fol ((0,vl encS v)::(3,.i a)::(kA5 (decide (a<(v.length:Int))))) ?_;refine ihD g2 (fun g g2=>?_) (fun g g2=>?_)
   ·refine Goes.skip ?_;refine sq (Goes.block ?_);obtain⟨j,b,g2⟩:=bnd g2;obtain⟨c,d,g2⟩:=bnd g2;refine sq (gr fol [2,3,4] ((0,vl encS v)::(3,.i a)::(kBF c)) (ac (iv qhW encS b) (ac (lv 0 qm8 encS b rfl) (ac (cv (qhk N j d)) az))) ?_);refine sh fol [(0,vl encS v),(3,.i a),(4,.i c),(17,.bool (!decide (c=0)))] ?_;refine ihB g2 (fun k g2=>?_) (fun k g2=>?_)
    ·refine sh fol (kAx c) ?_;refine Goes.ret ?_;obtain rfl:=si g2;exact Or.inr (⟨rfl,_,rfl,(gw2 [.i c] (Ua tI))⟩)
    refine Goes.skip ?_;refine gh fol [(0,vl encS v),(3,.i (w64 (a+1)))] ?_;exact⟨M,(ofG 19 [(0,vl encS v),(3,.i (w64 (a+1)))],[]),Nat.lt_succ_self _,(Sub.refl _),_,rfl,g2⟩
   refine Goes.exit ?_;obtain rfl:=si g2;exact Or.inl (⟨rfl,rfl,(Sub.keep [] rfl rfl)⟩)
 rintro x s' (⟨rfl,rfl,hsub⟩|⟨rfl,n,rfl,hret⟩)
 ·try dsimp only at h
  refine Goes.sub hsub ?_;refine sh fol [(2,.i 0)] ?_;refine Goes.ret ?_;obtain rfl:=si h;exact(gw2 [.i 0] (Ua tI))
 try dsimp only at h
 obtain rfl:=si h;exact hret
def j6 (N:Nat) (l:List (List Str)) (n:Int):Nat->Int->Option (Unit⊕Bool)
 |0,_=>none
 |K+1,a=>
  if a<(l.length:Int)then
  ((idx l a).bind fun b=>
  if(!decide ((b.length:Int)=n))=true then
  some true
  else
  (xK N b).bind fun c=>
  some (!decide (c=0)):Option Bool).bind fun d=>
  if d=true then
  some (.inr false)
  else
  j6 N l n K (w64 (a+1))
  else
  some (.inl ())
def xP (N:Nat) (l:List (List Str)) (n:Int):Option Bool:=
 (j6 N l n N 0).bind (fun
 |(.inl ())=>
 some (decide ((l.length:Int)=n))
 |(.inr a)=>
 some a)
theorem yY (N:Nat) (l:List (List Str)) (n:Int) {res:Bool} (h:xP N l n=some res):qf ZT (.fn 33) [vl (qc encS) l,.i n] [] (.bool res) []:=by
 unfold xP at h;refine Ub Tryz.func33 rfl rfl (m:=31) rfl (rs:=[.tmp 4]) rfl (l:=((0,vl (qc encS) l)::(kBC n))) rfl ?_;refine sh fol ((0,vl (qc encS) l)::(kBC n)) ?_;refine sq ?_;refine sh fol [(0,vl (qc encS) l),(1,.i n),(7,.i (l.length:Int)),(8,.i 0)] ?_;refine Goes.block ?_;obtain⟨e,g2,h⟩:=bnd h;refine Goes.imp (Q:=fun x s'=>(x= .exit 0/\(.inl ())=e/\Sub s' (ofG 31 ((0,vl (qc encS) l)::(kBC n)),[]))\/(x= .ret/\ ∃j,(.inr j)=e/\qZ ZT [.tmp 4] (.bool j) .ret s')) ?_ ?_
 ·refine Uc (fun M s=> ∃(c:Int),s=(ofG 31 ((0,vl (qc encS) l)::(1,.i n)::(kZ (l.length:Int) c [])),[])/\j6 N l n M c=some e) ?_ (m:=N) ⟨_,rfl,g2⟩;rintro M s ⟨c,rfl,g2⟩
  cases M with
  |zero=>simp only[j6]at g2;cases g2
  |succ M=>
   rw[j6]at g2;refine sh fol ((0,vl (qc encS) l)::(1,.i n)::(kZ (l.length:Int) c [(9,.bool (decide (c<(l.length:Int))))])) ?_;refine sq ?_;refine ihD g2 (fun k g2=>?_) (fun k g2=>?_)
   ·refine Goes.skip ?_;refine sq (Goes.block ?_);refine sh fol ((0,vl (qc encS) l)::(1,.i n)::(5,.i c)::(kZ (l.length:Int) c [])) ?_;refine sq ?_;obtain⟨o,a,g2⟩:=bnd g2;refine Goes.cut (s':=(ofG 31 ((0,vl (qc encS) l)::(1,.i n)::(kZ (l.length:Int) c [(25,.bool o)])),[])) ?_ ?_
    ·obtain⟨p,b,a⟩:=bnd a;rcases wyB a with⟨f,a⟩|⟨f,a⟩
     ·obtain rfl:=si a;exact tr fol [2,3,7] ((0,vl (qc encS) l)::(1,.i n)::(kZ (l.length:Int) c [(25,.bool true)])) (ac (iv qhK (qc encS) b) (ac (lv 0 qjM (qc encS) b rfl) (ac (gw f) az)))
     obtain⟨q,d,a⟩:=bnd a;obtain rfl:=si a;exact tr fol [2,3,7,10,11,12] ((0,vl (qc encS) l)::(1,.i n)::(kZ (l.length:Int) c [(25,.bool (!decide (q=0)))])) (ac (iv qhK (qc encS) b) (ac (lv 0 qjM (qc encS) b rfl) (ac (gw f) (ac (iv qhK (qc encS) b) (ac (lv 0 qjM (qc encS) b rfl) (ac (cv (qfe N p d)) az))))))
    refine ihB g2 (fun g g2=>?_) (fun g g2=>?_)
    ·refine sh fol kAN ?_;refine Goes.ret ?_;obtain rfl:=si g2;exact Or.inr (⟨rfl,_,rfl,(gw2 [.bool false] (Ua tB))⟩)
    refine Goes.skip ?_;refine gh fol ((0,vl (qc encS) l)::(1,.i n)::(kZ (l.length:Int) (w64 (c+1)) [])) ?_;exact⟨M,(ofG 31 ((0,vl (qc encS) l)::(1,.i n)::(kZ (l.length:Int) (w64 (c+1)) [])),[]),Nat.lt_succ_self _,(Sub.refl _),_,rfl,g2⟩
   refine Goes.exit ?_;obtain rfl:=si g2;exact Or.inl (⟨rfl,rfl,(Sub.keep [0,1] rfl rfl)⟩)
 rintro x s' (⟨rfl,rfl,hsub⟩|⟨rfl,r,rfl,hret⟩)
 ·try dsimp only at h
  refine Goes.sub hsub ?_;refine sh fol (kAk (decide ((l.length:Int)=n))) ?_;refine Goes.ret ?_;obtain rfl:=si h;exact(gw2 [.bool (decide ((l.length:Int)=n))] (Ua tB))
 try dsimp only at h
 obtain rfl:=si h;exact hret
def jK (a:List Str) (b:List Str):Nat->Int->Option (Unit⊕Bool)
 |0,_=>none
 |K+1,c=>
  if c<(a.length:Int)then
  (idx a c).bind fun d=>
  (idx b c).bind fun e=>
  if(!(d==e))=true then
  some (.inr false)
  else
  jK a b K (w64 (c+1))
  else
  some (.inl ())
def qai (N:Nat) (a:List Str) (b:List Str):Option Bool:=
 if(!decide ((a.length:Int)=(b.length:Int)))=true then
 some false
 else
 (jK a b N 0).bind (fun
 |(.inl ())=>
 some true
 |(.inr c)=>
 some c)
theorem qfy (N:Nat) (a:List Str) (b:List Str) {res:Bool} (h:qai N a b=some res):qf ZT (.fn 84) [vl encS a,vl encS b] [] (.bool res) []:=by
 unfold qai at h;refine Ub Tryz.func84 rfl rfl (m:=26) rfl (rs:=[.tmp 4]) rfl (l:=(kAt a b [])) rfl ?_;refine sh fol (kAt a b []) ?_;refine sq ?_;refine sh fol (kAt a b (kA1 (!decide ((a.length:Int)=(b.length:Int))))) ?_;refine ihB h (fun j h=>?_) (fun j h=>?_)
 ·refine sh fol kAN ?_;refine Goes.ret ?_;obtain rfl:=si h;exact(gw2 [.bool false] (Ua tB))
 refine Goes.skip ?_;refine sq ?_;refine sh fol (kAt a b [(5,.i 0)]) ?_;refine Goes.block ?_;obtain⟨f,g3,h⟩:=bnd h;refine Goes.imp (Q:=fun x s'=>(x= .exit 0/\(.inl ())=f/\Sub s' (ofG 26 [],[]))\/(x= .ret/\ ∃g,(.inr g)=f/\qZ ZT [.tmp 4] (.bool g) .ret s')) ?_ ?_
 ·refine Uc (fun M s=> ∃(c:Int),s=(ofG 26 (kAt a b (kAr c)),[])/\jK a b M c=some f) ?_ (m:=N) ⟨_,rfl,g3⟩;rintro M s ⟨c,rfl,g3⟩
  cases M with
  |zero=>simp only[jK]at g3;cases g3
  |succ M=>
   rw[jK]at g3;refine sq ?_;refine sh fol (kAt a b [(5,.i c),(14,.bool (decide (c<(a.length:Int))))]) ?_;refine ihD g3 (fun k g3=>?_) (fun k g3=>?_)
   ·refine Goes.skip ?_;refine sq (Goes.block ?_);obtain⟨n,d,g3⟩:=bnd g3;obtain⟨o,e,g3⟩:=bnd g3;refine sq (gr fol [2,3,6,7] (kAt a b [(5,.i c),(25,.bool (!(n==o)))]) (ac (iv qhW encS d) (ac (lv 0 qm8 encS d rfl) (ac (iv qhW encS e) (ac (lv 0 qm8 encS e rfl) az)))) ?_);refine ihB g3 (fun p g3=>?_) (fun p g3=>?_)
    ·refine sh fol kAN ?_;refine Goes.ret ?_;obtain rfl:=si g3;exact Or.inr (⟨rfl,_,rfl,(gw2 [.bool false] (Ua tB))⟩)
    refine Goes.skip ?_;refine gh fol (kAt a b (kAr (w64 (c+1)))) ?_;exact⟨M,(ofG 26 (kAt a b (kAr (w64 (c+1)))),[]),Nat.lt_succ_self _,(Sub.refl _),_,rfl,g3⟩
   refine Goes.exit ?_;obtain rfl:=si g3;exact Or.inl (⟨rfl,rfl,(Sub.keep [] rfl rfl)⟩)
 rintro x s' (⟨rfl,rfl,hsub⟩|⟨rfl,q,rfl,hret⟩)
 ·try dsimp only at h
  refine Goes.sub hsub ?_;refine sh fol kBB ?_;refine Goes.ret ?_;obtain rfl:=si h;exact(gw2 [.bool true] (Ua tB))
 try dsimp only at h
 obtain rfl:=si h;exact hret
def zB (N:Nat) (a:List (List Str)) (b:List (List Str)):Nat->Int->Option (Unit⊕Bool)
 |0,_=>none
 |K+1,c=>
  if c<(a.length:Int)then
  (idx a c).bind fun d=>
  (idx b c).bind fun e=>
  (qai N d e).bind fun f=>
  if(!f)=true then
  some (.inr false)
  else
  zB N a b K (w64 (c+1))
  else
  some (.inl ())
def yG (N:Nat) (a:List (List Str)) (b:List (List Str)):Option Bool:=
 if(!decide ((a.length:Int)=(b.length:Int)))=true then
 some false
 else
 (zB N a b N 0).bind (fun
 |(.inl ())=>
 some true
 |(.inr c)=>
 some c)
theorem qeu (N:Nat) (a:List (List Str)) (b:List (List Str)) {res:Bool} (h:yG N a b=some res):qf ZT (.fn 34) [vl (qc encS) a,vl (qc encS) b] [] (.bool res) []:=by
 unfold yG at h;refine Ub Tryz.func34 rfl rfl (m:=27) rfl (rs:=[.tmp 4]) rfl (l:=[(0,vl (qc encS) a),(1,vl (qc encS) b)]) rfl ?_;refine sh fol [(0,vl (qc encS) a),(1,vl (qc encS) b)] ?_;refine sq ?_;refine sh fol ((0,vl (qc encS) a)::(1,vl (qc encS) b)::(kA1 (!decide ((a.length:Int)=(b.length:Int))))) ?_;refine ihB h (fun k h=>?_) (fun k h=>?_)
 ·refine sh fol kAN ?_;refine Goes.ret ?_;obtain rfl:=si h;exact(gw2 [.bool false] (Ua tB))
 refine Goes.skip ?_;refine sq ?_;refine sh fol [(0,vl (qc encS) a),(1,vl (qc encS) b),(5,.i 0)] ?_;refine Goes.block ?_;obtain⟨g,g3,h⟩:=bnd h;refine Goes.imp (Q:=fun x s'=>(x= .exit 0/\(.inl ())=g/\Sub s' (ofG 27 [],[]))\/(x= .ret/\ ∃j,(.inr j)=g/\qZ ZT [.tmp 4] (.bool j) .ret s')) ?_ ?_
 ·refine Uc (fun M s=> ∃(c:Int),s=(ofG 27 ((0,vl (qc encS) a)::(1,vl (qc encS) b)::(kAr c)),[])/\zB N a b M c=some g) ?_ (m:=N) ⟨_,rfl,g3⟩;rintro M s ⟨c,rfl,g3⟩
  cases M with
  |zero=>simp only[zB]at g3;cases g3
  |succ M=>
   rw[zB]at g3;refine sq ?_;refine sh fol [(0,vl (qc encS) a),(1,vl (qc encS) b),(5,.i c),(14,.bool (decide (c<(a.length:Int))))] ?_;refine ihD g3 (fun n g3=>?_) (fun n g3=>?_)
   ·refine Goes.skip ?_;refine sq (Goes.block ?_);obtain⟨o,d,g3⟩:=bnd g3;obtain⟨p,e,g3⟩:=bnd g3;obtain⟨q,f,g3⟩:=bnd g3;refine sq (gr fol [2,3,6,7,8] [(0,vl (qc encS) a),(1,vl (qc encS) b),(5,.i c),(26,.bool (!q))] (ac (iv qhK (qc encS) d) (ac (lv 0 qjM (qc encS) d rfl) (ac (iv qhK (qc encS) e) (ac (lv 0 qjM (qc encS) e rfl) (ac (cv (qfy N o p f)) az))))) ?_);refine ihB g3 (fun r g3=>?_) (fun r g3=>?_)
    ·refine sh fol kAN ?_;refine Goes.ret ?_;obtain rfl:=si g3;exact Or.inr (⟨rfl,_,rfl,(gw2 [.bool false] (Ua tB))⟩)
    refine Goes.skip ?_;refine gh fol ((0,vl (qc encS) a)::(1,vl (qc encS) b)::(kAr (w64 (c+1)))) ?_;exact⟨M,(ofG 27 ((0,vl (qc encS) a)::(1,vl (qc encS) b)::(kAr (w64 (c+1)))),[]),Nat.lt_succ_self _,(Sub.refl _),_,rfl,g3⟩
   refine Goes.exit ?_;obtain rfl:=si g3;exact Or.inl (⟨rfl,rfl,(Sub.keep [] rfl rfl)⟩)
 rintro x s' (⟨rfl,rfl,hsub⟩|⟨rfl,t,rfl,hret⟩)
 ·try dsimp only at h
  refine Goes.sub hsub ?_;refine sh fol kBB ?_;refine Goes.ret ?_;obtain rfl:=si h;exact(gw2 [.bool true] (Ua tB))
 try dsimp only at h
 obtain rfl:=si h;exact hret
def jW (N:Nat) (a:Str):Option (Int×Int×Bool):=
 if(a.length:Int)>20 then
 some (0,0,false)
 else
 (if(a.length:Int)>0 then
 (idx a 0).bind fun l=>
 some (decide ((l.toNat:Int)=45))
 else
 some false:Option Bool).bind fun k=>
 ((if k=true then
 (cut a 1 (a.length:Int)).bind fun m=>
 some m
 else
 some a:Option Str)).bind fun c=>
 (xG N c).bind fun b=>
 (if b>9 then
 some true
 else
 some (decide ((w64 ((c.length:Int)-b))>10)):Option Bool).bind fun e=>
 if e=true then
 some (0,0,false)
 else
 (cut c 0 b).bind fun f=>
 (yc N f).bind fun d=>
 ((if b<(c.length:Int)then
 (cut c (w64 (b+1)) (c.length:Int)).bind fun g=>
 (yc N g).bind fun h=>
 some h
 else
 some 1:Option Int)).bind fun i=>
 ((if k=true then
 some (w64 (0-d))
 else
 some d:Option Int)).bind fun j=>
 some (j,i,true)
theorem qaS (N:Nat) (a:Str) {res:Int×Int×Bool} (h:jW N a=some res):qf ZT (.fn 155) [.str a] [] (.tuple [.i res.1,.i res.2.1,.bool res.2.2]) []:=by
 unfold jW at h;refine Ub Tryz.func155 rfl rfl (m:=54) rfl (rs:=[.tmp 2,.tmp 3,.tmp 4]) rfl (l:=(kAw a)) rfl ?_;refine sh fol (kAw a) ?_;refine sh fol [(5,.str a)] ?_;refine sq ?_;refine sh fol ((5,.str a)::(kA2 (decide ((a.length:Int)>20)))) ?_;refine ihD h (fun I h=>?_) (fun I h=>?_)
 ·refine sh fol ((2,.i 0)::(3,.i 0)::kAN) ?_;refine Goes.ret ?_;obtain rfl:=si h;exact(gw2 [.i 0,.i 0,.bool false] (FzW.tuple (qh.cons (Ua tI) (qh.cons (Ua tI) (qh.cons (Ua tB) qh.nil)))))
 refine Goes.skip ?_;refine sq ?_;obtain⟨f,c,h⟩:=bnd h;refine Goes.cut (s':=(ofG 54 (kAq a f []),[])) ?_ ?_
 ·rcases wyD c with⟨y,c⟩|⟨y,c⟩
  ·obtain⟨G,t,c⟩:=bnd c;obtain rfl:=si c;exact tr fol [3,5] (kAq a (decide ((G.toNat:Int)=45)) []) (ac (gw y) (ac (hs (.done (.opt (yx ZT 9 (.str a) (.i 0))) (.int .u8 (G.toNat:Int))) (qaq st9 t)) az))
  obtain rfl:=si c;exact tr fol [3] [(5,.str a),(6,.bool false)] (ac (gw y) az)
 refine sq ?_;refine sh fol (kAq a f [(22,.bool f)]) ?_;obtain⟨J,g7,h⟩:=bnd h;refine Goes.imp (Q:=fun x s'=>(x= .normal/\ ∃g,g=J/\Sub s' (ofG 54 (kAq g f []),[]))) ?_ ?_
 ·refine ihB g7 (fun K g7=>?_) (fun K g7=>?_)
  ·obtain⟨H,u,g7⟩:=bnd g7;refine gr fol [1] (kAq H f []) (ac (hs (.done (.opt (qM ZT 9 (.str a) (some (.i 1)) none none)) (.str H)) (jI st9 (some 1) none u)) az) ?_;obtain rfl:=si g7;exact⟨rfl,_,rfl,(Sub.refl _)⟩
  refine Goes.skip ?_;obtain rfl:=si g7;exact⟨rfl,_,rfl,(Sub.keep [5,6] rfl rfl)⟩
 rintro x s' ⟨rfl,g,rfl,hsub⟩;refine Goes.sub hsub ?_;obtain⟨b,n,h⟩:=bnd h;refine sq (gr fol [1] (kAq g f (kA9 b)) (ac (cv (qb2 N g n)) az) ?_);refine sq ?_;refine sq ?_;obtain⟨z,d,h⟩:=bnd h;refine Goes.cut (s':=(ofG 54 (kAq g f [(7,.i b),(35,.bool z)]),[])) ?_ ?_
 ·rcases wyD d with⟨o,d⟩|⟨o,d⟩
  ·obtain rfl:=si d;exact tr fol [2] (kAq g f [(7,.i b),(35,.bool true)]) (ac (gw o) az)
  obtain rfl:=si d;exact tr fol [2] (kAq g f [(7,.i b),(35,.bool (decide ((w64 ((g.length:Int)-b))>10)))]) (ac (gw o) az)
 refine ihB h (fun A h=>?_) (fun A h=>?_)
 ·refine sh fol ((2,.i 0)::(3,.i 0)::kAN) ?_;refine Goes.ret ?_;obtain rfl:=si h;exact(gw2 [.i 0,.i 0,.bool false] (FzW.tuple (qh.cons (Ua tI) (qh.cons (Ua tI) (qh.cons (Ua tB) qh.nil)))))
 refine Goes.skip ?_;obtain⟨v,p,h⟩:=bnd h;obtain⟨j,q,h⟩:=bnd h;refine sq (gr fol [2,3] (kAq g f (kZ b j [(9,.i 1)])) (ac (hs (.done (.opt (qM ZT 9 (.str g) none (some (.i b)) none)) (.str v)) (jI st9 none (some b) p)) (ac (cv (qaN N v q)) az)) ?_);refine sq ?_;refine sh fol (kAq g f (kZ b j [(9,.i 1),(43,.bool (decide (b<(g.length:Int))))])) ?_;obtain⟨B,g18,h⟩:=bnd h;refine Goes.imp (Q:=fun x s'=>(x= .normal/\ ∃e,e=B/\Sub s' (ofG 54 ((6,.bool f)::(kAS j e [])),[]))) ?_ ?_
 ·refine ihD g18 (fun C g18=>?_) (fun C g18=>?_)
  ·obtain⟨w,r,g18⟩:=bnd g18;obtain⟨D,s,g18⟩:=bnd g18;refine gr fol [3,4] ((6,.bool f)::(kAS j D [])) (ac (hs (.done (.opt (qM ZT 9 (.str g) (some (.i (w64 (b+1)))) none none)) (.str w)) (jI st9 (some (w64 (b+1))) none r)) (ac (cv (qaN N w s)) az)) ?_;obtain rfl:=si g18;exact⟨rfl,_,rfl,(Sub.refl _)⟩
  refine Goes.skip ?_;obtain rfl:=si g18;exact⟨rfl,_,rfl,(Sub.keep [6,8,9] rfl rfl)⟩
 rintro x s' ⟨rfl,e,rfl,hsub⟩;refine Goes.sub hsub ?_;refine sq ?_;refine sh fol (kAS j e [(49,.bool f)]) ?_;obtain⟨E,g23,h⟩:=bnd h;refine Goes.imp (Q:=fun x s'=>(x= .normal/\ ∃k,k=E/\Sub s' (ofG 54 (kAS k e []),[]))) ?_ ?_
 ·refine ihB g23 (fun F g23=>?_) (fun F g23=>?_)
  ·refine gh fol (kAS (w64 (0-j)) e []) ?_;obtain rfl:=si g23;exact⟨rfl,_,rfl,(Sub.refl _)⟩
  refine Goes.skip ?_;obtain rfl:=si g23;exact⟨rfl,_,rfl,(Sub.keep [8,9] rfl rfl)⟩
 rintro x s' ⟨rfl,k,rfl,hsub⟩;refine Goes.sub hsub ?_;refine sh fol ((2,.i k)::(3,.i e)::kBB) ?_;refine Goes.ret ?_;obtain rfl:=si h;exact(gw2 [.i k,.i e,.bool true] (FzW.tuple (qh.cons (Ua tI) (qh.cons (Ua tI) (qh.cons (Ua tB) qh.nil)))))
def qX (least:Int):Nat->Int->Str->Option Str
 |0,_,_=>none
 |K+1,a,b=>
  (if a>0 then
  some true
  else
  some (decide ((b.length:Int)<least)):Option Bool).bind fun d=>
  if d=true then
  (cut [48,49,50,51,52,53,54,55,56,57] (a.tmod 10) (w64 ((a.tmod 10)+1))).bind fun e=>
  (cat e b).bind fun c=>
  qX least K (w64 (a.tdiv 10)) c
  else
  some b
def xe (N:Nat) (n:Int) (least:Int):Option Str:=
 (qX least N n []).bind fun a=>
 some a
theorem qcE (N:Nat) (n:Int) (least:Int) {res:Str} (h:xe N n least=some res):qf ZT (.fn 210) [.i n,.i least] [] (.str res) []:=by
 unfold xe at h;refine Ub Tryz.func210 rfl rfl (m:=25) rfl (rs:=[.tmp 4]) rfl (l:=(kAH n least [])) rfl ?_;refine sh fol (kAH n least []) ?_;refine sh fol (kAH n least [(5,.str [])]) ?_;refine sq (Goes.block ?_);obtain⟨k,g4,h⟩:=bnd h;refine Goes.imp (Q:=fun x s'=>(x= .exit 0/\ ∃f,f=k/\Sub s' (ofG 25 [(5,.str f)],[]))) ?_ ?_
 ·refine Uc (fun M s=> ∃(b:Int) (d:Str),s=(ofG 25 (kAH b least [(5,.str d)]),[])/\qX least M b d=some k) ?_ (m:=N) ⟨_,_,rfl,g4⟩;rintro M s ⟨b,d,rfl,g4⟩
  cases M with
  |zero=>simp only[qX]at g4;cases g4
  |succ M=>
   rw[qX]at g4;refine sq ?_;refine sq ?_;obtain⟨p,a,g4⟩:=bnd g4;refine Goes.cut (s':=(ofG 25 (kAH b least ((5,.str d)::(kA2 p))),[])) ?_ ?_
   ·rcases wyD a with⟨j,a⟩|⟨j,a⟩
    ·obtain rfl:=si a;exact tr fol [2] (kAH b least [(5,.str d),(13,.bool true)]) (ac (gw j) az)
    obtain rfl:=si a;exact tr fol [2] (kAH b least ((5,.str d)::(kA2 (decide ((d.length:Int)<least))))) (ac (gw j) az)
   refine ihB g4 (fun q g4=>?_) (fun q g4=>?_)
   ·refine Goes.skip ?_;refine Goes.block ?_;obtain⟨o,g,g4⟩:=bnd g4;obtain⟨c,e,g4⟩:=bnd g4;refine sq (gr fol [5,7] (kAH b least [(5,.str c)]) (ac (hs (.done (.opt (qM ZT 9 (.str [48,49,50,51,52,53,54,55,56,57]) (some (.i (b.tmod 10))) (some (.i (w64 ((b.tmod 10)+1)))) none)) (.str o)) (jI st9 (some (b.tmod 10)) (some (w64 ((b.tmod 10)+1))) g)) (ac (hs (.done (.opt (jB ZT .add 9 (.tmp 19) (.tmp 20) (.str o) (.str d))) (.str c)) (qef e)) az)) ?_);refine gh fol (kAH (w64 (b.tdiv 10)) least [(5,.str c)]) ?_;exact⟨M,(ofG 25 (kAH (w64 (b.tdiv 10)) least [(5,.str c)]),[]),Nat.lt_succ_self _,(Sub.refl _),_,_,rfl,g4⟩
   refine Goes.exit ?_;obtain rfl:=si g4;exact⟨rfl,_,rfl,(Sub.keep [5] rfl rfl)⟩
 rintro x s' ⟨rfl,f,rfl,hsub⟩;refine Goes.sub hsub ?_;refine sh fol [(4,.str f)] ?_;refine Goes.ret ?_;obtain rfl:=si h;exact(gw2 [.str f] (Ua tS))
def jN:Nat->Int->Int->Option Int
 |0,_,_=>none
 |K+1,b,a=>
  if a>0 then
  (qhf .i64 b a).bind fun c=>
  jN K a c
  else
  some b
def qcF (N:Nat) (a:Int) (b:Int):Option Int:=
 (jN N a b).bind fun c=>
 some c
theorem qiL (N:Nat) (a:Int) (b:Int) {res:Int} (h:qcF N a b=some res):qf ZT (.fn 209) [.i a,.i b] [] (.i res) []:=by
 unfold qcF at h;refine Ub Tryz.func209 rfl rfl (m:=12) rfl (rs:=[.tmp 4]) rfl (l:=(kAH a b [])) rfl ?_;refine sh fol (kAH a b []) ?_;refine sq (Goes.block ?_);obtain⟨j,g4,h⟩:=bnd h;refine Goes.imp (Q:=fun x s'=>(x= .exit 0/\ ∃d,d=j/\Sub s' (ofG 12 [(0,.i d)],[]))) ?_ ?_
 ·refine Uc (fun M s=> ∃(e:Int) (c:Int),s=(ofG 12 (kAH e c []),[])/\jN M e c=some j) ?_ (m:=N) ⟨_,_,rfl,g4⟩;rintro M s ⟨e,c,rfl,g4⟩
  cases M with
  |zero=>simp only[jN]at g4;cases g4
  |succ M=>
   rw[jN]at g4;refine sq ?_;refine sh fol (kAH e c [(6,.bool (decide (c>0)))]) ?_;refine ihD g4 (fun k g4=>?_) (fun k g4=>?_)
   ·refine Goes.skip ?_;refine Goes.block ?_;obtain⟨g,f,g4⟩:=bnd g4;refine gr fol [3] (kAH c g []) (ac (hs (.done (.opt (jB ZT .rem 3 (.tmp 8) (.tmp 9) (.i e) (.i c))) (.i g)) (qiS f)) az) ?_;exact⟨M,(ofG 12 (kAH c g []),[]),Nat.lt_succ_self _,(Sub.refl _),_,_,rfl,g4⟩
   refine Goes.exit ?_;obtain rfl:=si g4;exact⟨rfl,_,rfl,(Sub.keep [0] rfl rfl)⟩
 rintro x s' ⟨rfl,d,rfl,hsub⟩;refine Goes.sub hsub ?_;refine sh fol (kBF d) ?_;refine Goes.ret ?_;obtain rfl:=si h;exact(gw2 [.i d] (Ua tI))
def qcN (N:Nat) (num:Int) (den:Int):Option Str:=
 (if num<(-4000000000000000000)then
 some true
 else
 if num>4000000000000000000 then
 some true
 else
 if den<(-4000000000000000000)then
 some true
 else
 some (decide (den>4000000000000000000)):Option Bool).bind fun m=>
 if m=true then
 none
 else
 ((if den<0 then
 some (w64 (0-num),w64 (0-den))
 else
 some (num,den):Option (Int×Int))).bind fun(b,l)=>
 (qcF N (if(w64 (0-b))>b then(w64 (0-b))else b) l).bind fun c=>
 (qfq .i64 b c).bind fun a=>
 (qfq .i64 l c).bind fun d=>
 ((if a<0 then
 some [45]
 else
 some []:Option Str)).bind fun f=>
 (xe N (if(w64 (0-a))>a then(w64 (0-a))else a) 1).bind fun g=>
 (cat f g).bind fun e=>
 ((if d>1 then
 (cat e [47]).bind fun h=>
 (xe N d 1).bind fun i=>
 (cat h i).bind fun j=>
 some j
 else
 some e:Option Str)).bind fun k=>
 some k
theorem qf2 (N:Nat) (num:Int) (den:Int) {res:Str} (h:qcN N num den=some res):qf ZT (.fn 156) [.i num,.i den] [] (.str res) []:=by
 unfold qcN at h;refine Ub Tryz.func156 rfl rfl (m:=61) rfl (rs:=[.tmp 4]) rfl (l:=(kAH num den [])) rfl ?_;refine sh fol (kAH num den []) ?_;refine sq ?_;refine sq ?_;obtain⟨I,a,h⟩:=bnd h;refine Goes.cut (s':=(ofG 61 (kAH num den [(20,.bool I)]),[])) ?_ ?_
 ·rcases wyD a with⟨v,a⟩|⟨v,a⟩
  ·obtain rfl:=si a;exact tr fol [2] (kAH num den [(20,.bool true)]) (ac (gw v) az)
  rcases wyD a with⟨z,a⟩|⟨z,a⟩
  ·obtain rfl:=si a;exact tr fol [2,6] (kAH num den [(20,.bool true)]) (ac (gw v) (ac (gw z) az))
  rcases wyD a with⟨A,a⟩|⟨A,a⟩
  ·obtain rfl:=si a;exact tr fol [2,6,10] (kAH num den [(20,.bool true)]) (ac (gw v) (ac (gw z) (ac (gw A) az)))
  obtain rfl:=si a;exact tr fol [2,6,10] (kAH num den [(20,.bool (decide (den>4000000000000000000)))]) (ac (gw v) (ac (gw z) (ac (gw A) az)))
 refine ihB h (fun J h=>?_) (fun J h=>?_)
 ·refine sq ?_;cases h
 refine Goes.skip ?_;refine sq ?_;refine sh fol (kAH num den [(27,.bool (decide (den<0)))]) ?_;obtain⟨K,g9,h⟩:=bnd h;refine Goes.imp (Q:=fun x s'=>(x= .normal/\ ∃e u,(e,u)=K/\Sub s' (ofG 61 (kAH e u []),[]))) ?_ ?_
 ·refine ihD g9 (fun B g9=>?_) (fun B g9=>?_)
  ·refine gh fol (kAH (w64 (0-num)) (w64 (0-den)) []) ?_;obtain rfl:=si g9;exact⟨rfl,_,_,rfl,(Sub.refl _)⟩
  refine Goes.skip ?_;obtain rfl:=si g9;exact⟨rfl,_,_,rfl,(Sub.keep [0,1] rfl rfl)⟩
 rintro x s' ⟨rfl,e,u,rfl,hsub⟩
 try dsimp only at h
 refine Goes.sub hsub ?_;obtain⟨j,k,h⟩:=bnd h;refine sq (gr fol [5] (kAH e u (kAr j)) (ac (cv (qiL N (if(w64 (0-e))>e then(w64 (0-e))else e) u k)) az) ?_);obtain⟨b,n,h⟩:=bnd h;obtain⟨c,o,h⟩:=bnd h;refine sq (gr fol [2,5] (kAH b c []) (ac (hs (.done (.opt (jB ZT .quo 3 (.tmp 38) (.tmp 39) (.i e) (.i j))) (.i b)) (qe7 n)) (ac (hs (.done (.opt (jB ZT .quo 3 (.tmp 41) (.tmp 42) (.i u) (.i j))) (.i c)) (qe7 o)) az)) ?_);refine sh fol (kAH b c [(6,.str [])]) ?_;refine sq ?_;refine sh fol (kAH b c [(6,.str []),(45,.bool (decide (b<0)))]) ?_;obtain⟨C,g15,h⟩:=bnd h;refine Goes.imp (Q:=fun x s'=>(x= .normal/\ ∃f,f=C/\Sub s' (ofG 61 (kAH b c [(6,.str f)]),[]))) ?_ ?_
 ·refine ihD g15 (fun D g15=>?_) (fun D g15=>?_)
  ·refine gh fol (kAH b c [(6,.str [45])]) ?_;obtain rfl:=si g15;exact⟨rfl,_,rfl,(Sub.refl _)⟩
  refine Goes.skip ?_;obtain rfl:=si g15;exact⟨rfl,_,rfl,(Sub.keep [0,1,6] rfl rfl)⟩
 rintro x s' ⟨rfl,f,rfl,hsub⟩;refine Goes.sub hsub ?_;obtain⟨E,p,h⟩:=bnd h;obtain⟨g,q,h⟩:=bnd h;refine sq (gr fol [5,6] [(1,.i c),(6,.str g)] (ac (cv (qcE N (if(w64 (0-b))>b then(w64 (0-b))else b) 1 p)) (ac (hs (.done (.opt (jB ZT .add 9 (.tmp 46) (.tmp 51) (.str f) (.str E))) (.str g)) (qef q)) az)) ?_);refine sq ?_;refine sh fol [(1,.i c),(6,.str g),(54,.bool (decide (c>1)))] ?_;obtain⟨F,g20,h⟩:=bnd h;refine Goes.imp (Q:=fun x s'=>(x= .normal/\ ∃d,d=F/\Sub s' (ofG 61 [(6,.str d)],[]))) ?_ ?_
 ·refine ihD g20 (fun G g20=>?_) (fun G g20=>?_)
  ·obtain⟨w,r,g20⟩:=bnd g20;obtain⟨H,s,g20⟩:=bnd g20;obtain⟨y,t,g20⟩:=bnd g20;refine gr fol [1,3,4] [(6,.str y)] (ac (hs (.done (.opt (jB ZT .add 9 (.tmp 55) (.const (.string ⟨#[47]⟩)) (.str g) (.str [47]))) (.str w)) (qef r)) (ac (cv (qcE N c 1 s)) (ac (hs (.done (.opt (jB ZT .add 9 (.tmp 56) (.tmp 58) (.str w) (.str H))) (.str y)) (qef t)) az))) ?_;obtain rfl:=si g20;exact⟨rfl,_,rfl,(Sub.refl _)⟩
  refine Goes.skip ?_;obtain rfl:=si g20;exact⟨rfl,_,rfl,(Sub.keep [6] rfl rfl)⟩
 rintro x s' ⟨rfl,d,rfl,hsub⟩;refine Goes.sub hsub ?_;refine sh fol [(4,.str d)] ?_;refine Goes.ret ?_;obtain rfl:=si h;exact(gw2 [.str d] (Ua tS))
def qcG (N:Nat) (a:Str) (b:Str):Option Str:=
 (jW N a).bind fun c=>
 (jW N b).bind fun d=>
 (if c.2.2=true then
 some d.2.2
 else
 some false:Option Bool).bind fun e=>
 if e=true then
 (qcN N (w64 ((w64 (c.1*d.2.1))+(w64 (d.1*c.2.1)))) (w64 (c.2.1*d.2.1))).bind fun f=>
 some f
 else
 none
theorem qi8 (N:Nat) (a:Str) (b:Str) {res:Str} (h:qcG N a b=some res):qf ZT (.fn 86) [.str a,.str b] [] (.str res) []:=by
 unfold qcG at h;refine Ub Tryz.func86 rfl rfl (m:=63) rfl (rs:=[.tmp 4]) rfl (l:=(kU a b [])) rfl ?_;refine sh fol (kU a b []) ?_;obtain⟨d,f,h⟩:=bnd h;refine sq (gr fol [1] (kU a b [(5,.i d.1),(6,.i d.2.1),(7,.bool d.2.2)]) (ac (cv (qaS N a f)) az) ?_);obtain⟨e,g,h⟩:=bnd h;refine sq (gr fol [1] (kU a b ((5,.i d.1)::(6,.i d.2.1)::(7,.bool d.2.2)::(kAS e.1 e.2.1 (kA1 e.2.2)))) (ac (cv (qaS N b g)) az) ?_);refine sq ?_;refine sq ?_;obtain⟨o,c,h⟩:=bnd h;refine Goes.cut (s':=(ofG 63 (kU a b ((5,.i d.1)::(6,.i d.2.1)::(kAS e.1 e.2.1 [(30,.bool o)]))),[])) ?_ ?_
 ·rcases wyB c with⟨k,c⟩|⟨k,c⟩
  ·obtain rfl:=si c;exact tr fol [1] (kU a b ((5,.i d.1)::(6,.i d.2.1)::(kAS e.1 e.2.1 [(30,.bool e.2.2)]))) (ac (gw k) az)
  obtain rfl:=si c;exact tr fol [1] (kU a b ((5,.i d.1)::(6,.i d.2.1)::(kAS e.1 e.2.1 [(30,.bool false)]))) (ac (gw k) az)
 refine ihB h (fun p h=>?_) (fun p h=>?_)
 ·obtain⟨n,j,h⟩:=bnd h;refine sq (gr fol [10] [(4,.str n)] (ac (cv (qf2 N (w64 ((w64 (d.1*e.2.1))+(w64 (e.1*d.2.1)))) (w64 (d.2.1*e.2.1)) j)) az) ?_);refine Goes.ret ?_;obtain rfl:=si h;exact(gw2 [.str n] (Ua tS))
 refine Goes.skip ?_;refine sq ?_;cases h
def qcV (N:Nat) (a:Str) (b:Str):Option Str:=
 (jW N a).bind fun c=>
 (jW N b).bind fun d=>
 (if c.2.2=true then
 some d.2.2
 else
 some false:Option Bool).bind fun e=>
 if e=true then
 (qcN N (w64 (c.1*d.1)) (w64 (c.2.1*d.2.1))).bind fun f=>
 some f
 else
 none
theorem qiT (N:Nat) (a:Str) (b:Str) {res:Str} (h:qcV N a b=some res):qf ZT (.fn 87) [.str a,.str b] [] (.str res) []:=by
 unfold qcV at h;refine Ub Tryz.func87 rfl rfl (m:=55) rfl (rs:=[.tmp 4]) rfl (l:=(kU a b [])) rfl ?_;refine sh fol (kU a b []) ?_;obtain⟨d,f,h⟩:=bnd h;refine sq (gr fol [1] (kU a b [(5,.i d.1),(6,.i d.2.1),(7,.bool d.2.2)]) (ac (cv (qaS N a f)) az) ?_);obtain⟨e,g,h⟩:=bnd h;refine sq (gr fol [1] (kU a b ((5,.i d.1)::(6,.i d.2.1)::(7,.bool d.2.2)::(kAS e.1 e.2.1 (kA1 e.2.2)))) (ac (cv (qaS N b g)) az) ?_);refine sq ?_;refine sq ?_;obtain⟨o,c,h⟩:=bnd h;refine Goes.cut (s':=(ofG 55 (kU a b ((5,.i d.1)::(6,.i d.2.1)::(kAS e.1 e.2.1 [(30,.bool o)]))),[])) ?_ ?_
 ·rcases wyB c with⟨k,c⟩|⟨k,c⟩
  ·obtain rfl:=si c;exact tr fol [1] (kU a b ((5,.i d.1)::(6,.i d.2.1)::(kAS e.1 e.2.1 [(30,.bool e.2.2)]))) (ac (gw k) az)
  obtain rfl:=si c;exact tr fol [1] (kU a b ((5,.i d.1)::(6,.i d.2.1)::(kAS e.1 e.2.1 [(30,.bool false)]))) (ac (gw k) az)
 refine ihB h (fun p h=>?_) (fun p h=>?_)
 ·obtain⟨n,j,h⟩:=bnd h;refine sq (gr fol [6] [(4,.str n)] (ac (cv (qf2 N (w64 (d.1*e.1)) (w64 (d.2.1*e.2.1)) j)) az) ?_);refine Goes.ret ?_;obtain rfl:=si h;exact(gw2 [.str n] (Ua tS))
 refine Goes.skip ?_;refine sq ?_;cases h
def jg (a:Int):Nat->(List Str)->Int->Option (List Str)
 |0,_,_=>none
 |K+1,b,c=>
  if c<a then
  (app 16 b [[48]]).bind fun d=>
  jg a K d (w64 (c+1))
  else
  some b
def xu (N:Nat) (a:Int):Option (List Str):=
 (jg a N ([]:List Str) 0).bind fun b=>
 some b
theorem qfg (N:Nat) (a:Int) {j:List Str} (h:xu N a=some j):qf ZT (.fn 85) [.i a] [] (.gslice 0 j.length 1) (kR j []):=by
 unfold xu at h;refine Un Tryz.func85 rfl rfl (m:=14) rfl (rs:=[.tmp 2]) rfl (l:=[(0,.i a)]) rfl ?_;intro B hB;refine sh fol [(0,.i a)] ?_;refine sh fol [(0,.i a),(3,.nilslice)] ?_;refine sq ?_;refine sh fol [(0,.i a),(3,.nilslice),(4,.i 0)] ?_;refine Goes.block ?_;obtain⟨k,g5,h⟩:=bnd h;refine Goes.imp (Q:=fun x s'=>(x= .exit 0/\ ∃f,f=k/\Sub s' (ofG 14 (kA3 f []),(kR f [])))) ?_ ?_
 ·refine Goes.sub (s':=(ofG 14 [(0,.i a),(3,.gslice 0 ([]:List Str).length 1),(4,.i 0)],[.cells (([]:List Str).flatMap encS.c)])) (Sub.norm [] [none] (by rw[hB];rfl) rfl (.keep (.same nI) (.keep .nil (.keep (.same nI) .nil))) (.fresh .nil)) ?_;refine Uc (fun M s=> ∃(b:List Str) (d:Int),s=(ofG 14 ((0,.i a)::(kA3 b (kBF d))),(kR b []))/\jg a M b d=some k) ?_ (m:=N) ⟨_,_,rfl,g5⟩;rintro M s ⟨b,d,rfl,g5⟩
  cases M with
  |zero=>simp only[jg]at g5;cases g5
  |succ M=>
   rw[jg]at g5;refine sq ?_;refine sh fol ((0,.i a)::(kA3 b [(4,.i d),(7,.bool (decide (d<a)))])) ?_;refine ihD g5 (fun n g5=>?_) (fun n g5=>?_)
   ·refine Goes.skip ?_;refine sq (Goes.block ?_);obtain⟨e,g,g5⟩:=bnd g5;refine gq fol [2] ((0,.i a)::(3,.gslice 2 e.length 1)::(kBF d)) (.dead:: .cells [.str [48]]::(kR e [])) (ac (hs (.run [0,1] (jv ZT [80,80] (.gslice 0 b.length 1) (.slice 1 0 1 1 1)) (kR b [.cells [.str [48]]]) (.gslice 2 e.length 1) (.dead:: .cells [.str [48]]::(kR e [])) true) (qbH qhW (E:=encS) rfl (qeZ (E:=encS) (ys:=[[48]]) rfl rfl rfl rfl) (qfY (E:=encS) (l:=b) rfl rfl rfl g rfl))) az) ?_;refine gh fol ((0,.i a)::(3,.gslice 2 e.length 1)::(kBF (w64 (d+1)))) ?_;exact⟨M,(ofG 14 ((0,.i a)::(kA3 e (kBF (w64 (d+1))))),(kR e [])),Nat.lt_succ_self _,(Sub.norm [] [some 2] (by rw[hB];rfl) rfl (.keep (.same nI) (.keep (.gslice rfl) (.keep (.same nI) .nil))) (.ks .nil)),_,_,rfl,g5⟩
   refine Goes.exit ?_;obtain rfl:=si g5;exact⟨rfl,_,rfl,(Sub.keep [3] rfl rfl)⟩
 rintro x s' ⟨rfl,f,rfl,hsub⟩;refine Goes.sub hsub ?_;refine sh fol [(2,.gslice 0 f.length 1)] ?_;refine Goes.ret ?_;obtain rfl:=si h;exact(gh2 [.gslice 0 f.length 1] (qbz.refl _ _))
def jJ (N:Nat) (a:List (List Str)) (b:List (List Str)) (e:List Str) (f:Int) (o:Int):Nat->(List Str)->Int->Option (List Str)
 |0,_,_=>none
 |K+1,d,c=>
  if c<(e.length:Int)then
  (idx d c).bind fun g=>
  (idx a o).bind fun h=>
  (idx h f).bind fun i=>
  (idx b f).bind fun j=>
  (idx j c).bind fun k=>
  (qcV N i k).bind fun l=>
  (qcG N g l).bind fun m=>
  (put d c m).bind fun n=>
  jJ N a b e f o K n (w64 (c+1))
  else
  some d
def jC (N:Nat) (a:List (List Str)) (b:List (List Str)) (f:Int):Nat->(List Str)->Int->Option (List Str)
 |0,_,_=>none
 |K+1,g,c=>
  if c<(b.length:Int)then
  (idx b c).bind fun d=>
  (jJ N a b d c f N g 0).bind fun e=>
  jC N a b f K e (w64 (c+1))
  else
  some g
def jL (N:Nat) (a:List (List Str)) (b:List (List Str)):Nat->(List (List Str))->Int->Option (List (List Str))
 |0,_,_=>none
 |K+1,f,c=>
  if c<(a.length:Int)then
  (xu N (a.length:Int)).bind fun g=>
  (jC N a b c N g 0).bind fun d=>
  (app 24 f [d]).bind fun e=>
  jL N a b K e (w64 (c+1))
  else
  some f
def qal (N:Nat) (a:List (List Str)) (b:List (List Str)):Option (List (List Str)):=
 (jL N a b N ([]:List (List Str)) 0).bind fun c=>
 some c
theorem qfF (N:Nat) (a:List (List Str)) (b:List (List Str)) {res:List (List Str)} (h:qal N a b=some res):qf ZT (.fn 35) [vl (qc encS) a,vl (qc encS) b] [] (vl (qc encS) res) []:=by
 unfold qal at h;refine Ub Tryz.func35 rfl rfl (m:=62) rfl (rs:=[.tmp 4]) rfl (l:=[(0,vl (qc encS) a),(1,vl (qc encS) b)]) rfl ?_;refine sh fol [(0,vl (qc encS) a),(1,vl (qc encS) b)] ?_;refine sh fol [(0,vl (qc encS) a),(1,vl (qc encS) b),(5,.nilslice)] ?_;refine sq ?_;refine sh fol [(0,vl (qc encS) a),(1,vl (qc encS) b),(5,.nilslice),(11,.i (a.length:Int)),(12,.i 0)] ?_;refine Goes.block ?_;obtain⟨Z,g4,h⟩:=bnd h;refine Goes.imp (Q:=fun x s'=>(x= .exit 0/\ ∃G,G=Z/\Sub s' (ofG 62 (kAE G []),[.cells (G.flatMap (qc encS).c)]))) ?_ ?_
 ·refine Goes.sub (s':=(ofG 62 [(0,vl (qc encS) a),(1,vl (qc encS) b),(5,.gslice 0 ([]:List (List Str)).length 1),(11,.i (a.length:Int)),(12,.i 0)],[.cells (([]:List (List Str)).flatMap (qc encS).c)])) (Sub.norm [] [none] rfl rfl (.keep (.same (qw (qc encS) _)) (.keep (.same (qw (qc encS) _)) (.keep .nil (.keep (.same nI) (.keep (.same nI) .nil))))) (.fresh .nil)) ?_;refine Uc (fun M s=> ∃(e:List (List Str)) (d:Int),s=(ofG 62 ((0,vl (qc encS) a)::(1,vl (qc encS) b)::(kAE e (kAe (a.length:Int) d))),[.cells (e.flatMap (qc encS).c)])/\jL N a b M e d=some Z) ?_ (m:=N) ⟨_,_,rfl,g4⟩;rintro M s ⟨e,d,rfl,g4⟩
  cases M with
  |zero=>simp only[jL]at g4;cases g4
  |succ M=>
   rw[jL]at g4;refine sh fol ((0,vl (qc encS) a)::(1,vl (qc encS) b)::(kAE e ((11,.i (a.length:Int))::(12,.i d)::(kA2 (decide (d<(a.length:Int))))))) ?_;refine sq ?_;refine ihD g4 (fun c5 g4=>?_) (fun c5 g4=>?_)
   ·refine Goes.skip ?_;refine sq (Goes.block ?_);refine sh fol ((0,vl (qc encS) a)::(1,vl (qc encS) b)::(kAE e ((6,.i d)::(kAe (a.length:Int) d)))) ?_;obtain⟨H,I,g4⟩:=bnd g4;refine sq (gq fol [2] ((0,vl (qc encS) a)::(1,vl (qc encS) b)::(kL e d H (kAe (a.length:Int) d))) (.cells (e.flatMap (qc encS).c)::(kR H [])) (ac (hs (.callH 85 [.i (a.length:Int)] [.cells (e.flatMap (qc encS).c)] [] (.gslice 1 H.length 1) (.cells (e.flatMap (qc encS).c)::(kR H []))) (qab [] [none,some 0] (qfg N (a.length:Int) I) .nil rfl rfl (.old rfl rfl (.new rfl rfl (.same fa) rfl .nil)) (rc (.same nI) rn) (.gslice rfl) rfl)) az) ?_);refine sq ?_;refine sh fol ((0,vl (qc encS) a)::(1,vl (qc encS) b)::(kL e d H [(11,.i (a.length:Int)),(12,.i d),(19,.i (b.length:Int)),(20,.i 0)])) ?_;refine Goes.block ?_;obtain⟨J,g11,g4⟩:=bnd g4;refine Goes.imp (Q:=fun x s'=>(x= .exit 2/\ ∃g,g=J/\Sub s' (ofG 62 ((0,vl (qc encS) a)::(1,vl (qc encS) b)::(kAE e ((7,.gslice 1 g.length 1)::(kAe (a.length:Int) d)))),(.cells (e.flatMap (qc encS).c)::(kR g []))))) ?_ ?_
    ·refine Uc (fun M s=> ∃(C:List Str) (k:Int),s=(ofG 62 ((0,vl (qc encS) a)::(1,vl (qc encS) b)::(kL e d C (kY (a.length:Int) d (b.length:Int) k []))),(.cells (e.flatMap (qc encS).c)::(kR C [])))/\jC N a b d M C k=some J) ?_ (m:=N) ⟨_,_,rfl,g11⟩;rintro M s ⟨C,k,rfl,g11⟩
     cases M with
     |zero=>simp only[jC]at g11;cases g11
     |succ M=>
      rw[jC]at g11;refine sh fol ((0,vl (qc encS) a)::(1,vl (qc encS) b)::(kL e d C (kY (a.length:Int) d (b.length:Int) k [(21,.bool (decide (k<(b.length:Int))))]))) ?_;refine sq ?_;refine ihD g11 (fun P g11=>?_) (fun P g11=>?_)
      ·refine Goes.skip ?_;refine sq (Goes.block ?_);refine sh fol ((0,vl (qc encS) a)::(1,vl (qc encS) b)::(kL e d C ((8,.i k)::(kY (a.length:Int) d (b.length:Int) k [])))) ?_;obtain⟨n,t,g11⟩:=bnd g11;refine sq (gr fol [2,3] ((0,vl (qc encS) a)::(1,vl (qc encS) b)::(kL e d C ((8,.i k)::(kY (a.length:Int) d (b.length:Int) k [(27,.i (n.length:Int)),(28,.i 0)])))) (ac (iv qhK (qc encS) t) (ac (lv 0 qjM (qc encS) t rfl) az)) ?_);refine Goes.block ?_;obtain⟨K,g17,g11⟩:=bnd g11;refine Goes.imp (Q:=fun x s'=>(x= .exit 4/\ ∃r,r=K/\Sub s' (ofG 62 ((0,vl (qc encS) a)::(1,vl (qc encS) b)::(kL e d r (kY (a.length:Int) d (b.length:Int) k []))),(.cells (e.flatMap (qc encS).c)::(kR r []))))) ?_ ?_
       ·refine Uc (fun M s=> ∃(j:List Str) (f:Int),s=(ofG 62 ((0,vl (qc encS) a)::(1,vl (qc encS) b)::(kL e d j ((8,.i k)::(kY (a.length:Int) d (b.length:Int) k [(27,.i (n.length:Int)),(28,.i f)])))),(.cells (e.flatMap (qc encS).c)::(kR j [])))/\jJ N a b n k d M j f=some K) ?_ (m:=N) ⟨_,_,rfl,g17⟩;rintro M s ⟨j,f,rfl,g17⟩
        cases M with
        |zero=>simp only[jJ]at g17;cases g17
        |succ M=>
         rw[jJ]at g17;refine sh fol ((0,vl (qc encS) a)::(1,vl (qc encS) b)::(kL e d j ((8,.i k)::(kY (a.length:Int) d (b.length:Int) k [(27,.i (n.length:Int)),(28,.i f),(29,.bool (decide (f<(n.length:Int))))])))) ?_;refine sq ?_;refine ihD g17 (fun U g17=>?_) (fun U g17=>?_)
         ·refine Goes.skip ?_;refine sq (Goes.block ?_);refine sh fol ((0,vl (qc encS) a)::(1,vl (qc encS) b)::(kL e d j (kAS k f (kY (a.length:Int) d (b.length:Int) k [(27,.i (n.length:Int)),(28,.i f)])))) ?_;obtain⟨L,o,g17⟩:=bnd g17;obtain⟨x20,u,g17⟩:=bnd g17;obtain⟨V,v,g17⟩:=bnd g17;obtain⟨x22,w,g17⟩:=bnd g17;obtain⟨X,z,g17⟩:=bnd g17;obtain⟨Y,D,g17⟩:=bnd g17;obtain⟨O,F,g17⟩:=bnd g17;obtain⟨p,A,g17⟩:=bnd g17;refine gq fol [4,5,8,9,11,12,15,16,18,19,20,21,22,23] ((0,vl (qc encS) a)::(1,vl (qc encS) b)::(kL e d j ((8,.i k)::(kY (a.length:Int) d (b.length:Int) k [(27,.i (n.length:Int)),(28,.i f)])))) (.cells (e.flatMap (qc encS).c)::(kR p [])) (ac (hs (.done (.opt (qo ZT 80 (.gslice 1 j.length 1) (.i f))) (.ptr 1 ((f:Int).toNat*1+0))) (qb3 qhW o)) (ac (hs (.run [1] (z8 ZT 71 (.ptr 1 ((f:Int).toNat*1+0))) (.cells (e.flatMap (qc encS).c)::(kR j [])) (.str L) (.cells (e.flatMap (qc encS).c)::(kR j [])) false) (qeQ qm8 (E:=encS) (l:=j) rfl rfl o (nl rfl) rfl)) (ac (iv qhK (qc encS) u) (ac (lv 0 qjM (qc encS) u rfl) (ac (iv qhW encS v) (ac (lv 0 qm8 encS v rfl) (ac (iv qhK (qc encS) w) (ac (lv 0 qjM (qc encS) w rfl) (ac (iv qhW encS z) (ac (lv 0 qm8 encS z rfl) (ac (cv (qiT N V X D)) (ac (cv (qi8 N L Y F)) (ac (hs (.done (.opt (qo ZT 80 (.gslice 1 j.length 1) (.i f))) (.ptr 1 ((f:Int).toNat*1+0))) (qb3 qhW o)) (ac (hs (.run [1] (qA ZT 71 (.ptr 1 ((f:Int).toNat*1+0)) (.str O)) (.cells (e.flatMap (qc encS).c)::(kR j [])) .undef (.cells (e.flatMap (qc encS).c)::(kR p [])) true) (qbl (E:=encS) (l:=j) (y:=O) rfl (show _=some 1 by kernel_rfl) rfl o rfl rfl rfl rfl rfl A rfl)) az)))))))))))))) ?_;refine Goes.sub (show Sub (ofG 62 ((0,vl (qc encS) a)::(1,vl (qc encS) b)::(kL e d j ((8,.i k)::(kY (a.length:Int) d (b.length:Int) k [(27,.i (n.length:Int)),(28,.i f)])))),(.cells (e.flatMap (qc encS).c)::(kR p []))) (ofG 62 ((0,vl (qc encS) a)::(1,vl (qc encS) b)::(kL e d p ((8,.i k)::(kY (a.length:Int) d (b.length:Int) k [(27,.i (n.length:Int)),(28,.i f)])))),(.cells (e.flatMap (qc encS).c)::(kR p [])))from(Sub.norm [] [some 0,some 1] rfl rfl (.keep (.same (qw (qc encS) _)) (.keep (.same (qw (qc encS) _)) (.keep (.gslice rfl) (.keep (.same nI) (.keep (.gsliceE rfl (vS A)) (.keep (.same nI) (.keep (.same nI) (.keep (.same nI) (.keep (.same nI) (.keep (.same nI) (.keep (.same nI) (.keep (.same nI) .nil)))))))))))) (.ks (.ks .nil)))) ?_;refine gh fol ((0,vl (qc encS) a)::(1,vl (qc encS) b)::(kL e d p ((8,.i k)::(kY (a.length:Int) d (b.length:Int) k [(27,.i (n.length:Int)),(28,.i (w64 (f+1)))])))) ?_;exact⟨M,(ofG 62 ((0,vl (qc encS) a)::(1,vl (qc encS) b)::(kL e d p ((8,.i k)::(kY (a.length:Int) d (b.length:Int) k [(27,.i (n.length:Int)),(28,.i (w64 (f+1)))])))),(.cells (e.flatMap (qc encS).c)::(kR p []))),Nat.lt_succ_self _,(Sub.refl _),_,_,rfl,g17⟩
         refine Goes.exit ?_;obtain rfl:=si g17;exact⟨rfl,_,rfl,(Sub.keep [0,1,5,6,7,11,12,19,20] rfl rfl)⟩
       rintro x s' ⟨rfl,r,rfl,hsub⟩;refine Goes.sub hsub ?_;refine gh fol ((0,vl (qc encS) a)::(1,vl (qc encS) b)::(kL e d r (kY (a.length:Int) d (b.length:Int) (w64 (k+1)) []))) ?_;exact⟨M,(ofG 62 ((0,vl (qc encS) a)::(1,vl (qc encS) b)::(kL e d r (kY (a.length:Int) d (b.length:Int) (w64 (k+1)) []))),(.cells (e.flatMap (qc encS).c)::(kR r []))),Nat.lt_succ_self _,(Sub.refl _),_,_,rfl,g11⟩
      refine Goes.exit ?_;obtain rfl:=si g11;exact⟨rfl,_,rfl,(Sub.keep [0,1,5,7,11,12] rfl rfl)⟩
    rintro x s' ⟨rfl,g,rfl,hsub⟩;refine Goes.sub hsub ?_;obtain⟨q,B,g4⟩:=bnd g4;refine gq fol [3] ((0,vl (qc encS) a)::(1,vl (qc encS) b)::(5,.gslice 3 q.length 1)::(kAe (a.length:Int) d)) (.dead::(kR g [.cells [.gslice 1 g.length 1],.cells ((e).flatMap ((qc encS)).c++[.gslice 1 g.length 1])])) (ac (hs (.run [0,2] (jv ZT [68,68] (.gslice 0 e.length 1) (.slice 2 0 1 1 1)) (.cells (e.flatMap (qc encS).c)::(kR g [.cells [.gslice 1 g.length 1]])) (.gslice 3 q.length 1) (.dead::(kR g [.cells [.gslice 1 g.length 1],.cells ((e).flatMap ((qc encS)).c++[.gslice 1 g.length 1])])) true) (qqk qhK (E:=(qc encS)) (l:=e) (x:=g) rfl rfl rfl rfl rfl rfl rfl B rfl)) az) ?_;refine Goes.sub (show Sub (ofG 62 ((0,vl (qc encS) a)::(1,vl (qc encS) b)::(5,.gslice 3 q.length 1)::(kAe (a.length:Int) d)),(.dead::(kR g [.cells [.gslice 1 g.length 1],.cells ((e).flatMap ((qc encS)).c++[.gslice 1 g.length 1])]))) (ofG 62 ((0,vl (qc encS) a)::(1,vl (qc encS) b)::(kAE q (kAe (a.length:Int) d))),[.cells (q.flatMap (qc encS).c)])from(Sub.norm [1] [some 3] rfl rfl (.keep (.same (qw (qc encS) _)) (.keep (.same (qw (qc encS) _)) (.keep (.gslice rfl) (.keep (.same nI) (.keep (.same nI) .nil))))) (.kb rfl (jY.my (E:=(qc encS)) B (rc (.frz (Fz.gs (E:=encS) rfl rfl (nl rfl)) (qw encS _)) rn)) .nil))) ?_;refine gh fol ((0,vl (qc encS) a)::(1,vl (qc encS) b)::(kAE q (kAe (a.length:Int) (w64 (d+1))))) ?_;exact⟨M,(ofG 62 ((0,vl (qc encS) a)::(1,vl (qc encS) b)::(kAE q (kAe (a.length:Int) (w64 (d+1))))),[.cells (q.flatMap (qc encS).c)]),Nat.lt_succ_self _,(Sub.refl _),_,_,rfl,g4⟩
   refine Goes.exit ?_;obtain rfl:=si g4;exact⟨rfl,_,rfl,(Sub.keep [5] rfl rfl)⟩
 rintro x s' ⟨rfl,G,rfl,hsub⟩;refine Goes.sub hsub ?_;refine sh fol [(4,.gslice 0 G.length 1)] ?_;refine Goes.ret ?_;obtain rfl:=si h;exact(gw2 [.gslice 0 G.length 1] (Ux (Fz.gs (E:=(qc encS)) rfl rfl (nl rfl))))
def qbe (a:Int):Option Int:=
 some (w64 (0-a))
theorem qfA (a:Int) {res:Int} (h:qbe a=some res):qf ZT (.fn 89) [.i a] [] (.i res) []:=by
 unfold qbe at h;refine Ub Tryz.func89 rfl rfl (m:=5) rfl (rs:=[.tmp 2]) rfl (l:=[(0,.i a)]) rfl ?_;refine sh fol [(0,.i a)] ?_;refine sh fol (kAx (w64 (0-a))) ?_;refine Goes.ret ?_;obtain rfl:=si h;exact(gw2 [.i (w64 (0-a))] (Ua tI))
def zf (a:List Int):Nat->(List Int)->Int->Option (List Int)
 |0,_,_=>none
 |K+1,c,b=>
  if b<(a.length:Int)then
  (idx a b).bind fun d=>
  (qbe d).bind fun e=>
  (app 8 c [e]).bind fun f=>
  zf a K f (w64 (b+1))
  else
  some c
def ji (N:Nat) (a:List Int):Option (List Int):=
 (zf a N ([]:List Int) 0).bind fun b=>
 some b
theorem qaQ (N:Nat) (a:List Int) {n:List Int} (h:ji N a=some n):qf ZT (.fn 88) [vl encI a,.func (.func 89) [] []] [] (.gslice 0 n.length 1) (kA n []):=by
 unfold ji at h;refine Un Tryz.func88 rfl rfl (m:=22) rfl (rs:=[.tmp 4]) rfl (l:=(kAC a [(1,.func (.func 89) [] [])])) rfl ?_;intro B hB;refine sh fol (kAC a [(1,.func (.func 89) [] [])]) ?_;refine sh fol (kAC a [(1,.func (.func 89) [] []),(5,.nilslice)]) ?_;refine sq ?_;refine sh fol [(1,.func (.func 89) [] []),(5,.nilslice),(8,vl encI a),(9,.i (a.length:Int)),(10,.i 0)] ?_;refine Goes.block ?_;obtain⟨o,g5,h⟩:=bnd h;refine Goes.imp (Q:=fun x s'=>(x= .exit 0/\ ∃f,f=o/\Sub s' (ofG 22 (kAE f []),(kA f [])))) ?_ ?_
 ·refine Goes.sub (s':=(ofG 22 [(1,.func (.func 89) [] []),(5,.gslice 0 ([]:List Int).length 1),(8,vl encI a),(9,.i (a.length:Int)),(10,.i 0)],kAf)) (Sub.norm [] [none] (by rw[hB];rfl) rfl (.keep (.same (qD.func sn sn)) (.keep .nil (.keep (.same (qw encI _)) (.keep (.same nI) (.keep (.same nI) .nil))))) (.fresh .nil)) ?_;refine Uc (fun M s=> ∃(b:List Int) (c:Int),s=(ofG 22 ((1,.func (.func 89) [] [])::(kAE b (kAR a (a.length:Int) c []))),(kA b []))/\zf a M b c=some o) ?_ (m:=N) ⟨_,_,rfl,g5⟩;rintro M s ⟨b,c,rfl,g5⟩
  cases M with
  |zero=>simp only[zf]at g5;cases g5
  |succ M=>
   rw[zf]at g5;refine sh fol ((1,.func (.func 89) [] [])::(kAE b (kAR a (a.length:Int) c [(11,.bool (decide (c<(a.length:Int))))]))) ?_;refine sq ?_;refine ihD g5 (fun q g5=>?_) (fun q g5=>?_)
   ·refine Goes.skip ?_;refine sq (Goes.block ?_);obtain⟨p,d,g5⟩:=bnd g5;refine sq (gr fol [0,1] ((1,.func (.func 89) [] [])::(kAE b ((7,.i p)::(kAR a (a.length:Int) c [])))) (ac (iv qP encI d) (ac (lv 0 ce3 encI d rfl) az)) ?_);obtain⟨k,g,g5⟩:=bnd g5;obtain⟨e,j,g5⟩:=bnd g5;refine gq fol [3,5] ((1,.func (.func 89) [] [])::(5,.gslice 2 e.length 1)::(kAR a (a.length:Int) c [])) (.dead::(kAj k (kA e []))) (ac (cv (qfA p g)) (ac (hs (.run [0,1] (jv ZT [22,22] (.gslice 0 b.length 1) (.slice 1 0 1 1 1)) (kA b (kAj k [])) (.gslice 2 e.length 1) (.dead::(kAj k (kA e []))) true) (qbH qP (E:=encI) rfl (qeZ (E:=encI) (ys:=[k]) rfl rfl rfl rfl) (qfY (E:=encI) (l:=b) rfl rfl rfl j rfl))) az)) ?_;refine gh fol ((1,.func (.func 89) [] [])::(5,.gslice 2 e.length 1)::(kAR a (a.length:Int) (w64 (c+1)) [])) ?_;exact⟨M,(ofG 22 ((1,.func (.func 89) [] [])::(kAE e (kAR a (a.length:Int) (w64 (c+1)) []))),(kA e [])),Nat.lt_succ_self _,(Sub.norm [] [some 2] (by rw[hB];rfl) rfl (.keep (.same (qD.func sn sn)) (.keep (.gslice rfl) (.keep (.same (qw encI _)) (.keep (.same nI) (.keep (.same nI) .nil))))) (.ks .nil)),_,_,rfl,g5⟩
   refine Goes.exit ?_;obtain rfl:=si g5;exact⟨rfl,_,rfl,(Sub.keep [5] rfl rfl)⟩
 rintro x s' ⟨rfl,f,rfl,hsub⟩;refine Goes.sub hsub ?_;refine sh fol [(4,.gslice 0 f.length 1)] ?_;refine Goes.ret ?_;obtain rfl:=si h;exact(gh2 [.gslice 0 f.length 1] (qbz.refl _ _))
def qaD (N:Nat) (n:Int) (w:List Int):Option ((List Int)×Int):=
 (qY N n w).bind fun a=>
 if(!decide (a=0))=true then
 some ([],a)
 else
 (ji N w).bind fun b=>
 some (b,0)
theorem qf4 (N:Nat) (n:Int) (w:List Int) {res:(List Int)×Int} (h:qaD N n w=some res):qf ZT (.fn 36) (.i n::(kAn w)) [] (.tuple (kA4 res.1 res.2)) []:=by
 unfold qaD at h;refine Ub Tryz.func36 rfl rfl (m:=15) rfl (rs:=[.tmp 4,.tmp 5]) rfl (l:=(kI n w [])) rfl ?_;refine sh fol (kI n w []) ?_;refine sq ?_;obtain⟨a,b,h⟩:=bnd h;refine sq (gr fol [2] (kAy w [(6,.i a)]) (ac (cv (ze N n w b)) az) ?_);refine sh fol (kAy w [(6,.i a),(11,.bool (!decide (a=0)))]) ?_;refine ihB h (fun e h=>?_) (fun e h=>?_)
 ·refine sh fol ((4,.nilslice)::(kAr a)) ?_;refine Goes.ret ?_;obtain rfl:=si h;exact(gw2 [.nilslice,.i a] (FzW.tuple (qh.cons (FzW.nilv (E:=encI)) (qh.cons (Ua tI) qh.nil))))
 refine Goes.skip ?_;obtain⟨c,d,h⟩:=bnd h;refine sq (gq fol [1] [(4,.gslice 0 c.length 1),(5,.i 0)] (kA c []) (ac (hs (.callH 88 [vl encI w,.func (.func 89) [] []] [] [] (.gslice 0 c.length 1) (kA c [])) (qab [] [some 0] (qaQ N w d) .nil rfl rfl (.new rfl rfl (.same fa) rfl .nil) (rc (.same (qw encI _)) (rc (.same (qD.func sn sn)) rn)) (.gslice rfl) rfl)) az) ?_);refine Goes.ret ?_;obtain rfl:=si h;exact(gw2 [.gslice 0 c.length 1,.i 0] (FzW.tuple (qh.cons (Ux (Fz.gs (E:=encI) rfl rfl (nl rfl))) (qh.cons (Ua tI) qh.nil))))
def xW (a:Int) (b:Int):Option Int:=
 (yo a).bind fun c=>
 (xc a).bind fun d=>
 some (w64 (c*(w64 (b-d))))
theorem qes (a:Int) (b:Int) {res:Int} (h:xW a b=some res):qf ZT (.fn 90) [.i a,.fptr [.i b] 0] [] (.i res) []:=by
 unfold xW at h;refine Ub Tryz.func90 rfl rfl (m:=11) rfl (rs:=[.tmp 3]) rfl (l:=[(0,.i a),(1,.fptr [.i b] 0)]) rfl ?_;refine sh fol [(0,.i a),(1,.fptr [.i b] 0)] ?_;obtain⟨e,c,h⟩:=bnd h;obtain⟨f,d,h⟩:=bnd h;refine sq (gr fol [1,4] [(3,.i (w64 (e*(w64 (b-f)))))] (ac (cv (qbf a c)) (ac (cv (qbI a d)) az)) ?_);refine Goes.ret ?_;obtain rfl:=si h;exact(gw2 [.i (w64 (e*(w64 (b-f))))] (Ua tI))
def zh (a:List Int) (b:Int):Nat->(List Int)->Int->Option (List Int)
 |0,_,_=>none
 |K+1,d,c=>
  if c<(a.length:Int)then
  (idx a c).bind fun e=>
  (xW e b).bind fun f=>
  (app 8 d [f]).bind fun g=>
  zh a b K g (w64 (c+1))
  else
  some d
def yB (N:Nat) (a:List Int) (b:Int):Option (List Int):=
 (zh a b N ([]:List Int) 0).bind fun c=>
 some c
theorem qdj (N:Nat) (a:List Int) (b:Int) {p:List Int} (h:yB N a b=some p):qf ZT (.fn 88) [vl encI a,.func (.func 90) [] [.ptr 0 0]] (kAj b []) (.gslice 1 p.length 1) (kAj b (kA p [])):=by
 unfold yB at h;refine Un Tryz.func88 rfl rfl (m:=22) rfl (rs:=[.tmp 4]) rfl (l:=(kAC a [(1,.func (.func 90) [] [.ptr 0 0])])) rfl ?_;intro B hB;refine sh fol (kAC a [(1,.func (.func 90) [] [.ptr 0 0])]) ?_;refine sh fol (kAC a [(1,.func (.func 90) [] [.ptr 0 0]),(5,.nilslice)]) ?_;refine sq ?_;refine sh fol [(1,.func (.func 90) [] [.ptr 0 0]),(5,.nilslice),(8,vl encI a),(9,.i (a.length:Int)),(10,.i 0)] ?_;refine Goes.block ?_;obtain⟨q,g5,h⟩:=bnd h;refine Goes.imp (Q:=fun x s'=>(x= .exit 0/\ ∃g,g=q/\Sub s' (ofG 22 [(5,.gslice 1 g.length 1)],(kAj b (kA g []))))) ?_ ?_
 ·refine Goes.sub (s':=(ofG 22 [(1,.func (.func 90) [] [.ptr 0 0]),(5,.gslice 1 ([]:List Int).length 1),(8,vl encI a),(9,.i (a.length:Int)),(10,.i 0)],(kAj b kAf))) (Sub.norm [] [some 0,none] (by rw[hB];rfl) rfl (.keep (.funcL (sn) (rc (.ptr rfl) rn)) (.keep .nil (.keep (.same (qw encI _)) (.keep (.same nI) (.keep (.same nI) .nil))))) (.kb rfl (.same sn) (.fresh .nil))) ?_;refine Uc (fun M s=> ∃(c:List Int) (d:Int),s=(ofG 22 ((1,.func (.func 90) [] [.ptr 0 0])::(5,.gslice 1 c.length 1)::(kAR a (a.length:Int) d [])),(kAj b (kA c [])))/\zh a b M c d=some q) ?_ (m:=N) ⟨_,_,rfl,g5⟩;rintro M s ⟨c,d,rfl,g5⟩
  cases M with
  |zero=>simp only[zh]at g5;cases g5
  |succ M=>
   rw[zh]at g5;refine sh fol ((1,.func (.func 90) [] [.ptr 0 0])::(5,.gslice 1 c.length 1)::(kAR a (a.length:Int) d [(11,.bool (decide (d<(a.length:Int))))])) ?_;refine sq ?_;refine ihD g5 (fun r g5=>?_) (fun r g5=>?_)
   ·refine Goes.skip ?_;refine sq (Goes.block ?_);obtain⟨o,e,g5⟩:=bnd g5;refine sq (gr fol [0,1] ((1,.func (.func 90) [] [.ptr 0 0])::(5,.gslice 1 c.length 1)::(7,.i o)::(kAR a (a.length:Int) d [])) (ac (iv qP encI e) (ac (lv 0 ce3 encI e rfl) az)) ?_);obtain⟨j,k,g5⟩:=bnd g5;obtain⟨f,n,g5⟩:=bnd g5;refine gq fol [3,5] ((1,.func (.func 90) [] [.ptr 0 0])::(5,.gslice 3 f.length 1)::(kAR a (a.length:Int) d [])) (kAj b (.dead::(kAj j (kA f [])))) (ac (hs (.call 90 [.i o,.ptr 0 0] (kAj b (kA c [])) [0] [.i o,.fptr [.i b] 0] (.i j)) (qeE (FzL.cons (Ui tI) (FzL.cons (Fz.ptr rfl rfl (FzL.cons (Ui tI) FzL.nil)) FzL.nil)) (qes o b k) tI rfl)) (ac (hs (.run [1,2] (jv ZT [22,22] (.gslice 1 c.length 1) (.slice 2 0 1 1 1)) (kAj b (kA c (kAj j []))) (.gslice 3 f.length 1) (kAj b (.dead::(kAj j (kA f [])))) true) (qbH qP (E:=encI) rfl (qeZ (E:=encI) (ys:=[j]) rfl rfl rfl rfl) (qfY (E:=encI) (l:=c) rfl rfl rfl n rfl))) az)) ?_;refine gh fol ((1,.func (.func 90) [] [.ptr 0 0])::(5,.gslice 3 f.length 1)::(kAR a (a.length:Int) (w64 (d+1)) [])) ?_;exact⟨M,(ofG 22 ((1,.func (.func 90) [] [.ptr 0 0])::(5,.gslice 1 f.length 1)::(kAR a (a.length:Int) (w64 (d+1)) [])),(kAj b (kA f []))),Nat.lt_succ_self _,(Sub.norm [] [some 0,some 3] (by rw[hB];rfl) rfl (.keep (.funcL (sn) (rc (.ptr rfl) rn)) (.keep (.gslice rfl) (.keep (.same (qw encI _)) (.keep (.same nI) (.keep (.same nI) .nil))))) (.kb rfl (.same sn) (.ks .nil))),_,_,rfl,g5⟩
   refine Goes.exit ?_;obtain rfl:=si g5;exact⟨rfl,_,rfl,(Sub.keep [5] rfl rfl)⟩
 rintro x s' ⟨rfl,g,rfl,hsub⟩;refine Goes.sub hsub ?_;refine sh fol [(4,.gslice 1 g.length 1)] ?_;refine Goes.ret ?_;obtain rfl:=si h;exact(gh2 [.gslice 1 g.length 1] (qbz.refl _ _))
def qcf (N:Nat) (n:Int) (w:List Int):Option ((List Int)×Int):=
 (qY N n w).bind fun a=>
 if(!decide (a=0))=true then
 some ([],a)
 else
 (yB N w n).bind fun b=>
 some (b,0)
theorem qhX (N:Nat) (n:Int) (w:List Int) {res:(List Int)×Int} (h:qcf N n w=some res):qf ZT (.fn 37) (.i n::(kAn w)) [] (.tuple (kA4 res.1 res.2)) []:=by
 unfold qcf at h;refine Ub Tryz.func37 rfl rfl (m:=16) rfl (rs:=[.tmp 4,.tmp 5]) rfl (l:=(kI n w [])) rfl ?_;refine sg fol (kAy w (kW [])) (kAj n []) ?_;refine sq ?_;obtain⟨a,b,h⟩:=bnd h;refine sq (gr fol [2] (kAy w (kW [(6,.i a)])) (ac (cv (ze N n w b)) az) ?_);refine sh fol (kAy w (kW [(6,.i a),(11,.bool (!decide (a=0)))])) ?_;refine ihB h (fun e h=>?_) (fun e h=>?_)
 ·refine sh fol ((4,.nilslice)::(kAr a)) ?_;refine Goes.ret ?_;obtain rfl:=si h;exact(gw2 [.nilslice,.i a] (FzW.tuple (qh.cons (FzW.nilv (E:=encI)) (qh.cons (Ua tI) qh.nil))))
 refine Goes.skip ?_;obtain⟨c,d,h⟩:=bnd h;refine sq (gq fol [2] [(4,.gslice 1 c.length 1),(5,.i 0)] (kAj n (kA c [])) (ac (hs (.callH 88 [vl encI w,.func (.func 90) [] [.ptr 0 0]] (kAj n []) [0] (.gslice 1 c.length 1) (kAj n (kA c []))) (qab [some 0] [some 0,some 1] (qdj N w n d) (.kb rfl (.cells (rc (.same nI) rn)) .nil) rfl rfl (.back rfl rfl (.cells (rc (.same nI) rn)) rfl (.new rfl rfl (.same fa) rfl .nil)) (rc (.same (qw encI _)) (rc (.funcL (sn) (rc (.ptr rfl) rn)) rn)) (.gslice rfl) rfl)) az) ?_);refine Goes.ret ?_;obtain rfl:=si h;exact(gw2 [.gslice 1 c.length 1,.i 0] (FzW.tuple (qh.cons (Ux (Fz.gs (E:=encI) rfl rfl (nl rfl))) (qh.cons (Ua tI) qh.nil))))
def ku:Nat->(List Int)->Int->Int->Option (List Int)
 |0,_,_,_=>none
 |K+1,c,d,a=>
  if d<a then
  (idx c a).bind fun f=>
  (idx c d).bind fun g=>
  (put c d f).bind fun b=>
  (idx b a).bind fun h=>
  (put b a g).bind fun e=>
  ku K e (w64 (d+1)) (w64 (a-1))
  else
  some c
def jy (N:Nat) (a:List Int):Option (List Int):=
 (ku N a 0 (w64 ((a.length:Int)-1))).bind fun b=>
 some b
theorem qcy (N:Nat) (f:List Int) {t:List Int} (h:jy N f=some t):qf ZT (.fn 161) [.gslice 0 f.length 1] (kA f []) (.tuple []) (kA t []):=by
 unfold jy at h;refine Un Tryz.func161 rfl rfl (m:=28) rfl (rs:=[]) rfl (l:=[(0,.gslice 0 f.length 1)]) rfl ?_;intro B hB;refine Us ?_;refine sh fol [(0,.gslice 0 f.length 1),(2,.i 0),(3,.i (w64 ((f.length:Int)-1)))] ?_;refine Goes.block ?_;obtain⟨u,g6,h⟩:=bnd h;refine Goes.imp (Q:=fun x s'=>(x= .exit 0/\ ∃p,p=u/\Sub s' (ofG 28 [],(kA p [])))) ?_ ?_
 ·refine Uc (fun M s=> ∃(a:List Int) (c:Int) (d:Int),s=(ofG 28 (kAa a c d []),(kA a []))/\ku M a c d=some u) ?_ (m:=N) ⟨_,_,_,rfl,g6⟩;rintro M s ⟨a,c,d,rfl,g6⟩
  cases M with
  |zero=>simp only[ku]at g6;cases g6
  |succ M=>
   rw[ku]at g6;refine sq ?_;refine sh fol (kAa a c d [(9,.bool (decide (c<d)))]) ?_;refine ihD g6 (fun v g6=>?_) (fun v g6=>?_)
   ·refine Goes.skip ?_;refine sq (Goes.block ?_);obtain⟨q,g,g6⟩:=bnd g6;obtain⟨r,e,g6⟩:=bnd g6;obtain⟨n,j,g6⟩:=bnd g6;obtain⟨w,o,g6⟩:=bnd g6;obtain⟨b,k,g6⟩:=bnd g6;refine gq fol [6,7,10,11,12,13,14,15] (kAa a c d []) (kA b []) (ac (hs (.done (.opt (qo ZT 22 (.gslice 0 a.length 1) (.i d))) (.ptr 0 ((d:Int).toNat*1+0))) (qb3 qP g)) (ac (hs (.run [0] (z8 ZT 3 (.ptr 0 ((d:Int).toNat*1+0))) (kA a []) (.i q) (kA a []) false) (qeQ ce3 (E:=encI) (l:=a) rfl rfl g (nl rfl) rfl)) (ac (hs (.done (.opt (qo ZT 22 (.gslice 0 a.length 1) (.i c))) (.ptr 0 ((c:Int).toNat*1+0))) (qb3 qP e)) (ac (hs (.run [0] (z8 ZT 3 (.ptr 0 ((c:Int).toNat*1+0))) (kA a []) (.i r) (kA a []) false) (qeQ ce3 (E:=encI) (l:=a) rfl rfl e (nl rfl) rfl)) (ac (hs (.done (.opt (qo ZT 22 (.gslice 0 a.length 1) (.i c))) (.ptr 0 ((c:Int).toNat*1+0))) (qb3 qP e)) (ac (hs (.run [0] (qA ZT 3 (.ptr 0 ((c:Int).toNat*1+0)) (.i q)) (kA a []) .undef (kA n []) true) (qbl (E:=encI) (l:=a) (y:=q) rfl (show _=some 1 by kernel_rfl) rfl e rfl rfl rfl rfl rfl j rfl)) (ac (hs (.done (.opt (qo ZT 22 (.gslice 0 a.length 1) (.i d))) (.ptr 0 ((d:Int).toNat*1+0))) (qb3 qP g)) (ac (hs (.run [0] (qA ZT 3 (.ptr 0 ((d:Int).toNat*1+0)) (.i r)) (kA n []) .undef (kA b []) true) (qbl (E:=encI) (l:=n) (y:=r) rfl (show _=some 1 by kernel_rfl) rfl o rfl rfl rfl rfl rfl k rfl)) az)))))))) ?_;refine Goes.sub (show Sub (ofG 28 (kAa a c d []),(kA b [])) (ofG 28 (kAa b c d []),(kA b []))from(Sub.norm [] [some 0] (by rw[hB];rfl) rfl (.keep (.gsliceE rfl ((vS j).trans (vS k))) (.keep (.same nI) (.keep (.same nI) .nil))) (.ks .nil))) ?_;refine gh fol (kAa b (w64 (c+1)) (w64 (d-1)) []) ?_;exact⟨M,(ofG 28 (kAa b (w64 (c+1)) (w64 (d-1)) []),(kA b [])),Nat.lt_succ_self _,(Sub.refl _),_,_,_,rfl,g6⟩
   refine Goes.exit ?_;obtain rfl:=si g6;exact⟨rfl,_,rfl,(Sub.keep [] rfl rfl)⟩
 rintro x s' ⟨rfl,p,rfl,hsub⟩;obtain rfl:=si h;exact⟨_,hsub,(gh2 [] (qbz.refl _ _))⟩
def yF (N:Nat) (a:List Int):Option (List Int):=
 (ji N a).bind fun b=>
 (jy N b).bind fun c=>
 ((if b.length=c.length then some ()else none:Option Unit)).bind fun d=>
 some c
theorem qet (N:Nat) (a:List Int) {g:List Int} (h:yF N a=some g):qf ZT (.fn 93) [vl encI a] [] (.gslice 0 g.length 1) (kA g []):=by
 unfold yF at h;refine Un Tryz.func93 rfl rfl (m:=9) rfl (rs:=[.tmp 2]) rfl (l:=(kAC a [])) rfl ?_;intro B hB;refine sh fol (kAC a []) ?_;obtain⟨b,d,h⟩:=bnd h;refine sq (gq fol [1] (kA3 b []) (kA b []) (ac (hs (.callH 88 [vl encI a,.func (.func 89) [] []] [] [] (.gslice 0 b.length 1) (kA b [])) (qab [] [some 0] (qaQ N a d) .nil rfl rfl (.new rfl rfl (.same fa) rfl .nil) (rc (.same (qw encI _)) (rc (.same (qD.func sn sn)) rn)) (.gslice rfl) rfl)) az) ?_);obtain⟨c,e,h⟩:=bnd h;obtain⟨i,f,h⟩:=bnd h;refine sq (gq fol [1] (kA3 b []) (kA c []) (ac (hs (.callH 161 [.gslice 0 b.length 1] (kA b []) [0] (.tuple []) (kA c [])) (qab [some 0] [some 0] (qcy N b e) (.ks .nil) rfl rfl (.back rfl rfl (.same fa) rfl .nil) (rc (.gslice rfl) rn) (.same (qD.tuple sn)) rfl)) az) ?_);refine Goes.sub (show Sub (ofG 9 (kA3 b []),(kA c [])) (ofG 9 (kA3 c []),(kA c []))from(Sub.norm [] [some 0] (by rw[hB];rfl) rfl (.keep (.gsliceE rfl (qp2 f)) .nil) (.ks .nil))) ?_;refine sh fol [(2,.gslice 0 c.length 1)] ?_;refine Goes.ret ?_;obtain rfl:=si h;exact(gh2 [.gslice 0 c.length 1] (qbz.refl _ _))
def ky:Nat->(List Int)->Int->Option (List Int)
 |0,_,_=>none
 |K+1,a,c=>
  if c<(a.length:Int)then
  (at' a c).bind fun b=>
  (some (qcm a b (a.take b))).bind fun d=>
  ky K d (w64 (c+((Nat.min (a.take b).length (a.length-b):Nat):Int)))
  else
  some a
def zZ (N:Nat) (a:List Int) (b:Int):Option (List Int):=
 ((if b<0 then
 none
 else
 some ():Option Unit)).bind fun _=>
 (bits_Mul (IntKind.wrap .u64 (a.length:Int)) (IntKind.wrap .u64 b)).bind fun d=>
 (if d.1>0 then
 some true
 else
 some (decide (d.2>9223372036854775807)):Option Bool).bind fun g=>
 ((if g=true then
 none
 else
 some ():Option Unit)).bind fun _=>
 (mk 8 (w64 d.2) 0).bind fun c=>
 (some (cpy c a)).bind fun e=>
 (ky N e ((Nat.min a.length c.length:Nat):Int)).bind fun f=>
 some f
theorem qcJ (N:Nat) (b:List Int) (g:Int) {w:List Int} (h:zZ N b g=some w):qf ZT (.fn 94) (kA4 b g) [] (.slice 0 0 w.length w.length 1) (kA w []):=by
 unfold zZ at h;refine Un Tryz.func94 rfl rfl (m:=48) rfl (rs:=[.tmp 4]) rfl (l:=(kAC b (kBC g))) rfl ?_;intro B hB;refine sh fol (kAC b (kBC g)) ?_;refine sq ?_;refine sh fol (kAC b ((1,.i g)::(kA1 (decide (g<0))))) ?_;obtain⟨C,g2,h⟩:=bnd h;refine Goes.imp (Q:=fun x s'=>(x= .normal/\()=C/\Sub s' (ofG 48 (kAC b (kBC g)),[]))) ?_ ?_
 ·refine ihD g2 (fun D g2=>?_) (fun D g2=>?_)
  ·cases g2
  refine Goes.skip ?_;obtain rfl:=si g2;exact⟨rfl,rfl,(Sub.keep [0,1] rfl rfl)⟩
 rintro x s' ⟨rfl,rfl,hsub⟩;refine Goes.sub hsub ?_;obtain⟨r,u,h⟩:=bnd h;refine sq (gr fol [5] (kAC b ((5,.int .u64 r.1)::(kAg r.2 []))) (ac (cv (qf1 (IntKind.wrap .u64 (b.length:Int)) (IntKind.wrap .u64 g) u)) az) ?_);refine sq ?_;refine sq ?_;obtain⟨F,j,h⟩:=bnd h;refine Goes.cut (s':=(ofG 48 (kAC b (kAg r.2 [(26,.bool F)])),[])) ?_ ?_
 ·rcases wyD j with⟨y,j⟩|⟨y,j⟩
  ·obtain rfl:=si j;exact tr fol [2] (kAC b (kAg r.2 [(26,.bool true)])) (ac (gw y) az)
  obtain rfl:=si j;exact tr fol [2] (kAC b (kAg r.2 [(26,.bool (decide (r.2>9223372036854775807)))])) (ac (gw y) az)
 obtain⟨G,g8,h⟩:=bnd h;refine Goes.imp (Q:=fun x s'=>(x= .normal/\()=G/\Sub s' (ofG 48 (kAC b (kAg r.2 [])),[]))) ?_ ?_
 ·refine ihB g8 (fun H g8=>?_) (fun H g8=>?_)
  ·cases g8
  refine Goes.skip ?_;obtain rfl:=si g8;exact⟨rfl,rfl,(Sub.keep [0,6] rfl rfl)⟩
 rintro x s' ⟨rfl,rfl,hsub⟩;refine Goes.sub hsub ?_;obtain⟨c,t,h⟩:=bnd h;refine sq (gq fol [2] (kAC b (kAF c [])) (kA c []) (ac (hs (.run [] (jD ZT 22 (.i (w64 r.2)) (.i (w64 r.2))) [] (.slice 0 0 c.length c.length 1) (kA c []) false) (qdK qP (E:=encI) (z:=0) rfl (by kernel_rfl) t rfl)) az) ?_);obtain⟨o,p,h⟩:=bnd h;refine sq (gq fol [2] (kAF c [(8,.i ((Nat.min b.length c.length:Nat):Int))]) (kA o []) (ac (hs (.run [0] (qaH ZT [22,22] (.slice 0 0 c.length c.length 1) (vl encI b)) (kA c []) (.i ((Nat.min b.length c.length:Nat):Int)) (kA o []) true) (qo9 qP (E:=encI) (l:=c) rfl (qq4 (E:=encI) rfl _) (.inl rfl) rfl rfl p rfl)) az) ?_);refine Goes.sub (show Sub (ofG 48 (kAF c [(8,.i ((Nat.min b.length c.length:Nat):Int))]),(kA o [])) (ofG 48 (kAF o [(8,.i ((Nat.min b.length c.length:Nat):Int))]),(kA o []))from(Sub.norm [] [some 0] (by rw[hB];rfl) rfl (.keep (.sliceE rfl (qi7 p)) (.keep (.same nI) .nil)) (.ks .nil))) ?_;refine sq (Goes.block ?_);obtain⟨v,g15,h⟩:=bnd h;refine Goes.imp (Q:=fun x s'=>(x= .exit 0/\ ∃k,k=v/\Sub s' (ofG 48 (kAF k []),(kA k [])))) ?_ ?_
 ·refine Uc (fun M s=> ∃(a:List Int) (e:Int),s=(ofG 48 (kAF a [(8,.i e)]),(kA a []))/\ky M a e=some v) ?_ (m:=N) ⟨_,_,rfl,g15⟩;rintro M s ⟨a,e,rfl,g15⟩
  cases M with
  |zero=>simp only[ky]at g15;cases g15
  |succ M=>
   rw[ky]at g15;refine sq ?_;refine sh fol (kAF a [(8,.i e),(37,.bool (decide (e<(a.length:Int))))]) ?_;refine ihD g15 (fun A g15=>?_) (fun A g15=>?_)
   ·refine Goes.skip ?_;refine Goes.block ?_;obtain⟨d,f,g15⟩:=bnd g15;obtain⟨n,q,g15⟩:=bnd g15;refine gq fol [3,6,7] (kAF a [(8,.i (w64 (e+((Nat.min (a.take d).length (a.length-d):Nat):Int))))]) (kA n []) (ac (hs (.done (.opt (qM ZT 22 (.slice 0 0 a.length a.length 1) (some (.i e)) none none)) (qdW 0 1 a.length d)) (qje qP f)) (ac (hs (.done (.opt (qM ZT 22 (.slice 0 0 a.length a.length 1) none (some (.i e)) none)) (.slice 0 0 d a.length 1)) (qo1 qP f)) (ac (hs (.run [0,0] (qaH ZT [22,22] (qdW 0 1 a.length d) (.slice 0 0 d a.length 1)) (kA a []) (.i ((Nat.min (a.take d).length (a.length-d):Nat):Int)) (kA n []) true) (qjx qP (E:=encI) rfl (l:=a) (qlZ (E:=encI) rfl rfl rfl (qh2 f)) (qh2 f) rfl rfl q rfl)) az))) ?_;exact⟨M,(ofG 48 (kAF n [(8,.i (w64 (e+((Nat.min (a.take d).length (a.length-d):Nat):Int))))]),(kA n [])),Nat.lt_succ_self _,((show Sub (ofG 48 (kAF a [(8,.i (w64 (e+((Nat.min (a.take d).length (a.length-d):Nat):Int))))]),(kA n [])) (ofG 48 (kAF n [(8,.i (w64 (e+((Nat.min (a.take d).length (a.length-d):Nat):Int))))]),(kA n []))from(Sub.norm [] [some 0] (by rw[hB];rfl) rfl (.keep (.sliceE rfl (qh4 (qh2 f) q)) (.keep (.same nI) .nil)) (.ks .nil))).trans (Sub.refl _)),_,_,rfl,g15⟩
   refine Goes.exit ?_;obtain rfl:=si g15;exact⟨rfl,_,rfl,(Sub.keep [7] rfl rfl)⟩
 rintro x s' ⟨rfl,k,rfl,hsub⟩;refine Goes.sub hsub ?_;refine sh fol [(4,.slice 0 0 k.length k.length 1)] ?_;refine Goes.ret ?_;obtain rfl:=si h;exact(gh2 [.slice 0 0 k.length k.length 1] (qbz.refl _ _))
def qbu (N:Nat) (n:Int) (w:List Int) (k:Int):Option ((List Int)×Int):=
 (qY N n w).bind fun e=>
 if(!decide (e=0))=true then
 some ([],e)
 else
 ((if(w.length:Int)=0 then
 some (.inr ([],0))
 else
 (if k>200 then
 some true
 else
 some (decide (k<(-200))):Option Bool).bind fun f=>
 if f=true then
 some (.inr ([],5))
 else
 if k<0 then
 (yF N w).bind fun b=>
 some (.inl (b,w64 (0-k)))
 else
 some (.inl (w,k)):Option (((List Int)×Int)⊕((List Int)×Int)))).bind (fun
 |(.inl (g,h))=>
 (zZ N g h).bind fun c=>
 (yn c).bind fun a=>
 some (a.1,a.2)
 |(.inr d)=>
 some d)
theorem qhc (N:Nat) (n:Int) (w:List Int) (k:Int) {res:(List Int)×Int} (h:qbu N n w k=some res):qf ZT (.fn 38) (.i n::(kA4 w k)) [] (.tuple (kA4 res.1 res.2)) []:=by
 unfold qbu at h;refine Ub Tryz.func38 rfl rfl (m:=39) rfl (rs:=[.tmp 6,.tmp 7]) rfl (l:=(kI n w (kAx k))) rfl ?_;refine sh fol (kI n w (kAx k)) ?_;refine sq ?_;obtain⟨j,o,h⟩:=bnd h;refine sq (gr fol [2] (kAy w [(2,.i k),(8,.i j)]) (ac (cv (ze N n w o)) az) ?_);refine sh fol (kAy w ((2,.i k)::(8,.i j)::(kA2 (!decide (j=0))))) ?_;refine ihB h (fun y h=>?_) (fun y h=>?_)
 ·refine sh fol ((6,.nilslice)::(kA9 j)) ?_;refine Goes.ret ?_;obtain rfl:=si h;exact(gw2 [.nilslice,.i j] (FzW.tuple (qh.cons (FzW.nilv (E:=encI)) (qh.cons (Ua tI) qh.nil))))
 refine Goes.skip ?_;refine sq ?_;obtain⟨v,g5,h⟩:=bnd h;refine Goes.imp (Q:=fun x s'=>(x= .normal/\ ∃p q,(.inl (p,q))=v/\Sub s' (ofG 39 (kAy p (kAx q)),[]))\/(x= .ret/\ ∃r,(.inr r)=v/\qZ ZT [.tmp 6,.tmp 7] (.tuple (kA4 r.1 r.2)) .ret s')) ?_ ?_
 ·refine Goes.block ?_;refine sh fol (kAy w [(2,.i k),(15,.bool (decide ((w.length:Int)=0)))]) ?_;refine ihD g5 (fun z g5=>?_) (fun z g5=>?_)
  ·refine sh fol [(6,.nilslice),(7,.i 0)] ?_;refine Goes.ret ?_;obtain rfl:=si g5;exact Or.inr (⟨rfl,_,rfl,(gw2 [.nilslice,.i 0] (FzW.tuple (qh.cons (FzW.nilv (E:=encI)) (qh.cons (Ua tI) qh.nil))))⟩)
  refine sq ?_;obtain⟨A,a,g5⟩:=bnd g5;refine Goes.cut (s':=(ofG 39 (kAy w [(2,.i k),(19,.bool A)]),[])) ?_ ?_
  ·rcases wyD a with⟨s,a⟩|⟨s,a⟩
   ·obtain rfl:=si a;exact tr fol [2] (kAy w [(2,.i k),(19,.bool true)]) (ac (gw s) az)
   obtain rfl:=si a;exact tr fol [2] (kAy w [(2,.i k),(19,.bool (decide (k<(-200))))]) (ac (gw s) az)
  refine ihB g5 (fun t g5=>?_) (fun t g5=>?_)
  ·refine sh fol [(6,.nilslice),(7,.i 5)] ?_;refine Goes.ret ?_;obtain rfl:=si g5;exact Or.inr (⟨rfl,_,rfl,(gw2 [.nilslice,.i 5] (FzW.tuple (qh.cons (FzW.nilv (E:=encI)) (qh.cons (Ua tI) qh.nil))))⟩)
  refine sh fol (kAy w [(2,.i k),(26,.bool (decide (k<0)))]) ?_;refine ihD g5 (fun u g5=>?_) (fun u g5=>?_)
  ·obtain⟨d,e,g5⟩:=bnd g5;refine gq fol [1] ((1,.gslice 0 d.length 1)::(kAx (w64 (0-k)))) (kA d []) (ac (hs (.callH 93 [vl encI w] [] [] (.gslice 0 d.length 1) (kA d [])) (qab [] [some 0] (qet N w e) .nil rfl rfl (.new rfl rfl (.same fa) rfl .nil) (rc (.same (qw encI _)) rn) (.gslice rfl) rfl)) az) ?_;obtain rfl:=si g5;exact Or.inl (⟨rfl,_,_,rfl,(Sub.norm [0] [] rfl rfl (.keep (.frz (Fz.gs (E:=encI) rfl rfl (nl rfl)) (qw encI _)) (.keep (.same nI) .nil)) .nil)⟩)
  refine Goes.skip ?_;obtain rfl:=si g5;exact Or.inl (⟨rfl,_,_,rfl,(Sub.keep [1,2] rfl rfl)⟩)
 rintro x s' (⟨rfl,p,q,rfl,hsub⟩|⟨rfl,B,rfl,hret⟩)
 ·try dsimp only at h
  refine Goes.sub hsub ?_;obtain⟨b,f,h⟩:=bnd h;obtain⟨c,g,h⟩:=bnd h;refine sq (gq fol [2,3] ((6,vl encI c.1)::(kA9 c.2)) (kAl b) (ac (hs (.callH 94 (kA4 p q) [] [] (.slice 0 0 b.length b.length 1) (kA b [])) (qab [] [some 0] (qcJ N p q f) .nil rfl rfl (.new rfl rfl (.same fa) rfl .nil) (rc (.same (qw encI _)) (rc (.same nI) rn)) (.slice rfl) rfl)) (ac (hs (.callF 45 [.slice 0 0 b.length b.length 1] (kA b []) [0] [vl encI b] (.tuple (kA4 c.1 c.2))) (qfV (FzL.cons (Fz.sl (E:=encI) rfl rfl (nl rfl)) FzL.nil) (qcC b g) (Still.tuple (AllST.cons (qE encI _ (nl rfl)) (AllST.cons tI AllST.nil))))) az)) ?_);refine Goes.sub (show Sub (ofG 39 ((6,vl encI c.1)::(kA9 c.2)),(kAl b)) (ofG 39 ((6,vl encI c.1)::(kA9 c.2)),[])from(Sub.norm [] [] rfl rfl (.keep (.same (qw encI _)) (.keep (.same nI) .nil)) .nil)) ?_;refine Goes.ret ?_;obtain rfl:=si h;exact(gw2 (kA4 c.1 c.2) (FzW.tuple (qh.cons (Ua (qE encI _ (nl rfl))) (qh.cons (Ua tI) qh.nil))))
 try dsimp only at h
 obtain rfl:=si h;exact hret
end Go.Av
