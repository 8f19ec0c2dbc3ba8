/-
  Walks of functions: what each computes, as a plain function.
-/
import Derived.Test.YtmblkadpanineaaGreatDoorAvJnN1
noncomputable section
namespace Go.Av
open Go.Proofs Go.RowKit
abbrev ZT:=Tryz.prog
set_option linter.unusedSectionVars false
set_option linter.unusedVariables false
set_option linter.unusedSimpArgs false
set_option maxRecDepth 100000
abbrev kA (a:List Int) (b:Int) (c:List Int) (d:Int):List Blk:=[.cells (a.flatMap encI.c),.cells [.i b],.cells [vl encI c],.cells [.i d]]
abbrev kB {α0:Type} (a:List α0) (b:Int) (x:List (Nat×AV)):List (Nat×AV):=(0,.gslice 0 a.length 1)::(1,.i b)::x
abbrev kC (a:List Int) (x:List Blk):List Blk:= .cells (a.flatMap encI.c)::x
abbrev kD {α1:Type} {α2:Type} (a:List Int) (b:List α1) (c:List α2) (d:Int) (x:List (Nat×AV)):List (Nat×AV):=(1,vl encI a)::(7,.gslice 0 b.length 1)::(8,.gslice 1 c.length 1)::(9,.i d)::x
abbrev kE {α0:Type} (a:List α0) (x:List (Nat×AV)):List (Nat×AV):=(0,.gslice 0 a.length 1)::x
abbrev kF (x:List (Nat×AV)):List (Nat×AV):=(2,.ptr 0 0)::(3,.ptr 1 0)::(7,.ptr 2 0)::x
abbrev kG (a:Int) (b:List Int) (c:Int) (x:List Blk):List Blk:= .cells [.i a]:: .cells [vl encI b]:: .cells [.i c]::x
abbrev kH (a:Int) (b:List Int) (x:List (Nat×AV)):List (Nat×AV):=(0,.i a)::(1,vl encI b)::x
abbrev kI (a:List Int) (x:List (Nat×AV)):List (Nat×AV):=(0,vl encI a)::x
abbrev kJ (a:Int) (b:Int) (x:List (Nat×AV)):List (Nat×AV):=(2,.i a)::(3,.i b)::x
abbrev kK {α1:Type} {α2:Type} (a:Int) (b:List α1) (c:List α2) (x:List (Nat×AV)):List (Nat×AV):=(10,.i a)::(11,.gslice 3 b.length 1)::(12,.gslice 4 c.length 1)::x
abbrev kL {α0:Type} (a:List α0) (b:Int) (c:Int) (x:List AV):List AV:= .gslice 0 a.length 1:: .i b:: .i c::x
abbrev kM (a:Int) (b:Int) (c:Int) (d:Int) (e:Int) (x:List (Nat×AV)):List (Nat×AV):=(18,.i a)::(19,.i b)::(20,.i c)::(21,.i d)::(22,.i e)::x
abbrev kN {α0:Type} (a:List α0) (b:List Int) (c:Int) (d:Int) (x:List (Nat×AV)):List (Nat×AV):=(11,.gslice 0 a.length 1)::(73,vl encI b)::(74,.i c)::(75,.i d)::x
abbrev kO (a:Int) (b:Int):List (Nat×AV):=[(10,.i a),(11,.i b)]
abbrev kP (a:Int) (x:List Blk):List Blk:= .dead:: .dead:: .cells [.i a]::x
abbrev kQ (a:Int) (b:Int) (x:List (Nat×AV)):List (Nat×AV):=(0,.i a)::(1,.i b)::x
abbrev kR (a:Int) (b:Int) (x:List Blk):List Blk:= .cells [.i a,.i b]::x
abbrev kS (a:Int) (b:Int) (c:Int) (x:List (Nat×AV)):List (Nat×AV):=(18,.i a)::(20,.i b)::(24,.i c)::x
abbrev kT (a:List Int) (b:Int) (c:Int):List (Nat×AV):=[(42,vl encI a),(43,.i b),(44,.i c)]
abbrev kU (a:Int) (x:List Blk):List Blk:= .cells [.i a]::x
abbrev kV (x:List (Nat×AV)):List (Nat×AV):=(2,.ptr 0 0)::(3,.ptr 1 0)::x
abbrev kW (a:List Int) (b:Int) (x:List (Nat×AV)):List (Nat×AV):=(5,vl encI a)::(6,.i b)::x
abbrev kX (a:Int) (b:Int) (x:List (Nat×AV)):List (Nat×AV):=(7,.i a)::(8,.i b)::x
abbrev kY (x:List Blk):List Blk:= .cells (([]:List Int).flatMap encI.c)::x
abbrev kZ (x:List (Nat×AV)):List (Nat×AV):=(5,.ptr 0 0)::x
abbrev kAA (a:List Int) (b:Int) (c:Int) (x:List (Nat×AV)):List (Nat×AV):=(31,vl encI a)::(32,.i b)::(33,.i c)::x
abbrev kAB:List AV:=[.ptr 1 0,.ptr 2 0,.ptr 3 0]
abbrev kAC (a:Int) (b:Int):List (Nat×AV):=[(24,.i a),(25,.i b)]
abbrev kAD (a:Int) (b:Int) (x:List (Nat×AV)):List (Nat×AV):=(3,.i a)::(4,.i b)::x
abbrev kAE (a:Int) (b:Int):List (Nat×AV):=[(8,.i a),(9,.i b)]
theorem fol:Tryz.prog.follows .mixedOrders=true:=by kernel_rfl
theorem insH {args:List AV} {A A2:Heap} {v:AV} (h:qcV args A=some (v,A2)):qb ZT (.fn 40) args A v A2:=qd3 Tryz.lays2_21 (enters_of (by kernel_rfl)) h
theorem qgs (i x:Int) {l:List Int} (h:ins0 i x=some l):qb ZT (.fn 40) [.nilslice,.i i,.slice 0 0 1 1 1] (kU x []) (.oslice 1 l.length 1) (kU x (kC l [])):=qfy (fun h=>insH h) i x h
theorem qgx (ns:List Int) (i x:Int) {l:List Int} (h:qeE ns i x=some l):qb ZT (.fn 40) [.oslice 0 ns.length 1,.i i,.slice 1 0 1 1 1] (kC ns (kU x [])) (.oslice 2 l.length 1) (.dead::(kU x (kC l []))):=qfl (fun h=>insH h) ns i x h
theorem sl117:SlT ZT 117 25 1 8:=⟨by kernel_rfl,by kernel_rfl,by kernel_rfl,by kernel_rfl⟩
theorem ce25:CeT ZT 25:=⟨by kernel_rfl,by kernel_rfl⟩
theorem zq:SlT ZT 22 3 1 8:=⟨by kernel_rfl,by kernel_rfl,by kernel_rfl,by kernel_rfl⟩
theorem ce3:CeT ZT 3:=⟨by kernel_rfl,by kernel_rfl⟩
def zA (l:List Int):Nat->Int->Option (Unit⊕Int)
 |0,_=>none
 |K+1,a=>
  if a<(l.length:Int)then
  (idx l a).bind fun b=>
  if(!decide (b=0))=true then
  some (.inr b)
  else
  zA l K (w64 (a+1))
  else
  some (.inl ())
def zi (N:Nat) (l:List Int):Option Int:=
 (zA l N 0).bind (fun
 |(.inl ())=>
 some 0
 |(.inr a)=>
 some a)
theorem jS (N:Nat) (l:List Int) {res:Int} (h:zi N l=some res):qb ZT (.fn 35) [vl encI l] [] (.i res) []:=by
 unfold zi at h
 refine Ud Tryz.func35 rfl rfl (m:=15) rfl (rs:=[.tmp 2]) rfl (l:=(kI l [])) rfl ?_
 refine sh fol (kI l []) ?_
 refine sq ?_
 refine sh fol (kW l (l.length:Int) [(7,.i 0)]) ?_
 refine Goes.block ?_
 obtain⟨d,g2,h⟩:=bnd h
 refine Goes.imp (Q:=fun x s'=>(x= .exit 0/\(.inl ())=d/\Sub s' (ofG 15 [],[]))\/(x= .ret/\ ∃e,(.inr e)=d/\vP ZT [.tmp 2] (.i e) .ret s')) ?_ ?_
 ·refine Ub (fun M s=> ∃(a:Int),s=(ofG 15 (kW l (l.length:Int) [(7,.i a)]),[])/\zA l M a=some d) ?_ (m:=N) ⟨_,rfl,g2⟩
  rintro M s ⟨a,rfl,g2⟩
  cases M with
  |zero=>simp only[zA]at g2;cases g2
  |succ M=>
   rw[zA]at g2
   refine sh fol (kW l (l.length:Int) [(7,.i a),(8,.bool (decide (a<(l.length:Int))))]) ?_
   refine sq ?_
   refine ihD g2 (fun f g2=>?_) (fun f g2=>?_)
   ·refine Goes.skip ?_
    refine sq (Goes.block ?_)
    obtain⟨c,b,g2⟩:=bnd g2
    refine sq (gr fol [0,1] ((4,.i c)::(kW l (l.length:Int) [(7,.i a)])) (ac (iv sl117 encI b) (ac (lv 0 ce25 encI b rfl) az)) ?_)
    refine sh fol ((4,.i c)::(kW l (l.length:Int) [(7,.i a),(12,.bool (!decide (c=0)))])) ?_
    refine ihB g2 (fun g g2=>?_) (fun g g2=>?_)
    ·refine sh fol [(2,.i c)] ?_
     refine Goes.ret ?_
     obtain rfl:=si g2
     exact Or.inr (⟨rfl,_,rfl,(gw2 [.i c] (Ua tI))⟩)
    refine Goes.skip ?_
    refine gh fol (kW l (l.length:Int) [(7,.i (w64 (a+1)))]) ?_
    exact⟨M,(ofG 15 (kW l (l.length:Int) [(7,.i (w64 (a+1)))]),[]),Nat.lt_succ_self _,(Sub.refl _),_,rfl,g2⟩
   refine Goes.exit ?_
   obtain rfl:=si g2
   exact Or.inl (⟨rfl,rfl,(Sub.keep [] rfl rfl)⟩)
 rintro x s' (⟨rfl,rfl,hsub⟩|⟨rfl,j,rfl,hret⟩)
 ·try dsimp only at h
  refine Goes.sub hsub ?_
  refine sh fol [(2,.i 0)] ?_
  refine Goes.ret ?_
  obtain rfl:=si h
  exact(gw2 [.i 0] (Ua tI))
 try dsimp only at h
 obtain rfl:=si h
 exact hret
def zC (holds:Bool) (e:Int):Option Int:=
 if holds=true then
 some e
 else
 some 0
theorem jh (holds:Bool) (e:Int) {res:Int} (h:zC holds e=some res):qb ZT (.fn 36) [.bool holds,.i e] [] (.i res) []:=by
 unfold zC at h
 refine Ud Tryz.func36 rfl rfl (m:=7) rfl (rs:=[.tmp 4]) rfl (l:=[(0,.bool holds),(1,.i e)]) rfl ?_
 refine sh fol [(0,.bool holds),(1,.i e)] ?_
 refine sq ?_
 refine sh fol [(1,.i e),(5,.bool holds)] ?_
 refine ihB h (fun a h=>?_) (fun a h=>?_)
 ·refine sh fol [(4,.i e)] ?_
  refine Goes.ret ?_
  obtain rfl:=si h
  exact(gw2 [.i e] (Ua tI))
 refine Goes.skip ?_
 refine sh fol [(4,.i 0)] ?_
 refine Goes.ret ?_
 obtain rfl:=si h
 exact(gw2 [.i 0] (Ua tI))
def zw (w:Int):Option Bool:=
 (if w<0 then
 some true
 else
 some (decide (w>999999999)):Option Bool).bind fun a=>
 some a
theorem yw (w:Int) {res:Bool} (h:zw w=some res):qb ZT (.fn 82) [.i w] [] (.bool res) []:=by
 unfold zw at h
 refine Ud Tryz.func82 rfl rfl (m:=9) rfl (rs:=[.tmp 2]) rfl (l:=[(0,.i w)]) rfl ?_
 refine sh fol [(0,.i w)] ?_
 refine sq ?_
 obtain⟨c,a,h⟩:=bnd h
 refine Goes.cut (s':=(ofG 9 [(2,.bool c)],[])) ?_ ?_
 ·rcases wyD a with⟨b,a⟩|⟨b,a⟩
  ·obtain rfl:=si a
   exact tr fol [2] [(2,.bool true)] (ac (gw b) az)
  obtain rfl:=si a
  exact tr fol [2] [(2,.bool (decide (w>999999999)))] (ac (gw b) az)
 refine Goes.ret ?_
 obtain rfl:=si h
 exact(gw2 [.bool c] (Ua tB))
def zx (a:List Int):Nat->Int->Int->Option Int
 |0,_,_=>none
 |K+1,b,c=>
  if c<(a.length:Int)then
  (idx a c).bind fun d=>
  zx a K (if d>b then d else b) (w64 (c+1))
  else
  some b
def slices_Max_int (N:Nat) (a:List Int):Option Int:=
 ((if(a.length:Int)<1 then
 none
 else
 some ():Option Unit)).bind fun _=>
 (idx a 0).bind fun b=>
 (zx a N b 1).bind fun c=>
 some c
theorem qaq (N:Nat) (a:List Int) {res:Int} (h:slices_Max_int N a=some res):qb ZT (.fn 83) [vl encI a] [] (.i res) []:=by
 unfold slices_Max_int at h
 refine Ud Tryz.func83 rfl rfl (m:=25) rfl (rs:=[.tmp 2]) rfl (l:=(kI a [])) rfl ?_
 refine sh fol (kI a []) ?_
 refine sq ?_
 refine sh fol (kI a [(7,.bool (decide ((a.length:Int)<1)))]) ?_
 obtain⟨n,g1,h⟩:=bnd h
 refine Goes.imp (Q:=fun x s'=>(x= .normal/\()=n/\Sub s' (ofG 25 (kI a []),[]))) ?_ ?_
 ·refine ihD g1 (fun o g1=>?_) (fun o g1=>?_)
  ·cases g1
  refine Goes.skip ?_
  obtain rfl:=si g1
  exact⟨rfl,rfl,(Sub.keep [0] rfl rfl)⟩
 rintro x s' ⟨rfl,rfl,hsub⟩
 refine Goes.sub hsub ?_
 obtain⟨j,c,h⟩:=bnd h
 refine sq (gr fol [1,2] (kI a [(3,.i j)]) (ac (iv zq encI c) (ac (lv 0 ce3 encI c rfl) az)) ?_)
 refine sq ?_
 refine sh fol (kI a [(3,.i j),(4,.i 1)]) ?_
 refine Goes.block ?_
 obtain⟨k,g7,h⟩:=bnd h
 refine Goes.imp (Q:=fun x s'=>(x= .exit 0/\ ∃g,g=k/\Sub s' (ofG 25 [(3,.i g)],[]))) ?_ ?_
 ·refine Ub (fun M s=> ∃(b:Int) (d:Int),s=(ofG 25 (kI a (kAD b d [])),[])/\zx a M b d=some k) ?_ (m:=N) ⟨_,_,rfl,g7⟩
  rintro M s ⟨b,d,rfl,g7⟩
  cases M with
  |zero=>simp only[zx]at g7;cases g7
  |succ M=>
   rw[zx]at g7
   refine sq ?_
   refine sh fol (kI a (kAD b d [(15,.bool (decide (d<(a.length:Int))))])) ?_
   refine ihD g7 (fun p g7=>?_) (fun p g7=>?_)
   ·refine Goes.skip ?_
    refine sq (Goes.block ?_)
    obtain⟨f,e,g7⟩:=bnd g7
    refine gr fol [3,4] (kI a (kAD (if f>b then f else b) d [])) (ac (iv zq encI e) (ac (lv 0 ce3 encI e rfl) az)) ?_
    refine gh fol (kI a (kAD (if f>b then f else b) (w64 (d+1)) [])) ?_
    exact⟨M,(ofG 25 (kI a (kAD (if f>b then f else b) (w64 (d+1)) [])),[]),Nat.lt_succ_self _,(Sub.refl _),_,_,rfl,g7⟩
   refine Goes.exit ?_
   obtain rfl:=si g7
   exact⟨rfl,_,rfl,(Sub.keep [3] rfl rfl)⟩
 rintro x s' ⟨rfl,g,rfl,hsub⟩
 refine Goes.sub hsub ?_
 refine sh fol [(2,.i g)] ?_
 refine Goes.ret ?_
 obtain rfl:=si h
 exact(gw2 [.i g] (Ua tI))
def qI (a:List Int):Nat->Int->Option (Unit⊕Int)
 |0,_=>none
 |K+1,b=>
  if b<(a.length:Int)then
  (idx a b).bind fun c=>
  (zw c).bind fun d=>
  if d=true then
  some (.inr b)
  else
  qI a K (w64 (b+1))
  else
  some (.inl ())
def zR (N:Nat) (a:List Int):Option Int:=
 (qI a N 0).bind (fun
 |(.inl ())=>
 some (-1)
 |(.inr b)=>
 some b)
theorem yn (N:Nat) (a:List Int) {res:Int} (h:zR N a=some res):qb ZT (.fn 123) [vl encI a,.func (.func 82) [] []] [] (.i res) []:=by
 unfold zR at h
 refine Ud Tryz.func123 rfl rfl (m:=19) rfl (rs:=[.tmp 4]) rfl (l:=(kI a [(1,.func (.func 82) [] [])])) rfl ?_
 refine sh fol (kI a [(1,.func (.func 82) [] [])]) ?_
 refine sq ?_
 refine sh fol (kI a [(1,.func (.func 82) [] []),(7,.i (a.length:Int)),(8,.i 0)]) ?_
 refine Goes.block ?_
 obtain⟨e,g2,h⟩:=bnd h
 refine Goes.imp (Q:=fun x s'=>(x= .exit 0/\(.inl ())=e/\Sub s' (ofG 19 [],[]))\/(x= .ret/\ ∃f,(.inr f)=e/\vP ZT [.tmp 4] (.i f) .ret s')) ?_ ?_
 ·refine Ub (fun M s=> ∃(b:Int),s=(ofG 19 (kI a ((1,.func (.func 82) [] [])::(kX (a.length:Int) b []))),[])/\qI a M b=some e) ?_ (m:=N) ⟨_,rfl,g2⟩
  rintro M s ⟨b,rfl,g2⟩
  cases M with
  |zero=>simp only[qI]at g2;cases g2
  |succ M=>
   rw[qI]at g2
   refine sh fol (kI a ((1,.func (.func 82) [] [])::(kX (a.length:Int) b [(9,.bool (decide (b<(a.length:Int))))]))) ?_
   refine sq ?_
   refine ihD g2 (fun g g2=>?_) (fun g g2=>?_)
   ·refine Goes.skip ?_
    refine sq (Goes.block ?_)
    refine sh fol (kI a ((1,.func (.func 82) [] [])::(5,.i b)::(kX (a.length:Int) b []))) ?_
    obtain⟨j,c,g2⟩:=bnd g2
    obtain⟨k,d,g2⟩:=bnd g2
    refine sq (gr fol [3,4,5] (kI a ((1,.func (.func 82) [] [])::(5,.i b)::(kX (a.length:Int) b [(16,.bool k)]))) (ac (iv zq encI c) (ac (lv 0 ce3 encI c rfl) (ac (cv (yw j d)) az))) ?_)
    refine ihB g2 (fun n g2=>?_) (fun n g2=>?_)
    ·refine sh fol [(4,.i b)] ?_
     refine Goes.ret ?_
     obtain rfl:=si g2
     exact Or.inr (⟨rfl,_,rfl,(gw2 [.i b] (Ua tI))⟩)
    refine Goes.skip ?_
    refine gh fol (kI a ((1,.func (.func 82) [] [])::(kX (a.length:Int) (w64 (b+1)) []))) ?_
    exact⟨M,(ofG 19 (kI a ((1,.func (.func 82) [] [])::(kX (a.length:Int) (w64 (b+1)) []))),[]),Nat.lt_succ_self _,(Sub.refl _),_,rfl,g2⟩
   refine Goes.exit ?_
   obtain rfl:=si g2
   exact Or.inl (⟨rfl,rfl,(Sub.keep [] rfl rfl)⟩)
 rintro x s' (⟨rfl,rfl,hsub⟩|⟨rfl,o,rfl,hret⟩)
 ·try dsimp only at h
  refine Goes.sub hsub ?_
  refine sh fol [(4,.i (-1))] ?_
  refine Goes.ret ?_
  obtain rfl:=si h
  exact(gw2 [.i (-1)] (Ua tI))
 try dsimp only at h
 obtain rfl:=si h
 exact hret
def zz (N:Nat) (a:List Int):Option Bool:=
 (zR N a).bind fun b=>
 some (decide (b>=0))
theorem vO (N:Nat) (a:List Int) {res:Bool} (h:zz N a=some res):qb ZT (.fn 81) [vl encI a,.func (.func 82) [] []] [] (.bool res) []:=by
 unfold zz at h
 refine Ud Tryz.func81 rfl rfl (m:=9) rfl (rs:=[.tmp 4]) rfl (l:=(kI a [(1,.func (.func 82) [] [])])) rfl ?_
 refine sh fol (kI a [(1,.func (.func 82) [] [])]) ?_
 obtain⟨c,b,h⟩:=bnd h
 refine sq (gr fol [2] [(4,.bool (decide (c>=0)))] (ac (hs (.call 123 [vl encI a,.func (.func 82) [] []] [] [] [vl encI a,.func (.func 82) [] []] (.i c)) (qfi (FzL.cons (Uc (jB encI _ (nl rfl))) (FzL.cons (Fz.func FzL.nil FzL.nil) FzL.nil)) (yn N a b) tI)) az) ?_)
 refine Goes.ret ?_
 obtain rfl:=si h
 exact(gw2 [.bool (decide (c>=0))] (Ua tB))
def ku (N:Nat) (weights:List Int):Option Int:=
 (zC (decide ((weights.length:Int)=0)) 12).bind fun b=>
 (zC (decide ((weights.length:Int)>256)) 5).bind fun c=>
 (zi N ([b,c]:List Int)).bind fun a=>
 if(!decide (a=0))=true then
 some a
 else
 (zz N weights).bind fun d=>
 (zC d 3).bind fun e=>
 (slices_Max_int N weights).bind fun f=>
 (zC (decide (f=0)) 6).bind fun g=>
 (zi N ([e,g]:List Int)).bind fun h=>
 some h
theorem j5 (N:Nat) (weights:List Int) {res:Int} (h:ku N weights=some res):qb ZT (.fn 37) [vl encI weights] [] (.i res) []:=by
 unfold ku at h
 refine Ud Tryz.func37 rfl rfl (m:=28) rfl (rs:=[.tmp 2]) rfl (l:=(kI weights [])) rfl ?_
 refine sh fol (kI weights []) ?_
 refine sq ?_
 obtain⟨a,d,h⟩:=bnd h
 obtain⟨b,e,h⟩:=bnd h
 obtain⟨c,f,h⟩:=bnd h
 refine sq (gq fol [3,7,9] (kI weights [(3,.i c)]) (kR a b []) (ac (cv (jh (decide ((weights.length:Int)=0)) 12 d)) (ac (cv (jh (decide ((weights.length:Int)>256)) 5 e)) (ac (hs (.call 35 [.slice 0 0 2 2 1] (kR a b []) [0] [vl encI ([a,b]:List Int)] (.i c)) (yA (FzL.cons (Fz.lit rfl rfl (Uk (AllST.cons tI (AllST.cons tI AllST.nil)))) FzL.nil) (jS N ([a,b]:List Int) f) tI rfl)) az))) ?_)
 refine sh fol (kI weights [(3,.i c),(16,.bool (!decide (c=0)))]) ?_
 refine ihB h (fun t h=>?_) (fun t h=>?_)
 ·refine sh fol [(2,.i c)] ?_
  refine Goes.ret ?_
  obtain rfl:=si h
  exact(gw2 [.i c] (Ua tI))
 refine Goes.skip ?_
 obtain⟨r,g,h⟩:=bnd h
 refine sq (gr fol [1] (kI weights [(4,.bool r)]) (ac (hs (.call 81 [vl encI weights,.func (.func 82) [] []] [] [] [vl encI weights,.func (.func 82) [] []] (.bool r)) (qfi (FzL.cons (Uc (jB encI _ (nl rfl))) (FzL.cons (Fz.func FzL.nil FzL.nil) FzL.nil)) (vO N weights g) tB)) az) ?_)
 obtain⟨p,j,h⟩:=bnd h
 obtain⟨u,k,h⟩:=bnd h
 obtain⟨q,n,h⟩:=bnd h
 obtain⟨s,o,h⟩:=bnd h
 refine sq (gq fol [1,3,5,7] [(2,.i s)] (kR a b (kR p q [])) (ac (cv (jh r 3 j)) (ac (cv (qaq N weights k)) (ac (cv (jh (decide (u=0)) 6 n)) (ac (hs (.call 35 [.slice 1 0 2 2 1] (kR a b (kR p q [])) [1] [vl encI ([p,q]:List Int)] (.i s)) (yA (FzL.cons (Fz.lit rfl rfl (Uk (AllST.cons tI (AllST.cons tI AllST.nil)))) FzL.nil) (jS N ([p,q]:List Int) o) tI rfl)) az)))) ?_)
 refine Goes.ret ?_
 obtain rfl:=si h
 exact(gw2 [.i s] (Ua tI))
def kw (d:Int) (e:Int) (a:Int) (b:List Int) (c:Int):Option Int:=
 (idx b e).bind fun f=>
 (qby .i64 (w64 (a*f)) c).bind fun g=>
 (idx b d).bind fun h=>
 (qby .i64 (w64 (a*h)) c).bind fun i=>
 some (w64 (g-i))
theorem z8 (c:Int) (d:Int) (a:Int) (e:List Int) (b:Int) {res:Int} (h:kw c d a e b=some res):qb ZT (.fn 39) [.i c,.i d,.fptr [.i a] 0,.fptr [vl encI e] 0,.fptr [.i b] 0] [] (.i res) []:=by
 unfold kw at h
 refine Ud Tryz.func39 rfl rfl (m:=25) rfl (rs:=[.tmp 7]) rfl (l:=(kQ c d [(2,.fptr [.i a] 0),(3,.fptr [vl encI e] 0),(4,.fptr [.i b] 0)])) rfl ?_
 refine sh fol (kQ c d [(2,.fptr [.i a] 0),(3,.fptr [vl encI e] 0),(4,.fptr [.i b] 0)]) ?_
 obtain⟨p,f,h⟩:=bnd h
 obtain⟨n,j,h⟩:=bnd h
 obtain⟨q,g,h⟩:=bnd h
 obtain⟨o,k,h⟩:=bnd h
 refine sq (gr fol [3,4,7,11,12,15] [(7,.i (w64 (n-o)))] (ac (iv zq encI f) (ac (lv 0 ce3 encI f rfl) (ac (hs (.done (.opt (yD ZT .rem 3 (.tmp 13) (.tmp 14) (.i (w64 (a*p))) (.i b))) (.i n)) (xL j)) (ac (iv zq encI g) (ac (lv 0 ce3 encI g rfl) (ac (hs (.done (.opt (yD ZT .rem 3 (.tmp 21) (.tmp 22) (.i (w64 (a*q))) (.i b))) (.i o)) (xL k)) az)))))) ?_)
 refine Goes.ret ?_
 obtain rfl:=si h
 exact(gw2 [.i (w64 (n-o))] (Ua tI))
def ql (c:Int) (d:Int) (e:List Int) (f:Int):Nat->(List Int)->Int->Option (List Int)
 |0,_,_=>none
 |K+1,b,a=>
  (if a>c then
  (idx b a).bind fun h=>
  (idx b (w64 (a-1))).bind fun i=>
  (kw h i d e f).bind fun j=>
  some (decide (j<0))
  else
  some false:Option Bool).bind fun k=>
  if k=true then
  (idx b (w64 (a-1))).bind fun l=>
  (idx b a).bind fun m=>
  (put b a l).bind fun g=>
  (idx g (w64 (a-1))).bind fun o=>
  (put g (w64 (a-1)) m).bind fun n=>
  ql c d e f K n (w64 (a-1))
  else
  some b
def qc (N:Nat) (a:Int) (b:Int) (c:Int) (d:List Int) (e:Int):Nat->(List Int)->Int->Option (List Int)
 |0,_,_=>none
 |K+1,g,f=>
  if f<b then
  (ql a c d e N g f).bind fun h=>
  qc N a b c d e K h (w64 (f+1))
  else
  some g
def qz (N:Nat) (b:List Int) (a:Int) (c:Int) (d:Int) (e:List Int) (f:Int):Option (List Int):=
 (qc N a c d e f N b (w64 (a+1))).bind fun g=>
 some g
theorem zQ (N:Nat) (q:List Int) (e:Int) (f:Int) (a:Int) (b:List Int) (c:Int) {U:List Int} (h:qz N q e f a b c=some U):qb ZT (.fn 124) (kL q e f [.func (.func 39) [] [.ptr 1 0,.ptr 2 0,.ptr 3 0]]) (kA q a b c) (.tuple []) (kA U a b c):=by
 unfold qz at h
 refine Us Tryz.func124 rfl rfl (m:=53) rfl (rs:=[]) rfl (l:=(kB q e [(2,.i f),(3,.func (.func 39) [] [.ptr 1 0,.ptr 2 0,.ptr 3 0])])) rfl ?_
 intro B hB
 refine Uj ?_
 refine sh fol (kB q e [(2,.i f),(3,.func (.func 39) [] [.ptr 1 0,.ptr 2 0,.ptr 3 0]),(8,.i (w64 (e+1)))]) ?_
 refine Goes.block ?_
 obtain⟨V,g5,h⟩:=bnd h
 refine Goes.imp (Q:=fun x s'=>(x= .exit 0/\ ∃O,O=V/\Sub s' (ofG 53 [],(kA O a b c)))) ?_ ?_
 ·refine Ub (fun M s=> ∃(J:List Int) (k:Int),s=(ofG 53 (kB J e [(2,.i f),(3,.func (.func 39) [] [.ptr 1 0,.ptr 2 0,.ptr 3 0]),(8,.i k)]),(kA J a b c))/\qc N e f a b c M J k=some V) ?_ (m:=N) ⟨_,_,rfl,g5⟩
  rintro M s ⟨J,k,rfl,g5⟩
  cases M with
  |zero=>simp only[qc]at g5;cases g5
  |succ M=>
   rw[qc]at g5
   refine sq ?_
   refine sh fol (kB J e [(2,.i f),(3,.func (.func 39) [] [.ptr 1 0,.ptr 2 0,.ptr 3 0]),(8,.i k),(14,.bool (decide (k<f)))]) ?_
   refine ihD g5 (fun W g5=>?_) (fun W g5=>?_)
   ·refine Goes.skip ?_
    refine sq (Goes.block ?_)
    refine sh fol (kB J e [(2,.i f),(3,.func (.func 39) [] [.ptr 1 0,.ptr 2 0,.ptr 3 0]),(8,.i k),(9,.i k)]) ?_
    refine Goes.block ?_
    obtain⟨K,g10,g5⟩:=bnd g5
    refine Goes.imp (Q:=fun x s'=>(x= .exit 2/\ ∃A,A=K/\Sub s' (ofG 53 (kB A e [(2,.i f),(3,.func (.func 39) [] [.ptr 1 0,.ptr 2 0,.ptr 3 0]),(8,.i k)]),(kA A a b c)))) ?_ ?_
    ·refine Ub (fun M s=> ∃(g:List Int) (j:Int),s=(ofG 53 (kB g e ((2,.i f)::(3,.func (.func 39) [] [.ptr 1 0,.ptr 2 0,.ptr 3 0])::(kAE k j))),(kA g a b c))/\ql e a b c M g j=some K) ?_ (m:=N) ⟨_,_,rfl,g10⟩
     rintro M s ⟨g,j,rfl,g10⟩
     cases M with
     |zero=>simp only[ql]at g10;cases g10
     |succ M=>
      rw[ql]at g10
      refine sq ?_
      refine sq ?_
      obtain⟨P,d,g10⟩:=bnd g10
      refine Goes.cut (s':=(ofG 53 (kB g e [(2,.i f),(3,.func (.func 39) [] [.ptr 1 0,.ptr 2 0,.ptr 3 0]),(8,.i k),(9,.i j),(34,.bool P)]),(kA g a b c))) ?_ ?_
      ·rcases wyD d with⟨C,d⟩|⟨C,d⟩
       ·obtain⟨w,r,d⟩:=bnd d
        obtain⟨z,t,d⟩:=bnd d
        obtain⟨L,D,d⟩:=bnd d
        obtain rfl:=si d
        exact tr fol [3,7,8,12,13,14] (kB g e [(2,.i f),(3,.func (.func 39) [] [.ptr 1 0,.ptr 2 0,.ptr 3 0]),(8,.i k),(9,.i j),(34,.bool (decide (L<0)))]) (ac (gw C) (ac (hs (.done (.opt (qd ZT 22 (.gslice 0 g.length 1) (.i j))) (.ptr 0 ((j:Int).toNat*1+0))) (zY zq r)) (ac (hs (.run [0] (zG ZT 3 (.ptr 0 ((j:Int).toNat*1+0))) (kA g a b c) (.i w) (kA g a b c) false) (yu ce3 (E:=encI) (l:=g) rfl rfl r (nl rfl) rfl)) (ac (hs (.done (.opt (qd ZT 22 (.gslice 0 g.length 1) (.i (w64 (j-1))))) (.ptr 0 ((w64 (j-1):Int).toNat*1+0))) (zY zq t)) (ac (hs (.run [0] (zG ZT 3 (.ptr 0 ((w64 (j-1):Int).toNat*1+0))) (kA g a b c) (.i z) (kA g a b c) false) (yu ce3 (E:=encI) (l:=g) rfl rfl t (nl rfl) rfl)) (ac (hs (.call 39 (.i w:: .i z::kAB) (kA g a b c) [1,2,3] [.i w,.i z,.fptr [.i a] 0,.fptr [vl encI b] 0,.fptr [.i c] 0] (.i L)) (yA (FzL.cons (Uc tI) (FzL.cons (Uc tI) (FzL.cons (Fz.ptr rfl rfl (FzL.cons (Uc tI) FzL.nil)) (FzL.cons (Fz.ptr rfl rfl (FzL.cons (Uc (jB encI _ (nl rfl))) FzL.nil)) (FzL.cons (Fz.ptr rfl rfl (FzL.cons (Uc tI) FzL.nil)) FzL.nil))))) (z8 w z a b c D) tI rfl)) az))))))
       obtain rfl:=si d
       exact tr fol [3] (kB g e [(2,.i f),(3,.func (.func 39) [] [.ptr 1 0,.ptr 2 0,.ptr 3 0]),(8,.i k),(9,.i j),(34,.bool false)]) (ac (gw C) az)
      refine ihB g10 (fun T g10=>?_) (fun T g10=>?_)
      ·refine Goes.skip ?_
       refine sq (Goes.block ?_)
       obtain⟨F,p,g10⟩:=bnd g10
       obtain⟨G,n,g10⟩:=bnd g10
       obtain⟨H,u,g10⟩:=bnd g10
       obtain⟨X,I,g10⟩:=bnd g10
       obtain⟨o,v,g10⟩:=bnd g10
       refine gq fol [8,9,12,13,14,15,16,17] (kB g e ((2,.i f)::(3,.func (.func 39) [] [.ptr 1 0,.ptr 2 0,.ptr 3 0])::(kAE k j))) (kA o a b c) (ac (hs (.done (.opt (qd ZT 22 (.gslice 0 g.length 1) (.i (w64 (j-1))))) (.ptr 0 ((w64 (j-1):Int).toNat*1+0))) (zY zq p)) (ac (hs (.run [0] (zG ZT 3 (.ptr 0 ((w64 (j-1):Int).toNat*1+0))) (kA g a b c) (.i F) (kA g a b c) false) (yu ce3 (E:=encI) (l:=g) rfl rfl p (nl rfl) rfl)) (ac (hs (.done (.opt (qd ZT 22 (.gslice 0 g.length 1) (.i j))) (.ptr 0 ((j:Int).toNat*1+0))) (zY zq n)) (ac (hs (.run [0] (zG ZT 3 (.ptr 0 ((j:Int).toNat*1+0))) (kA g a b c) (.i G) (kA g a b c) false) (yu ce3 (E:=encI) (l:=g) rfl rfl n (nl rfl) rfl)) (ac (hs (.done (.opt (qd ZT 22 (.gslice 0 g.length 1) (.i j))) (.ptr 0 ((j:Int).toNat*1+0))) (zY zq n)) (ac (hs (.run [0] (jQ ZT 3 (.ptr 0 ((j:Int).toNat*1+0)) (.i F)) (kA g a b c) .undef (kA H a b c) true) (xe (E:=encI) (l:=g) (y:=F) rfl (show _=some 1 by kernel_rfl) rfl n rfl rfl rfl rfl rfl u rfl)) (ac (hs (.done (.opt (qd ZT 22 (.gslice 0 g.length 1) (.i (w64 (j-1))))) (.ptr 0 ((w64 (j-1):Int).toNat*1+0))) (zY zq p)) (ac (hs (.run [0] (jQ ZT 3 (.ptr 0 ((w64 (j-1):Int).toNat*1+0)) (.i G)) (kA H a b c) .undef (kA o a b c) true) (xe (E:=encI) (l:=H) (y:=G) rfl (show _=some 1 by kernel_rfl) rfl I rfl rfl rfl rfl rfl v rfl)) az)))))))) ?_
       refine Goes.sub (show Sub (ofG 53 (kB g e ((2,.i f)::(3,.func (.func 39) [] [.ptr 1 0,.ptr 2 0,.ptr 3 0])::(kAE k j))),(kA o a b c)) (ofG 53 (kB o e ((2,.i f)::(3,.func (.func 39) [] [.ptr 1 0,.ptr 2 0,.ptr 3 0])::(kAE k j))),(kA o a b c))from(Sub.norm [] [some 0,some 1,some 2,some 3] (by rw[hB];rfl) rfl (.keep (.gsliceE rfl ((vo u).trans (vo v))) (.keep (.same nI) (.keep (.same nI) (.keep (.funcL (sn) (rc (.ptr rfl) (rc (.ptr rfl) (rc (.ptr rfl) rn)))) (.keep (.same nI) (.keep (.same nI) .nil)))))) (.ks (.kb rfl (.same sn) (.kb rfl (.same sn) (.kb rfl (.same sn) .nil)))))) ?_
       refine gh fol (kB o e ((2,.i f)::(3,.func (.func 39) [] [.ptr 1 0,.ptr 2 0,.ptr 3 0])::(kAE k (w64 (j-1))))) ?_
       exact⟨M,(ofG 53 (kB o e ((2,.i f)::(3,.func (.func 39) [] [.ptr 1 0,.ptr 2 0,.ptr 3 0])::(kAE k (w64 (j-1))))),(kA o a b c)),Nat.lt_succ_self _,(Sub.refl _),_,_,rfl,g10⟩
      refine Goes.exit ?_
      obtain rfl:=si g10
      exact⟨rfl,_,rfl,(Sub.keep [0,1,2,3,8] rfl rfl)⟩
    rintro x s' ⟨rfl,A,rfl,hsub⟩
    refine Goes.sub hsub ?_
    refine gh fol (kB A e [(2,.i f),(3,.func (.func 39) [] [.ptr 1 0,.ptr 2 0,.ptr 3 0]),(8,.i (w64 (k+1)))]) ?_
    exact⟨M,(ofG 53 (kB A e [(2,.i f),(3,.func (.func 39) [] [.ptr 1 0,.ptr 2 0,.ptr 3 0]),(8,.i (w64 (k+1)))]),(kA A a b c)),Nat.lt_succ_self _,(Sub.refl _),_,_,rfl,g5⟩
   refine Goes.exit ?_
   obtain rfl:=si g5
   exact⟨rfl,_,rfl,(Sub.keep [] rfl rfl)⟩
 rintro x s' ⟨rfl,O,rfl,hsub⟩
 obtain rfl:=si h
 exact⟨_,hsub,(gh2 [] (yM.refl _ _))⟩
def qp (b:Int) (a:Int) (d:Int):Nat->(List Int)->Int->Option (List Int)
 |0,_,_=>none
 |K+1,e,c=>
  if c<d then
  (idx e (w64 (a+c))).bind fun h=>
  (idx e (w64 (b+c))).bind fun i=>
  (put e (w64 (b+c)) h).bind fun g=>
  (idx g (w64 (a+c))).bind fun j=>
  (put g (w64 (a+c)) i).bind fun f=>
  qp b a d K f (w64 (c+1))
  else
  some e
def qC (N:Nat) (a:List Int) (b:Int) (c:Int) (d:Int) (e:Int) (f:List Int) (g:Int):Option (List Int):=
 (qp b c d N a 0).bind fun h=>
 some h
theorem zu (N:Nat) (o:List Int) (a:Int) (b:Int) (f:Int) (c:Int) (d:List Int) (e:Int) {A:List Int} (h:qC N o a b f c d e=some A):qb ZT (.fn 173) (kL o a b [.i f,.func (.func 39) [] [.ptr 1 0,.ptr 2 0,.ptr 3 0]]) (kA o c d e) (.tuple []) (kA A c d e):=by
 unfold qC at h
 refine Us Tryz.func173 rfl rfl (m:=38) rfl (rs:=[]) rfl (l:=(kB o a (kJ b f [(4,.func (.func 39) [] [.ptr 1 0,.ptr 2 0,.ptr 3 0])]))) rfl ?_
 intro B hB
 refine Uj ?_
 refine sh fol (kB o a (kJ b f [(10,.i 0)])) ?_
 refine Goes.block ?_
 obtain⟨C,g5,h⟩:=bnd h
 refine Goes.imp (Q:=fun x s'=>(x= .exit 0/\ ∃u,u=C/\Sub s' (ofG 38 [],(kA u c d e)))) ?_ ?_
 ·refine Ub (fun M s=> ∃(j:List Int) (g:Int),s=(ofG 38 (kB j a (kJ b f [(10,.i g)])),(kA j c d e))/\qp a b f M j g=some C) ?_ (m:=N) ⟨_,_,rfl,g5⟩
  rintro M s ⟨j,g,rfl,g5⟩
  cases M with
  |zero=>simp only[qp]at g5;cases g5
  |succ M=>
   rw[qp]at g5
   refine sq ?_
   refine sh fol (kB j a (kJ b f [(10,.i g),(13,.bool (decide (g<f)))])) ?_
   refine ihD g5 (fun D g5=>?_) (fun D g5=>?_)
   ·refine Goes.skip ?_
    refine sq (Goes.block ?_)
    obtain⟨v,p,g5⟩:=bnd g5
    obtain⟨w,n,g5⟩:=bnd g5
    obtain⟨z,r,g5⟩:=bnd g5
    obtain⟨F,t,g5⟩:=bnd g5
    obtain⟨k,q,g5⟩:=bnd g5
    refine gq fol [12,13,18,19,20,21,22,23] (kB j a (kJ b f [(10,.i g)])) (kA k c d e) (ac (hs (.done (.opt (qd ZT 22 (.gslice 0 j.length 1) (.i (w64 (b+g))))) (.ptr 0 ((w64 (b+g):Int).toNat*1+0))) (zY zq p)) (ac (hs (.run [0] (zG ZT 3 (.ptr 0 ((w64 (b+g):Int).toNat*1+0))) (kA j c d e) (.i v) (kA j c d e) false) (yu ce3 (E:=encI) (l:=j) rfl rfl p (nl rfl) rfl)) (ac (hs (.done (.opt (qd ZT 22 (.gslice 0 j.length 1) (.i (w64 (a+g))))) (.ptr 0 ((w64 (a+g):Int).toNat*1+0))) (zY zq n)) (ac (hs (.run [0] (zG ZT 3 (.ptr 0 ((w64 (a+g):Int).toNat*1+0))) (kA j c d e) (.i w) (kA j c d e) false) (yu ce3 (E:=encI) (l:=j) rfl rfl n (nl rfl) rfl)) (ac (hs (.done (.opt (qd ZT 22 (.gslice 0 j.length 1) (.i (w64 (a+g))))) (.ptr 0 ((w64 (a+g):Int).toNat*1+0))) (zY zq n)) (ac (hs (.run [0] (jQ ZT 3 (.ptr 0 ((w64 (a+g):Int).toNat*1+0)) (.i v)) (kA j c d e) .undef (kA z c d e) true) (xe (E:=encI) (l:=j) (y:=v) rfl (show _=some 1 by kernel_rfl) rfl n rfl rfl rfl rfl rfl r rfl)) (ac (hs (.done (.opt (qd ZT 22 (.gslice 0 j.length 1) (.i (w64 (b+g))))) (.ptr 0 ((w64 (b+g):Int).toNat*1+0))) (zY zq p)) (ac (hs (.run [0] (jQ ZT 3 (.ptr 0 ((w64 (b+g):Int).toNat*1+0)) (.i w)) (kA z c d e) .undef (kA k c d e) true) (xe (E:=encI) (l:=z) (y:=w) rfl (show _=some 1 by kernel_rfl) rfl t rfl rfl rfl rfl rfl q rfl)) az)))))))) ?_
    refine Goes.sub (show Sub (ofG 38 (kB j a (kJ b f [(10,.i g)])),(kA k c d e)) (ofG 38 (kB k a (kJ b f [(10,.i g)])),(kA k c d e))from(Sub.norm [] [some 0,some 1,some 2,some 3] (by rw[hB];rfl) rfl (.keep (.gsliceE rfl ((vo r).trans (vo q))) (.keep (.same nI) (.keep (.same nI) (.keep (.same nI) (.keep (.same nI) .nil))))) (.ks (.kb rfl (.same sn) (.kb rfl (.same sn) (.kb rfl (.same sn) .nil)))))) ?_
    refine gh fol (kB k a (kJ b f [(10,.i (w64 (g+1)))])) ?_
    exact⟨M,(ofG 38 (kB k a (kJ b f [(10,.i (w64 (g+1)))])),(kA k c d e)),Nat.lt_succ_self _,(Sub.refl _),_,_,rfl,g5⟩
   refine Goes.exit ?_
   obtain rfl:=si g5
   exact⟨rfl,_,rfl,(Sub.keep [] rfl rfl)⟩
 rintro x s' ⟨rfl,u,rfl,hsub⟩
 obtain rfl:=si h
 exact⟨_,hsub,(gh2 [] (yM.refl _ _))⟩
def qF (N:Nat) (a:Int) (c:Int) (d:List Int) (e:Int):Nat->(List Int)->Int->Int->Option ((List Int)×Int)
 |0,_,_,_=>none
 |K+1,g,b,f=>
  if(!decide (b=f))=true then
  ((if b>f then
  (qC N g (w64 (a-b)) a f c d e).bind fun h=>
  ((if g.length=h.length then some ()else none:Option Unit)).bind fun l=>
  some (h,w64 (b-f),f)
  else
  (qC N g (w64 (a-b)) (w64 ((w64 (a+f))-b)) b c d e).bind fun i=>
  ((if g.length=i.length then some ()else none:Option Unit)).bind fun m=>
  some (i,b,w64 (f-b)):Option ((List Int)×Int×Int))).bind fun(n,j,k)=>
  qF N a c d e K n j k
  else
  some (g,b)
def qQ (N:Nat) (f:List Int) (g:Int) (a:Int) (h:Int) (b:Int) (c:List Int) (d:Int):Option (List Int):=
 (qF N a b c d N f (w64 (a-g)) (w64 (h-a))).bind fun(i,j)=>
 (qC N i (w64 (a-j)) a j b c d).bind fun e=>
 ((if i.length=e.length then some ()else none:Option Unit)).bind fun k=>
 some e
theorem vI (N:Nat) (j:List Int) (o:Int) (a:Int) (p:Int) (b:Int) (c:List Int) (d:Int) {H:List Int} (h:qQ N j o a p b c d=some H):qb ZT (.fn 150) (kL j o a [.i p,.func (.func 39) [] [.ptr 1 0,.ptr 2 0,.ptr 3 0]]) (kA j b c d) (.tuple []) (kA H b c d):=by
 unfold qQ at h
 refine Us Tryz.func150 rfl rfl (m:=58) rfl (rs:=[]) rfl (l:=(kB j o (kJ a p [(4,.func (.func 39) [] [.ptr 1 0,.ptr 2 0,.ptr 3 0])]))) rfl ?_
 intro B hB
 refine Uj ?_
 refine sh fol (kE j (kJ a p [(4,.func (.func 39) [] [.ptr 1 0,.ptr 2 0,.ptr 3 0]),(10,.i (w64 (a-o)))])) ?_
 refine sh fol (kE j ((2,.i a)::(4,.func (.func 39) [] [.ptr 1 0,.ptr 2 0,.ptr 3 0])::(kO (w64 (a-o)) (w64 (p-a))))) ?_
 refine sq (Goes.block ?_)
 obtain⟨I,g7,h⟩:=bnd h
 refine Goes.imp (Q:=fun x s'=>(x= .exit 0/\ ∃u v,(u,v)=I/\Sub s' (ofG 58 (kE u [(2,.i a),(4,.func (.func 39) [] [.ptr 1 0,.ptr 2 0,.ptr 3 0]),(10,.i v)]),(kA u b c d)))) ?_ ?_
 ·refine Ub (fun M s=> ∃(g:List Int) (e:Int) (f:Int),s=(ofG 58 (kE g ((2,.i a)::(4,.func (.func 39) [] [.ptr 1 0,.ptr 2 0,.ptr 3 0])::(kO e f))),(kA g b c d))/\qF N a b c d M g e f=some I) ?_ (m:=N) ⟨_,_,_,rfl,g7⟩
  rintro M s ⟨g,e,f,rfl,g7⟩
  cases M with
  |zero=>simp only[qF]at g7;cases g7
  |succ M=>
   rw[qF]at g7
   refine sq ?_
   refine sh fol (kE g [(2,.i a),(4,.func (.func 39) [] [.ptr 1 0,.ptr 2 0,.ptr 3 0]),(10,.i e),(11,.i f),(20,.bool (!decide (e=f)))]) ?_
   refine ihB g7 (fun J g7=>?_) (fun J g7=>?_)
   ·refine Goes.skip ?_
    obtain⟨E,g12,g7⟩:=bnd g7
    refine Goes.imp (Q:=fun x s'=>(x= .normal/\ ∃D q r,(D,q,r)=E/\Sub s' (ofG 58 (kE D ((2,.i a)::(4,.func (.func 39) [] [.ptr 1 0,.ptr 2 0,.ptr 3 0])::(kO q r))),(kA D b c d)))) ?_ ?_
    ·refine Goes.block ?_
     refine sh fol (kE g [(2,.i a),(4,.func (.func 39) [] [.ptr 1 0,.ptr 2 0,.ptr 3 0]),(10,.i e),(11,.i f),(23,.bool (decide (e>f)))]) ?_
     refine ihD g12 (fun F g12=>?_) (fun F g12=>?_)
     ·obtain⟨k,w,g12⟩:=bnd g12
      obtain⟨K,y,g12⟩:=bnd g12
      refine sq (gq fol [7] (kE g ((2,.i a)::(4,.func (.func 39) [] [.ptr 1 0,.ptr 2 0,.ptr 3 0])::(kO e f))) (kA k b c d) (ac (hs (.callH 173 (kL g (w64 (a-e)) a [.i f,.func (.func 39) [] [.ptr 1 0,.ptr 2 0,.ptr 3 0]]) (kA g b c d) [0,1,2,3] (.tuple []) (kA k b c d)) (j3 [some 0,some 1,some 2,some 3] [some 0,some 1,some 2,some 3] (zu N g (w64 (a-e)) a f b c d w) (.ks (.kb rfl (.cells (rc (.same nI) rn)) (.kb rfl (.cells (rc (.same (qy encI _)) rn)) (.kb rfl (.cells (rc (.same nI) rn)) .nil)))) rfl rfl (.back rfl rfl (.same fa) rfl (.back rfl rfl (.cells (rc (.same nI) rn)) rfl (.back rfl rfl (.cells (rc (.same (qy encI _)) rn)) rfl (.back rfl rfl (.cells (rc (.same nI) rn)) rfl .nil)))) (rc (.gslice rfl) (rc (.same nI) (rc (.same nI) (rc (.same nI) (rc (.funcL (sn) (rc (.ptr rfl) (rc (.ptr rfl) (rc (.ptr rfl) rn)))) rn))))) (.same (qo.tuple sn)) rfl)) az) ?_)
      refine Goes.sub (show Sub (ofG 58 (kE g ((2,.i a)::(4,.func (.func 39) [] [.ptr 1 0,.ptr 2 0,.ptr 3 0])::(kO e f))),(kA k b c d)) (ofG 58 (kE k ((2,.i a)::(4,.func (.func 39) [] [.ptr 1 0,.ptr 2 0,.ptr 3 0])::(kO e f))),(kA k b c d))from(Sub.norm [] [some 0,some 1,some 2,some 3] (by rw[hB];rfl) rfl (.keep (.gsliceE rfl (vU y)) (.keep (.same nI) (.keep (.funcL (sn) (rc (.ptr rfl) (rc (.ptr rfl) (rc (.ptr rfl) rn)))) (.keep (.same nI) (.keep (.same nI) .nil))))) (.ks (.kb rfl (.same sn) (.kb rfl (.same sn) (.kb rfl (.same sn) .nil)))))) ?_
      refine gh fol (kE k ((2,.i a)::(4,.func (.func 39) [] [.ptr 1 0,.ptr 2 0,.ptr 3 0])::(kO (w64 (e-f)) f))) ?_
      obtain rfl:=si g12
      exact⟨rfl,_,_,_,rfl,(Sub.refl _)⟩
     obtain⟨n,z,g12⟩:=bnd g12
     obtain⟨L,A,g12⟩:=bnd g12
     refine sq (gq fol [11] (kE g ((2,.i a)::(4,.func (.func 39) [] [.ptr 1 0,.ptr 2 0,.ptr 3 0])::(kO e f))) (kA n b c d) (ac (hs (.callH 173 (kL g (w64 (a-e)) (w64 ((w64 (a+f))-e)) [.i e,.func (.func 39) [] [.ptr 1 0,.ptr 2 0,.ptr 3 0]]) (kA g b c d) [0,1,2,3] (.tuple []) (kA n b c d)) (j3 [some 0,some 1,some 2,some 3] [some 0,some 1,some 2,some 3] (zu N g (w64 (a-e)) (w64 ((w64 (a+f))-e)) e b c d z) (.ks (.kb rfl (.cells (rc (.same nI) rn)) (.kb rfl (.cells (rc (.same (qy encI _)) rn)) (.kb rfl (.cells (rc (.same nI) rn)) .nil)))) rfl rfl (.back rfl rfl (.same fa) rfl (.back rfl rfl (.cells (rc (.same nI) rn)) rfl (.back rfl rfl (.cells (rc (.same (qy encI _)) rn)) rfl (.back rfl rfl (.cells (rc (.same nI) rn)) rfl .nil)))) (rc (.gslice rfl) (rc (.same nI) (rc (.same nI) (rc (.same nI) (rc (.funcL (sn) (rc (.ptr rfl) (rc (.ptr rfl) (rc (.ptr rfl) rn)))) rn))))) (.same (qo.tuple sn)) rfl)) az) ?_)
     refine Goes.sub (show Sub (ofG 58 (kE g ((2,.i a)::(4,.func (.func 39) [] [.ptr 1 0,.ptr 2 0,.ptr 3 0])::(kO e f))),(kA n b c d)) (ofG 58 (kE n ((2,.i a)::(4,.func (.func 39) [] [.ptr 1 0,.ptr 2 0,.ptr 3 0])::(kO e f))),(kA n b c d))from(Sub.norm [] [some 0,some 1,some 2,some 3] (by rw[hB];rfl) rfl (.keep (.gsliceE rfl (vU A)) (.keep (.same nI) (.keep (.funcL (sn) (rc (.ptr rfl) (rc (.ptr rfl) (rc (.ptr rfl) rn)))) (.keep (.same nI) (.keep (.same nI) .nil))))) (.ks (.kb rfl (.same sn) (.kb rfl (.same sn) (.kb rfl (.same sn) .nil)))))) ?_
     refine gh fol (kE n ((2,.i a)::(4,.func (.func 39) [] [.ptr 1 0,.ptr 2 0,.ptr 3 0])::(kO e (w64 (f-e))))) ?_
     obtain rfl:=si g12
     exact⟨rfl,_,_,_,rfl,(Sub.refl _)⟩
    rintro x s' ⟨rfl,D,q,r,rfl,hsub⟩
    try dsimp only at g7
    exact⟨M,(ofG 58 (kE D ((2,.i a)::(4,.func (.func 39) [] [.ptr 1 0,.ptr 2 0,.ptr 3 0])::(kO q r))),(kA D b c d)),Nat.lt_succ_self _,(hsub.trans (Sub.refl _)),_,_,_,rfl,g7⟩
   refine Goes.exit ?_
   obtain rfl:=si g7
   exact⟨rfl,_,_,rfl,(Sub.keep [0,2,4,10] rfl rfl)⟩
 rintro x s' ⟨rfl,u,v,rfl,hsub⟩
 try dsimp only at h
 refine Goes.sub hsub ?_
 obtain⟨t,C,h⟩:=bnd h
 obtain⟨O,G,h⟩:=bnd h
 refine gq fol [7] [] (kA t b c d) (ac (hs (.callH 173 (kL u (w64 (a-v)) a [.i v,.func (.func 39) [] [.ptr 1 0,.ptr 2 0,.ptr 3 0]]) (kA u b c d) [0,1,2,3] (.tuple []) (kA t b c d)) (j3 [some 0,some 1,some 2,some 3] [some 0,some 1,some 2,some 3] (zu N u (w64 (a-v)) a v b c d C) (.ks (.kb rfl (.cells (rc (.same nI) rn)) (.kb rfl (.cells (rc (.same (qy encI _)) rn)) (.kb rfl (.cells (rc (.same nI) rn)) .nil)))) rfl rfl (.back rfl rfl (.same fa) rfl (.back rfl rfl (.cells (rc (.same nI) rn)) rfl (.back rfl rfl (.cells (rc (.same (qy encI _)) rn)) rfl (.back rfl rfl (.cells (rc (.same nI) rn)) rfl .nil)))) (rc (.gslice rfl) (rc (.same nI) (rc (.same nI) (rc (.same nI) (rc (.funcL (sn) (rc (.ptr rfl) (rc (.ptr rfl) (rc (.ptr rfl) rn)))) rn))))) (.same (qo.tuple sn)) rfl)) az) ?_
 obtain rfl:=si h
 exact⟨_,(show Sub (ofG 58 [],(kA t b c d)) (ofG 58 [],(kA t b c d))from(Sub.norm [] [some 0,some 1,some 2,some 3] (by rw[hB];rfl) rfl .nil (.ks (.kb rfl (.same sn) (.kb rfl (.same sn) (.kb rfl (.same sn) .nil)))))),(gh2 [] (yM.refl _ _))⟩
def qf (a:List Int) (c:Int) (d:Int) (e:List Int) (f:Int):Nat->Int->Int->Option Int
 |0,_,_=>none
 |K+1,b,g=>
  if b<g then
  (((idx a (w64 (qj .u64 (IntKind.wrap .u64 (w64 (b+g))) 1))).bind fun h=>
  (idx a c).bind fun i=>
  (kw h i d e f).bind fun j=>
  if j<0 then
  some (w64 ((w64 (qj .u64 (IntKind.wrap .u64 (w64 (b+g))) 1))+1),g)
  else
  some (b,w64 (qj .u64 (IntKind.wrap .u64 (w64 (b+g))) 1)):Option (Int×Int))).bind fun(k,l)=>
  qf a c d e f K k l
  else
  some b
def qw (g:Int):Nat->(List Int)->Int->Option (List Int)
 |0,_,_=>none
 |K+1,b,a=>
  if a<(w64 (g-1))then
  (idx b (w64 (a+1))).bind fun d=>
  (idx b a).bind fun e=>
  (put b a d).bind fun c=>
  (idx c (w64 (a+1))).bind fun h=>
  (put c (w64 (a+1)) e).bind fun f=>
  qw g K f (w64 (a+1))
  else
  some b
def qh (c:List Int) (d:Int) (e:Int) (f:List Int) (g:Int):Nat->Int->Int->Option Int
 |0,_,_=>none
 |K+1,a,b=>
  if a<b then
  (((idx c d).bind fun h=>
  (idx c (w64 (qj .u64 (IntKind.wrap .u64 (w64 (a+b))) 1))).bind fun i=>
  (kw h i e f g).bind fun j=>
  if(!(decide (j<0)))=true then
  some (w64 ((w64 (qj .u64 (IntKind.wrap .u64 (w64 (a+b))) 1))+1),b)
  else
  some (a,w64 (qj .u64 (IntKind.wrap .u64 (w64 (a+b))) 1)):Option (Int×Int))).bind fun(k,l)=>
  qh c d e f g K k l
  else
  some a
def qx (c:Int):Nat->(List Int)->Int->Option (List Int)
 |0,_,_=>none
 |K+1,b,a=>
  if a>c then
  (idx b (w64 (a-1))).bind fun e=>
  (idx b a).bind fun f=>
  (put b a e).bind fun d=>
  (idx d (w64 (a-1))).bind fun h=>
  (put d (w64 (a-1)) f).bind fun g=>
  qx c K g (w64 (a-1))
  else
  some b
def qg (c:List Int) (d:Int) (e:Int) (f:Int) (g:Int) (h:List Int) (i:Int):Nat->Int->Int->Option Int
 |0,_,_=>none
 |K+1,a,b=>
  if a<b then
  (((idx c (w64 ((w64 ((w64 ((w64 (qj .u64 (IntKind.wrap .u64 (w64 (d+f))) 1))+e))-1))-(w64 (qj .u64 (IntKind.wrap .u64 (w64 (a+b))) 1))))).bind fun j=>
  (idx c (w64 (qj .u64 (IntKind.wrap .u64 (w64 (a+b))) 1))).bind fun k=>
  (kw j k g h i).bind fun l=>
  if(!(decide (l<0)))=true then
  some (w64 ((w64 (qj .u64 (IntKind.wrap .u64 (w64 (a+b))) 1))+1),b)
  else
  some (a,w64 (qj .u64 (IntKind.wrap .u64 (w64 (a+b))) 1)):Option (Int×Int))).bind fun(m,n)=>
  qg c d e f g h i K m n
  else
  some a
def ze (N:Nat) (rcq:(List Int)->Int->Int->Int->Int->(List Int)->Int->Option (List Int)) (e:List Int) (a:Int) (b:Int) (c:Int) (f:Int) (g:List Int) (h:Int):Option (List Int):=
 if(w64 (b-a))=1 then
 (qf e a f g h N b c).bind fun w=>
 (qw w N e a).bind fun n=>
 some n
 else
 if(w64 (c-b))=1 then
 (qh e b f g h N a b).bind fun o=>
 (qx o N e b).bind fun p=>
 some p
 else
 ((if b>(w64 (qj .u64 (IntKind.wrap .u64 (w64 (a+c))) 1))then
 some (w64 ((w64 ((w64 (qj .u64 (IntKind.wrap .u64 (w64 (a+c))) 1))+b))-c),w64 (qj .u64 (IntKind.wrap .u64 (w64 (a+c))) 1))
 else
 some (a,b):Option (Int×Int))).bind fun(q,r)=>
 (qg e a b c f g h N q r).bind fun d=>
 (if d<b then
 some (decide (b<(w64 ((w64 ((w64 (qj .u64 (IntKind.wrap .u64 (w64 (a+c))) 1))+b))-d))))
 else
 some false:Option Bool).bind fun s=>
 ((if s=true then
 (qQ N e d b (w64 ((w64 ((w64 (qj .u64 (IntKind.wrap .u64 (w64 (a+c))) 1))+b))-d)) f g h).bind fun k=>
 ((if e.length=k.length then some ()else none:Option Unit)).bind fun x=>
 some k
 else
 some e:Option (List Int))).bind fun i=>
 (if a<d then
 some (decide (d<(w64 (qj .u64 (IntKind.wrap .u64 (w64 (a+c))) 1))))
 else
 some false:Option Bool).bind fun t=>
 ((if t=true then
 (rcq i a d (w64 (qj .u64 (IntKind.wrap .u64 (w64 (a+c))) 1)) f g h).bind fun l=>
 ((if i.length=l.length then some ()else none:Option Unit)).bind fun y=>
 some l
 else
 some i:Option (List Int))).bind fun j=>
 (if(w64 (qj .u64 (IntKind.wrap .u64 (w64 (a+c))) 1))<(w64 ((w64 ((w64 (qj .u64 (IntKind.wrap .u64 (w64 (a+c))) 1))+b))-d))then
 some (decide ((w64 ((w64 ((w64 (qj .u64 (IntKind.wrap .u64 (w64 (a+c))) 1))+b))-d))<c))
 else
 some false:Option Bool).bind fun u=>
 ((if u=true then
 (rcq j (w64 (qj .u64 (IntKind.wrap .u64 (w64 (a+c))) 1)) (w64 ((w64 ((w64 (qj .u64 (IntKind.wrap .u64 (w64 (a+c))) 1))+b))-d)) c f g h).bind fun m=>
 ((if j.length=m.length then some ()else none:Option Unit)).bind fun z=>
 some m
 else
 some j:Option (List Int))).bind fun v=>
 some v
theorem vg (N:Nat) (rcq:(List Int)->Int->Int->Int->Int->(List Int)->Int->Option (List Int)) (rcq_ok: ∀(d:List Int) (a:Int) (c:Int) (b:Int) (e:Int) (f:List Int) (g:Int) {l:List Int},rcq d a c b e f g=some l->qb ZT (.fn 125) (kL d a c [.i b,.func (.func 39) [] [.ptr 1 0,.ptr 2 0,.ptr 3 0]]) (kA d e f g) (.tuple []) (kA l e f g)) (d:List Int) (a:Int) (c:Int) (b:Int) (e:Int) (f:List Int) (g:Int) {l1:List Int} (h:ze N rcq d a c b e f g=some l1):qb ZT (.fn 125) (kL d a c [.i b,.func (.func 39) [] [.ptr 1 0,.ptr 2 0,.ptr 3 0]]) (kA d e f g) (.tuple []) (kA l1 e f g):=by
 unfold ze at h
 refine Us Tryz.func125 rfl rfl (m:=220) rfl (rs:=[]) rfl (l:=(kB d a (kJ c b [(4,.func (.func 39) [] [.ptr 1 0,.ptr 2 0,.ptr 3 0])]))) rfl ?_
 intro B hB
 refine Uj ?_
 refine sq ?_
 refine sh fol (kB d a (kJ c b [(4,.func (.func 39) [] [.ptr 1 0,.ptr 2 0,.ptr 3 0]),(28,.bool (decide ((w64 (c-a))=1)))])) ?_
 refine ihD h (fun c2 h=>?_) (fun c2 h=>?_)
 ·refine sh fol (kB d a [(3,.i b),(4,.func (.func 39) [] [.ptr 1 0,.ptr 2 0,.ptr 3 0]),(10,.i c)]) ?_
  refine sh fol (kB d a ((4,.func (.func 39) [] [.ptr 1 0,.ptr 2 0,.ptr 3 0])::(kO c b))) ?_
  refine sq (Goes.block ?_)
  obtain⟨r6,g6,h⟩:=bnd h
  refine Goes.imp (Q:=fun x s'=>(x= .exit 0/\ ∃P,P=r6/\Sub s' (ofG 220 (kB d a [(10,.i P)]),(kA d e f g)))) ?_ ?_
  ·refine Ub (fun M s=> ∃(J:Int) (K:Int),s=(ofG 220 (kB d a ((4,.func (.func 39) [] [.ptr 1 0,.ptr 2 0,.ptr 3 0])::(kO J K))),(kA d e f g))/\qf d a e f g M J K=some r6) ?_ (m:=N) ⟨_,_,rfl,g6⟩
   rintro M s ⟨J,K,rfl,g6⟩
   cases M with
   |zero=>simp only[qf]at g6;cases g6
   |succ M=>
    rw[qf]at g6
    refine sq ?_
    refine sh fol (kB d a [(4,.func (.func 39) [] [.ptr 1 0,.ptr 2 0,.ptr 3 0]),(10,.i J),(11,.i K),(33,.bool (decide (J<K)))]) ?_
    refine ihD g6 (fun c7 g6=>?_) (fun c7 g6=>?_)
    ·refine Goes.skip ?_
     obtain⟨r10,g10,g6⟩:=bnd g6
     refine Goes.imp (Q:=fun x s'=>(x= .normal/\ ∃n8 n9,(n8,n9)=r10/\Sub s' (ofG 220 (kB d a ((4,.func (.func 39) [] [.ptr 1 0,.ptr 2 0,.ptr 3 0])::(kO n8 n9))),(kA d e f g)))) ?_ ?_
     ·refine Goes.block ?_
      refine sh fol (kB d a [(4,.func (.func 39) [] [.ptr 1 0,.ptr 2 0,.ptr 3 0]),(10,.i J),(11,.i K),(12,.i (w64 (qj .u64 (IntKind.wrap .u64 (w64 (J+K))) 1)))]) ?_
      obtain⟨a5,T,g10⟩:=bnd g10
      obtain⟨a6,U,g10⟩:=bnd g10
      obtain⟨e2,b8,g10⟩:=bnd g10
      refine sq (gr fol [3,4,7,8,9] (kB d a [(4,.func (.func 39) [] [.ptr 1 0,.ptr 2 0,.ptr 3 0]),(10,.i J),(11,.i K),(12,.i (w64 (qj .u64 (IntKind.wrap .u64 (w64 (J+K))) 1))),(50,.bool (decide (e2<0)))]) (ac (hs (.done (.opt (qd ZT 22 (.gslice 0 d.length 1) (.i (w64 (qj .u64 (IntKind.wrap .u64 (w64 (J+K))) 1))))) (.ptr 0 ((w64 (qj .u64 (IntKind.wrap .u64 (w64 (J+K))) 1):Int).toNat*1+0))) (zY zq T)) (ac (hs (.run [0] (zG ZT 3 (.ptr 0 ((w64 (qj .u64 (IntKind.wrap .u64 (w64 (J+K))) 1):Int).toNat*1+0))) (kA d e f g) (.i a5) (kA d e f g) false) (yu ce3 (E:=encI) (l:=d) rfl rfl T (nl rfl) rfl)) (ac (hs (.done (.opt (qd ZT 22 (.gslice 0 d.length 1) (.i a))) (.ptr 0 ((a:Int).toNat*1+0))) (zY zq U)) (ac (hs (.run [0] (zG ZT 3 (.ptr 0 ((a:Int).toNat*1+0))) (kA d e f g) (.i a6) (kA d e f g) false) (yu ce3 (E:=encI) (l:=d) rfl rfl U (nl rfl) rfl)) (ac (hs (.call 39 (.i a5:: .i a6::kAB) (kA d e f g) [1,2,3] [.i a5,.i a6,.fptr [.i e] 0,.fptr [vl encI f] 0,.fptr [.i g] 0] (.i e2)) (yA (FzL.cons (Uc tI) (FzL.cons (Uc tI) (FzL.cons (Fz.ptr rfl rfl (FzL.cons (Uc tI) FzL.nil)) (FzL.cons (Fz.ptr rfl rfl (FzL.cons (Uc (jB encI _ (nl rfl))) FzL.nil)) (FzL.cons (Fz.ptr rfl rfl (FzL.cons (Uc tI) FzL.nil)) FzL.nil))))) (z8 a5 a6 e f g b8) tI rfl)) az))))) ?_)
      refine ihD g10 (fun c14 g10=>?_) (fun c14 g10=>?_)
      ·refine gh fol (kB d a ((4,.func (.func 39) [] [.ptr 1 0,.ptr 2 0,.ptr 3 0])::(kO (w64 ((w64 (qj .u64 (IntKind.wrap .u64 (w64 (J+K))) 1))+1)) K))) ?_
       obtain rfl:=si g10
       exact⟨rfl,_,_,rfl,(Sub.refl _)⟩
      refine gh fol (kB d a ((4,.func (.func 39) [] [.ptr 1 0,.ptr 2 0,.ptr 3 0])::(kO J (w64 (qj .u64 (IntKind.wrap .u64 (w64 (J+K))) 1))))) ?_
      obtain rfl:=si g10
      exact⟨rfl,_,_,rfl,(Sub.refl _)⟩
     rintro x s' ⟨rfl,n8,n9,rfl,hsub⟩
     try dsimp only at g6
     exact⟨M,(ofG 220 (kB d a ((4,.func (.func 39) [] [.ptr 1 0,.ptr 2 0,.ptr 3 0])::(kO n8 n9))),(kA d e f g)),Nat.lt_succ_self _,(hsub.trans (Sub.refl _)),_,_,rfl,g6⟩
    refine Goes.exit ?_
    obtain rfl:=si g6
    exact⟨rfl,_,rfl,(Sub.keep [0,1,10] rfl rfl)⟩
  rintro x s' ⟨rfl,P,rfl,hsub⟩
  refine Goes.sub hsub ?_
  refine sq ?_
  refine sh fol (kE d [(10,.i P),(13,.i a)]) ?_
  refine Goes.block ?_
  obtain⟨e3,g18,h⟩:=bnd h
  refine Goes.imp (Q:=fun x s'=>(x= .exit 2/\ ∃b9,b9=e3/\Sub s' (ofG 220 [],(kA b9 e f g)))) ?_ ?_
  ·refine Ub (fun M s=> ∃(o:List Int) (k:Int),s=(ofG 220 (kE o [(10,.i P),(13,.i k)]),(kA o e f g))/\qw P M o k=some e3) ?_ (m:=N) ⟨_,_,rfl,g18⟩
   rintro M s ⟨o,k,rfl,g18⟩
   cases M with
   |zero=>simp only[qw]at g18;cases g18
   |succ M=>
    rw[qw]at g18
    refine sq ?_
    refine sh fol (kE o [(10,.i P),(13,.i k),(58,.bool (decide (k<(w64 (P-1)))))]) ?_
    refine ihD g18 (fun c19 g18=>?_) (fun c19 g18=>?_)
    ·refine Goes.skip ?_
     refine sq (Goes.block ?_)
     obtain⟨c0,L,g18⟩:=bnd g18
     obtain⟨c1,F,g18⟩:=bnd g18
     obtain⟨c3,V,g18⟩:=bnd g18
     obtain⟨x23,c4,g18⟩:=bnd g18
     obtain⟨H,W,g18⟩:=bnd g18
     refine gq fol [8,9,12,13,14,15,16,17] (kE o [(10,.i P),(13,.i k)]) (kA H e f g) (ac (hs (.done (.opt (qd ZT 22 (.gslice 0 o.length 1) (.i (w64 (k+1))))) (.ptr 0 ((w64 (k+1):Int).toNat*1+0))) (zY zq L)) (ac (hs (.run [0] (zG ZT 3 (.ptr 0 ((w64 (k+1):Int).toNat*1+0))) (kA o e f g) (.i c0) (kA o e f g) false) (yu ce3 (E:=encI) (l:=o) rfl rfl L (nl rfl) rfl)) (ac (hs (.done (.opt (qd ZT 22 (.gslice 0 o.length 1) (.i k))) (.ptr 0 ((k:Int).toNat*1+0))) (zY zq F)) (ac (hs (.run [0] (zG ZT 3 (.ptr 0 ((k:Int).toNat*1+0))) (kA o e f g) (.i c1) (kA o e f g) false) (yu ce3 (E:=encI) (l:=o) rfl rfl F (nl rfl) rfl)) (ac (hs (.done (.opt (qd ZT 22 (.gslice 0 o.length 1) (.i k))) (.ptr 0 ((k:Int).toNat*1+0))) (zY zq F)) (ac (hs (.run [0] (jQ ZT 3 (.ptr 0 ((k:Int).toNat*1+0)) (.i c0)) (kA o e f g) .undef (kA c3 e f g) true) (xe (E:=encI) (l:=o) (y:=c0) rfl (show _=some 1 by kernel_rfl) rfl F rfl rfl rfl rfl rfl V rfl)) (ac (hs (.done (.opt (qd ZT 22 (.gslice 0 o.length 1) (.i (w64 (k+1))))) (.ptr 0 ((w64 (k+1):Int).toNat*1+0))) (zY zq L)) (ac (hs (.run [0] (jQ ZT 3 (.ptr 0 ((w64 (k+1):Int).toNat*1+0)) (.i c1)) (kA c3 e f g) .undef (kA H e f g) true) (xe (E:=encI) (l:=c3) (y:=c1) rfl (show _=some 1 by kernel_rfl) rfl c4 rfl rfl rfl rfl rfl W rfl)) az)))))))) ?_
     refine Goes.sub (show Sub (ofG 220 (kE o [(10,.i P),(13,.i k)]),(kA H e f g)) (ofG 220 (kE H [(10,.i P),(13,.i k)]),(kA H e f g))from(Sub.norm [] [some 0,some 1,some 2,some 3] (by rw[hB];rfl) rfl (.keep (.gsliceE rfl ((vo V).trans (vo W))) (.keep (.same nI) (.keep (.same nI) .nil))) (.ks (.kb rfl (.same sn) (.kb rfl (.same sn) (.kb rfl (.same sn) .nil)))))) ?_
     refine gh fol (kE H [(10,.i P),(13,.i (w64 (k+1)))]) ?_
     exact⟨M,(ofG 220 (kE H [(10,.i P),(13,.i (w64 (k+1)))]),(kA H e f g)),Nat.lt_succ_self _,(Sub.refl _),_,_,rfl,g18⟩
    refine Goes.exit ?_
    obtain rfl:=si g18
    exact⟨rfl,_,rfl,(Sub.keep [] rfl rfl)⟩
  rintro x s' ⟨rfl,b9,rfl,hsub⟩
  refine Goes.sub hsub ?_
  refine Goes.ret ?_
  obtain rfl:=si h
  exact⟨_,Sub.refl _,(gh2 [] (yM.refl _ _))⟩
 refine Goes.skip ?_
 refine sq ?_
 refine sh fol (kB d a (kJ c b [(4,.func (.func 39) [] [.ptr 1 0,.ptr 2 0,.ptr 3 0]),(80,.bool (decide ((w64 (b-c))=1)))])) ?_
 refine ihD h (fun c25 h=>?_) (fun c25 h=>?_)
 ·refine sh fol (kE d [(2,.i c),(4,.func (.func 39) [] [.ptr 1 0,.ptr 2 0,.ptr 3 0]),(14,.i a)]) ?_
  refine sh fol (kE d [(2,.i c),(4,.func (.func 39) [] [.ptr 1 0,.ptr 2 0,.ptr 3 0]),(14,.i a),(15,.i c)]) ?_
  refine sq (Goes.block ?_)
  obtain⟨e4,g29,h⟩:=bnd h
  refine Goes.imp (Q:=fun x s'=>(x= .exit 4/\ ∃v,v=e4/\Sub s' (ofG 220 (kE d [(2,.i c),(14,.i v)]),(kA d e f g)))) ?_ ?_
  ·refine Ub (fun M s=> ∃(t:Int) (u:Int),s=(ofG 220 (kE d [(2,.i c),(4,.func (.func 39) [] [.ptr 1 0,.ptr 2 0,.ptr 3 0]),(14,.i t),(15,.i u)]),(kA d e f g))/\qh d c e f g M t u=some e4) ?_ (m:=N) ⟨_,_,rfl,g29⟩
   rintro M s ⟨t,u,rfl,g29⟩
   cases M with
   |zero=>simp only[qh]at g29;cases g29
   |succ M=>
    rw[qh]at g29
    refine sq ?_
    refine sh fol (kE d [(2,.i c),(4,.func (.func 39) [] [.ptr 1 0,.ptr 2 0,.ptr 3 0]),(14,.i t),(15,.i u),(85,.bool (decide (t<u)))]) ?_
    refine ihD g29 (fun c30 g29=>?_) (fun c30 g29=>?_)
    ·refine Goes.skip ?_
     obtain⟨r33,g33,g29⟩:=bnd g29
     refine Goes.imp (Q:=fun x s'=>(x= .normal/\ ∃a7 a8,(a7,a8)=r33/\Sub s' (ofG 220 (kE d [(2,.i c),(4,.func (.func 39) [] [.ptr 1 0,.ptr 2 0,.ptr 3 0]),(14,.i a7),(15,.i a8)]),(kA d e f g)))) ?_ ?_
     ·refine Goes.block ?_
      refine sh fol (kE d [(2,.i c),(4,.func (.func 39) [] [.ptr 1 0,.ptr 2 0,.ptr 3 0]),(14,.i t),(15,.i u),(16,.i (w64 (qj .u64 (IntKind.wrap .u64 (w64 (t+u))) 1)))]) ?_
      obtain⟨a9,X,g33⟩:=bnd g33
      obtain⟨b0,Y,g33⟩:=bnd g33
      obtain⟨e5,c5,g33⟩:=bnd g33
      refine sq (gr fol [3,4,7,8,9] (kE d [(2,.i c),(4,.func (.func 39) [] [.ptr 1 0,.ptr 2 0,.ptr 3 0]),(14,.i t),(15,.i u),(16,.i (w64 (qj .u64 (IntKind.wrap .u64 (w64 (t+u))) 1))),(103,.bool (!(decide (e5<0))))]) (ac (hs (.done (.opt (qd ZT 22 (.gslice 0 d.length 1) (.i c))) (.ptr 0 ((c:Int).toNat*1+0))) (zY zq X)) (ac (hs (.run [0] (zG ZT 3 (.ptr 0 ((c:Int).toNat*1+0))) (kA d e f g) (.i a9) (kA d e f g) false) (yu ce3 (E:=encI) (l:=d) rfl rfl X (nl rfl) rfl)) (ac (hs (.done (.opt (qd ZT 22 (.gslice 0 d.length 1) (.i (w64 (qj .u64 (IntKind.wrap .u64 (w64 (t+u))) 1))))) (.ptr 0 ((w64 (qj .u64 (IntKind.wrap .u64 (w64 (t+u))) 1):Int).toNat*1+0))) (zY zq Y)) (ac (hs (.run [0] (zG ZT 3 (.ptr 0 ((w64 (qj .u64 (IntKind.wrap .u64 (w64 (t+u))) 1):Int).toNat*1+0))) (kA d e f g) (.i b0) (kA d e f g) false) (yu ce3 (E:=encI) (l:=d) rfl rfl Y (nl rfl) rfl)) (ac (hs (.call 39 (.i a9:: .i b0::kAB) (kA d e f g) [1,2,3] [.i a9,.i b0,.fptr [.i e] 0,.fptr [vl encI f] 0,.fptr [.i g] 0] (.i e5)) (yA (FzL.cons (Uc tI) (FzL.cons (Uc tI) (FzL.cons (Fz.ptr rfl rfl (FzL.cons (Uc tI) FzL.nil)) (FzL.cons (Fz.ptr rfl rfl (FzL.cons (Uc (jB encI _ (nl rfl))) FzL.nil)) (FzL.cons (Fz.ptr rfl rfl (FzL.cons (Uc tI) FzL.nil)) FzL.nil))))) (z8 a9 b0 e f g c5) tI rfl)) az))))) ?_)
      refine ihB g33 (fun c37 g33=>?_) (fun c37 g33=>?_)
      ·refine gh fol (kE d [(2,.i c),(4,.func (.func 39) [] [.ptr 1 0,.ptr 2 0,.ptr 3 0]),(14,.i (w64 ((w64 (qj .u64 (IntKind.wrap .u64 (w64 (t+u))) 1))+1))),(15,.i u)]) ?_
       obtain rfl:=si g33
       exact⟨rfl,_,_,rfl,(Sub.refl _)⟩
      refine gh fol (kE d [(2,.i c),(4,.func (.func 39) [] [.ptr 1 0,.ptr 2 0,.ptr 3 0]),(14,.i t),(15,.i (w64 (qj .u64 (IntKind.wrap .u64 (w64 (t+u))) 1)))]) ?_
      obtain rfl:=si g33
      exact⟨rfl,_,_,rfl,(Sub.refl _)⟩
     rintro x s' ⟨rfl,a7,a8,rfl,hsub⟩
     try dsimp only at g29
     exact⟨M,(ofG 220 (kE d [(2,.i c),(4,.func (.func 39) [] [.ptr 1 0,.ptr 2 0,.ptr 3 0]),(14,.i a7),(15,.i a8)]),(kA d e f g)),Nat.lt_succ_self _,(hsub.trans (Sub.refl _)),_,_,rfl,g29⟩
    refine Goes.exit ?_
    obtain rfl:=si g29
    exact⟨rfl,_,rfl,(Sub.keep [0,2,14] rfl rfl)⟩
  rintro x s' ⟨rfl,v,rfl,hsub⟩
  refine Goes.sub hsub ?_
  refine sq ?_
  refine sh fol (kE d [(14,.i v),(17,.i c)]) ?_
  refine Goes.block ?_
  obtain⟨e6,g41,h⟩:=bnd h
  refine Goes.imp (Q:=fun x s'=>(x= .exit 6/\ ∃c6,c6=e6/\Sub s' (ofG 220 [],(kA c6 e f g)))) ?_ ?_
  ·refine Ub (fun M s=> ∃(p:List Int) (n:Int),s=(ofG 220 (kE p [(14,.i v),(17,.i n)]),(kA p e f g))/\qx v M p n=some e6) ?_ (m:=N) ⟨_,_,rfl,g41⟩
   rintro M s ⟨p,n,rfl,g41⟩
   cases M with
   |zero=>simp only[qx]at g41;cases g41
   |succ M=>
    rw[qx]at g41
    refine sq ?_
    refine sh fol (kE p [(14,.i v),(17,.i n),(110,.bool (decide (n>v)))]) ?_
    refine ihD g41 (fun c42 g41=>?_) (fun c42 g41=>?_)
    ·refine Goes.skip ?_
     refine sq (Goes.block ?_)
     obtain⟨c8,O,g41⟩:=bnd g41
     obtain⟨c9,G,g41⟩:=bnd g41
     obtain⟨d0,Z,g41⟩:=bnd g41
     obtain⟨x46,d1,g41⟩:=bnd g41
     obtain⟨I,a0,g41⟩:=bnd g41
     refine gq fol [8,9,12,13,14,15,16,17] (kE p [(14,.i v),(17,.i n)]) (kA I e f g) (ac (hs (.done (.opt (qd ZT 22 (.gslice 0 p.length 1) (.i (w64 (n-1))))) (.ptr 0 ((w64 (n-1):Int).toNat*1+0))) (zY zq O)) (ac (hs (.run [0] (zG ZT 3 (.ptr 0 ((w64 (n-1):Int).toNat*1+0))) (kA p e f g) (.i c8) (kA p e f g) false) (yu ce3 (E:=encI) (l:=p) rfl rfl O (nl rfl) rfl)) (ac (hs (.done (.opt (qd ZT 22 (.gslice 0 p.length 1) (.i n))) (.ptr 0 ((n:Int).toNat*1+0))) (zY zq G)) (ac (hs (.run [0] (zG ZT 3 (.ptr 0 ((n:Int).toNat*1+0))) (kA p e f g) (.i c9) (kA p e f g) false) (yu ce3 (E:=encI) (l:=p) rfl rfl G (nl rfl) rfl)) (ac (hs (.done (.opt (qd ZT 22 (.gslice 0 p.length 1) (.i n))) (.ptr 0 ((n:Int).toNat*1+0))) (zY zq G)) (ac (hs (.run [0] (jQ ZT 3 (.ptr 0 ((n:Int).toNat*1+0)) (.i c8)) (kA p e f g) .undef (kA d0 e f g) true) (xe (E:=encI) (l:=p) (y:=c8) rfl (show _=some 1 by kernel_rfl) rfl G rfl rfl rfl rfl rfl Z rfl)) (ac (hs (.done (.opt (qd ZT 22 (.gslice 0 p.length 1) (.i (w64 (n-1))))) (.ptr 0 ((w64 (n-1):Int).toNat*1+0))) (zY zq O)) (ac (hs (.run [0] (jQ ZT 3 (.ptr 0 ((w64 (n-1):Int).toNat*1+0)) (.i c9)) (kA d0 e f g) .undef (kA I e f g) true) (xe (E:=encI) (l:=d0) (y:=c9) rfl (show _=some 1 by kernel_rfl) rfl d1 rfl rfl rfl rfl rfl a0 rfl)) az)))))))) ?_
     refine Goes.sub (show Sub (ofG 220 (kE p [(14,.i v),(17,.i n)]),(kA I e f g)) (ofG 220 (kE I [(14,.i v),(17,.i n)]),(kA I e f g))from(Sub.norm [] [some 0,some 1,some 2,some 3] (by rw[hB];rfl) rfl (.keep (.gsliceE rfl ((vo Z).trans (vo a0))) (.keep (.same nI) (.keep (.same nI) .nil))) (.ks (.kb rfl (.same sn) (.kb rfl (.same sn) (.kb rfl (.same sn) .nil)))))) ?_
     refine gh fol (kE I [(14,.i v),(17,.i (w64 (n-1)))]) ?_
     exact⟨M,(ofG 220 (kE I [(14,.i v),(17,.i (w64 (n-1)))]),(kA I e f g)),Nat.lt_succ_self _,(Sub.refl _),_,_,rfl,g41⟩
    refine Goes.exit ?_
    obtain rfl:=si g41
    exact⟨rfl,_,rfl,(Sub.keep [] rfl rfl)⟩
  rintro x s' ⟨rfl,c6,rfl,hsub⟩
  refine Goes.sub hsub ?_
  refine Goes.ret ?_
  obtain rfl:=si h
  exact⟨_,Sub.refl _,(gh2 [] (yM.refl _ _))⟩
 refine Goes.skip ?_
 refine sh fol (kB d a (kJ c b [(4,.func (.func 39) [] [.ptr 1 0,.ptr 2 0,.ptr 3 0]),(18,.i (w64 (qj .u64 (IntKind.wrap .u64 (w64 (a+b))) 1)))])) ?_
 refine sh fol (kB d a (kJ c b [(4,.func (.func 39) [] [.ptr 1 0,.ptr 2 0,.ptr 3 0]),(18,.i (w64 (qj .u64 (IntKind.wrap .u64 (w64 (a+b))) 1))),(19,.i (w64 ((w64 (qj .u64 (IntKind.wrap .u64 (w64 (a+b))) 1))+c)))])) ?_
 refine sh fol (kB d a (kJ c b [(4,.func (.func 39) [] [.ptr 1 0,.ptr 2 0,.ptr 3 0]),(18,.i (w64 (qj .u64 (IntKind.wrap .u64 (w64 (a+b))) 1))),(19,.i (w64 ((w64 (qj .u64 (IntKind.wrap .u64 (w64 (a+b))) 1))+c)))])) ?_
 refine sq ?_
 refine sh fol (kB d a (kJ c b [(4,.func (.func 39) [] [.ptr 1 0,.ptr 2 0,.ptr 3 0]),(18,.i (w64 (qj .u64 (IntKind.wrap .u64 (w64 (a+b))) 1))),(19,.i (w64 ((w64 (qj .u64 (IntKind.wrap .u64 (w64 (a+b))) 1))+c))),(140,.bool (decide (c>(w64 (qj .u64 (IntKind.wrap .u64 (w64 (a+b))) 1)))))])) ?_
 obtain⟨r50,g50,h⟩:=bnd h
 refine Goes.imp (Q:=fun x s'=>(x= .normal/\ ∃b1 b2,(b1,b2)=r50/\Sub s' (ofG 220 (kB d a (kJ c b [(4,.func (.func 39) [] [.ptr 1 0,.ptr 2 0,.ptr 3 0]),(18,.i (w64 (qj .u64 (IntKind.wrap .u64 (w64 (a+b))) 1))),(19,.i (w64 ((w64 (qj .u64 (IntKind.wrap .u64 (w64 (a+b))) 1))+c))),(20,.i b1),(21,.i b2)])),(kA d e f g)))) ?_ ?_
 ·refine ihD g50 (fun c51 g50=>?_) (fun c51 g50=>?_)
  ·refine sh fol (kB d a (kJ c b [(4,.func (.func 39) [] [.ptr 1 0,.ptr 2 0,.ptr 3 0]),(18,.i (w64 (qj .u64 (IntKind.wrap .u64 (w64 (a+b))) 1))),(19,.i (w64 ((w64 (qj .u64 (IntKind.wrap .u64 (w64 (a+b))) 1))+c))),(20,.i (w64 ((w64 ((w64 (qj .u64 (IntKind.wrap .u64 (w64 (a+b))) 1))+c))-b)))])) ?_
   refine gh fol (kB d a (kJ c b [(4,.func (.func 39) [] [.ptr 1 0,.ptr 2 0,.ptr 3 0]),(18,.i (w64 (qj .u64 (IntKind.wrap .u64 (w64 (a+b))) 1))),(19,.i (w64 ((w64 (qj .u64 (IntKind.wrap .u64 (w64 (a+b))) 1))+c))),(20,.i (w64 ((w64 ((w64 (qj .u64 (IntKind.wrap .u64 (w64 (a+b))) 1))+c))-b))),(21,.i (w64 (qj .u64 (IntKind.wrap .u64 (w64 (a+b))) 1)))])) ?_
   obtain rfl:=si g50
   exact⟨rfl,_,_,rfl,(Sub.refl _)⟩
  refine sh fol (kB d a (kJ c b [(4,.func (.func 39) [] [.ptr 1 0,.ptr 2 0,.ptr 3 0]),(18,.i (w64 (qj .u64 (IntKind.wrap .u64 (w64 (a+b))) 1))),(19,.i (w64 ((w64 (qj .u64 (IntKind.wrap .u64 (w64 (a+b))) 1))+c))),(20,.i a)])) ?_
  refine gh fol (kB d a (kJ c b [(4,.func (.func 39) [] [.ptr 1 0,.ptr 2 0,.ptr 3 0]),(18,.i (w64 (qj .u64 (IntKind.wrap .u64 (w64 (a+b))) 1))),(19,.i (w64 ((w64 (qj .u64 (IntKind.wrap .u64 (w64 (a+b))) 1))+c))),(20,.i a),(21,.i c)])) ?_
  obtain rfl:=si g50
  exact⟨rfl,_,_,rfl,(Sub.refl _)⟩
 rintro x s' ⟨rfl,b1,b2,rfl,hsub⟩
 try dsimp only at h
 refine Goes.sub hsub ?_
 refine sh fol (kB d a (kJ c b ((4,.func (.func 39) [] [.ptr 1 0,.ptr 2 0,.ptr 3 0])::(kM (w64 (qj .u64 (IntKind.wrap .u64 (w64 (a+b))) 1)) (w64 ((w64 (qj .u64 (IntKind.wrap .u64 (w64 (a+b))) 1))+c)) b1 b2 (w64 ((w64 ((w64 (qj .u64 (IntKind.wrap .u64 (w64 (a+b))) 1))+c))-1)) [])))) ?_
 refine sq (Goes.block ?_)
 obtain⟨e7,g55,h⟩:=bnd h
 refine Goes.imp (Q:=fun x s'=>(x= .exit 8/\ ∃j,j=e7/\Sub s' (ofG 220 (kB d a (kJ c b [(4,.func (.func 39) [] [.ptr 1 0,.ptr 2 0,.ptr 3 0]),(18,.i (w64 (qj .u64 (IntKind.wrap .u64 (w64 (a+b))) 1))),(19,.i (w64 ((w64 (qj .u64 (IntKind.wrap .u64 (w64 (a+b))) 1))+c))),(20,.i j)])),(kA d e f g)))) ?_ ?_
 ·refine Ub (fun M s=> ∃(q:Int) (r:Int),s=(ofG 220 (kB d a (kJ c b ((4,.func (.func 39) [] [.ptr 1 0,.ptr 2 0,.ptr 3 0])::(kM (w64 (qj .u64 (IntKind.wrap .u64 (w64 (a+b))) 1)) (w64 ((w64 (qj .u64 (IntKind.wrap .u64 (w64 (a+b))) 1))+c)) q r (w64 ((w64 ((w64 (qj .u64 (IntKind.wrap .u64 (w64 (a+b))) 1))+c))-1)) [])))),(kA d e f g))/\qg d a c b e f g M q r=some e7) ?_ (m:=N) ⟨_,_,rfl,g55⟩
  rintro M s ⟨q,r,rfl,g55⟩
  cases M with
  |zero=>simp only[qg]at g55;cases g55
  |succ M=>
   rw[qg]at g55
   refine sq ?_
   refine sh fol (kB d a (kJ c b ((4,.func (.func 39) [] [.ptr 1 0,.ptr 2 0,.ptr 3 0])::(kM (w64 (qj .u64 (IntKind.wrap .u64 (w64 (a+b))) 1)) (w64 ((w64 (qj .u64 (IntKind.wrap .u64 (w64 (a+b))) 1))+c)) q r (w64 ((w64 ((w64 (qj .u64 (IntKind.wrap .u64 (w64 (a+b))) 1))+c))-1)) [(151,.bool (decide (q<r)))])))) ?_
   refine ihD g55 (fun c56 g55=>?_) (fun c56 g55=>?_)
   ·refine Goes.skip ?_
    obtain⟨r59,g59,g55⟩:=bnd g55
    refine Goes.imp (Q:=fun x s'=>(x= .normal/\ ∃b3 b4,(b3,b4)=r59/\Sub s' (ofG 220 (kB d a (kJ c b ((4,.func (.func 39) [] [.ptr 1 0,.ptr 2 0,.ptr 3 0])::(kM (w64 (qj .u64 (IntKind.wrap .u64 (w64 (a+b))) 1)) (w64 ((w64 (qj .u64 (IntKind.wrap .u64 (w64 (a+b))) 1))+c)) b3 b4 (w64 ((w64 ((w64 (qj .u64 (IntKind.wrap .u64 (w64 (a+b))) 1))+c))-1)) [])))),(kA d e f g)))) ?_ ?_
    ·refine Goes.block ?_
     refine sh fol (kB d a (kJ c b ((4,.func (.func 39) [] [.ptr 1 0,.ptr 2 0,.ptr 3 0])::(kM (w64 (qj .u64 (IntKind.wrap .u64 (w64 (a+b))) 1)) (w64 ((w64 (qj .u64 (IntKind.wrap .u64 (w64 (a+b))) 1))+c)) q r (w64 ((w64 ((w64 (qj .u64 (IntKind.wrap .u64 (w64 (a+b))) 1))+c))-1)) [(23,.i (w64 (qj .u64 (IntKind.wrap .u64 (w64 (q+r))) 1)))])))) ?_
     obtain⟨b5,a1,g59⟩:=bnd g59
     obtain⟨b6,a2,g59⟩:=bnd g59
     obtain⟨e8,d2,g59⟩:=bnd g59
     refine sq (gr fol [5,6,9,10,11] (kB d a (kJ c b ((4,.func (.func 39) [] [.ptr 1 0,.ptr 2 0,.ptr 3 0])::(kM (w64 (qj .u64 (IntKind.wrap .u64 (w64 (a+b))) 1)) (w64 ((w64 (qj .u64 (IntKind.wrap .u64 (w64 (a+b))) 1))+c)) q r (w64 ((w64 ((w64 (qj .u64 (IntKind.wrap .u64 (w64 (a+b))) 1))+c))-1)) [(23,.i (w64 (qj .u64 (IntKind.wrap .u64 (w64 (q+r))) 1))),(171,.bool (!(decide (e8<0))))])))) (ac (hs (.done (.opt (qd ZT 22 (.gslice 0 d.length 1) (.i (w64 ((w64 ((w64 ((w64 (qj .u64 (IntKind.wrap .u64 (w64 (a+b))) 1))+c))-1))-(w64 (qj .u64 (IntKind.wrap .u64 (w64 (q+r))) 1))))))) (.ptr 0 ((w64 ((w64 ((w64 ((w64 (qj .u64 (IntKind.wrap .u64 (w64 (a+b))) 1))+c))-1))-(w64 (qj .u64 (IntKind.wrap .u64 (w64 (q+r))) 1))):Int).toNat*1+0))) (zY zq a1)) (ac (hs (.run [0] (zG ZT 3 (.ptr 0 ((w64 ((w64 ((w64 ((w64 (qj .u64 (IntKind.wrap .u64 (w64 (a+b))) 1))+c))-1))-(w64 (qj .u64 (IntKind.wrap .u64 (w64 (q+r))) 1))):Int).toNat*1+0))) (kA d e f g) (.i b5) (kA d e f g) false) (yu ce3 (E:=encI) (l:=d) rfl rfl a1 (nl rfl) rfl)) (ac (hs (.done (.opt (qd ZT 22 (.gslice 0 d.length 1) (.i (w64 (qj .u64 (IntKind.wrap .u64 (w64 (q+r))) 1))))) (.ptr 0 ((w64 (qj .u64 (IntKind.wrap .u64 (w64 (q+r))) 1):Int).toNat*1+0))) (zY zq a2)) (ac (hs (.run [0] (zG ZT 3 (.ptr 0 ((w64 (qj .u64 (IntKind.wrap .u64 (w64 (q+r))) 1):Int).toNat*1+0))) (kA d e f g) (.i b6) (kA d e f g) false) (yu ce3 (E:=encI) (l:=d) rfl rfl a2 (nl rfl) rfl)) (ac (hs (.call 39 (.i b5:: .i b6::kAB) (kA d e f g) [1,2,3] [.i b5,.i b6,.fptr [.i e] 0,.fptr [vl encI f] 0,.fptr [.i g] 0] (.i e8)) (yA (FzL.cons (Uc tI) (FzL.cons (Uc tI) (FzL.cons (Fz.ptr rfl rfl (FzL.cons (Uc tI) FzL.nil)) (FzL.cons (Fz.ptr rfl rfl (FzL.cons (Uc (jB encI _ (nl rfl))) FzL.nil)) (FzL.cons (Fz.ptr rfl rfl (FzL.cons (Uc tI) FzL.nil)) FzL.nil))))) (z8 b5 b6 e f g d2) tI rfl)) az))))) ?_)
     refine ihB g59 (fun c63 g59=>?_) (fun c63 g59=>?_)
     ·refine gh fol (kB d a (kJ c b ((4,.func (.func 39) [] [.ptr 1 0,.ptr 2 0,.ptr 3 0])::(kM (w64 (qj .u64 (IntKind.wrap .u64 (w64 (a+b))) 1)) (w64 ((w64 (qj .u64 (IntKind.wrap .u64 (w64 (a+b))) 1))+c)) (w64 ((w64 (qj .u64 (IntKind.wrap .u64 (w64 (q+r))) 1))+1)) r (w64 ((w64 ((w64 (qj .u64 (IntKind.wrap .u64 (w64 (a+b))) 1))+c))-1)) [])))) ?_
      obtain rfl:=si g59
      exact⟨rfl,_,_,rfl,(Sub.refl _)⟩
     refine gh fol (kB d a (kJ c b ((4,.func (.func 39) [] [.ptr 1 0,.ptr 2 0,.ptr 3 0])::(kM (w64 (qj .u64 (IntKind.wrap .u64 (w64 (a+b))) 1)) (w64 ((w64 (qj .u64 (IntKind.wrap .u64 (w64 (a+b))) 1))+c)) q (w64 (qj .u64 (IntKind.wrap .u64 (w64 (q+r))) 1)) (w64 ((w64 ((w64 (qj .u64 (IntKind.wrap .u64 (w64 (a+b))) 1))+c))-1)) [])))) ?_
     obtain rfl:=si g59
     exact⟨rfl,_,_,rfl,(Sub.refl _)⟩
    rintro x s' ⟨rfl,b3,b4,rfl,hsub⟩
    try dsimp only at g55
    exact⟨M,(ofG 220 (kB d a (kJ c b ((4,.func (.func 39) [] [.ptr 1 0,.ptr 2 0,.ptr 3 0])::(kM (w64 (qj .u64 (IntKind.wrap .u64 (w64 (a+b))) 1)) (w64 ((w64 (qj .u64 (IntKind.wrap .u64 (w64 (a+b))) 1))+c)) b3 b4 (w64 ((w64 ((w64 (qj .u64 (IntKind.wrap .u64 (w64 (a+b))) 1))+c))-1)) [])))),(kA d e f g)),Nat.lt_succ_self _,(hsub.trans (Sub.refl _)),_,_,rfl,g55⟩
   refine Goes.exit ?_
   obtain rfl:=si g55
   exact⟨rfl,_,rfl,(Sub.keep [0,1,2,3,4,18,19,20] rfl rfl)⟩
 rintro x s' ⟨rfl,j,rfl,hsub⟩
 refine Goes.sub hsub ?_
 refine sh fol (kB d a (kJ c b ((4,.func (.func 39) [] [.ptr 1 0,.ptr 2 0,.ptr 3 0])::(kS (w64 (qj .u64 (IntKind.wrap .u64 (w64 (a+b))) 1)) j (w64 ((w64 ((w64 (qj .u64 (IntKind.wrap .u64 (w64 (a+b))) 1))+c))-j)) [])))) ?_
 refine sq ?_
 refine sq ?_
 obtain⟨b65,z,h⟩:=bnd h
 refine Goes.cut (s':=(ofG 220 (kB d a (kJ c b ((4,.func (.func 39) [] [.ptr 1 0,.ptr 2 0,.ptr 3 0])::(kS (w64 (qj .u64 (IntKind.wrap .u64 (w64 (a+b))) 1)) j (w64 ((w64 ((w64 (qj .u64 (IntKind.wrap .u64 (w64 (a+b))) 1))+c))-j)) [(185,.bool b65)])))),(kA d e f g))) ?_ ?_
 ·rcases wyD z with⟨d3,z⟩|⟨d3,z⟩
  ·obtain rfl:=si z
   exact tr fol [3] (kB d a (kJ c b ((4,.func (.func 39) [] [.ptr 1 0,.ptr 2 0,.ptr 3 0])::(kS (w64 (qj .u64 (IntKind.wrap .u64 (w64 (a+b))) 1)) j (w64 ((w64 ((w64 (qj .u64 (IntKind.wrap .u64 (w64 (a+b))) 1))+c))-j)) [(185,.bool (decide (c<(w64 ((w64 ((w64 (qj .u64 (IntKind.wrap .u64 (w64 (a+b))) 1))+c))-j)))))])))) (ac (gw d3) az)
  obtain rfl:=si z
  exact tr fol [3] (kB d a (kJ c b ((4,.func (.func 39) [] [.ptr 1 0,.ptr 2 0,.ptr 3 0])::(kS (w64 (qj .u64 (IntKind.wrap .u64 (w64 (a+b))) 1)) j (w64 ((w64 ((w64 (qj .u64 (IntKind.wrap .u64 (w64 (a+b))) 1))+c))-j)) [(185,.bool false)])))) (ac (gw d3) az)
 obtain⟨r68,g68,h⟩:=bnd h
 refine Goes.imp (Q:=fun x s'=>(x= .normal/\ ∃w,w=r68/\Sub s' (ofG 220 (kB w a ((3,.i b)::(4,.func (.func 39) [] [.ptr 1 0,.ptr 2 0,.ptr 3 0])::(kS (w64 (qj .u64 (IntKind.wrap .u64 (w64 (a+b))) 1)) j (w64 ((w64 ((w64 (qj .u64 (IntKind.wrap .u64 (w64 (a+b))) 1))+c))-j)) []))),(kA w e f g)))) ?_ ?_
 ·refine ihB g68 (fun c69 g68=>?_) (fun c69 g68=>?_)
  ·obtain⟨a3,d4,g68⟩:=bnd g68
   obtain⟨u72,d5,g68⟩:=bnd g68
   refine gq fol [5] (kB d a ((3,.i b)::(4,.func (.func 39) [] [.ptr 1 0,.ptr 2 0,.ptr 3 0])::(kS (w64 (qj .u64 (IntKind.wrap .u64 (w64 (a+b))) 1)) j (w64 ((w64 ((w64 (qj .u64 (IntKind.wrap .u64 (w64 (a+b))) 1))+c))-j)) []))) (kA a3 e f g) (ac (hs (.callH 150 (kL d j c [.i (w64 ((w64 ((w64 (qj .u64 (IntKind.wrap .u64 (w64 (a+b))) 1))+c))-j)),.func (.func 39) [] [.ptr 1 0,.ptr 2 0,.ptr 3 0]]) (kA d e f g) [0,1,2,3] (.tuple []) (kA a3 e f g)) (j3 [some 0,some 1,some 2,some 3] [some 0,some 1,some 2,some 3] (vI N d j c (w64 ((w64 ((w64 (qj .u64 (IntKind.wrap .u64 (w64 (a+b))) 1))+c))-j)) e f g d4) (.ks (.kb rfl (.cells (rc (.same nI) rn)) (.kb rfl (.cells (rc (.same (qy encI _)) rn)) (.kb rfl (.cells (rc (.same nI) rn)) .nil)))) rfl rfl (.back rfl rfl (.same fa) rfl (.back rfl rfl (.cells (rc (.same nI) rn)) rfl (.back rfl rfl (.cells (rc (.same (qy encI _)) rn)) rfl (.back rfl rfl (.cells (rc (.same nI) rn)) rfl .nil)))) (rc (.gslice rfl) (rc (.same nI) (rc (.same nI) (rc (.same nI) (rc (.funcL (sn) (rc (.ptr rfl) (rc (.ptr rfl) (rc (.ptr rfl) rn)))) rn))))) (.same (qo.tuple sn)) rfl)) az) ?_
   obtain rfl:=si g68
   exact⟨rfl,_,rfl,((show Sub (ofG 220 (kB d a ((3,.i b)::(4,.func (.func 39) [] [.ptr 1 0,.ptr 2 0,.ptr 3 0])::(kS (w64 (qj .u64 (IntKind.wrap .u64 (w64 (a+b))) 1)) j (w64 ((w64 ((w64 (qj .u64 (IntKind.wrap .u64 (w64 (a+b))) 1))+c))-j)) []))),(kA a3 e f g)) (ofG 220 (kB a3 a ((3,.i b)::(4,.func (.func 39) [] [.ptr 1 0,.ptr 2 0,.ptr 3 0])::(kS (w64 (qj .u64 (IntKind.wrap .u64 (w64 (a+b))) 1)) j (w64 ((w64 ((w64 (qj .u64 (IntKind.wrap .u64 (w64 (a+b))) 1))+c))-j)) []))),(kA a3 e f g))from(Sub.norm [] [some 0,some 1,some 2,some 3] (by rw[hB];rfl) rfl (.keep (.gsliceE rfl (vU d5)) (.keep (.same nI) (.keep (.same nI) (.keep (.funcL (sn) (rc (.ptr rfl) (rc (.ptr rfl) (rc (.ptr rfl) rn)))) (.keep (.same nI) (.keep (.same nI) (.keep (.same nI) .nil))))))) (.ks (.kb rfl (.same sn) (.kb rfl (.same sn) (.kb rfl (.same sn) .nil)))))).trans (Sub.refl _))⟩
  refine Goes.skip ?_
  obtain rfl:=si g68
  exact⟨rfl,_,rfl,(Sub.keep [0,1,3,4,18,20,24] rfl rfl)⟩
 rintro x s' ⟨rfl,w,rfl,hsub⟩
 refine Goes.sub hsub ?_
 refine sq ?_
 refine sq ?_
 obtain⟨b74,A,h⟩:=bnd h
 refine Goes.cut (s':=(ofG 220 (kB w a ((3,.i b)::(4,.func (.func 39) [] [.ptr 1 0,.ptr 2 0,.ptr 3 0])::(kS (w64 (qj .u64 (IntKind.wrap .u64 (w64 (a+b))) 1)) j (w64 ((w64 ((w64 (qj .u64 (IntKind.wrap .u64 (w64 (a+b))) 1))+c))-j)) [(199,.bool b74)]))),(kA w e f g))) ?_ ?_
 ·rcases wyD A with⟨d6,A⟩|⟨d6,A⟩
  ·obtain rfl:=si A
   exact tr fol [3] (kB w a ((3,.i b)::(4,.func (.func 39) [] [.ptr 1 0,.ptr 2 0,.ptr 3 0])::(kS (w64 (qj .u64 (IntKind.wrap .u64 (w64 (a+b))) 1)) j (w64 ((w64 ((w64 (qj .u64 (IntKind.wrap .u64 (w64 (a+b))) 1))+c))-j)) [(199,.bool (decide (j<(w64 (qj .u64 (IntKind.wrap .u64 (w64 (a+b))) 1)))))]))) (ac (gw d6) az)
  obtain rfl:=si A
  exact tr fol [3] (kB w a ((3,.i b)::(4,.func (.func 39) [] [.ptr 1 0,.ptr 2 0,.ptr 3 0])::(kS (w64 (qj .u64 (IntKind.wrap .u64 (w64 (a+b))) 1)) j (w64 ((w64 ((w64 (qj .u64 (IntKind.wrap .u64 (w64 (a+b))) 1))+c))-j)) [(199,.bool false)]))) (ac (gw d6) az)
 obtain⟨r77,g77,h⟩:=bnd h
 refine Goes.imp (Q:=fun x s'=>(x= .normal/\ ∃C,C=r77/\Sub s' (ofG 220 (kE C [(3,.i b),(4,.func (.func 39) [] [.ptr 1 0,.ptr 2 0,.ptr 3 0]),(18,.i (w64 (qj .u64 (IntKind.wrap .u64 (w64 (a+b))) 1))),(24,.i (w64 ((w64 ((w64 (qj .u64 (IntKind.wrap .u64 (w64 (a+b))) 1))+c))-j)))]),(kA C e f g)))) ?_ ?_
 ·refine ihB g77 (fun c78 g77=>?_) (fun c78 g77=>?_)
  ·obtain⟨a4,d7,g77⟩:=bnd g77
   obtain⟨u81,d8,g77⟩:=bnd g77
   refine gq fol [5] (kE w [(3,.i b),(4,.func (.func 39) [] [.ptr 1 0,.ptr 2 0,.ptr 3 0]),(18,.i (w64 (qj .u64 (IntKind.wrap .u64 (w64 (a+b))) 1))),(24,.i (w64 ((w64 ((w64 (qj .u64 (IntKind.wrap .u64 (w64 (a+b))) 1))+c))-j)))]) (kA a4 e f g) (ac (hs (.callH 125 (kL w a j [.i (w64 (qj .u64 (IntKind.wrap .u64 (w64 (a+b))) 1)),.func (.func 39) [] [.ptr 1 0,.ptr 2 0,.ptr 3 0]]) (kA w e f g) [0,1,2,3] (.tuple []) (kA a4 e f g)) (j3 [some 0,some 1,some 2,some 3] [some 0,some 1,some 2,some 3] (rcq_ok w a j (w64 (qj .u64 (IntKind.wrap .u64 (w64 (a+b))) 1)) e f g d7) (.ks (.kb rfl (.cells (rc (.same nI) rn)) (.kb rfl (.cells (rc (.same (qy encI _)) rn)) (.kb rfl (.cells (rc (.same nI) rn)) .nil)))) rfl rfl (.back rfl rfl (.same fa) rfl (.back rfl rfl (.cells (rc (.same nI) rn)) rfl (.back rfl rfl (.cells (rc (.same (qy encI _)) rn)) rfl (.back rfl rfl (.cells (rc (.same nI) rn)) rfl .nil)))) (rc (.gslice rfl) (rc (.same nI) (rc (.same nI) (rc (.same nI) (rc (.funcL (sn) (rc (.ptr rfl) (rc (.ptr rfl) (rc (.ptr rfl) rn)))) rn))))) (.same (qo.tuple sn)) rfl)) az) ?_
   obtain rfl:=si g77
   exact⟨rfl,_,rfl,((show Sub (ofG 220 (kE w [(3,.i b),(4,.func (.func 39) [] [.ptr 1 0,.ptr 2 0,.ptr 3 0]),(18,.i (w64 (qj .u64 (IntKind.wrap .u64 (w64 (a+b))) 1))),(24,.i (w64 ((w64 ((w64 (qj .u64 (IntKind.wrap .u64 (w64 (a+b))) 1))+c))-j)))]),(kA a4 e f g)) (ofG 220 (kE a4 [(3,.i b),(4,.func (.func 39) [] [.ptr 1 0,.ptr 2 0,.ptr 3 0]),(18,.i (w64 (qj .u64 (IntKind.wrap .u64 (w64 (a+b))) 1))),(24,.i (w64 ((w64 ((w64 (qj .u64 (IntKind.wrap .u64 (w64 (a+b))) 1))+c))-j)))]),(kA a4 e f g))from(Sub.norm [] [some 0,some 1,some 2,some 3] (by rw[hB];rfl) rfl (.keep (.gsliceE rfl (vU d8)) (.keep (.same nI) (.keep (.funcL (sn) (rc (.ptr rfl) (rc (.ptr rfl) (rc (.ptr rfl) rn)))) (.keep (.same nI) (.keep (.same nI) .nil))))) (.ks (.kb rfl (.same sn) (.kb rfl (.same sn) (.kb rfl (.same sn) .nil)))))).trans (Sub.refl _))⟩
  refine Goes.skip ?_
  obtain rfl:=si g77
  exact⟨rfl,_,rfl,(Sub.keep [0,3,4,18,24] rfl rfl)⟩
 rintro x s' ⟨rfl,C,rfl,hsub⟩
 refine Goes.sub hsub ?_
 refine sq ?_
 obtain⟨b83,D,h⟩:=bnd h
 refine Goes.cut (s':=(ofG 220 (kE C [(3,.i b),(4,.func (.func 39) [] [.ptr 1 0,.ptr 2 0,.ptr 3 0]),(18,.i (w64 (qj .u64 (IntKind.wrap .u64 (w64 (a+b))) 1))),(24,.i (w64 ((w64 ((w64 (qj .u64 (IntKind.wrap .u64 (w64 (a+b))) 1))+c))-j))),(213,.bool b83)]),(kA C e f g))) ?_ ?_
 ·rcases wyD D with⟨d9,D⟩|⟨d9,D⟩
  ·obtain rfl:=si D
   exact tr fol [3] (kE C [(3,.i b),(4,.func (.func 39) [] [.ptr 1 0,.ptr 2 0,.ptr 3 0]),(18,.i (w64 (qj .u64 (IntKind.wrap .u64 (w64 (a+b))) 1))),(24,.i (w64 ((w64 ((w64 (qj .u64 (IntKind.wrap .u64 (w64 (a+b))) 1))+c))-j))),(213,.bool (decide ((w64 ((w64 ((w64 (qj .u64 (IntKind.wrap .u64 (w64 (a+b))) 1))+c))-j))<b)))]) (ac (gw d9) az)
  obtain rfl:=si D
  exact tr fol [3] (kE C [(3,.i b),(4,.func (.func 39) [] [.ptr 1 0,.ptr 2 0,.ptr 3 0]),(18,.i (w64 (qj .u64 (IntKind.wrap .u64 (w64 (a+b))) 1))),(24,.i (w64 ((w64 ((w64 (qj .u64 (IntKind.wrap .u64 (w64 (a+b))) 1))+c))-j))),(213,.bool false)]) (ac (gw d9) az)
 obtain⟨r86,g86,h⟩:=bnd h
 refine Goes.imp (Q:=fun x s'=>(x= .normal/\ ∃e0,e0=r86/\Sub s' (ofG 220 [],(kA e0 e f g)))) ?_ ?_
 ·refine ihB g86 (fun c87 g86=>?_) (fun c87 g86=>?_)
  ·obtain⟨b7,e1,g86⟩:=bnd g86
   obtain⟨u90,e_u90,g86⟩:=bnd g86
   refine gq fol [5] [] (kA b7 e f g) (ac (hs (.callH 125 (kL C (w64 (qj .u64 (IntKind.wrap .u64 (w64 (a+b))) 1)) (w64 ((w64 ((w64 (qj .u64 (IntKind.wrap .u64 (w64 (a+b))) 1))+c))-j)) [.i b,.func (.func 39) [] [.ptr 1 0,.ptr 2 0,.ptr 3 0]]) (kA C e f g) [0,1,2,3] (.tuple []) (kA b7 e f g)) (j3 [some 0,some 1,some 2,some 3] [some 0,some 1,some 2,some 3] (rcq_ok C (w64 (qj .u64 (IntKind.wrap .u64 (w64 (a+b))) 1)) (w64 ((w64 ((w64 (qj .u64 (IntKind.wrap .u64 (w64 (a+b))) 1))+c))-j)) b e f g e1) (.ks (.kb rfl (.cells (rc (.same nI) rn)) (.kb rfl (.cells (rc (.same (qy encI _)) rn)) (.kb rfl (.cells (rc (.same nI) rn)) .nil)))) rfl rfl (.back rfl rfl (.same fa) rfl (.back rfl rfl (.cells (rc (.same nI) rn)) rfl (.back rfl rfl (.cells (rc (.same (qy encI _)) rn)) rfl (.back rfl rfl (.cells (rc (.same nI) rn)) rfl .nil)))) (rc (.gslice rfl) (rc (.same nI) (rc (.same nI) (rc (.same nI) (rc (.funcL (sn) (rc (.ptr rfl) (rc (.ptr rfl) (rc (.ptr rfl) rn)))) rn))))) (.same (qo.tuple sn)) rfl)) az) ?_
   obtain rfl:=si g86
   exact⟨rfl,_,rfl,((show Sub (ofG 220 [],(kA b7 e f g)) (ofG 220 [],(kA b7 e f g))from(Sub.norm [] [some 0,some 1,some 2,some 3] (by rw[hB];rfl) rfl .nil (.ks (.kb rfl (.same sn) (.kb rfl (.same sn) (.kb rfl (.same sn) .nil)))))).trans (Sub.refl _))⟩
  refine Goes.skip ?_
  obtain rfl:=si g86
  exact⟨rfl,_,rfl,(Sub.keep [] rfl rfl)⟩
 rintro x s' ⟨rfl,e0,rfl,hsub⟩
 obtain rfl:=si h
 exact⟨_,hsub,(gh2 [] (yM.refl _ _))⟩
def qm (N:Nat):Nat->(List Int)->Int->Int->Int->Int->(List Int)->Int->Option (List Int)
 |0,_,_,_,_,_,_,_=>none
 |K+1,a,b,c,d,e,f,g=>ze N (qm N K) a b c d e f g
theorem jb (N:Nat): ∀(K:Nat) (a:List Int) (e:Int) (f:Int) (g:Int) (b:Int) (c:List Int) (d:Int) {l:List Int},qm N K a e f g b c d=some l->qb ZT (.fn 125) (kL a e f [.i g,.func (.func 39) [] [.ptr 1 0,.ptr 2 0,.ptr 3 0]]) (kA a b c d) (.tuple []) (kA l b c d)
 |0,a,e,f,g,b,c,d,_,h=>by cases h
 |K+1,a,e,f,g,b,c,d,_,h=>vg N (qm N K) (fun a e f g b c d _ h=>jb N K a e f g b c d h) a e f g b c d h
def qG (N:Nat) (a:List Int) (b:Int) (c:Int) (d:Int) (e:Int) (f:List Int) (g:Int):Option (List Int):=qm N N a b c d e f g
theorem zX (N:Nat) (a:List Int) (e:Int) (f:Int) (g:Int) (b:Int) (c:List Int) (d:Int) {l:List Int} (h:qG N a e f g b c d=some l):qb ZT (.fn 125) (kL a e f [.i g,.func (.func 39) [] [.ptr 1 0,.ptr 2 0,.ptr 3 0]]) (kA a b c d) (.tuple []) (kA l b c d):=jb N N a e f g b c d h
def qD (N:Nat) (a:Int) (b:Int) (c:List Int) (d:Int):Nat->(List Int)->Int->Int->Option ((List Int)×Int)
 |0,_,_,_=>none
 |K+1,g,h,f=>
  if f<=a then
  (qz N g h f b c d).bind fun e=>
  ((if g.length=e.length then some ()else none:Option Unit)).bind fun i=>
  qD N a b c d K e f (w64 (f+20))
  else
  some (g,h)
def qA (N:Nat) (e:Int) (f:Int) (g:List Int) (h:Int) (b:Int):Nat->(List Int)->Int->Int->Option ((List Int)×Int)
 |0,_,_,_=>none
 |K+1,c,d,a=>
  if a<=e then
  (qG N c d (w64 (d+b)) a f g h).bind fun i=>
  ((if c.length=i.length then some ()else none:Option Unit)).bind fun j=>
  qA N e f g h b K i a (w64 (a+(w64 (2*b))))
  else
  some (c,d)
def qB (N:Nat) (b:Int) (c:Int) (d:List Int) (e:Int):Nat->(List Int)->Int->Option (List Int)
 |0,_,_=>none
 |K+1,h,a=>
  if a<b then
  (qA N b c d e a N h 0 (w64 (2*a))).bind fun(f,g)=>
  ((if(w64 (g+a))<b then
  (qG N f g (w64 (g+a)) b c d e).bind fun i=>
  ((if f.length=i.length then some ()else none:Option Unit)).bind fun k=>
  some i
  else
  some f:Option (List Int))).bind fun j=>
  qB N b c d e K j (w64 (a*2))
  else
  some h
def zt (N:Nat) (f:List Int) (a:Int) (b:Int) (c:List Int) (d:Int):Option (List Int):=
 (qD N a b c d N f 0 20).bind fun(h,i)=>
 (qz N h i a b c d).bind fun e=>
 ((if h.length=e.length then some ()else none:Option Unit)).bind fun j=>
 (qB N a b c d N e 20).bind fun g=>
 some g
theorem vK (N:Nat) (t:List Int) (a:Int) (b:Int) (c:List Int) (d:Int) {X:List Int} (h:zt N t a b c d=some X):qb ZT (.fn 84) [.gslice 0 t.length 1,.i a,.func (.func 39) [] [.ptr 1 0,.ptr 2 0,.ptr 3 0]] (kA t b c d) (.tuple []) (kA X b c d):=by
 unfold zt at h
 refine Us Tryz.func84 rfl rfl (m:=63) rfl (rs:=[]) rfl (l:=(kB t a [(2,.func (.func 39) [] [.ptr 1 0,.ptr 2 0,.ptr 3 0])])) rfl ?_
 intro B hB
 refine Uj ?_
 refine sh fol (kB t a [(2,.func (.func 39) [] [.ptr 1 0,.ptr 2 0,.ptr 3 0]),(6,.i 20)]) ?_
 refine sh fol (kB t a [(2,.func (.func 39) [] [.ptr 1 0,.ptr 2 0,.ptr 3 0]),(6,.i 20),(7,.i 0),(8,.i 20)]) ?_
 refine sq (Goes.block ?_)
 obtain⟨Y,g7,h⟩:=bnd h
 refine Goes.imp (Q:=fun x s'=>(x= .exit 0/\ ∃z K,(z,K)=Y/\Sub s' (ofG 63 (kB z a [(2,.func (.func 39) [] [.ptr 1 0,.ptr 2 0,.ptr 3 0]),(6,.i 20),(7,.i K)]),(kA z b c d)))) ?_ ?_
 ·refine Ub (fun M s=> ∃(y:List Int) (J:Int) (q:Int),s=(ofG 63 (kB y a ((2,.func (.func 39) [] [.ptr 1 0,.ptr 2 0,.ptr 3 0])::(6,.i 20)::(kX J q []))),(kA y b c d))/\qD N a b c d M y J q=some Y) ?_ (m:=N) ⟨_,_,_,rfl,g7⟩
  rintro M s ⟨y,J,q,rfl,g7⟩
  cases M with
  |zero=>simp only[qD]at g7;cases g7
  |succ M=>
   rw[qD]at g7
   refine sq ?_
   refine sh fol (kB y a ((2,.func (.func 39) [] [.ptr 1 0,.ptr 2 0,.ptr 3 0])::(6,.i 20)::(kX J q [(13,.bool (decide (q<=a)))]))) ?_
   refine ihD g7 (fun Z g7=>?_) (fun Z g7=>?_)
   ·refine Goes.skip ?_
    refine Goes.block ?_
    obtain⟨n,L,g7⟩:=bnd g7
    obtain⟨a0,A,g7⟩:=bnd g7
    refine sq (gq fol [4] (kB y a [(2,.func (.func 39) [] [.ptr 1 0,.ptr 2 0,.ptr 3 0]),(6,.i 20),(8,.i q)]) (kA n b c d) (ac (hs (.callH 124 (kL y J q [.func (.func 39) [] [.ptr 1 0,.ptr 2 0,.ptr 3 0]]) (kA y b c d) [0,1,2,3] (.tuple []) (kA n b c d)) (j3 [some 0,some 1,some 2,some 3] [some 0,some 1,some 2,some 3] (zQ N y J q b c d L) (.ks (.kb rfl (.cells (rc (.same nI) rn)) (.kb rfl (.cells (rc (.same (qy encI _)) rn)) (.kb rfl (.cells (rc (.same nI) rn)) .nil)))) rfl rfl (.back rfl rfl (.same fa) rfl (.back rfl rfl (.cells (rc (.same nI) rn)) rfl (.back rfl rfl (.cells (rc (.same (qy encI _)) rn)) rfl (.back rfl rfl (.cells (rc (.same nI) rn)) rfl .nil)))) (rc (.gslice rfl) (rc (.same nI) (rc (.same nI) (rc (.funcL (sn) (rc (.ptr rfl) (rc (.ptr rfl) (rc (.ptr rfl) rn)))) rn)))) (.same (qo.tuple sn)) rfl)) az) ?_)
    refine Goes.sub (show Sub (ofG 63 (kB y a [(2,.func (.func 39) [] [.ptr 1 0,.ptr 2 0,.ptr 3 0]),(6,.i 20),(8,.i q)]),(kA n b c d)) (ofG 63 (kB n a [(2,.func (.func 39) [] [.ptr 1 0,.ptr 2 0,.ptr 3 0]),(6,.i 20),(8,.i q)]),(kA n b c d))from(Sub.norm [] [some 0,some 1,some 2,some 3] (by rw[hB];rfl) rfl (.keep (.gsliceE rfl (vU A)) (.keep (.same nI) (.keep (.funcL (sn) (rc (.ptr rfl) (rc (.ptr rfl) (rc (.ptr rfl) rn)))) (.keep (.same nI) (.keep (.same nI) .nil))))) (.ks (.kb rfl (.same sn) (.kb rfl (.same sn) (.kb rfl (.same sn) .nil)))))) ?_
    refine sh fol (kB n a [(2,.func (.func 39) [] [.ptr 1 0,.ptr 2 0,.ptr 3 0]),(6,.i 20),(7,.i q),(8,.i q)]) ?_
    refine gh fol (kB n a ((2,.func (.func 39) [] [.ptr 1 0,.ptr 2 0,.ptr 3 0])::(6,.i 20)::(kX q (w64 (q+20)) []))) ?_
    exact⟨M,(ofG 63 (kB n a ((2,.func (.func 39) [] [.ptr 1 0,.ptr 2 0,.ptr 3 0])::(6,.i 20)::(kX q (w64 (q+20)) []))),(kA n b c d)),Nat.lt_succ_self _,(Sub.refl _),_,_,_,rfl,g7⟩
   refine Goes.exit ?_
   obtain rfl:=si g7
   exact⟨rfl,_,_,rfl,(Sub.keep [0,1,2,6,7] rfl rfl)⟩
 rintro x s' ⟨rfl,z,K,rfl,hsub⟩
 try dsimp only at h
 refine Goes.sub hsub ?_
 obtain⟨v,C,h⟩:=bnd h
 obtain⟨a1,D,h⟩:=bnd h
 refine sq (gq fol [4] (kB z a [(2,.func (.func 39) [] [.ptr 1 0,.ptr 2 0,.ptr 3 0]),(6,.i 20)]) (kA v b c d) (ac (hs (.callH 124 (kL z K a [.func (.func 39) [] [.ptr 1 0,.ptr 2 0,.ptr 3 0]]) (kA z b c d) [0,1,2,3] (.tuple []) (kA v b c d)) (j3 [some 0,some 1,some 2,some 3] [some 0,some 1,some 2,some 3] (zQ N z K a b c d C) (.ks (.kb rfl (.cells (rc (.same nI) rn)) (.kb rfl (.cells (rc (.same (qy encI _)) rn)) (.kb rfl (.cells (rc (.same nI) rn)) .nil)))) rfl rfl (.back rfl rfl (.same fa) rfl (.back rfl rfl (.cells (rc (.same nI) rn)) rfl (.back rfl rfl (.cells (rc (.same (qy encI _)) rn)) rfl (.back rfl rfl (.cells (rc (.same nI) rn)) rfl .nil)))) (rc (.gslice rfl) (rc (.same nI) (rc (.same nI) (rc (.funcL (sn) (rc (.ptr rfl) (rc (.ptr rfl) (rc (.ptr rfl) rn)))) rn)))) (.same (qo.tuple sn)) rfl)) az) ?_)
 refine Goes.sub (show Sub (ofG 63 (kB z a [(2,.func (.func 39) [] [.ptr 1 0,.ptr 2 0,.ptr 3 0]),(6,.i 20)]),(kA v b c d)) (ofG 63 (kB v a [(2,.func (.func 39) [] [.ptr 1 0,.ptr 2 0,.ptr 3 0]),(6,.i 20)]),(kA v b c d))from(Sub.norm [] [some 0,some 1,some 2,some 3] (by rw[hB];rfl) rfl (.keep (.gsliceE rfl (vU D)) (.keep (.same nI) (.keep (.funcL (sn) (rc (.ptr rfl) (rc (.ptr rfl) (rc (.ptr rfl) rn)))) (.keep (.same nI) .nil)))) (.ks (.kb rfl (.same sn) (.kb rfl (.same sn) (.kb rfl (.same sn) .nil)))))) ?_
 refine Goes.block ?_
 obtain⟨O,g18,h⟩:=bnd h
 refine Goes.imp (Q:=fun x s'=>(x= .exit 2/\ ∃E,E=O/\Sub s' (ofG 63 [],(kA E b c d)))) ?_ ?_
 ·refine Ub (fun M s=> ∃(u:List Int) (e:Int),s=(ofG 63 (kB u a [(2,.func (.func 39) [] [.ptr 1 0,.ptr 2 0,.ptr 3 0]),(6,.i e)]),(kA u b c d))/\qB N a b c d M u e=some O) ?_ (m:=N) ⟨_,_,rfl,g18⟩
  rintro M s ⟨u,e,rfl,g18⟩
  cases M with
  |zero=>simp only[qB]at g18;cases g18
  |succ M=>
   rw[qB]at g18
   refine sq ?_
   refine sh fol (kB u a [(2,.func (.func 39) [] [.ptr 1 0,.ptr 2 0,.ptr 3 0]),(6,.i e),(30,.bool (decide (e<a)))]) ?_
   refine ihD g18 (fun T g18=>?_) (fun T g18=>?_)
   ·refine Goes.skip ?_
    refine Goes.block ?_
    refine sh fol (kB u a [(2,.func (.func 39) [] [.ptr 1 0,.ptr 2 0,.ptr 3 0]),(6,.i e),(7,.i 0),(8,.i (w64 (2*e)))]) ?_
    refine sq (Goes.block ?_)
    obtain⟨P,g25,g18⟩:=bnd g18
    refine Goes.imp (Q:=fun x s'=>(x= .exit 4/\ ∃j g,(j,g)=P/\Sub s' (ofG 63 (kB j a [(2,.func (.func 39) [] [.ptr 1 0,.ptr 2 0,.ptr 3 0]),(6,.i e),(7,.i g)]),(kA j b c d)))) ?_ ?_
    ·refine Ub (fun M s=> ∃(k:List Int) (p:Int) (f:Int),s=(ofG 63 (kB k a ((2,.func (.func 39) [] [.ptr 1 0,.ptr 2 0,.ptr 3 0])::(6,.i e)::(kX p f []))),(kA k b c d))/\qA N a b c d e M k p f=some P) ?_ (m:=N) ⟨_,_,_,rfl,g25⟩
     rintro M s ⟨k,p,f,rfl,g25⟩
     cases M with
     |zero=>simp only[qA]at g25;cases g25
     |succ M=>
      rw[qA]at g25
      refine sq ?_
      refine sh fol (kB k a ((2,.func (.func 39) [] [.ptr 1 0,.ptr 2 0,.ptr 3 0])::(6,.i e)::(kX p f [(35,.bool (decide (f<=a)))]))) ?_
      refine ihD g25 (fun U g25=>?_) (fun U g25=>?_)
      ·refine Goes.skip ?_
       refine Goes.block ?_
       obtain⟨o,F,g25⟩:=bnd g25
       obtain⟨a2,G,g25⟩:=bnd g25
       refine sq (gq fol [7] (kB k a [(2,.func (.func 39) [] [.ptr 1 0,.ptr 2 0,.ptr 3 0]),(6,.i e),(8,.i f)]) (kA o b c d) (ac (hs (.callH 125 (kL k p (w64 (p+e)) [.i f,.func (.func 39) [] [.ptr 1 0,.ptr 2 0,.ptr 3 0]]) (kA k b c d) [0,1,2,3] (.tuple []) (kA o b c d)) (j3 [some 0,some 1,some 2,some 3] [some 0,some 1,some 2,some 3] (zX N k p (w64 (p+e)) f b c d F) (.ks (.kb rfl (.cells (rc (.same nI) rn)) (.kb rfl (.cells (rc (.same (qy encI _)) rn)) (.kb rfl (.cells (rc (.same nI) rn)) .nil)))) rfl rfl (.back rfl rfl (.same fa) rfl (.back rfl rfl (.cells (rc (.same nI) rn)) rfl (.back rfl rfl (.cells (rc (.same (qy encI _)) rn)) rfl (.back rfl rfl (.cells (rc (.same nI) rn)) rfl .nil)))) (rc (.gslice rfl) (rc (.same nI) (rc (.same nI) (rc (.same nI) (rc (.funcL (sn) (rc (.ptr rfl) (rc (.ptr rfl) (rc (.ptr rfl) rn)))) rn))))) (.same (qo.tuple sn)) rfl)) az) ?_)
       refine Goes.sub (show Sub (ofG 63 (kB k a [(2,.func (.func 39) [] [.ptr 1 0,.ptr 2 0,.ptr 3 0]),(6,.i e),(8,.i f)]),(kA o b c d)) (ofG 63 (kB o a [(2,.func (.func 39) [] [.ptr 1 0,.ptr 2 0,.ptr 3 0]),(6,.i e),(8,.i f)]),(kA o b c d))from(Sub.norm [] [some 0,some 1,some 2,some 3] (by rw[hB];rfl) rfl (.keep (.gsliceE rfl (vU G)) (.keep (.same nI) (.keep (.funcL (sn) (rc (.ptr rfl) (rc (.ptr rfl) (rc (.ptr rfl) rn)))) (.keep (.same nI) (.keep (.same nI) .nil))))) (.ks (.kb rfl (.same sn) (.kb rfl (.same sn) (.kb rfl (.same sn) .nil)))))) ?_
       refine sh fol (kB o a [(2,.func (.func 39) [] [.ptr 1 0,.ptr 2 0,.ptr 3 0]),(6,.i e),(7,.i f),(8,.i f)]) ?_
       refine gh fol (kB o a ((2,.func (.func 39) [] [.ptr 1 0,.ptr 2 0,.ptr 3 0])::(6,.i e)::(kX f (w64 (f+(w64 (2*e)))) []))) ?_
       exact⟨M,(ofG 63 (kB o a ((2,.func (.func 39) [] [.ptr 1 0,.ptr 2 0,.ptr 3 0])::(6,.i e)::(kX f (w64 (f+(w64 (2*e)))) []))),(kA o b c d)),Nat.lt_succ_self _,(Sub.refl _),_,_,_,rfl,g25⟩
      refine Goes.exit ?_
      obtain rfl:=si g25
      exact⟨rfl,_,_,rfl,(Sub.keep [0,1,2,6,7] rfl rfl)⟩
    rintro x s' ⟨rfl,j,g,rfl,hsub⟩
    try dsimp only at g18
    refine Goes.sub hsub ?_
    refine sq ?_
    refine sh fol (kB j a [(2,.func (.func 39) [] [.ptr 1 0,.ptr 2 0,.ptr 3 0]),(6,.i e),(7,.i g),(9,.i (w64 (g+e)))]) ?_
    refine sh fol (kB j a [(2,.func (.func 39) [] [.ptr 1 0,.ptr 2 0,.ptr 3 0]),(6,.i e),(7,.i g),(9,.i (w64 (g+e))),(54,.bool (decide ((w64 (g+e))<a)))]) ?_
    obtain⟨V,g31,g18⟩:=bnd g18
    refine Goes.imp (Q:=fun x s'=>(x= .normal/\ ∃r,r=V/\Sub s' (ofG 63 (kB r a [(2,.func (.func 39) [] [.ptr 1 0,.ptr 2 0,.ptr 3 0]),(6,.i e)]),(kA r b c d)))) ?_ ?_
    ·refine ihD g31 (fun W g31=>?_) (fun W g31=>?_)
     ·obtain⟨w,H,g31⟩:=bnd g31
      obtain⟨a3,I,g31⟩:=bnd g31
      refine gq fol [5] (kB j a [(2,.func (.func 39) [] [.ptr 1 0,.ptr 2 0,.ptr 3 0]),(6,.i e)]) (kA w b c d) (ac (hs (.callH 125 (kL j g (w64 (g+e)) [.i a,.func (.func 39) [] [.ptr 1 0,.ptr 2 0,.ptr 3 0]]) (kA j b c d) [0,1,2,3] (.tuple []) (kA w b c d)) (j3 [some 0,some 1,some 2,some 3] [some 0,some 1,some 2,some 3] (zX N j g (w64 (g+e)) a b c d H) (.ks (.kb rfl (.cells (rc (.same nI) rn)) (.kb rfl (.cells (rc (.same (qy encI _)) rn)) (.kb rfl (.cells (rc (.same nI) rn)) .nil)))) rfl rfl (.back rfl rfl (.same fa) rfl (.back rfl rfl (.cells (rc (.same nI) rn)) rfl (.back rfl rfl (.cells (rc (.same (qy encI _)) rn)) rfl (.back rfl rfl (.cells (rc (.same nI) rn)) rfl .nil)))) (rc (.gslice rfl) (rc (.same nI) (rc (.same nI) (rc (.same nI) (rc (.funcL (sn) (rc (.ptr rfl) (rc (.ptr rfl) (rc (.ptr rfl) rn)))) rn))))) (.same (qo.tuple sn)) rfl)) az) ?_
      obtain rfl:=si g31
      exact⟨rfl,_,rfl,((show Sub (ofG 63 (kB j a [(2,.func (.func 39) [] [.ptr 1 0,.ptr 2 0,.ptr 3 0]),(6,.i e)]),(kA w b c d)) (ofG 63 (kB w a [(2,.func (.func 39) [] [.ptr 1 0,.ptr 2 0,.ptr 3 0]),(6,.i e)]),(kA w b c d))from(Sub.norm [] [some 0,some 1,some 2,some 3] (by rw[hB];rfl) rfl (.keep (.gsliceE rfl (vU I)) (.keep (.same nI) (.keep (.funcL (sn) (rc (.ptr rfl) (rc (.ptr rfl) (rc (.ptr rfl) rn)))) (.keep (.same nI) .nil)))) (.ks (.kb rfl (.same sn) (.kb rfl (.same sn) (.kb rfl (.same sn) .nil)))))).trans (Sub.refl _))⟩
     refine Goes.skip ?_
     obtain rfl:=si g31
     exact⟨rfl,_,rfl,(Sub.keep [0,1,2,6] rfl rfl)⟩
    rintro x s' ⟨rfl,r,rfl,hsub⟩
    refine Goes.sub hsub ?_
    refine gh fol (kB r a [(2,.func (.func 39) [] [.ptr 1 0,.ptr 2 0,.ptr 3 0]),(6,.i (w64 (e*2)))]) ?_
    exact⟨M,(ofG 63 (kB r a [(2,.func (.func 39) [] [.ptr 1 0,.ptr 2 0,.ptr 3 0]),(6,.i (w64 (e*2)))]),(kA r b c d)),Nat.lt_succ_self _,(Sub.refl _),_,_,rfl,g18⟩
   refine Goes.exit ?_
   obtain rfl:=si g18
   exact⟨rfl,_,rfl,(Sub.keep [] rfl rfl)⟩
 rintro x s' ⟨rfl,E,rfl,hsub⟩
 obtain rfl:=si h
 exact⟨_,hsub,(gh2 [] (yM.refl _ _))⟩
def qP (N:Nat) (a:List Int) (b:Int) (c:List Int) (d:Int):Option (List Int):=
 (zt N a (a.length:Int) b c d).bind fun e=>
 ((if a.length=e.length then some ()else none:Option Unit)).bind fun f=>
 some e
theorem vw (N:Nat) (a:List Int) (b:Int) (c:List Int) (d:Int) {g:List Int} (h:qP N a b c d=some g):qb ZT (.fn 38) [.gslice 0 a.length 1,.func (.func 39) [] [.ptr 1 0,.ptr 2 0,.ptr 3 0]] (kA a b c d) (.tuple []) (kA g b c d):=by
 unfold qP at h
 refine Us Tryz.func38 rfl rfl (m:=9) rfl (rs:=[]) rfl (l:=(kE a [(1,.func (.func 39) [] [.ptr 1 0,.ptr 2 0,.ptr 3 0])])) rfl ?_
 intro B hB
 refine Uj ?_
 obtain⟨f,e,h⟩:=bnd h
 obtain⟨k,j,h⟩:=bnd h
 refine gq fol [4] [] (kA f b c d) (ac (hs (.callH 84 [.gslice 0 a.length 1,.i (a.length:Int),.func (.func 39) [] [.ptr 1 0,.ptr 2 0,.ptr 3 0]] (kA a b c d) [0,1,2,3] (.tuple []) (kA f b c d)) (j3 [some 0,some 1,some 2,some 3] [some 0,some 1,some 2,some 3] (vK N a (a.length:Int) b c d e) (.ks (.kb rfl (.cells (rc (.same nI) rn)) (.kb rfl (.cells (rc (.same (qy encI _)) rn)) (.kb rfl (.cells (rc (.same nI) rn)) .nil)))) rfl rfl (.back rfl rfl (.same fa) rfl (.back rfl rfl (.cells (rc (.same nI) rn)) rfl (.back rfl rfl (.cells (rc (.same (qy encI _)) rn)) rfl (.back rfl rfl (.cells (rc (.same nI) rn)) rfl .nil)))) (rc (.gslice rfl) (rc (.same nI) (rc (.funcL (sn) (rc (.ptr rfl) (rc (.ptr rfl) (rc (.ptr rfl) rn)))) rn))) (.same (qo.tuple sn)) rfl)) az) ?_
 obtain rfl:=si h
 exact⟨_,(show Sub (ofG 9 [],(kA f b c d)) (ofG 9 [],(kA f b c d))from(Sub.norm [] [some 0,some 1,some 2,some 3] (by rw[hB];rfl) rfl .nil (.ks (.kb rfl (.same sn) (.kb rfl (.same sn) (.kb rfl (.same sn) .nil)))))),(gh2 [] (yM.refl _ _))⟩
def zm (weights:List Int):Nat->Int->Int->Option Int
 |0,_,_=>none
 |K+1,b,a=>
  if a<(weights.length:Int)then
  (idx weights a).bind fun c=>
  zm weights K (w64 (b+c)) (w64 (a+1))
  else
  some b
def zn (total:Int) (weights:List Int) (b:Int):Nat->(List Int)->(List Int)->Int->Int->Option ((List Int)×(List Int)×Int)
 |0,_,_,_,_=>none
 |K+1,c,d,e,a=>
  if a<(weights.length:Int)then
  (idx weights a).bind fun g=>
  (qeJ .i64 (w64 (total*g)) b).bind fun h=>
  (app 8 c [h]).bind fun f=>
  (app 8 d [a]).bind fun i=>
  (idx f a).bind fun j=>
  zn total weights b K f i (w64 (e-j)) (w64 (a+1))
  else
  some (c,d,e)
def zo (a:List Int):Nat->(List Int)->Int->Option (List Int)
 |0,_,_=>none
 |K+1,b,c=>
  if c<(a.length:Int)then
  (idx a c).bind fun d=>
  (idx b d).bind fun e=>
  (put b d (w64 (e+1))).bind fun f=>
  zo a K f (w64 (c+1))
  else
  some b
def jR (N:Nat) (total:Int) (weights:List Int):Option ((List Int)×Int):=
 (if total<0 then
 (zC true 3).bind fun i=>
 (ku N weights).bind fun j=>
 (zi N ([i,j]:List Int)).bind fun m=>
 some (i,j,m)
 else
 (zC (decide (total>999999999)) 3).bind fun k=>
 (ku N weights).bind fun l=>
 (zi N ([k,l]:List Int)).bind fun n=>
 some (k,l,n):Option (Int×Int×Int)).bind fun(p,q,a)=>
 if(!decide (a=0))=true then
 some ([],a)
 else
 (zm weights N 0 0).bind fun b=>
 (zn total weights b N ([]:List Int) ([]:List Int) total 0).bind fun(e,c,f)=>
 (qP N c total weights b).bind fun d=>
 ((if c.length=d.length then some ()else none:Option Unit)).bind fun o=>
 (cut d 0 f).bind fun g=>
 (zo g N e 0).bind fun h=>
 some (h,0)
theorem qaK (N:Nat) (total:Int) (weights:List Int) {res:(List Int)×Int} (h:jR N total weights=some res):qb ZT (.fn 5) [.i total,vl encI weights] [] (.tuple [vl encI res.1,.i res.2]) []:=by
 unfold jR at h
 refine Ud Tryz.func5 rfl rfl (m:=87) rfl (rs:=[.tmp 4,.tmp 5]) rfl (l:=(kH total weights [])) rfl ?_
 refine sg fol (kV []) (kU total [.cells [vl encI weights]]) ?_
 refine sq ?_
 refine sq ?_
 obtain⟨⟨n8,n9,C⟩,a,h⟩:=bnd h
 refine Goes.cut (s':=(ofG 87 (kV [(6,.i C)]),(kU total (.cells [vl encI weights]::(kR n8 n9 []))))) ?_ ?_
 ·rcases wyD a with⟨c1,a⟩|⟨c1,a⟩
  ·obtain⟨r2,Y,a⟩:=bnd a
   obtain⟨r3,Z,a⟩:=bnd a
   obtain⟨r4,a0,a⟩:=bnd a
   simp only[ZI,ZP]at a
   obtain⟨rfl,rfl,rfl⟩:=a
   exact ji.rq fol [2,6,8,10] (kV [(6,.i r4)]) (kU total (.cells [vl encI weights]::(kR r2 r3 []))) (ac (gw c1) (ac (cv (jh true 3 Y)) (ac (cv (j5 N weights Z)) (ac (hs (.call 35 [.slice 2 0 2 2 1] (kU total (.cells [vl encI weights]::(kR r2 r3 []))) [2] [vl encI ([r2,r3]:List Int)] (.i r4)) (yA (FzL.cons (Fz.lit rfl rfl (Uk (AllST.cons tI (AllST.cons tI AllST.nil)))) FzL.nil) (jS N ([r2,r3]:List Int) a0) tI rfl)) az))))
  obtain⟨r5,a1,a⟩:=bnd a
  obtain⟨r6,a2,a⟩:=bnd a
  obtain⟨r7,a3,a⟩:=bnd a
  simp only[ZI,ZP]at a
  obtain⟨rfl,rfl,rfl⟩:=a
  exact ji.rq fol [2,6,8,10] (kV [(6,.i r7)]) (kU total (.cells [vl encI weights]::(kR r5 r6 []))) (ac (gw c1) (ac (cv (jh (decide (total>999999999)) 3 a1)) (ac (cv (j5 N weights a2)) (ac (hs (.call 35 [.slice 2 0 2 2 1] (kU total (.cells [vl encI weights]::(kR r5 r6 []))) [2] [vl encI ([r5,r6]:List Int)] (.i r7)) (yA (FzL.cons (Fz.lit rfl rfl (Uk (AllST.cons tI (AllST.cons tI AllST.nil)))) FzL.nil) (jS N ([r5,r6]:List Int) a3) tI rfl)) az))))
 try dsimp only at h
 refine sh fol (kV [(6,.i C),(29,.bool (!decide (C=0)))]) ?_
 refine ihB h (fun c12 h=>?_) (fun c12 h=>?_)
 ·refine sh fol [(4,.nilslice),(5,.i C)] ?_
  refine Goes.ret ?_
  obtain rfl:=si h
  exact(gw2 [.nilslice,.i C] (FzW.tuple (yV.cons (FzW.nilv (E:=encI)) (yV.cons (Ua tI) yV.nil))))
 refine Goes.skip ?_
 refine sg fol (kV [(7,.ptr 3 0)]) (kU total (.cells [vl encI weights]::(kR n8 n9 [.cells [.i 0]]))) ?_
 refine sq ?_
 refine sh fol (kV [(7,.ptr 3 0),(31,vl encI weights),(32,.i (weights.length:Int)),(33,.i 0)]) ?_
 refine Goes.block ?_
 obtain⟨a4,g16,h⟩:=bnd h
 refine Goes.imp (Q:=fun x s'=>(x= .exit 0/\ ∃c,c=a4/\Sub s' (ofG 87 (kF []),(kG total weights c [])))) ?_ ?_
 ·refine Goes.sub (s':=(ofG 87 (kF [(31,vl encI weights),(32,.i (weights.length:Int)),(33,.i 0)]),(kU total [.cells [vl encI weights],.cells [.i 0]]))) (Sub.norm [] [some 0,some 1,some 3] rfl rfl (.kp (.kp (.kp (.keep (.same (qy encI _)) (.keep (.same nI) (.keep (.same nI) .nil)))))) (.kb rfl (.same sn) (.kb rfl (.same sn) (.kb rfl (.same sn) .nil)))) ?_
  refine Ub (fun M s=> ∃(D:Int) (q:Int),s=(ofG 87 (kF (kAA weights (weights.length:Int) q [])),(kG total weights D []))/\zm weights M D q=some a4) ?_ (m:=N) ⟨_,_,rfl,g16⟩
  rintro M s ⟨D,q,rfl,g16⟩
  cases M with
  |zero=>simp only[zm]at g16;cases g16
  |succ M=>
   rw[zm]at g16
   refine sh fol (kF (kAA weights (weights.length:Int) q [(34,.bool (decide (q<(weights.length:Int))))])) ?_
   refine sq ?_
   refine ihD g16 (fun c17 g16=>?_) (fun c17 g16=>?_)
   ·refine Goes.skip ?_
    refine sq (Goes.block ?_)
    obtain⟨L,F,g16⟩:=bnd g16
    refine sq (gr fol [0,1] (kF ((9,.i L)::(kAA weights (weights.length:Int) q []))) (ac (iv zq encI F) (ac (lv 0 ce3 encI F rfl) az)) ?_)
    refine Goes.rg fol (kF (kAA weights (weights.length:Int) q [])) (kG total weights (w64 (D+L)) []) ?_
    refine gh fol (kF (kAA weights (weights.length:Int) (w64 (q+1)) [])) ?_
    exact⟨M,(ofG 87 (kF (kAA weights (weights.length:Int) (w64 (q+1)) [])),(kG total weights (w64 (D+L)) [])),Nat.lt_succ_self _,(Sub.refl _),_,_,rfl,g16⟩
   refine Goes.exit ?_
   obtain rfl:=si g16
   exact⟨rfl,_,rfl,(Sub.keep [2,3,7] rfl rfl)⟩
 rintro x s' ⟨rfl,c,rfl,hsub⟩
 refine Goes.sub hsub ?_
 refine sh fol (kF [(10,.i total)]) ?_
 refine sh fol (kF [(10,.i total),(11,.nilslice),(12,.nilslice)]) ?_
 refine sq ?_
 refine sh fol (kF [(10,.i total),(11,.nilslice),(12,.nilslice),(42,vl encI weights),(43,.i (weights.length:Int)),(44,.i 0)]) ?_
 refine Goes.block ?_
 obtain⟨a5,g26,h⟩:=bnd h
 refine Goes.imp (Q:=fun x s'=>(x= .exit 2/\ ∃f r t,(f,r,t)=a5/\Sub s' (ofG 87 (kF (kK t f r [])),(kG total weights c (kC f (kC r [])))))) ?_ ?_
 ·refine Goes.sub (s':=(ofG 87 (kF [(10,.i total),(11,.gslice 3 ([]:List Int).length 1),(12,.gslice 4 ([]:List Int).length 1),(42,vl encI weights),(43,.i (weights.length:Int)),(44,.i 0)]),(kG total weights c (kY (kY []))))) (Sub.norm [] [some 0,some 1,some 2,none,none] rfl rfl (.kp (.kp (.kp (.keep (.same nI) (.keep .nil (.keep .nil (.keep (.same (qy encI _)) (.keep (.same nI) (.keep (.same nI) .nil))))))))) (.kb rfl (.same sn) (.kb rfl (.same sn) (.kb rfl (.same sn) (.fresh (.fresh .nil)))))) ?_
  refine Ub (fun M s=> ∃(u:List Int) (j:List Int) (n:Int) (b:Int),s=(ofG 87 (kF (kK n u j (kT weights (weights.length:Int) b))),(kG total weights c (kC u (kC j []))))/\zn total weights c M u j n b=some a5) ?_ (m:=N) ⟨_,_,_,_,rfl,g26⟩
  rintro M s ⟨u,j,n,b,rfl,g26⟩
  cases M with
  |zero=>simp only[zn]at g26;cases g26
  |succ M=>
   rw[zn]at g26
   refine sh fol (kF (kK n u j [(42,vl encI weights),(43,.i (weights.length:Int)),(44,.i b),(45,.bool (decide (b<(weights.length:Int))))])) ?_
   refine sq ?_
   refine ihD g26 (fun c27 g26=>?_) (fun c27 g26=>?_)
   ·refine Goes.skip ?_
    refine sq (Goes.block ?_)
    obtain⟨a6,G,g26⟩:=bnd g26
    refine sq (gr fol [1,2] (kF (kK n u j ((13,.i b)::(14,.i a6)::(kT weights (weights.length:Int) b)))) (ac (iv zq encI G) (ac (lv 0 ce3 encI G rfl) az)) ?_)
    obtain⟨o,O,g26⟩:=bnd g26
    obtain⟨e,P,g26⟩:=bnd g26
    refine sq (gq fol [5,7] (kF ((10,.i n)::(11,.gslice 6 e.length 1)::(12,.gslice 4 j.length 1)::(13,.i b)::(kT weights (weights.length:Int) b))) (kG total weights c (.dead::(kC j (kU o (kC e []))))) (ac (hs (.done (.opt (yD ZT .quo 3 (.tmp 52) (.tmp 53) (.i (w64 (total*a6))) (.i c))) (.i o)) (qdZ O)) (ac (hs (.run [3,5] (jN ZT [22,22] (.gslice 3 u.length 1) (.slice 5 0 1 1 1)) (kG total weights c (kC u (kC j (kU o [])))) (.gslice 6 e.length 1) (kG total weights c (.dead::(kC j (kU o (kC e []))))) true) (yK zq (E:=encI) rfl (qc7 (E:=encI) (ys:=[o]) rfl rfl rfl rfl) (qee (E:=encI) (l:=u) rfl rfl rfl P rfl))) az)) ?_)
    obtain⟨p,T,g26⟩:=bnd g26
    refine sq (gq fol [3] (kF ((10,.i n)::(11,.gslice 6 e.length 1)::(12,.gslice 8 p.length 1)::(13,.i b)::(kT weights (weights.length:Int) b))) (kG total weights c (kP o (kC e (kU b (kC p []))))) (ac (hs (.run [4,7] (jN ZT [22,22] (.gslice 4 j.length 1) (.slice 7 0 1 1 1)) (kG total weights c (.dead::(kC j (kU o (kC e (kU b [])))))) (.gslice 8 p.length 1) (kG total weights c (kP o (kC e (kU b (kC p []))))) true) (yK zq (E:=encI) rfl (qc7 (E:=encI) (ys:=[b]) rfl rfl rfl rfl) (qee (E:=encI) (l:=j) rfl rfl rfl T rfl))) az) ?_)
    obtain⟨K,H,g26⟩:=bnd g26
    refine gr fol [3,4] (kF ((10,.i (w64 (n-K)))::(11,.gslice 6 e.length 1)::(12,.gslice 8 p.length 1)::(kT weights (weights.length:Int) b))) (ac (hs (.done (.opt (qd ZT 22 (.gslice 6 e.length 1) (.i b))) (.ptr 6 ((b:Int).toNat*1+0))) (zY zq H)) (ac (hs (.run [6] (zG ZT 3 (.ptr 6 ((b:Int).toNat*1+0))) (kG total weights c (kP o (kC e (kU b (kC p []))))) (.i K) (kG total weights c (kP o (kC e (kU b (kC p []))))) false) (yu ce3 (E:=encI) (l:=e) rfl rfl H (nl rfl) rfl)) az)) ?_
    refine gh fol (kF ((10,.i (w64 (n-K)))::(11,.gslice 6 e.length 1)::(12,.gslice 8 p.length 1)::(kT weights (weights.length:Int) (w64 (b+1))))) ?_
    exact⟨M,(ofG 87 (kF (kK (w64 (n-K)) e p (kT weights (weights.length:Int) (w64 (b+1))))),(kG total weights c (kC e (kC p [])))),Nat.lt_succ_self _,(Sub.norm [] [some 0,some 1,some 2,some 6,some 8] rfl rfl (.kp (.kp (.kp (.keep (.same nI) (.keep (.gslice rfl) (.keep (.gslice rfl) (.keep (.same (qy encI _)) (.keep (.same nI) (.keep (.same nI) .nil))))))))) (.kb rfl (.same sn) (.kb rfl (.same sn) (.kb rfl (.same sn) (.ks (.ks .nil)))))),_,_,_,_,rfl,g26⟩
   refine Goes.exit ?_
   obtain rfl:=si g26
   exact⟨rfl,_,_,_,rfl,(Sub.keep [2,3,7,10,11,12] rfl rfl)⟩
 rintro x s' ⟨rfl,f,r,t,rfl,hsub⟩
 try dsimp only at h
 refine Goes.sub hsub ?_
 obtain⟨z,U,h⟩:=bnd h
 obtain⟨u35,V,h⟩:=bnd h
 refine sq (gq fol [2] (kK t f r []) (kG total weights c (kC f (kC z []))) (ac (hs (.callH 38 [.gslice 4 r.length 1,.func (.func 39) [] [.ptr 0 0,.ptr 1 0,.ptr 2 0]] (kG total weights c (kC f (kC r []))) [4,0,1,2] (.tuple []) (kG total weights c (kC f (kC z [])))) (j3 [some 4,some 0,some 1,some 2] [some 1,some 2,some 3,none,some 0] (vw N r total weights c U) (.ks (.kb rfl (.cells (rc (.same nI) rn)) (.kb rfl (.cells (rc (.same (qy encI _)) rn)) (.kb rfl (.cells (rc (.same nI) rn)) .nil)))) rfl rfl (.back rfl rfl (.cells (rc (.same nI) rn)) rfl (.back rfl rfl (.cells (rc (.same (qy encI _)) rn)) rfl (.back rfl rfl (.cells (rc (.same nI) rn)) rfl (.old rfl rfl (.back rfl rfl (.same fa) rfl .nil))))) (rc (.gslice rfl) (rc (.funcL (sn) (rc (.ptr rfl) (rc (.ptr rfl) (rc (.ptr rfl) rn)))) rn)) (.same (qo.tuple sn)) rfl)) az) ?_)
 refine Goes.sub (show Sub (ofG 87 (kK t f r []),(kG total weights c (kC f (kC z [])))) (ofG 87 [(10,.i t),(11,.gslice 0 f.length 1),(12,.gslice 1 z.length 1)],(kC f (kC z [])))from(Sub.norm [] [some 3,some 4] rfl rfl (.keep (.same nI) (.keep (.gslice rfl) (.keep (.gsliceE rfl (vU V)) .nil))) (.ks (.ks .nil)))) ?_
 refine sq ?_
 refine sq (Goes.sub (s':=(ofG 87 [(10,.i t),(11,.gslice 0 f.length 1),(12,vl encI z)],(kC f []))) (Sub.norm [1] [some 0] rfl rfl (.keep (.same nI) (.keep (.gslice rfl) (.keep (.frz (Fz.gs (E:=encI) rfl rfl (nl rfl)) (qy encI _)) .nil))) (.ks .nil)) ?_)
 obtain⟨d,W,h⟩:=bnd h
 refine gr fol [2] [(11,.gslice 0 f.length 1),(73,vl encI d),(74,.i (d.length:Int)),(75,.i 0)] (ac (hs (.done (.opt (xw ZT 22 (vl encI z) none (some (.i t)) none)) (vl encI d)) (qf6 zq (E:=encI) rfl none (some t) W)) az) ?_
 refine Goes.block ?_
 obtain⟨a7,g40,h⟩:=bnd h
 refine Goes.imp (Q:=fun x s'=>(x= .exit 4/\ ∃B,B=a7/\Sub s' (ofG 87 [(11,.gslice 0 B.length 1)],(kC B [])))) ?_ ?_
 ·refine Ub (fun M s=> ∃(g:List Int) (k:Int),s=(ofG 87 (kN g d (d.length:Int) k []),(kC g []))/\zo d M g k=some a7) ?_ (m:=N) ⟨_,_,rfl,g40⟩
  rintro M s ⟨g,k,rfl,g40⟩
  cases M with
  |zero=>simp only[zo]at g40;cases g40
  |succ M=>
   rw[zo]at g40
   refine sh fol (kN g d (d.length:Int) k [(76,.bool (decide (k<(d.length:Int))))]) ?_
   refine sq ?_
   refine ihD g40 (fun c41 g40=>?_) (fun c41 g40=>?_)
   ·refine Goes.skip ?_
    refine sq (Goes.block ?_)
    obtain⟨A,I,g40⟩:=bnd g40
    refine sq (gr fol [0,1] [(11,.gslice 0 g.length 1),(16,.i A),(73,vl encI d),(74,.i (d.length:Int)),(75,.i k)] (ac (iv zq encI I) (ac (lv 0 ce3 encI I rfl) az)) ?_)
    obtain⟨X,v,g40⟩:=bnd g40
    obtain⟨w,J,g40⟩:=bnd g40
    refine gq fol [2,3,5,6] (kN g d (d.length:Int) k []) (kC w []) (ac (hs (.done (.opt (qd ZT 22 (.gslice 0 g.length 1) (.i A))) (.ptr 0 ((A:Int).toNat*1+0))) (zY zq v)) (ac (hs (.run [0] (zG ZT 3 (.ptr 0 ((A:Int).toNat*1+0))) (kC g []) (.i X) (kC g []) false) (yu ce3 (E:=encI) (l:=g) rfl rfl v (nl rfl) rfl)) (ac (hs (.done (.opt (qd ZT 22 (.gslice 0 g.length 1) (.i A))) (.ptr 0 ((A:Int).toNat*1+0))) (zY zq v)) (ac (hs (.run [0] (jQ ZT 3 (.ptr 0 ((A:Int).toNat*1+0)) (.i (w64 (X+1)))) (kC g []) .undef (kC w []) true) (xe (E:=encI) (l:=g) (y:=w64 (X+1)) rfl (show _=some 1 by kernel_rfl) rfl v rfl rfl rfl rfl rfl J rfl)) az)))) ?_
    refine Goes.sub (show Sub (ofG 87 (kN g d (d.length:Int) k []),(kC w [])) (ofG 87 (kN w d (d.length:Int) k []),(kC w []))from(Sub.norm [] [some 0] rfl rfl (.keep (.gsliceE rfl (vo J)) (.keep (.same (qy encI _)) (.keep (.same nI) (.keep (.same nI) .nil)))) (.ks .nil))) ?_
    refine gh fol (kN w d (d.length:Int) (w64 (k+1)) []) ?_
    exact⟨M,(ofG 87 (kN w d (d.length:Int) (w64 (k+1)) []),(kC w [])),Nat.lt_succ_self _,(Sub.refl _),_,_,rfl,g40⟩
   refine Goes.exit ?_
   obtain rfl:=si g40
   exact⟨rfl,_,rfl,(Sub.keep [11] rfl rfl)⟩
 rintro x s' ⟨rfl,B,rfl,hsub⟩
 refine Goes.sub hsub ?_
 refine sh fol [(4,.gslice 0 B.length 1),(5,.i 0)] ?_
 refine Goes.ret ?_
 obtain rfl:=si h
 exact(gw2 [.gslice 0 B.length 1,.i 0] (FzW.tuple (yV.cons (FzW.fz (Fz.gs (E:=encI) rfl rfl (nl rfl))) (yV.cons (Ua tI) yV.nil))))
def zN (l:List Int):Nat->Int->Option (Unit⊕Int)
 |0,_=>none
 |K+1,a=>
  if a<(l.length:Int)then
  (idx l a).bind fun b=>
  if(!decide (b=0))=true then
  some (.inr b)
  else
  zN l K (w64 (a+1))
  else
  some (.inl ())
def ja (N:Nat) (l:List Int):Option Int:=
 (zN l N 0).bind (fun
 |(.inl ())=>
 some 0
 |(.inr a)=>
 some a)
theorem xk (N:Nat) (l:List Int) {res:Int} (h:ja N l=some res):qb ZT (.fn 6) [vl encI l] [] (.i res) []:=by
 unfold ja at h
 refine Ud Tryz.func6 rfl rfl (m:=19) rfl (rs:=[.tmp 2]) rfl (l:=(kI l [])) rfl ?_
 refine sh fol (kI l []) ?_
 refine sq ?_
 refine sh fol (kI l [(3,.i 0)]) ?_
 refine Goes.block ?_
 obtain⟨c,g2,h⟩:=bnd h
 refine Goes.imp (Q:=fun x s'=>(x= .exit 0/\(.inl ())=c/\Sub s' (ofG 19 [],[]))\/(x= .ret/\ ∃e,(.inr e)=c/\vP ZT [.tmp 2] (.i e) .ret s')) ?_ ?_
 ·refine Ub (fun M s=> ∃(b:Int),s=(ofG 19 (kI l [(3,.i b)]),[])/\zN l M b=some c) ?_ (m:=N) ⟨_,rfl,g2⟩
  rintro M s ⟨b,rfl,g2⟩
  cases M with
  |zero=>simp only[zN]at g2;cases g2
  |succ M=>
   rw[zN]at g2
   refine sq ?_
   refine sh fol (kI l [(3,.i b),(7,.bool (decide (b<(l.length:Int))))]) ?_
   refine ihD g2 (fun f g2=>?_) (fun f g2=>?_)
   ·refine Goes.skip ?_
    refine sq (Goes.block ?_)
    obtain⟨d,a,g2⟩:=bnd g2
    refine sq (gr fol [2,3] (kI l [(3,.i b),(14,.bool (!decide (d=0)))]) (ac (iv zq encI a) (ac (lv 0 ce3 encI a rfl) az)) ?_)
    refine ihB g2 (fun g g2=>?_) (fun g g2=>?_)
    ·refine sq (gr fol [2,3] [(2,.i d)] (ac (iv zq encI a) (ac (lv 0 ce3 encI a rfl) az)) ?_)
     refine Goes.ret ?_
     obtain rfl:=si g2
     exact Or.inr (⟨rfl,_,rfl,(gw2 [.i d] (Ua tI))⟩)
    refine Goes.skip ?_
    refine gh fol (kI l [(3,.i (w64 (b+1)))]) ?_
    exact⟨M,(ofG 19 (kI l [(3,.i (w64 (b+1)))]),[]),Nat.lt_succ_self _,(Sub.refl _),_,rfl,g2⟩
   refine Goes.exit ?_
   obtain rfl:=si g2
   exact Or.inl (⟨rfl,rfl,(Sub.keep [] rfl rfl)⟩)
 rintro x s' (⟨rfl,rfl,hsub⟩|⟨rfl,j,rfl,hret⟩)
 ·try dsimp only at h
  refine Goes.sub hsub ?_
  refine sh fol [(2,.i 0)] ?_
  refine Goes.ret ?_
  obtain rfl:=si h
  exact(gw2 [.i 0] (Ua tI))
 try dsimp only at h
 obtain rfl:=si h
 exact hret
def jW (holds:Bool) (e:Int):Option Int:=
 if holds=true then
 some e
 else
 some 0
theorem xX (holds:Bool) (e:Int) {res:Int} (h:jW holds e=some res):qb ZT (.fn 7) [.bool holds,.i e] [] (.i res) []:=by
 unfold jW at h
 refine Ud Tryz.func7 rfl rfl (m:=7) rfl (rs:=[.tmp 4]) rfl (l:=[(0,.bool holds),(1,.i e)]) rfl ?_
 refine sh fol [(0,.bool holds),(1,.i e)] ?_
 refine sq ?_
 refine sh fol [(1,.i e),(5,.bool holds)] ?_
 refine ihB h (fun a h=>?_) (fun a h=>?_)
 ·refine sh fol [(4,.i e)] ?_
  refine Goes.ret ?_
  obtain rfl:=si h
  exact(gw2 [.i e] (Ua tI))
 refine Goes.skip ?_
 refine sh fol [(4,.i 0)] ?_
 refine Goes.ret ?_
 obtain rfl:=si h
 exact(gw2 [.i 0] (Ua tI))
def qR (w:List Int):Nat->Int->Int->Option (Int⊕Int)
 |0,_,_=>none
 |K+1,d,a=>
  if a<(w.length:Int)then
  ((idx w a).bind fun e=>
  if e<0 then
  some true
  else
  some (decide (e>999999999)):Option Bool).bind fun b=>
  if b=true then
  some (.inr 3)
  else
  (idx w a).bind fun c=>
  qR w K (w64 (d+c)) (w64 (a+1))
  else
  some (.inl d)
def zb (N:Nat) (w:List Int):Option Int:=
 if(w.length:Int)=0 then
 some 12
 else
 if(w.length:Int)>256 then
 some 5
 else
 (qR w N 0 0).bind (fun
 |(.inl b)=>
 if b=0 then
 some 6
 else
 some 0
 |(.inr a)=>
 some a)
theorem vC (N:Nat) (w:List Int) {res:Int} (h:zb N w=some res):qb ZT (.fn 8) [vl encI w] [] (.i res) []:=by
 unfold zb at h
 refine Ud Tryz.func8 rfl rfl (m:=37) rfl (rs:=[.tmp 2]) rfl (l:=(kI w [])) rfl ?_
 refine sh fol (kI w []) ?_
 refine sq ?_
 refine sh fol (kI w [(7,.bool (decide ((w.length:Int)=0)))]) ?_
 refine ihD h (fun r h=>?_) (fun r h=>?_)
 ·refine sh fol [(2,.i 12)] ?_
  refine Goes.ret ?_
  obtain rfl:=si h
  exact(gw2 [.i 12] (Ua tI))
 refine Goes.skip ?_
 refine sq ?_
 refine sh fol (kI w [(10,.bool (decide ((w.length:Int)>256)))]) ?_
 refine ihD h (fun t h=>?_) (fun t h=>?_)
 ·refine sh fol [(2,.i 5)] ?_
  refine Goes.ret ?_
  obtain rfl:=si h
  exact(gw2 [.i 5] (Ua tI))
 refine Goes.skip ?_
 refine sh fol (kI w [(3,.i 0)]) ?_
 refine sq ?_
 refine sh fol (kI w [(3,.i 0),(4,.i 0)]) ?_
 refine Goes.block ?_
 obtain⟨k,g6,h⟩:=bnd h
 refine Goes.imp (Q:=fun x s'=>(x= .exit 0/\ ∃j,(.inl j)=k/\Sub s' (ofG 37 [(3,.i j)],[]))\/(x= .ret/\ ∃q,(.inr q)=k/\vP ZT [.tmp 2] (.i q) .ret s')) ?_ ?_
 ·refine Ub (fun M s=> ∃(e:Int) (c:Int),s=(ofG 37 (kI w (kAD e c [])),[])/\qR w M e c=some k) ?_ (m:=N) ⟨_,_,rfl,g6⟩
  rintro M s ⟨e,c,rfl,g6⟩
  cases M with
  |zero=>simp only[qR]at g6;cases g6
  |succ M=>
   rw[qR]at g6
   refine sq ?_
   refine sh fol (kI w (kAD e c [(14,.bool (decide (c<(w.length:Int))))])) ?_
   refine ihD g6 (fun u g6=>?_) (fun u g6=>?_)
   ·refine Goes.skip ?_
    refine sq (Goes.block ?_)
    refine sq ?_
    refine sq ?_
    obtain⟨n,a,g6⟩:=bnd g6
    refine Goes.cut (s':=(ofG 37 (kI w (kAD e c [(28,.bool n)])),[])) ?_ ?_
    ·obtain⟨v,b,a⟩:=bnd a
     rcases wyD a with⟨f,a⟩|⟨f,a⟩
     ·obtain rfl:=si a
      exact tr fol [2,3,5] (kI w (kAD e c [(28,.bool true)])) (ac (iv zq encI b) (ac (lv 0 ce3 encI b rfl) (ac (gw f) az)))
     obtain rfl:=si a
     exact tr fol [2,3,5,8,9] (kI w (kAD e c [(28,.bool (decide (v>999999999)))])) (ac (iv zq encI b) (ac (lv 0 ce3 encI b rfl) (ac (gw f) (ac (iv zq encI b) (ac (lv 0 ce3 encI b rfl) az)))))
    refine ihB g6 (fun o g6=>?_) (fun o g6=>?_)
    ·refine sh fol [(2,.i 3)] ?_
     refine Goes.ret ?_
     obtain rfl:=si g6
     exact Or.inr (⟨rfl,_,rfl,(gw2 [.i 3] (Ua tI))⟩)
    refine Goes.skip ?_
    obtain⟨g,d,g6⟩:=bnd g6
    refine gr fol [3,4] (kI w (kAD (w64 (e+g)) c [])) (ac (iv zq encI d) (ac (lv 0 ce3 encI d rfl) az)) ?_
    refine gh fol (kI w (kAD (w64 (e+g)) (w64 (c+1)) [])) ?_
    exact⟨M,(ofG 37 (kI w (kAD (w64 (e+g)) (w64 (c+1)) [])),[]),Nat.lt_succ_self _,(Sub.refl _),_,_,rfl,g6⟩
   refine Goes.exit ?_
   obtain rfl:=si g6
   exact Or.inl (⟨rfl,_,rfl,(Sub.keep [3] rfl rfl)⟩)
 rintro x s' (⟨rfl,j,rfl,hsub⟩|⟨rfl,y,rfl,hret⟩)
 ·try dsimp only at h
  refine Goes.sub hsub ?_
  refine sq ?_
  refine sh fol [(36,.bool (decide (j=0)))] ?_
  refine ihD h (fun p h=>?_) (fun p h=>?_)
  ·refine sh fol [(2,.i 6)] ?_
   refine Goes.ret ?_
   obtain rfl:=si h
   exact(gw2 [.i 6] (Ua tI))
  refine Goes.skip ?_
  refine sh fol [(2,.i 0)] ?_
  refine Goes.ret ?_
  obtain rfl:=si h
  exact(gw2 [.i 0] (Ua tI))
 try dsimp only at h
 obtain rfl:=si h
 exact hret
def zy (a:List Int) (b:List Int):Nat->Int->Option (Unit⊕Bool)
 |0,_=>none
 |K+1,c=>
  if c<(a.length:Int)then
  (idx a c).bind fun d=>
  (idx b c).bind fun e=>
  if(!decide (d=e))=true then
  some (.inr false)
  else
  zy a b K (w64 (c+1))
  else
  some (.inl ())
def jK (N:Nat) (a:List Int) (b:List Int):Option Bool:=
 if(!decide ((a.length:Int)=(b.length:Int)))=true then
 some false
 else
 (zy a b N 0).bind (fun
 |(.inl ())=>
 some true
 |(.inr c)=>
 some c)
theorem qar (N:Nat) (a:List Int) (b:List Int) {res:Bool} (h:jK N a b=some res):qb ZT (.fn 32) [vl encI a,vl encI b] [] (.bool res) []:=by
 unfold jK at h
 refine Ud Tryz.func32 rfl rfl (m:=26) rfl (rs:=[.tmp 4]) rfl (l:=(kI a [(1,vl encI b)])) rfl ?_
 refine sh fol (kI a [(1,vl encI b)]) ?_
 refine sq ?_
 refine sh fol (kI a [(1,vl encI b),(10,.bool (!decide ((a.length:Int)=(b.length:Int))))]) ?_
 refine ihB h (fun j h=>?_) (fun j h=>?_)
 ·refine sh fol [(4,.bool false)] ?_
  refine Goes.ret ?_
  obtain rfl:=si h
  exact(gw2 [.bool false] (Ua tB))
 refine Goes.skip ?_
 refine sq ?_
 refine sh fol (kI a [(1,vl encI b),(5,.i 0)]) ?_
 refine Goes.block ?_
 obtain⟨f,g3,h⟩:=bnd h
 refine Goes.imp (Q:=fun x s'=>(x= .exit 0/\(.inl ())=f/\Sub s' (ofG 26 [],[]))\/(x= .ret/\ ∃g,(.inr g)=f/\vP ZT [.tmp 4] (.bool g) .ret s')) ?_ ?_
 ·refine Ub (fun M s=> ∃(c:Int),s=(ofG 26 (kI a [(1,vl encI b),(5,.i c)]),[])/\zy a b M c=some f) ?_ (m:=N) ⟨_,rfl,g3⟩
  rintro M s ⟨c,rfl,g3⟩
  cases M with
  |zero=>simp only[zy]at g3;cases g3
  |succ M=>
   rw[zy]at g3
   refine sq ?_
   refine sh fol (kI a [(1,vl encI b),(5,.i c),(14,.bool (decide (c<(a.length:Int))))]) ?_
   refine ihD g3 (fun k g3=>?_) (fun k g3=>?_)
   ·refine Goes.skip ?_
    refine sq (Goes.block ?_)
    obtain⟨n,d,g3⟩:=bnd g3
    obtain⟨o,e,g3⟩:=bnd g3
    refine sq (gr fol [2,3,6,7] (kI a [(1,vl encI b),(5,.i c),(25,.bool (!decide (n=o)))]) (ac (iv zq encI d) (ac (lv 0 ce3 encI d rfl) (ac (iv zq encI e) (ac (lv 0 ce3 encI e rfl) az)))) ?_)
    refine ihB g3 (fun p g3=>?_) (fun p g3=>?_)
    ·refine sh fol [(4,.bool false)] ?_
     refine Goes.ret ?_
     obtain rfl:=si g3
     exact Or.inr (⟨rfl,_,rfl,(gw2 [.bool false] (Ua tB))⟩)
    refine Goes.skip ?_
    refine gh fol (kI a [(1,vl encI b),(5,.i (w64 (c+1)))]) ?_
    exact⟨M,(ofG 26 (kI a [(1,vl encI b),(5,.i (w64 (c+1)))]),[]),Nat.lt_succ_self _,(Sub.refl _),_,rfl,g3⟩
   refine Goes.exit ?_
   obtain rfl:=si g3
   exact Or.inl (⟨rfl,rfl,(Sub.keep [] rfl rfl)⟩)
 rintro x s' (⟨rfl,rfl,hsub⟩|⟨rfl,q,rfl,hret⟩)
 ·try dsimp only at h
  refine Goes.sub hsub ?_
  refine sh fol [(4,.bool true)] ?_
  refine Goes.ret ?_
  obtain rfl:=si h
  exact(gw2 [.bool true] (Ua tB))
 try dsimp only at h
 obtain rfl:=si h
 exact hret
def zI (N:Nat) (a:List Int) (e:Int) (bad:Int) (want:List Int):Option Bool:=
 if(!decide (bad=0))=true then
 (if(a.length:Int)=0 then
 some (decide (e=bad))
 else
 some false:Option Bool).bind fun b=>
 some b
 else
 (if e=0 then
 (jK N a want).bind fun c=>
 some c
 else
 some false:Option Bool).bind fun d=>
 some d
theorem jg (N:Nat) (a:List Int) (e:Int) (bad:Int) (want:List Int) {res:Bool} (h:zI N a e bad want=some res):qb ZT (.fn 9) [vl encI a,.i e,.i bad,vl encI want] [] (.bool res) []:=by
 unfold zI at h
 refine Ud Tryz.func9 rfl rfl (m:=26) rfl (rs:=[.tmp 8]) rfl (l:=(kI a [(1,.i e),(2,.i bad),(3,vl encI want)])) rfl ?_
 refine sh fol (kI a [(1,.i e),(2,.i bad),(3,vl encI want)]) ?_
 refine sq ?_
 refine sh fol (kI a [(1,.i e),(2,.i bad),(3,vl encI want),(10,.bool (!decide (bad=0)))]) ?_
 refine ihB h (fun n h=>?_) (fun n h=>?_)
 ·refine sq ?_
  obtain⟨j,c,h⟩:=bnd h
  refine Goes.cut (s':=(ofG 26 [(8,.bool j)],[])) ?_ ?_
  ·rcases wyD c with⟨f,c⟩|⟨f,c⟩
   ·obtain rfl:=si c
    exact tr fol [3] [(8,.bool (decide (e=bad)))] (ac (gw f) az)
   obtain rfl:=si c
   exact tr fol [3] [(8,.bool false)] (ac (gw f) az)
  refine Goes.ret ?_
  obtain rfl:=si h
  exact(gw2 [.bool j] (Ua tB))
 refine Goes.skip ?_
 refine sq ?_
 obtain⟨k,b,h⟩:=bnd h
 refine Goes.cut (s':=(ofG 26 [(8,.bool k)],[])) ?_ ?_
 ·rcases wyD b with⟨g,b⟩|⟨g,b⟩
  ·obtain⟨o,d,b⟩:=bnd b
   obtain rfl:=si b
   exact tr fol [2,5] [(8,.bool o)] (ac (gw g) (ac (cv (qar N a want d)) az))
  obtain rfl:=si b
  exact tr fol [2] [(8,.bool false)] (ac (gw g) az)
 refine Goes.ret ?_
 obtain rfl:=si h
 exact(gw2 [.bool k] (Ua tB))
def zV (w:List Int):Nat->Int->Int->Option Int
 |0,_,_=>none
 |K+1,b,a=>
  if a<(w.length:Int)then
  (idx w a).bind fun c=>
  zV w K (w64 (b+c)) (w64 (a+1))
  else
  some b
def zT (total:Int) (w:List Int) (e:Int):Nat->(List Int)->(List Int)->Int->Int->Option ((List Int)×(List Int)×Int)
 |0,_,_,_,_=>none
 |K+1,j,k,d,a=>
  if d<(w.length:Int)then
  (idx w d).bind fun b=>
  (qeJ .i64 (w64 (total*b)) e).bind fun f=>
  (app 8 j [f]).bind fun c=>
  (qby .i64 (w64 (total*b)) e).bind fun g=>
  (app 8 k [g]).bind fun h=>
  (idx c d).bind fun i=>
  zT total w e K c h (w64 (d+1)) (w64 (a-i))
  else
  some (j,k,a)
def zU (w:List Int) (b:List Int):Nat->Int->Int->Option Int
 |0,_,_=>none
 |K+1,c,a=>
  if a<(w.length:Int)then
  (((idx b a).bind fun d=>
  (idx b c).bind fun e=>
  if d>e then
  some a
  else
  some c:Option Int)).bind fun f=>
  zU w b K f (w64 (a+1))
  else
  some c
def zS (N:Nat) (w:List Int):Nat->(List Int)->(List Int)->Int->Option (List Int)
 |0,_,_,_=>none
 |K+1,b,c,d=>
  if d>0 then
  (zU w c N 0 1).bind fun a=>
  (idx b a).bind fun e=>
  (put b a (w64 (e+1))).bind fun f=>
  (idx c a).bind fun h=>
  (put c a (-1)).bind fun g=>
  zS N w K f g (w64 (d-1))
  else
  some b
def jr (N:Nat) (total:Int) (w:List Int):Option (List Int):=
 (zV w N 0 0).bind fun e=>
 (zT total w e N ([]:List Int) ([]:List Int) 0 total).bind fun(a,b,c)=>
 (zS N w N a b c).bind fun d=>
 some d
theorem y9 (N:Nat) (total:Int) (w:List Int) {res:List Int} (h:jr N total w=some res):qb ZT (.fn 10) [.i total,vl encI w] [] (vl encI res) []:=by
 unfold jr at h
 refine Ud Tryz.func10 rfl rfl (m:=90) rfl (rs:=[.tmp 4]) rfl (l:=(kH total w [])) rfl ?_
 refine sh fol (kH total w []) ?_
 refine sh fol (kH total w [(5,.i 0)]) ?_
 refine sq ?_
 refine sh fol (kH total w [(5,.i 0),(6,.i 0)]) ?_
 refine Goes.block ?_
 obtain⟨r4,g4,h⟩:=bnd h
 refine Goes.imp (Q:=fun x s'=>(x= .exit 0/\ ∃q,q=r4/\Sub s' (ofG 90 (kH total w [(5,.i q)]),[]))) ?_ ?_
 ·refine Ub (fun M s=> ∃(U:Int) (O:Int),s=(ofG 90 (kH total w [(5,.i U),(6,.i O)]),[])/\zV w M U O=some r4) ?_ (m:=N) ⟨_,_,rfl,g4⟩
  rintro M s ⟨U,O,rfl,g4⟩
  cases M with
  |zero=>simp only[zV]at g4;cases g4
  |succ M=>
   rw[zV]at g4
   refine sq ?_
   refine sh fol (kH total w [(5,.i U),(6,.i O),(16,.bool (decide (O<(w.length:Int))))]) ?_
   refine ihD g4 (fun c5 g4=>?_) (fun c5 g4=>?_)
   ·refine Goes.skip ?_
    refine sq (Goes.block ?_)
    obtain⟨x6,P,g4⟩:=bnd g4
    refine gr fol [3,4] (kH total w [(5,.i (w64 (U+x6))),(6,.i O)]) (ac (iv zq encI P) (ac (lv 0 ce3 encI P rfl) az)) ?_
    refine gh fol (kH total w [(5,.i (w64 (U+x6))),(6,.i (w64 (O+1)))]) ?_
    exact⟨M,(ofG 90 (kH total w [(5,.i (w64 (U+x6))),(6,.i (w64 (O+1)))]),[]),Nat.lt_succ_self _,(Sub.refl _),_,_,rfl,g4⟩
   refine Goes.exit ?_
   obtain rfl:=si g4
   exact⟨rfl,_,rfl,(Sub.keep [0,1,5] rfl rfl)⟩
 rintro x s' ⟨rfl,q,rfl,hsub⟩
 refine Goes.sub hsub ?_
 refine sh fol (kH total w [(5,.i q),(7,.nilslice),(8,.nilslice)]) ?_
 refine sh fol (kH total w [(5,.i q),(7,.nilslice),(8,.nilslice),(9,.i total)]) ?_
 refine sq ?_
 refine sh fol (kH total w [(5,.i q),(7,.nilslice),(8,.nilslice),(9,.i total),(10,.i 0)]) ?_
 refine Goes.block ?_
 obtain⟨a1,g14,h⟩:=bnd h
 refine Goes.imp (Q:=fun x s'=>(x= .exit 2/\ ∃J K V,(J,K,V)=a1/\Sub s' (ofG 90 (kD w J K V []),(kC J (kC K []))))) ?_ ?_
 ·refine Goes.sub (s':=(ofG 90 (kH total w [(5,.i q),(7,.gslice 0 ([]:List Int).length 1),(8,.gslice 1 ([]:List Int).length 1),(9,.i total),(10,.i 0)]),(kY (kY [])))) (Sub.norm [] [none,none] rfl rfl (.keep (.same nI) (.keep (.same (qy encI _)) (.keep (.same nI) (.keep .nil (.keep .nil (.keep (.same nI) (.keep (.same nI) .nil))))))) (.fresh (.fresh .nil))) ?_
  refine Ub (fun M s=> ∃(T:List Int) (A:List Int) (v:Int) (n:Int),s=(ofG 90 (kH total w [(5,.i q),(7,.gslice 0 T.length 1),(8,.gslice 1 A.length 1),(9,.i n),(10,.i v)]),(kC T (kC A [])))/\zT total w q M T A v n=some a1) ?_ (m:=N) ⟨_,_,_,_,rfl,g14⟩
  rintro M s ⟨T,A,v,n,rfl,g14⟩
  cases M with
  |zero=>simp only[zT]at g14;cases g14
  |succ M=>
   rw[zT]at g14
   refine sq ?_
   refine sh fol (kH total w [(5,.i q),(7,.gslice 0 T.length 1),(8,.gslice 1 A.length 1),(9,.i n),(10,.i v),(29,.bool (decide (v<(w.length:Int))))]) ?_
   refine ihD g14 (fun c15 g14=>?_) (fun c15 g14=>?_)
   ·refine Goes.skip ?_
    refine sq (Goes.block ?_)
    obtain⟨a2,o,g14⟩:=bnd g14
    obtain⟨j,W,g14⟩:=bnd g14
    obtain⟨d,X,g14⟩:=bnd g14
    refine sq (gq fol [4,5,8,10] (kH total w [(5,.i q),(7,.gslice 3 d.length 1),(8,.gslice 1 A.length 1),(9,.i n),(10,.i v)]) (.dead::(kC A (kU j (kC d [])))) (ac (iv zq encI o) (ac (lv 0 ce3 encI o rfl) (ac (hs (.done (.opt (yD ZT .quo 3 (.tmp 38) (.tmp 39) (.i (w64 (total*a2))) (.i q))) (.i j)) (qdZ W)) (ac (hs (.run [0,2] (jN ZT [22,22] (.gslice 0 T.length 1) (.slice 2 0 1 1 1)) (kC T (kC A (kU j []))) (.gslice 3 d.length 1) (.dead::(kC A (kU j (kC d [])))) true) (yK zq (E:=encI) rfl (qc7 (E:=encI) (ys:=[j]) rfl rfl rfl rfl) (qee (E:=encI) (l:=T) rfl rfl rfl X rfl))) az)))) ?_)
    obtain⟨u,Y,g14⟩:=bnd g14
    obtain⟨k,Z,g14⟩:=bnd g14
    refine sq (gq fol [4,5,8,10] (kH total w [(5,.i q),(7,.gslice 3 d.length 1),(8,.gslice 5 k.length 1),(9,.i n),(10,.i v)]) (kP j (kC d (kU u (kC k [])))) (ac (iv zq encI o) (ac (lv 0 ce3 encI o rfl) (ac (hs (.done (.opt (yD ZT .rem 3 (.tmp 49) (.tmp 50) (.i (w64 (total*a2))) (.i q))) (.i u)) (xL Y)) (ac (hs (.run [1,4] (jN ZT [22,22] (.gslice 1 A.length 1) (.slice 4 0 1 1 1)) (.dead::(kC A (kU j (kC d (kU u []))))) (.gslice 5 k.length 1) (kP j (kC d (kU u (kC k [])))) true) (yK zq (E:=encI) rfl (qc7 (E:=encI) (ys:=[u]) rfl rfl rfl rfl) (qee (E:=encI) (l:=A) rfl rfl rfl Z rfl))) az)))) ?_)
    obtain⟨L,B,g14⟩:=bnd g14
    refine gr fol [3,4] (kH total w [(5,.i q),(7,.gslice 3 d.length 1),(8,.gslice 5 k.length 1),(9,.i (w64 (n-L))),(10,.i v)]) (ac (hs (.done (.opt (qd ZT 22 (.gslice 3 d.length 1) (.i v))) (.ptr 3 ((v:Int).toNat*1+0))) (zY zq B)) (ac (hs (.run [3] (zG ZT 3 (.ptr 3 ((v:Int).toNat*1+0))) (kP j (kC d (kU u (kC k [])))) (.i L) (kP j (kC d (kU u (kC k [])))) false) (yu ce3 (E:=encI) (l:=d) rfl rfl B (nl rfl) rfl)) az)) ?_
    refine gh fol (kH total w [(5,.i q),(7,.gslice 3 d.length 1),(8,.gslice 5 k.length 1),(9,.i (w64 (n-L))),(10,.i (w64 (v+1)))]) ?_
    exact⟨M,(ofG 90 (kH total w [(5,.i q),(7,.gslice 0 d.length 1),(8,.gslice 1 k.length 1),(9,.i (w64 (n-L))),(10,.i (w64 (v+1)))]),(kC d (kC k []))),Nat.lt_succ_self _,(Sub.norm [] [some 3,some 5] rfl rfl (.keep (.same nI) (.keep (.same (qy encI _)) (.keep (.same nI) (.keep (.gslice rfl) (.keep (.gslice rfl) (.keep (.same nI) (.keep (.same nI) .nil))))))) (.ks (.ks .nil))),_,_,_,_,rfl,g14⟩
   refine Goes.exit ?_
   obtain rfl:=si g14
   exact⟨rfl,_,_,_,rfl,(Sub.keep [1,7,8,9] rfl rfl)⟩
 rintro x s' ⟨rfl,J,K,V,rfl,hsub⟩
 try dsimp only at h
 refine Goes.sub hsub ?_
 refine sq (Goes.block ?_)
 obtain⟨a3,g26,h⟩:=bnd h
 refine Goes.imp (Q:=fun x s'=>(x= .exit 4/\ ∃z,z=a3/\Sub s' (ofG 90 [(7,.gslice 0 z.length 1)],(kC z [])))) ?_ ?_
 ·refine Ub (fun M s=> ∃(b:List Int) (a:List Int) (c:Int),s=(ofG 90 (kD w b a c []),(kC b (kC a [])))/\zS N w M b a c=some a3) ?_ (m:=N) ⟨_,_,_,rfl,g26⟩
  rintro M s ⟨b,a,c,rfl,g26⟩
  cases M with
  |zero=>simp only[zS]at g26;cases g26
  |succ M=>
   rw[zS]at g26
   refine sq ?_
   refine sh fol (kD w b a c [(61,.bool (decide (c>0)))]) ?_
   refine ihD g26 (fun c27 g26=>?_) (fun c27 g26=>?_)
   ·refine Goes.skip ?_
    refine sq (Goes.block ?_)
    refine sh fol (kD w b a c [(11,.i 0)]) ?_
    refine sq ?_
    refine sh fol (kD w b a c [(11,.i 0),(12,.i 1)]) ?_
    refine Goes.block ?_
    obtain⟨a4,g31,g26⟩:=bnd g26
    refine Goes.imp (Q:=fun x s'=>(x= .exit 6/\ ∃f,f=a4/\Sub s' (ofG 90 (kD w b a c [(11,.i f)]),(kC b (kC a []))))) ?_ ?_
    ·refine Ub (fun M s=> ∃(r:Int) (g:Int),s=(ofG 90 (kD w b a c [(11,.i r),(12,.i g)]),(kC b (kC a [])))/\zU w a M r g=some a4) ?_ (m:=N) ⟨_,_,rfl,g31⟩
     rintro M s ⟨r,g,rfl,g31⟩
     cases M with
     |zero=>simp only[zU]at g31;cases g31
     |succ M=>
      rw[zU]at g31
      refine sq ?_
      refine sh fol (kD w b a c [(11,.i r),(12,.i g),(67,.bool (decide (g<(w.length:Int))))]) ?_
      refine ihD g31 (fun c32 g31=>?_) (fun c32 g31=>?_)
      ·refine Goes.skip ?_
       refine sq ?_
       obtain⟨r34,g34,g31⟩:=bnd g31
       refine Goes.imp (Q:=fun x s'=>(x= .normal/\ ∃C,C=r34/\Sub s' (ofG 90 (kD w b a c [(11,.i C),(12,.i g)]),(kC b (kC a []))))) ?_ ?_
       ·refine Goes.block ?_
        obtain⟨a5,D,g34⟩:=bnd g34
        obtain⟨a6,F,g34⟩:=bnd g34
        refine sq (gr fol [2,3,6,7] (kD w b a c [(11,.i r),(12,.i g),(78,.bool (decide (a5>a6)))]) (ac (hs (.done (.opt (qd ZT 22 (.gslice 1 a.length 1) (.i g))) (.ptr 1 ((g:Int).toNat*1+0))) (zY zq D)) (ac (hs (.run [1] (zG ZT 3 (.ptr 1 ((g:Int).toNat*1+0))) (kC b (kC a [])) (.i a5) (kC b (kC a [])) false) (yu ce3 (E:=encI) (l:=a) rfl rfl D (nl rfl) rfl)) (ac (hs (.done (.opt (qd ZT 22 (.gslice 1 a.length 1) (.i r))) (.ptr 1 ((r:Int).toNat*1+0))) (zY zq F)) (ac (hs (.run [1] (zG ZT 3 (.ptr 1 ((r:Int).toNat*1+0))) (kC b (kC a [])) (.i a6) (kC b (kC a [])) false) (yu ce3 (E:=encI) (l:=a) rfl rfl F (nl rfl) rfl)) az)))) ?_)
        refine ihD g34 (fun c37 g34=>?_) (fun c37 g34=>?_)
        ·refine gh fol (kD w b a c [(11,.i g),(12,.i g)]) ?_
         obtain rfl:=si g34
         exact⟨rfl,_,rfl,(Sub.refl _)⟩
        refine Goes.skip ?_
        obtain rfl:=si g34
        exact⟨rfl,_,rfl,(Sub.keep [1,7,8,9,11,12] rfl rfl)⟩
       rintro x s' ⟨rfl,C,rfl,hsub⟩
       refine Goes.sub hsub ?_
       refine gh fol (kD w b a c [(11,.i C),(12,.i (w64 (g+1)))]) ?_
       exact⟨M,(ofG 90 (kD w b a c [(11,.i C),(12,.i (w64 (g+1)))]),(kC b (kC a []))),Nat.lt_succ_self _,(Sub.refl _),_,_,rfl,g31⟩
      refine Goes.exit ?_
      obtain rfl:=si g31
      exact⟨rfl,_,rfl,(Sub.keep [1,7,8,9,11] rfl rfl)⟩
    rintro x s' ⟨rfl,f,rfl,hsub⟩
    refine Goes.sub hsub ?_
    obtain⟨a0,p,g26⟩:=bnd g26
    obtain⟨e,G,g26⟩:=bnd g26
    refine sq (gq fol [2,3,5,6] (kD w b a c [(11,.i f)]) (kC e (kC a [])) (ac (hs (.done (.opt (qd ZT 22 (.gslice 0 b.length 1) (.i f))) (.ptr 0 ((f:Int).toNat*1+0))) (zY zq p)) (ac (hs (.run [0] (zG ZT 3 (.ptr 0 ((f:Int).toNat*1+0))) (kC b (kC a [])) (.i a0) (kC b (kC a [])) false) (yu ce3 (E:=encI) (l:=b) rfl rfl p (nl rfl) rfl)) (ac (hs (.done (.opt (qd ZT 22 (.gslice 0 b.length 1) (.i f))) (.ptr 0 ((f:Int).toNat*1+0))) (zY zq p)) (ac (hs (.run [0] (jQ ZT 3 (.ptr 0 ((f:Int).toNat*1+0)) (.i (w64 (a0+1)))) (kC b (kC a [])) .undef (kC e (kC a [])) true) (xe (E:=encI) (l:=b) (y:=w64 (a0+1)) rfl (show _=some 1 by kernel_rfl) rfl p rfl rfl rfl rfl rfl G rfl)) az)))) ?_)
    refine Goes.sub (show Sub (ofG 90 (kD w b a c [(11,.i f)]),(kC e (kC a []))) (ofG 90 (kD w e a c [(11,.i f)]),(kC e (kC a [])))from(Sub.norm [] [some 0,some 1] rfl rfl (.keep (.same (qy encI _)) (.keep (.gsliceE rfl (vo G)) (.keep (.gslice rfl) (.keep (.same nI) (.keep (.same nI) .nil))))) (.ks (.ks .nil)))) ?_
    obtain⟨x40,H,g26⟩:=bnd g26
    obtain⟨t,I,g26⟩:=bnd g26
    refine gq fol [2,3] (kD w e a c []) (kC e (kC t [])) (ac (hs (.done (.opt (qd ZT 22 (.gslice 1 a.length 1) (.i f))) (.ptr 1 ((f:Int).toNat*1+0))) (zY zq H)) (ac (hs (.run [1] (jQ ZT 3 (.ptr 1 ((f:Int).toNat*1+0)) (.i (-1))) (kC e (kC a [])) .undef (kC e (kC t [])) true) (xe (E:=encI) (l:=a) (y:=(-1)) rfl (show _=some 1 by kernel_rfl) rfl H rfl rfl rfl rfl rfl I rfl)) az)) ?_
    refine Goes.sub (show Sub (ofG 90 (kD w e a c []),(kC e (kC t []))) (ofG 90 (kD w e t c []),(kC e (kC t [])))from(Sub.norm [] [some 0,some 1] rfl rfl (.keep (.same (qy encI _)) (.keep (.gslice rfl) (.keep (.gsliceE rfl (vo I)) (.keep (.same nI) .nil)))) (.ks (.ks .nil)))) ?_
    refine gh fol (kD w e t (w64 (c-1)) []) ?_
    exact⟨M,(ofG 90 (kD w e t (w64 (c-1)) []),(kC e (kC t []))),Nat.lt_succ_self _,(Sub.refl _),_,_,_,rfl,g26⟩
   refine Goes.exit ?_
   obtain rfl:=si g26
   exact⟨rfl,_,rfl,(Sub.norm [] [some 0] rfl rfl (.drop (.keep (.gslice rfl) .nil)) (.ks .nil))⟩
 rintro x s' ⟨rfl,z,rfl,hsub⟩
 refine Goes.sub hsub ?_
 refine sh fol [(4,.gslice 0 z.length 1)] ?_
 refine Goes.ret ?_
 obtain rfl:=si h
 exact(gw2 [.gslice 0 z.length 1] (FzW.fz (Fz.gs (E:=encI) rfl rfl (nl rfl))))
def jc (n:Int):Nat->(Option (List Int))->Int->Int->Option (Option (List Int))
 |0,_,_,_=>none
 |K+1,g,c,h=>
  if c<n then
  ((qby .i64 ((w64 (39373*h)).tmod 2147483647) (w64 (c+1))).bind fun a=>
  (match g with
  |none=>
  (ins0 (if 0<a then 0 else a) c).bind fun d=>
  some d
  |some b=>
  (qeE b (if(b.length:Int)<a then(b.length:Int)else a) c).bind fun e=>
  some e):Option (List Int)).bind fun f=>
  jc n K (some f) (w64 (c+1)) ((w64 (39373*h)).tmod 2147483647)
  else
  some g
def jY (N:Nat) (key:Int) (n:Int):Option ((List Int)×Int):=
 (if key<1 then
 some true
 else
 if key>2147483646 then
 some true
 else
 if n<0 then
 some true
 else
 some (decide (n>256)):Option Bool).bind fun b=>
 if b=true then
 some ([],3)
 else
 (jc n N (none:Option (List Int)) 0 key).bind fun a=>
 some ((hof a),0)
theorem qbw (N:Nat) (key:Int) (n:Int) {res:(List Int)×Int} (h:jY N key n=some res):qb ZT (.fn 11) [.i key,.i n] [] (.tuple [vl encI res.1,.i res.2]) []:=by
 unfold jY at h
 refine Ud Tryz.func11 rfl rfl (m:=44) rfl (rs:=[.tmp 4,.tmp 5]) rfl (l:=(kQ key n [])) rfl ?_
 refine sh fol (kQ key n []) ?_
 refine sq ?_
 refine sq ?_
 obtain⟨B,b,h⟩:=bnd h
 refine Goes.cut (s':=(ofG 44 (kQ key n [(22,.bool B)]),[])) ?_ ?_
 ·rcases wyD b with⟨v,b⟩|⟨v,b⟩
  ·obtain rfl:=si b
   exact tr fol [2] (kQ key n [(22,.bool true)]) (ac (gw v) az)
  rcases wyD b with⟨y,b⟩|⟨y,b⟩
  ·obtain rfl:=si b
   exact tr fol [2,6] (kQ key n [(22,.bool true)]) (ac (gw v) (ac (gw y) az))
  rcases wyD b with⟨z,b⟩|⟨z,b⟩
  ·obtain rfl:=si b
   exact tr fol [2,6,10] (kQ key n [(22,.bool true)]) (ac (gw v) (ac (gw y) (ac (gw z) az)))
  obtain rfl:=si b
  exact tr fol [2,6,10] (kQ key n [(22,.bool (decide (n>256)))]) (ac (gw v) (ac (gw y) (ac (gw z) az)))
 refine ihB h (fun C h=>?_) (fun C h=>?_)
 ·refine sh fol [(4,.nilslice),(5,.i 3)] ?_
  refine Goes.ret ?_
  obtain rfl:=si h
  exact(gw2 [.nilslice,.i 3] (FzW.tuple (yV.cons (FzW.nilv (E:=encI)) (yV.cons (Ua tI) yV.nil))))
 refine Goes.skip ?_
 refine sh fol (kQ key n [(6,.nilslice)]) ?_
 refine sh fol [(1,.i n),(6,.nilslice),(7,.i key)] ?_
 refine sq ?_
 refine sh fol [(6,.nilslice),(7,.i key),(24,.i n),(25,.i 0)] ?_
 refine Goes.block ?_
 obtain⟨w,g11,h⟩:=bnd h
 refine Goes.imp (Q:=fun x s'=>(x= .exit 0/\ ∃g,g=w/\Sub s' (ofG 44 [(6,hsl 0 1 g)],[.cells ((hof g).flatMap encI.c)]))) ?_ ?_
 ·refine Goes.sub (s':=(ofG 44 [(6,hsl 0 1 (none:Option (List Int))),(7,.i key),(24,.i n),(25,.i 0)],[.cells ((hof (none:Option (List Int))).flatMap encI.c)])) (Sub.norm [] [none] rfl rfl (.keep zD.hs0 (.keep (.same nI) (.keep (.same nI) (.keep (.same nI) .nil)))) (.fresh .nil)) ?_
  refine Ub (fun M s=> ∃(r:Option (List Int)) (d:Int) (j:Int),s=(ofG 44 ((6,hsl 0 1 r)::(7,.i j)::(kAC n d)),[.cells ((hof r).flatMap encI.c)])/\jc n M r d j=some w) ?_ (m:=N) ⟨_,_,_,rfl,g11⟩
  rintro M s ⟨r,d,j,rfl,g11⟩
  cases M with
  |zero=>simp only[jc]at g11;cases g11
  |succ M=>
   rw[jc]at g11
   refine sh fol [(6,hsl 0 1 r),(7,.i j),(24,.i n),(25,.i d),(26,.bool (decide (d<n)))] ?_
   refine sq ?_
   refine ihD g11 (fun A g11=>?_) (fun A g11=>?_)
   ·refine Goes.skip ?_
    refine sq (Goes.block ?_)
    refine sh fol ((6,hsl 0 1 r)::(kX j d (kAC n d))) ?_
    refine sh fol ((6,hsl 0 1 r)::(kX ((w64 (39373*j)).tmod 2147483647) d (kAC n d))) ?_
    obtain⟨k,a,g11⟩:=bnd g11
    refine Goes.cutS (s':=(ofG 44 ((6,.oslice 0 k.length 1)::(7,.i ((w64 (39373*j)).tmod 2147483647))::(kAC n d)),(kC k []))) ?_ ?_
    ·obtain⟨e,o,a⟩:=bnd a
     rcases r with _|f
     ·try dsimp only at a
      obtain⟨p,t,a⟩:=bnd a
      obtain rfl:=si a
      exact ji.sub (ji.rq fol [4,10] ((6,.oslice 2 p.length 1)::(7,.i ((w64 (39373*j)).tmod 2147483647))::(kAC n d)) (.cells ((hof (none:Option (List Int))).flatMap encI.c)::(kU d (kC p []))) (ac (hs (.done (.opt (yD ZT .rem 3 (.tmp 32) (.tmp 34) (.i ((w64 (39373*j)).tmod 2147483647)) (.i (w64 (d+1))))) (.i e)) (xL o)) (ac (hs (.callH 40 [.nilslice,.i (if 0<e then 0 else e),.slice 1 0 1 1 1] (.cells ((hof (none:Option (List Int))).flatMap encI.c)::(kU d [])) [1] (.oslice 2 p.length 1) (.cells ((hof (none:Option (List Int))).flatMap encI.c)::(kU d (kC p [])))) (j3 [some 1] [none,some 0,some 1] (qgs (if 0<e then 0 else e) d t) (.kb rfl (.cells (rc (.same nI) rn)) .nil) rfl rfl (.old rfl rfl (.back rfl rfl (.cells (rc (.same nI) rn)) rfl (.new rfl rfl (.same fa) rfl .nil))) (rc (.same (qo.nilslice)) (rc (.same nI) (rc (.slice rfl) rn))) (.oslice rfl) rfl)) az))) (Sub.norm [] [some 2] rfl rfl (.keep (.oslice rfl) (.keep (.same nI) (.keep (.same nI) (.keep (.same nI) .nil)))) (.ks .nil))
     try dsimp only at a
     obtain⟨q,u,a⟩:=bnd a
     obtain rfl:=si a
     exact ji.sub (ji.rq fol [4,10] ((6,.oslice 2 q.length 1)::(7,.i ((w64 (39373*j)).tmod 2147483647))::(kAC n d)) (.dead::(kU d (kC q []))) (ac (hs (.done (.opt (yD ZT .rem 3 (.tmp 32) (.tmp 34) (.i ((w64 (39373*j)).tmod 2147483647)) (.i (w64 (d+1))))) (.i e)) (xL o)) (ac (hs (.callH 40 [.oslice 0 f.length 1,.i (if(f.length:Int)<e then(f.length:Int)else e),.slice 1 0 1 1 1] (kC f (kU d [])) [0,1] (.oslice 2 q.length 1) (.dead::(kU d (kC q [])))) (j3 [some 0,some 1] [none,some 1,some 2] (qgx f (if(f.length:Int)<e then(f.length:Int)else e) d u) (.ks (.kb rfl (.cells (rc (.same nI) rn)) .nil)) rfl rfl (.dead (.back rfl rfl (.cells (rc (.same nI) rn)) rfl (.new rfl rfl (.same fa) rfl .nil))) (rc (.oslice rfl) (rc (.same nI) (rc (.slice rfl) rn))) (.oslice rfl) rfl)) az))) (Sub.norm [] [some 2] rfl rfl (.keep (.oslice rfl) (.keep (.same nI) (.keep (.same nI) (.keep (.same nI) .nil)))) (.ks .nil))
    intro _ hsub
    refine Goes.sub hsub ?_
    refine gh fol ((6,.oslice 0 k.length 1)::(7,.i ((w64 (39373*j)).tmod 2147483647))::(kAC n (w64 (d+1)))) ?_
    exact⟨M,(ofG 44 ((6,hsl 0 1 (some k))::(7,.i ((w64 (39373*j)).tmod 2147483647))::(kAC n (w64 (d+1)))),[.cells ((hof (some k)).flatMap encI.c)]),Nat.lt_succ_self _,(Sub.norm [] [some 0] rfl rfl (.keep (zD.hs1 rfl) (.keep (.same nI) (.keep (.same nI) (.keep (.same nI) .nil)))) (.ks .nil)),_,_,_,rfl,g11⟩
   refine Goes.exit ?_
   obtain rfl:=si g11
   exact⟨rfl,_,rfl,(Sub.keep [6] rfl rfl)⟩
 rintro x s' ⟨rfl,g,rfl,hsub⟩
 refine Goes.sub hsub ?_
 refine sh fol [(4,hsl 0 1 g),(5,.i 0)] ?_
 refine Goes.ret ?_
 obtain rfl:=si h
 exact(gw2 [hsl 0 1 g,.i 0] (FzW.tuple (yV.cons (FzW.hs (E:=encI) rfl rfl (nl rfl)) (yV.cons (Ua tI) yV.nil))))
def je (key:Int) (n:Int):Option Int:=
 (if key<1 then
 some true
 else
 if key>2147483646 then
 some true
 else
 if n<0 then
 some true
 else
 some (decide (n>256)):Option Bool).bind fun a=>
 if a=true then
 some 3
 else
 some 0
theorem qaj (key:Int) (n:Int) {res:Int} (h:je key n=some res):qb ZT (.fn 12) [.i key,.i n] [] (.i res) []:=by
 unfold je at h
 refine Ud Tryz.func12 rfl rfl (m:=19) rfl (rs:=[.tmp 4]) rfl (l:=(kQ key n [])) rfl ?_
 refine sh fol (kQ key n []) ?_
 refine sq ?_
 refine sq ?_
 obtain⟨e,a,h⟩:=bnd h
 refine Goes.cut (s':=(ofG 19 [(18,.bool e)],[])) ?_ ?_
 ·rcases wyD a with⟨b,a⟩|⟨b,a⟩
  ·obtain rfl:=si a
   exact tr fol [2] [(18,.bool true)] (ac (gw b) az)
  rcases wyD a with⟨c,a⟩|⟨c,a⟩
  ·obtain rfl:=si a
   exact tr fol [2,6] [(18,.bool true)] (ac (gw b) (ac (gw c) az))
  rcases wyD a with⟨d,a⟩|⟨d,a⟩
  ·obtain rfl:=si a
   exact tr fol [2,6,10] [(18,.bool true)] (ac (gw b) (ac (gw c) (ac (gw d) az)))
  obtain rfl:=si a
  exact tr fol [2,6,10] [(18,.bool (decide (n>256)))] (ac (gw b) (ac (gw c) (ac (gw d) az)))
 refine ihB h (fun f h=>?_) (fun f h=>?_)
 ·refine sh fol [(4,.i 3)] ?_
  refine Goes.ret ?_
  obtain rfl:=si h
  exact(gw2 [.i 3] (Ua tI))
 refine Goes.skip ?_
 refine sh fol [(4,.i 0)] ?_
 refine Goes.ret ?_
 obtain rfl:=si h
 exact(gw2 [.i 0] (Ua tI))
def zL (n:Int):Nat->Int->(List Int)->Int->Option (List Int)
 |0,_,_,_=>none
 |K+1,f,a,b=>
  if b<n then
  (qby .i64 ((w64 (39373*f)).tmod 2147483647) (w64 (b+1))).bind fun g=>
  (cut a 0 g).bind fun h=>
  (app 8 ([]:List Int) h).bind fun i=>
  (app 8 i [b]).bind fun c=>
  (cut a g (a.length:Int)).bind fun d=>
  (app 8 c d).bind fun e=>
  zL n K ((w64 (39373*f)).tmod 2147483647) e (w64 (b+1))
  else
  some a
def vM (N:Nat) (key:Int) (n:Int):Option (List Int):=
 (zL n N key ([]:List Int) 0).bind fun a=>
 some a
theorem qbJ (N:Nat) (key:Int) (n:Int) {res:List Int} (h:vM N key n=some res):qb ZT (.fn 13) [.i key,.i n] [] (vl encI res) []:=by
 unfold vM at h
 refine Ud Tryz.func13 rfl rfl (m:=33) rfl (rs:=[.tmp 4]) rfl (l:=(kQ key n [])) rfl ?_
 refine sh fol (kQ key n []) ?_
 refine sh fol (kQ key n [(5,.nilslice)]) ?_
 refine sq ?_
 refine sh fol (kQ key n [(5,.nilslice),(6,.i 0)]) ?_
 refine Goes.block ?_
 obtain⟨v,g5,h⟩:=bnd h
 refine Goes.imp (Q:=fun x s'=>(x= .exit 0/\ ∃o,o=v/\Sub s' (ofG 33 [(5,vl encI o)],[]))) ?_ ?_
 ·refine Goes.sub (s':=(ofG 33 (kQ key n [(5,vl encI ([]:List Int)),(6,.i 0)]),[])) (Sub.norm [] [] rfl rfl (.keep (.same nI) (.keep (.same nI) (.keep .nilv (.keep (.same nI) .nil)))) .nil) ?_
  refine Ub (fun M s=> ∃(d:Int) (e:List Int) (a:Int),s=(ofG 33 (kQ d n (kW e a [])),[])/\zL n M d e a=some v) ?_ (m:=N) ⟨_,_,_,rfl,g5⟩
  rintro M s ⟨d,e,a,rfl,g5⟩
  cases M with
  |zero=>simp only[zL]at g5;cases g5
  |succ M=>
   rw[zL]at g5
   refine sq ?_
   refine sh fol (kQ d n (kW e a [(10,.bool (decide (a<n)))])) ?_
   refine ihD g5 (fun y g5=>?_) (fun y g5=>?_)
   ·refine Goes.skip ?_
    refine sq (Goes.block ?_)
    refine sh fol (kQ ((w64 (39373*d)).tmod 2147483647) n (kW e a [])) ?_
    obtain⟨k,p,g5⟩:=bnd g5
    refine sq (gr fol [3] (kQ ((w64 (39373*d)).tmod 2147483647) n (kW e a [(7,.i k)])) (ac (hs (.done (.opt (yD ZT .rem 3 (.tmp 16) (.tmp 18) (.i ((w64 (39373*d)).tmod 2147483647)) (.i (w64 (a+1))))) (.i k)) (xL p)) az) ?_)
    obtain⟨w,q,g5⟩:=bnd g5
    obtain⟨r,t,g5⟩:=bnd g5
    obtain⟨c,f,g5⟩:=bnd g5
    obtain⟨u,g,g5⟩:=bnd g5
    obtain⟨b,j,g5⟩:=bnd g5
    refine gq fol [3,4,7,10,11] (kQ ((w64 (39373*d)).tmod 2147483647) n [(5,.oslice 4 b.length 1),(6,.i a)]) (kP a (.dead::(kC b []))) (ac (hs (.done (.opt (xw ZT 22 (vl encI e) none (some (.i k)) none)) (vl encI w)) (qf6 zq (E:=encI) rfl none (some k) q)) (ac (hs (.run [0] (jN ZT [22,22] (.slice 0 0 0 0 1) (vl encI w)) [.cells []] (.oslice 1 r.length 1) (.dead::(kC r [])) true) (yK zq (E:=encI) rfl (qgR (E:=encI) rfl _) (dst_z (E:=encI) rfl rfl rfl t rfl))) (ac (hs (.run [1,2] (jN ZT [22,22] (.oslice 1 r.length 1) (.slice 2 0 1 1 1)) (.dead::(kC r (kU a []))) (.oslice 3 c.length 1) (kP a (kC c [])) true) (yK zq (E:=encI) rfl (qc7 (E:=encI) (ys:=[a]) rfl rfl rfl rfl) (qgM (E:=encI) (l:=r) rfl rfl rfl f rfl))) (ac (hs (.done (.opt (xw ZT 22 (vl encI e) (some (.i k)) none none)) (vl encI u)) (qf6 zq (E:=encI) rfl (some k) none g)) (ac (hs (.run [3] (jN ZT [22,22] (.oslice 3 c.length 1) (vl encI u)) (kP a (kC c [])) (.oslice 4 b.length 1) (kP a (.dead::(kC b []))) true) (yK zq (E:=encI) rfl (qgR (E:=encI) rfl _) (qgM (E:=encI) (l:=c) rfl rfl rfl j rfl))) az))))) ?_
    refine gh fol (kQ ((w64 (39373*d)).tmod 2147483647) n [(5,.oslice 4 b.length 1),(6,.i (w64 (a+1)))]) ?_
    exact⟨M,(ofG 33 (kQ ((w64 (39373*d)).tmod 2147483647) n (kW b (w64 (a+1)) [])),[]),Nat.lt_succ_self _,(Sub.norm [4] [] rfl rfl (.keep (.same nI) (.keep (.same nI) (.keep (.frz (Fz.os (E:=encI) rfl rfl (nl rfl)) (qy encI _)) (.keep (.same nI) .nil)))) .nil),_,_,_,rfl,g5⟩
   refine Goes.exit ?_
   obtain rfl:=si g5
   exact⟨rfl,_,rfl,(Sub.keep [5] rfl rfl)⟩
 rintro x s' ⟨rfl,o,rfl,hsub⟩
 refine Goes.sub hsub ?_
 refine sh fol [(4,vl encI o)] ?_
 refine Goes.ret ?_
 obtain rfl:=si h
 exact(gw2 [vl encI o] (Ua (jB encI _ (nl rfl))))
end Go.Av
