/-
  Walks of functions: what each computes, as a plain function.
-/
import Derived.Test.YtfffkfkghchbdaaGreatDoorAvJnL
noncomputable section
namespace Go.Av
open Go.Proofs Go.RowKit
abbrev ZT:=Tryz.prog
set_option linter.unusedSectionVars false
set_option linter.unusedVariables false
set_option linter.unusedSimpArgs false
set_option maxRecDepth 100000
theorem fol:Tryz.prog.follows .mixedOrders=true:=by kernel_rfl
structure qj where
 Name:Str
 Yarn:Str
 Dye:Str
 Stock:Int
def qa:Enc qj:=(encS.prod (encS.prod (encS.prod encI))).comap fun x=>(x.Name,x.Yarn,x.Dye,x.Stock)
instance:SE qa:=⟨nl rfl⟩
structure qh where
 Lot:Str
 Order:Str
 Reserved:Int
 Taken:Int
def qb:Enc qh:=(encS.prod (encS.prod (encI.prod encI))).comap fun x=>(x.Lot,x.Order,x.Reserved,x.Taken)
instance:SE qb:=⟨nl rfl⟩
structure StateT where
 Day:Int
 Lots:List qj
 Holds:List qh
def qdj:Enc StateT:=(encI.prod ((qc7 qa).prod (qc7 qb))).comap fun x=>(x.Day,x.Lots,x.Holds)
instance:SE qdj:=⟨nl rfl⟩
structure qX where
 Day:Int
 Lots:List qj
 Holds:List qh
def qfs:Enc qX:=(encI.prod ((qc7 qa).prod (qc7 qb))).comap fun x=>(x.Day,x.Lots,x.Holds)
instance:SE qfs:=⟨nl rfl⟩
structure qfo where
 Yarn:Str
 Dye:Str
 Amount:Int
def qfE:Enc qfo:=(encS.prod (encS.prod encI)).comap fun x=>(x.Yarn,x.Dye,x.Amount)
instance:SE qfE:=⟨nl rfl⟩
abbrev kA (a:Int) (b:List qj) (c:List qh) (x:List Blk):List Blk:= .cells [.i a,vl qa b,vl qb c]::x
abbrev kB (a:Int) (b:List Int) (c:List Int) (d:Bool) (e:Int) (x:List (Nat×AV)):List (Nat×AV):=(3,.i a)::(4,.ptr 0 0)::(10,vl encI b)::(11,vl encI c)::(12,.bool d)::(13,.i e)::x
abbrev kC (a:Int) (b:Int) (c:Int) (d:Int) (e:Int) (f:List Int) (g:Int) (h:Int) (i:Int) (x:List (Nat×AV)):List (Nat×AV):=(8,.i a)::(9,.i b)::(10,.i c)::(11,.i d)::(12,.i e)::(13,vl encI f)::(14,.i g)::(16,.i h)::(17,.i i)::x
abbrev kD (a:Str) (b:Str) (x:List (Nat×AV)):List (Nat×AV):=(1,.str a)::(2,.str b)::(3,.ptr 0 0)::x
abbrev kE (a:Int) (b:List Int) (c:List Int) (x:List (Nat×AV)):List (Nat×AV):=(3,.i a)::(4,.ptr 0 0)::(11,vl encI b)::(16,vl encI c)::x
abbrev kF (a:List Int) (x:List Blk):List Blk:= .cells (a.flatMap encI.c)::x
abbrev kG (a:Str) (b:Str) (c:Int) (x:List (Nat×AV)):List (Nat×AV):=(1,.str a)::(2,.str b)::(3,.i c)::(4,.ptr 0 0)::x
abbrev kH (a:Str) (b:Str) (c:Int) (d:Int) (x:List Blk):List Blk:= .cells [.str a,.str b,.i c,.i d]::x
abbrev kI (a:Int) (b:List qj) (c:List qh) (x:List Blk):List Blk:= .cells [.i 0,.nilslice,.nilslice]:: .cells [.i a,.gslice 2 b.length 4,.gslice 3 c.length 4]:: .cells (b.flatMap qa.c):: .cells (c.flatMap qb.c)::x
abbrev kJ (a:List Int) (b:List Int) (x:List (Nat×AV)):List (Nat×AV):=(0,vl encI a)::(1,vl encI b)::x
abbrev kK (a:Str) (b:Str) (c:Str) (d:Int) (x:List Blk):List Blk:= .cells [.str a,.str b,.str c,.i d]::x
abbrev kL (a:Int) (b:List qj) (c:List qh) (x:List (Nat×AV)):List (Nat×AV):=(0,.agg [.i a,vl qa b,vl qb c])::x
abbrev kM (x:List (Nat×AV)):List (Nat×AV):=(2,.ptr 0 0)::x
abbrev kN (x:List (Nat×AV)):List (Nat×AV):=(5,.ptr 1 0)::(7,.ptr 2 0)::x
abbrev kO (a:Int) (b:List qj) (x:List Blk):List Blk:= .cells [.i 0,.nilslice,.nilslice]:: .cells [.i a,.gslice 3 b.length 4,.nilslice]:: .cells (b.flatMap qa.c)::x
abbrev kP (a:List qj) (b:Int) (x:List (Nat×AV)):List (Nat×AV):=(1,.ptr 0 0)::(2,.ptr 1 0)::(3,.ptr 2 0)::(12,vl qa a)::(13,.i b)::x
abbrev kQ (a:Int) (b:Int) (c:Int) (x:List (Nat×AV)):List (Nat×AV):=(8,.i a)::(9,.i b)::(10,.i c)::x
abbrev kR (a:List qj) (x:List (Nat×AV)):List (Nat×AV):=(0,vl qa a)::x
abbrev kS (x:List (Nat×AV)):List (Nat×AV):=(1,.ptr 0 0)::x
abbrev kT (a:Int) (b:List qj) (c:List qh) (x:List AV):List AV:= .agg [.i a,vl qa b,vl qb c]::x
abbrev kU (a:Int) (b:Int) (c:List Int) (d:Int) (x:List (Nat×AV)):List (Nat×AV):=(84,.i a)::(85,.i b)::(89,vl encI c)::(90,.i d)::x
abbrev kV {α0:Type} (a:List α0) (b:Int) (c:Int) (d:List qj) (e:Int) (x:List (Nat×AV)):List (Nat×AV):=(11,.gslice 1 a.length 1)::(12,.i b)::(13,.i c)::(14,.ptr 2 0)::(34,vl qa d)::(35,.i e)::(36,.i c)::x
abbrev kW (a:Int) (b:Int) (x:List (Nat×AV)):List (Nat×AV):=(10,.i a)::(11,.i b)::x
abbrev kX (a:Int) (b:Int):List Blk:=[.cells [.i a,.i b]]
abbrev kY (a:List qj) (b:Int) (c:Int) (x:List (Nat×AV)):List (Nat×AV):=(22,vl qa a)::(23,.i b)::(24,.i c)::x
abbrev kZ (x:List (Nat×AV)):List (Nat×AV):=(20,.i 0)::(21,.i 0)::(22,.nilslice)::x
abbrev kAA (a:List Int) (b:Int) (c:Int) (x:List (Nat×AV)):List (Nat×AV):=(5,vl encI a)::(6,.i b)::(7,.i c)::x
abbrev kAB (a:Int) (b:Int) (x:List (Nat×AV)):List (Nat×AV):=(15,.i a)::(16,.i b)::x
abbrev kAC (x:List Blk):List Blk:= .cells [.i 0,.nilslice,.nilslice]::x
abbrev kAD {α0:Type} (a:List α0) (x:List (Nat×AV)):List (Nat×AV):=(14,.gslice 1 a.length 1)::x
abbrev kAE {α0:Type} (a:List α0) (b:Int) (c:List qj) (d:Int) (e:Int) (x:List (Nat×AV)):List (Nat×AV):=(11,.gslice 1 a.length 1)::(12,.i b)::(34,vl qa c)::(35,.i d)::(36,.i e)::x
abbrev kAF (a:Int) (x:List (Nat×AV)):List (Nat×AV):=(3,.i a)::(4,.ptr 0 0)::x
abbrev kAG {α1:Type} (a:Int) (b:List α1) (c:Int) (x:List (Nat×AV)):List (Nat×AV):=(17,.i a)::(18,.gslice 1 b.length 1)::(19,.i c)::x
abbrev kAH (a:Str) (x:List (Nat×AV)):List (Nat×AV):=(0,.str a)::(6,.ptr 0 0)::x
abbrev kAI {α0:Type} (a:List α0) (b:Int) (x:List (Nat×AV)):List (Nat×AV):=(7,.gslice 1 a.length 1)::(8,.i b)::x
abbrev kAJ (a:Str) (b:Str) (c:Int) (x:List Blk):List Blk:= .cells [.str a,.str b,.i c]::x
abbrev kAK (a:Str) (b:Int) (x:List (Nat×AV)):List (Nat×AV):=(0,.str a)::(3,.i b)::x
abbrev kAL (a:List qh) (b:Int) (x:List (Nat×AV)):List (Nat×AV):=(3,.ptr 1 0)::(26,vl qb a)::(27,.i b)::x
abbrev kAM (a:Int) (b:Int) (x:List (Nat×AV)):List (Nat×AV):=(7,.i a)::(8,.i b)::x
abbrev kAN (a:Str) (x:List (Nat×AV)):List (Nat×AV):=(1,.str a)::(3,.ptr 0 0)::x
abbrev kAO:List Blk:=[.cells (([]:List Int).flatMap encI.c)]
abbrev kAP (a:Int) (x:List (Nat×AV)):List (Nat×AV):=(5,.i a)::(6,.ptr 1 0)::x
abbrev kAQ (a:Str) (x:List (Nat×AV)):List (Nat×AV):=(1,.str a)::x
abbrev kAR (a:Str) (b:Str) (c:Str) (d:Int) (x:List AV):List AV:= .agg [.str a,.str b,.str c,.i d]::x
abbrev kAS:List (Nat×AV):=[(4,.bool false)]
abbrev kAT (a:Int) (b:Int):List (Nat×AV):=[(84,.i a),(85,.i b)]
abbrev kAU (a:Int) (x:List (Nat×AV)):List (Nat×AV):=(3,.i a)::(4,.ptr 1 0)::x
abbrev kAV {α0:Type} (a:List α0) (x:List (Nat×AV)):List (Nat×AV):=(11,.gslice 1 a.length 1)::x
abbrev kAW (x:List (Nat×AV)):List (Nat×AV):=(5,.ptr 0 0)::(7,.ptr 1 0)::x
abbrev kAX:List (Nat×AV):=[(42,.bool true)]
abbrev kAY:List (Nat×AV):=[(6,.bool false)]
abbrev kAZ (a:List qj) (x:List Blk):List Blk:= .cells (a.flatMap qa.c)::x
abbrev kAa (a:List qh) (x:List (Nat×AV)):List (Nat×AV):=(0,vl qb a)::x
abbrev kAb (a:Int):List (Nat×AV):=[(5,.i a)]
theorem qbY:SlT ZT 22 72 4 56:=⟨by kernel_rfl,by kernel_rfl,by kernel_rfl,by kernel_rfl⟩
theorem qcV:AgT ZT 72 4:=⟨by kernel_rfl,by kernel_rfl⟩
theorem xG:SlT ZT 28 73 4 56:=⟨by kernel_rfl,by kernel_rfl,by kernel_rfl,by kernel_rfl⟩
theorem qg4:SlT ZT 23 75 4 48:=⟨by kernel_rfl,by kernel_rfl,by kernel_rfl,by kernel_rfl⟩
theorem ag75:AgT ZT 75 4:=⟨by kernel_rfl,by kernel_rfl⟩
theorem qee:SlT ZT 29 76 4 48:=⟨by kernel_rfl,by kernel_rfl,by kernel_rfl,by kernel_rfl⟩
theorem ce9:CeT ZT 9:=⟨by kernel_rfl,by kernel_rfl⟩
theorem sl180:SlT ZT 180 35 1 8:=⟨by kernel_rfl,by kernel_rfl,by kernel_rfl,by kernel_rfl⟩
theorem ce35:CeT ZT 35:=⟨by kernel_rfl,by kernel_rfl⟩
theorem qah:SlT ZT 40 3 1 8:=⟨by kernel_rfl,by kernel_rfl,by kernel_rfl,by kernel_rfl⟩
theorem ce3:CeT ZT 3:=⟨by kernel_rfl,by kernel_rfl⟩
theorem st9:Tryz.prog.underlying 9=some .string:=by kernel_rfl
theorem ag73:AgT ZT 73 4:=⟨by kernel_rfl,by kernel_rfl⟩
theorem ag76:AgT ZT 76 4:=⟨by kernel_rfl,by kernel_rfl⟩
def ja (a:StateT):Nat->(List qj)->Int->Option (List qj)
 |0,_,_=>none
 |K+1,c,b=>
  if b<(a.Lots.length:Int)then
  (idx a.Lots b).bind fun d=>
  (app 56 c [d]).bind fun e=>
  ja a K e (w64 (b+1))
  else
  some c
def jl (a:StateT):Nat->(List qh)->Int->Option (List qh)
 |0,_,_=>none
 |K+1,e,b=>
  if b<(a.Holds.length:Int)then
  (idx a.Holds b).bind fun c=>
  (app 48 e [c]).bind fun d=>
  jl a K d (w64 (b+1))
  else
  some e
def vR (N:Nat) (a:StateT):Option qX:=
 (ja a N ([]:List qj) 0).bind fun c=>
 (jl a N ([]:List qh) 0).bind fun b=>
 some (⟨a.Day,c,b⟩:qX)
theorem qcI (N:Nat) (a:StateT) {res:qX} (h:vR N a=some res):qd ZT (.fn 5) [.agg [.i a.Day,vl qa a.Lots,vl qb a.Holds]] [] (.agg [.i res.Day,vl qa res.Lots,vl qb res.Holds]) []:=by
 unfold vR at h
 refine Ub Tryz.func5 rfl rfl (m:=40) rfl (rs:=[.cell 2 31]) rfl (l:=(kL a.Day a.Lots a.Holds [])) rfl ?_
 refine sg fol (kS [(2,.ptr 1 0)]) (kA a.Day a.Lots a.Holds (kAC [])) ?_
 refine sg fol (kS [(2,.ptr 1 0),(3,.ptr 2 0)]) (kA a.Day a.Lots a.Holds (kAC [.cells [.i a.Day,.nilslice,.nilslice]])) ?_
 refine sq ?_
 refine sh fol (kP a.Lots (a.Lots.length:Int) [(14,.i 0)]) ?_
 refine Goes.block ?_
 obtain⟨y,g4,h⟩:=bnd h
 refine Goes.imp (Q:=fun x s'=>(x= .exit 0/\ ∃e,e=y/\Sub s' (ofG 40 (kS [(2,.ptr 1 0),(3,.ptr 2 0)]),(kA a.Day a.Lots a.Holds (kO a.Day e []))))) ?_ ?_
 ·refine Goes.sub (s':=(ofG 40 (kP a.Lots (a.Lots.length:Int) [(14,.i 0)]),(kA a.Day a.Lots a.Holds (kAC [.cells [.i a.Day,.gslice 3 ([]:List qj).length 4,.nilslice],.cells (([]:List qj).flatMap qa.c)])))) (Sub.norm [] [some 0,some 1,some 2,none] rfl rfl (.kp (.kp (.kp (.keep (.same (qf qa _)) (.keep (.same nI) (.keep (.same nI) .nil)))))) (.kb rfl (.same sn) (.kb rfl (.same sn) (.kb rfl (.cells (rc (.same nI) (rc (.nil) (rc (.same (ql.nilslice)) rn)))) (.fresh .nil))))) ?_
  refine Uc (fun M s=> ∃(o:List qj) (k:Int),s=(ofG 40 (kP a.Lots (a.Lots.length:Int) [(14,.i k)]),(kA a.Day a.Lots a.Holds (kO a.Day o [])))/\ja a M o k=some y) ?_ (m:=N) ⟨_,_,rfl,g4⟩
  rintro M s ⟨o,k,rfl,g4⟩
  cases M with
  |zero=>simp only[ja]at g4;cases g4
  |succ M=>
   rw[ja]at g4
   refine sh fol (kP a.Lots (a.Lots.length:Int) [(14,.i k),(15,.bool (decide (k<(a.Lots.length:Int))))]) ?_
   refine sq ?_
   refine ihD g4 (fun z g4=>?_) (fun z g4=>?_)
   ·refine Goes.skip ?_
    refine sq (Goes.block ?_)
    obtain⟨d,p,g4⟩:=bnd g4
    refine sq (gq fol [0,1] (kS [(2,.ptr 1 0),(3,.ptr 2 0),(5,.ptr 4 0),(12,vl qa a.Lots),(13,.i (a.Lots.length:Int)),(14,.i k)]) (kA a.Day a.Lots a.Holds (kO a.Day o (kK d.Name d.Yarn d.Dye d.Stock []))) (ac (iv qbY qa p) (ac (la qcV qa p) az)) ?_)
    obtain⟨t,u,g4⟩:=bnd g4
    refine gq fol [4] (kP a.Lots (a.Lots.length:Int) [(14,.i k)]) (kA a.Day a.Lots a.Holds (kAC (.cells [.i a.Day,.gslice 6 t.length 4,.nilslice]:: .dead::(kK d.Name d.Yarn d.Dye d.Stock (kK d.Name d.Yarn d.Dye d.Stock (kAZ t [])))))) (ac (hs (.run [3,5] (j5 ZT [28,28] (.gslice 3 o.length 4) (.slice 5 0 1 1 4)) (kA a.Day a.Lots a.Holds (kO a.Day o (kK d.Name d.Yarn d.Dye d.Stock (kK d.Name d.Yarn d.Dye d.Stock [])))) (.gslice 6 t.length 4) (kA a.Day a.Lots a.Holds (kAC (.cells [.i a.Day,.gslice 3 o.length 4,.nilslice]:: .dead::(kK d.Name d.Yarn d.Dye d.Stock (kK d.Name d.Yarn d.Dye d.Stock (kAZ t [])))))) true) (xx xG (E:=qa) rfl (qdi (E:=qa) (ys:=[d]) rfl rfl rfl rfl) (qdr (E:=qa) (l:=o) rfl rfl rfl u rfl))) az) ?_
    refine gh fol (kP a.Lots (a.Lots.length:Int) [(14,.i (w64 (k+1)))]) ?_
    exact⟨M,(ofG 40 (kP a.Lots (a.Lots.length:Int) [(14,.i (w64 (k+1)))]),(kA a.Day a.Lots a.Holds (kO a.Day t []))),Nat.lt_succ_self _,(Sub.norm [] [some 0,some 1,some 2,some 6] rfl rfl (.kp (.kp (.kp (.keep (.same (qf qa _)) (.keep (.same nI) (.keep (.same nI) .nil)))))) (.kb rfl (.same sn) (.kb rfl (.same sn) (.kb rfl (.cells (rc (.same nI) (rc (.gslice rfl) (rc (.same (ql.nilslice)) rn)))) (.ks .nil))))),_,_,rfl,g4⟩
   refine Goes.exit ?_
   obtain rfl:=si g4
   exact⟨rfl,_,rfl,(Sub.keep [1,2,3] rfl rfl)⟩
 rintro x s' ⟨rfl,e,rfl,hsub⟩
 refine Goes.sub hsub ?_
 refine sq ?_
 refine sh fol [(2,.ptr 1 0),(3,.ptr 2 0),(26,vl qb a.Holds),(27,.i (a.Holds.length:Int)),(28,.i 0)] ?_
 refine Goes.block ?_
 obtain⟨v,g11,h⟩:=bnd h
 refine Goes.imp (Q:=fun x s'=>(x= .exit 2/\ ∃f,f=v/\Sub s' (ofG 40 (kM [(3,.ptr 1 0)]),(kI a.Day e f [])))) ?_ ?_
 ·refine Goes.sub (s':=(ofG 40 (kM (kAL a.Holds (a.Holds.length:Int) [(28,.i 0)])),(kAC (.cells [.i a.Day,.gslice 2 e.length 4,.gslice 3 ([]:List qh).length 4]::(kAZ e [.cells (([]:List qh).flatMap qb.c)]))))) (Sub.norm [] [some 1,some 2,some 3,none] rfl rfl (.kp (.kp (.keep (.same (qf qb _)) (.keep (.same nI) (.keep (.same nI) .nil))))) (.kb rfl (.same sn) (.kb rfl (.cells (rc (.same nI) (rc (.gslice rfl) (rc (.nil) rn)))) (.ks (.fresh .nil))))) ?_
  refine Uc (fun M s=> ∃(q:List qh) (n:Int),s=(ofG 40 (kM (kAL a.Holds (a.Holds.length:Int) [(28,.i n)])),(kI a.Day e q []))/\jl a M q n=some v) ?_ (m:=N) ⟨_,_,rfl,g11⟩
  rintro M s ⟨q,n,rfl,g11⟩
  cases M with
  |zero=>simp only[jl]at g11;cases g11
  |succ M=>
   rw[jl]at g11
   refine sh fol (kM (kAL a.Holds (a.Holds.length:Int) [(28,.i n),(29,.bool (decide (n<(a.Holds.length:Int))))])) ?_
   refine sq ?_
   refine ihD g11 (fun w g11=>?_) (fun w g11=>?_)
   ·refine Goes.skip ?_
    refine sq (Goes.block ?_)
    obtain⟨b,g,g11⟩:=bnd g11
    refine sq (gq fol [0,1] (kM [(3,.ptr 1 0),(7,.ptr 4 0),(26,vl qb a.Holds),(27,.i (a.Holds.length:Int)),(28,.i n)]) (kI a.Day e q (kH b.Lot b.Order b.Reserved b.Taken [])) (ac (iv qg4 qb g) (ac (la ag75 qb g) az)) ?_)
    obtain⟨j,r,g11⟩:=bnd g11
    refine gq fol [4] (kM (kAL a.Holds (a.Holds.length:Int) [(28,.i n)])) (kAC (.cells [.i a.Day,.gslice 2 e.length 4,.gslice 6 j.length 4]::(kAZ e (.dead::(kH b.Lot b.Order b.Reserved b.Taken (kH b.Lot b.Order b.Reserved b.Taken [.cells (j.flatMap qb.c)])))))) (ac (hs (.run [3,5] (j5 ZT [29,29] (.gslice 3 q.length 4) (.slice 5 0 1 1 4)) (kI a.Day e q (kH b.Lot b.Order b.Reserved b.Taken (kH b.Lot b.Order b.Reserved b.Taken []))) (.gslice 6 j.length 4) (kAC (.cells [.i a.Day,.gslice 2 e.length 4,.gslice 3 q.length 4]::(kAZ e (.dead::(kH b.Lot b.Order b.Reserved b.Taken (kH b.Lot b.Order b.Reserved b.Taken [.cells (j.flatMap qb.c)])))))) true) (xx qee (E:=qb) rfl (qdi (E:=qb) (ys:=[b]) rfl rfl rfl rfl) (qdr (E:=qb) (l:=q) rfl rfl rfl r rfl))) az) ?_
    refine gh fol (kM (kAL a.Holds (a.Holds.length:Int) [(28,.i (w64 (n+1)))])) ?_
    exact⟨M,(ofG 40 (kM (kAL a.Holds (a.Holds.length:Int) [(28,.i (w64 (n+1)))])),(kI a.Day e j [])),Nat.lt_succ_self _,(Sub.norm [] [some 0,some 1,some 2,some 6] rfl rfl (.kp (.kp (.keep (.same (qf qb _)) (.keep (.same nI) (.keep (.same nI) .nil))))) (.kb rfl (.same sn) (.kb rfl (.cells (rc (.same nI) (rc (.gslice rfl) (rc (.gslice rfl) rn)))) (.ks (.ks .nil))))),_,_,rfl,g11⟩
   refine Goes.exit ?_
   obtain rfl:=si g11
   exact⟨rfl,_,rfl,(Sub.keep [2,3] rfl rfl)⟩
 rintro x s' ⟨rfl,f,rfl,hsub⟩
 refine Goes.sub hsub ?_
 refine sg fol (kM []) (.cells [.i a.Day,.gslice 2 e.length 4,.gslice 3 f.length 4]:: .cells [.i a.Day,.gslice 2 e.length 4,.gslice 3 f.length 4]::(kAZ e [.cells (f.flatMap qb.c)])) ?_
 refine Goes.ret ?_
 obtain rfl:=si h
 exact(gw2 [.agg [.i a.Day,.gslice 2 e.length 4,.gslice 3 f.length 4]] (FzW.agg (zA.cons (Ua tI) (zA.cons (FzW.fz (Fz.gs (E:=qa) rfl rfl (nl rfl))) (zA.cons (FzW.fz (Fz.gs (E:=qb) rfl rfl (nl rfl))) zA.nil)))))
def qU (c:qX):Nat->Int->Option (Unit⊕Bool)
 |0,_=>none
 |K+1,a=>
  if a<(c.Lots.length:Int)then
  ((idx c.Lots a).bind fun b=>
  if(b.Name.length:Int)>60 then
  some true
  else
  if(b.Yarn.length:Int)>60 then
  some true
  else
  some (decide ((b.Dye.length:Int)>60)):Option Bool).bind fun d=>
  if d=true then
  some (.inr false)
  else
  qU c K (w64 (a+1))
  else
  some (.inl ())
def qR (c:qX):Nat->Int->Option (Unit⊕Bool)
 |0,_=>none
 |K+1,a=>
  if a<(c.Holds.length:Int)then
  ((idx c.Holds a).bind fun b=>
  if(b.Lot.length:Int)>60 then
  some true
  else
  some (decide ((b.Order.length:Int)>60)):Option Bool).bind fun d=>
  if d=true then
  some (.inr false)
  else
  qR c K (w64 (a+1))
  else
  some (.inl ())
def jJ (N:Nat) (a:qX) (n:Int):Option Bool:=
 (if(a.Lots.length:Int)>n then
 if(a.Lots.length:Int)<=64 then
 some true
 else
 if(a.Lots.length:Int)>67 then
 some true
 else
 if(a.Holds.length:Int)>n then
 if(a.Holds.length:Int)<=256 then
 some true
 else
 some (decide ((a.Holds.length:Int)>259))
 else
 some (decide ((a.Holds.length:Int)>259))
 else
 if(a.Lots.length:Int)>67 then
 some true
 else
 if(a.Holds.length:Int)>n then
 if(a.Holds.length:Int)<=256 then
 some true
 else
 some (decide ((a.Holds.length:Int)>259))
 else
 some (decide ((a.Holds.length:Int)>259)):Option Bool).bind fun d=>
 if d=true then
 some false
 else
 (qU a N 0).bind (fun
 |(.inl ())=>
 (qR a N 0).bind (fun
 |(.inl ())=>
 some true
 |(.inr b)=>
 some b)
 |(.inr c)=>
 some c)
theorem jH (N:Nat) (d:qX) (n:Int) {res:Bool} (h:jJ N d n=some res):qd ZT (.fn 6) (kT d.Day d.Lots d.Holds [.i n]) [] (.bool res) []:=by
 unfold jJ at h
 refine Ub Tryz.func6 rfl rfl (m:=103) rfl (rs:=[.tmp 4]) rfl (l:=(kL d.Day d.Lots d.Holds [(1,.i n)])) rfl ?_
 refine sg fol ((1,.i n)::(kM [])) (kA d.Day d.Lots d.Holds []) ?_
 refine sq ?_
 refine sq ?_
 obtain⟨P,a,h⟩:=bnd h
 refine Goes.cut (s':=(ofG 103 (kM [(42,.bool P)]),(kA d.Day d.Lots d.Holds []))) ?_ ?_
 ·rcases wyD a with⟨k,a⟩|⟨k,a⟩
  ·rcases wyD a with⟨u,a⟩|⟨u,a⟩
   ·obtain rfl:=si a
    exact tr fol [5,11] (kM kAX) (ac (gw k) (ac (gw u) az))
   rcases wyD a with⟨v,a⟩|⟨v,a⟩
   ·obtain rfl:=si a
    exact tr fol [5,11,17] (kM kAX) (ac (gw k) (ac (gw u) (ac (gw v) az)))
   rcases wyD a with⟨A,a⟩|⟨A,a⟩
   ·rcases wyD a with⟨C,a⟩|⟨C,a⟩
    ·obtain rfl:=si a
     exact tr fol [5,11,17,23,30] (kM kAX) (ac (gw k) (ac (gw u) (ac (gw v) (ac (gw A) (ac (gw C) az)))))
    obtain rfl:=si a
    exact tr fol [5,11,17,23,30] (kM [(42,.bool (decide ((d.Holds.length:Int)>259)))]) (ac (gw k) (ac (gw u) (ac (gw v) (ac (gw A) (ac (gw C) az)))))
   obtain rfl:=si a
   exact tr fol [5,11,17,23] (kM [(42,.bool (decide ((d.Holds.length:Int)>259)))]) (ac (gw k) (ac (gw u) (ac (gw v) (ac (gw A) az))))
  rcases wyD a with⟨w,a⟩|⟨w,a⟩
  ·obtain rfl:=si a
   exact tr fol [5,17] (kM kAX) (ac (gw k) (ac (gw w) az))
  rcases wyD a with⟨B,a⟩|⟨B,a⟩
  ·rcases wyD a with⟨D,a⟩|⟨D,a⟩
   ·obtain rfl:=si a
    exact tr fol [5,17,23,30] (kM kAX) (ac (gw k) (ac (gw w) (ac (gw B) (ac (gw D) az))))
   obtain rfl:=si a
   exact tr fol [5,17,23,30] (kM [(42,.bool (decide ((d.Holds.length:Int)>259)))]) (ac (gw k) (ac (gw w) (ac (gw B) (ac (gw D) az))))
  obtain rfl:=si a
  exact tr fol [5,17,23] (kM [(42,.bool (decide ((d.Holds.length:Int)>259)))]) (ac (gw k) (ac (gw w) (ac (gw B) az)))
 refine ihB h (fun E h=>?_) (fun E h=>?_)
 ·refine sh fol kAS ?_
  refine Goes.ret ?_
  obtain rfl:=si h
  exact(gw2 [.bool false] (Ua tB))
 refine Goes.skip ?_
 refine sq ?_
 refine sh fol (kM [(5,.i 0)]) ?_
 refine Goes.block ?_
 obtain⟨p,g13,h⟩:=bnd h
 refine Goes.imp (Q:=fun x s'=>(x= .exit 0/\(.inl ())=p/\Sub s' (ofG 103 (kM []),(kA d.Day d.Lots d.Holds [])))\/(x= .ret/\ ∃y,(.inr y)=p/\zh ZT [.tmp 4] (.bool y) .ret s')) ?_ ?_
 ·refine Uc (fun M s=> ∃(g:Int),s=(ofG 103 (kM (kAb g)),(kA d.Day d.Lots d.Holds []))/\qU d M g=some p) ?_ (m:=N) ⟨_,rfl,g13⟩
  rintro M s ⟨g,rfl,g13⟩
  cases M with
  |zero=>simp only[qU]at g13;cases g13
  |succ M=>
   rw[qU]at g13
   refine sq ?_
   refine sh fol (kM [(5,.i g),(47,.bool (decide (g<(d.Lots.length:Int))))]) ?_
   refine ihD g13 (fun F g13=>?_) (fun F g13=>?_)
   ·refine Goes.skip ?_
    refine sq (Goes.block ?_)
    refine sq ?_
    obtain⟨G,c,g13⟩:=bnd g13
    refine Goes.cut (s':=(ofG 103 (kM [(5,.i g),(77,.bool G)]),(kA d.Day d.Lots d.Holds []))) ?_ ?_
    ·obtain⟨H,b,c⟩:=bnd c
     rcases wyD c with⟨o,c⟩|⟨o,c⟩
     ·obtain rfl:=si c
      exact tr fol [3,5,8] (kM [(5,.i g),(77,.bool true)]) (ac (iv xG qa b) (ac (lv 0 ce9 qa b rfl) (ac (gw o) az)))
     rcases wyD c with⟨q,c⟩|⟨q,c⟩
     ·obtain rfl:=si c
      exact tr fol [3,5,8,12,14,18] (kM [(5,.i g),(77,.bool true)]) (ac (iv xG qa b) (ac (lv 0 ce9 qa b rfl) (ac (gw o) (ac (iv xG qa b) (ac (lv 1 ce9 qa b rfl) (ac (gw q) az))))))
     obtain rfl:=si c
     exact tr fol [3,5,8,12,14,18,22,24] (kM [(5,.i g),(77,.bool (decide ((H.Dye.length:Int)>60)))]) (ac (iv xG qa b) (ac (lv 0 ce9 qa b rfl) (ac (gw o) (ac (iv xG qa b) (ac (lv 1 ce9 qa b rfl) (ac (gw q) (ac (iv xG qa b) (ac (lv 2 ce9 qa b rfl) az))))))))
    refine ihB g13 (fun I g13=>?_) (fun I g13=>?_)
    ·refine sh fol kAS ?_
     refine Goes.ret ?_
     obtain rfl:=si g13
     exact Or.inr (⟨rfl,_,rfl,(gw2 [.bool false] (Ua tB))⟩)
    refine Goes.skip ?_
    refine gh fol (kM (kAb (w64 (g+1)))) ?_
    exact⟨M,(ofG 103 (kM (kAb (w64 (g+1)))),(kA d.Day d.Lots d.Holds [])),Nat.lt_succ_self _,(Sub.refl _),_,rfl,g13⟩
   refine Goes.exit ?_
   obtain rfl:=si g13
   exact Or.inl (⟨rfl,rfl,(Sub.keep [2] rfl rfl)⟩)
 rintro x s' (⟨rfl,rfl,hsub⟩|⟨rfl,U,rfl,hret⟩)
 ·try dsimp only at h
  refine Goes.sub hsub ?_
  refine sq ?_
  refine sh fol (kM [(6,.i 0)]) ?_
  refine Goes.block ?_
  obtain⟨r,g23,h⟩:=bnd h
  refine Goes.imp (Q:=fun x s'=>(x= .exit 2/\(.inl ())=r/\Sub s' (ofG 103 [],[]))\/(x= .ret/\ ∃z,(.inr z)=r/\zh ZT [.tmp 4] (.bool z) .ret s')) ?_ ?_
  ·refine Uc (fun M s=> ∃(j:Int),s=(ofG 103 (kM [(6,.i j)]),(kA d.Day d.Lots d.Holds []))/\qR d M j=some r) ?_ (m:=N) ⟨_,rfl,g23⟩
   rintro M s ⟨j,rfl,g23⟩
   cases M with
   |zero=>simp only[qR]at g23;cases g23
   |succ M=>
    rw[qR]at g23
    refine sq ?_
    refine sh fol (kM [(6,.i j),(82,.bool (decide (j<(d.Holds.length:Int))))]) ?_
    refine ihD g23 (fun J g23=>?_) (fun J g23=>?_)
    ·refine Goes.skip ?_
     refine sq (Goes.block ?_)
     refine sq ?_
     obtain⟨K,e,g23⟩:=bnd g23
     refine Goes.cut (s':=(ofG 103 (kM [(6,.i j),(102,.bool K)]),(kA d.Day d.Lots d.Holds []))) ?_ ?_
     ·obtain⟨L,f,e⟩:=bnd e
      rcases wyD e with⟨t,e⟩|⟨t,e⟩
      ·obtain rfl:=si e
       exact tr fol [3,5,8] (kM [(6,.i j),(102,.bool true)]) (ac (iv qee qb f) (ac (lv 0 ce9 qb f rfl) (ac (gw t) az)))
      obtain rfl:=si e
      exact tr fol [3,5,8,12,14] (kM [(6,.i j),(102,.bool (decide ((L.Order.length:Int)>60)))]) (ac (iv qee qb f) (ac (lv 0 ce9 qb f rfl) (ac (gw t) (ac (iv qee qb f) (ac (lv 1 ce9 qb f rfl) az)))))
     refine ihB g23 (fun O g23=>?_) (fun O g23=>?_)
     ·refine sh fol kAS ?_
      refine Goes.ret ?_
      obtain rfl:=si g23
      exact Or.inr (⟨rfl,_,rfl,(gw2 [.bool false] (Ua tB))⟩)
     refine Goes.skip ?_
     refine gh fol (kM [(6,.i (w64 (j+1)))]) ?_
     exact⟨M,(ofG 103 (kM [(6,.i (w64 (j+1)))]),(kA d.Day d.Lots d.Holds [])),Nat.lt_succ_self _,(Sub.refl _),_,rfl,g23⟩
    refine Goes.exit ?_
    obtain rfl:=si g23
    exact Or.inl (⟨rfl,rfl,(Sub.norm [] [] rfl rfl .nil .nil)⟩)
  rintro x s' (⟨rfl,rfl,hsub⟩|⟨rfl,V,rfl,hret⟩)
  ·try dsimp only at h
   refine Goes.sub hsub ?_
   refine sh fol [(4,.bool true)] ?_
   refine Goes.ret ?_
   obtain rfl:=si h
   exact(gw2 [.bool true] (Ua tB))
  try dsimp only at h
  obtain rfl:=si h
  exact hret
 try dsimp only at h
 obtain rfl:=si h
 exact hret
def jF (l:List Int):Nat->Int->Option (Unit⊕Int)
 |0,_=>none
 |K+1,a=>
  if a<(l.length:Int)then
  (idx l a).bind fun b=>
  if(!decide (b=0))=true then
  some (.inr b)
  else
  jF l K (w64 (a+1))
  else
  some (.inl ())
def zS (N:Nat) (l:List Int):Option Int:=
 (jF l N 0).bind (fun
 |(.inl ())=>
 some 0
 |(.inr a)=>
 some a)
theorem zY (N:Nat) (l:List Int) {res:Int} (h:zS N l=some res):qd ZT (.fn 47) [vl encI l] [] (.i res) []:=by
 unfold zS at h
 refine Ub Tryz.func47 rfl rfl (m:=15) rfl (rs:=[.tmp 2]) rfl (l:=[(0,vl encI l)]) rfl ?_
 refine sh fol [(0,vl encI l)] ?_
 refine sq ?_
 refine sh fol [(5,vl encI l),(6,.i (l.length:Int)),(7,.i 0)] ?_
 refine Goes.block ?_
 obtain⟨d,g2,h⟩:=bnd h
 refine Goes.imp (Q:=fun x s'=>(x= .exit 0/\(.inl ())=d/\Sub s' (ofG 15 [],[]))\/(x= .ret/\ ∃e,(.inr e)=d/\zh ZT [.tmp 2] (.i e) .ret s')) ?_ ?_
 ·refine Uc (fun M s=> ∃(a:Int),s=(ofG 15 (kAA l (l.length:Int) a []),[])/\jF l M a=some d) ?_ (m:=N) ⟨_,rfl,g2⟩
  rintro M s ⟨a,rfl,g2⟩
  cases M with
  |zero=>simp only[jF]at g2;cases g2
  |succ M=>
   rw[jF]at g2
   refine sh fol (kAA l (l.length:Int) a [(8,.bool (decide (a<(l.length:Int))))]) ?_
   refine sq ?_
   refine ihD g2 (fun f g2=>?_) (fun f g2=>?_)
   ·refine Goes.skip ?_
    refine sq (Goes.block ?_)
    obtain⟨c,b,g2⟩:=bnd g2
    refine sq (gr fol [0,1] ((4,.i c)::(kAA l (l.length:Int) a [])) (ac (iv sl180 encI b) (ac (lv 0 ce35 encI b rfl) az)) ?_)
    refine sh fol ((4,.i c)::(kAA l (l.length:Int) a [(12,.bool (!decide (c=0)))])) ?_
    refine ihB g2 (fun g g2=>?_) (fun g g2=>?_)
    ·refine sh fol [(2,.i c)] ?_
     refine Goes.ret ?_
     obtain rfl:=si g2
     exact Or.inr (⟨rfl,_,rfl,(gw2 [.i c] (Ua tI))⟩)
    refine Goes.skip ?_
    refine gh fol (kAA l (l.length:Int) (w64 (a+1)) []) ?_
    exact⟨M,(ofG 15 (kAA l (l.length:Int) (w64 (a+1)) []),[]),Nat.lt_succ_self _,(Sub.refl _),_,rfl,g2⟩
   refine Goes.exit ?_
   obtain rfl:=si g2
   exact Or.inl (⟨rfl,rfl,(Sub.keep [] rfl rfl)⟩)
 rintro x s' (⟨rfl,rfl,hsub⟩|⟨rfl,j,rfl,hret⟩)
 ·try dsimp only at h
  refine Goes.sub hsub ?_
  refine sh fol [(2,.i 0)] ?_
  refine Goes.ret ?_
  obtain rfl:=si h
  exact(gw2 [.i 0] (Ua tI))
 try dsimp only at h
 obtain rfl:=si h
 exact hret
def zl (holds:Bool) (e:Int):Option Int:=
 if holds=true then
 some e
 else
 some 0
theorem qI (holds:Bool) (e:Int) {res:Int} (h:zl holds e=some res):qd ZT (.fn 49) [.bool holds,.i e] [] (.i res) []:=by
 unfold zl at h
 refine Ub Tryz.func49 rfl rfl (m:=7) rfl (rs:=[.tmp 4]) rfl (l:=[(0,.bool holds),(1,.i e)]) rfl ?_
 refine sh fol [(0,.bool holds),(1,.i e)] ?_
 refine sq ?_
 refine sh fol [(1,.i e),(5,.bool holds)] ?_
 refine ihB h (fun a h=>?_) (fun a h=>?_)
 ·refine sh fol [(4,.i e)] ?_
  refine Goes.ret ?_
  obtain rfl:=si h
  exact(gw2 [.i e] (Ua tI))
 refine Goes.skip ?_
 refine sh fol [(4,.i 0)] ?_
 refine Goes.ret ?_
 obtain rfl:=si h
 exact(gw2 [.i 0] (Ua tI))
def jv (n:Int) (least:Int) (most:Int):Option Int:=
 (if n<least then
 (zl true 3).bind fun a=>
 some a
 else
 (zl (decide (n>most)) 3).bind fun b=>
 some b:Option Int).bind fun c=>
 some c
theorem je (n:Int) (least:Int) (most:Int) {res:Int} (h:jv n least most=some res):qd ZT (.fn 48) [.i n,.i least,.i most] [] (.i res) []:=by
 unfold jv at h
 refine Ub Tryz.func48 rfl rfl (m:=16) rfl (rs:=[.tmp 6]) rfl (l:=[(0,.i n),(1,.i least),(2,.i most)]) rfl ?_
 refine sh fol [(0,.i n),(1,.i least),(2,.i most)] ?_
 refine sq ?_
 obtain⟨e,a,h⟩:=bnd h
 refine Goes.cut (s':=(ofG 16 [(6,.i e)],[])) ?_ ?_
 ·rcases wyD a with⟨d,a⟩|⟨d,a⟩
  ·obtain⟨f,b,a⟩:=bnd a
   obtain rfl:=si a
   exact tr fol [3,8] [(6,.i f)] (ac (gw d) (ac (cv (qI true 3 b)) az))
  obtain⟨g,c,a⟩:=bnd a
  obtain rfl:=si a
  exact tr fol [3,8] [(6,.i g)] (ac (gw d) (ac (cv (qI (decide (n>most)) 3 c)) az))
 refine Goes.ret ?_
 obtain rfl:=si h
 exact(gw2 [.i e] (Ua tI))
def jr (c:Int):Option Bool:=
 (if c>=97 then
 if c<=122 then
 some true
 else
 if c>=65 then
 some (decide (c<=90))
 else
 some false
 else
 if c>=65 then
 some (decide (c<=90))
 else
 some false:Option Bool).bind fun a=>
 some a
theorem jh (c:Int) {res:Bool} (h:jr c=some res):qd ZT (.fn 207) [.int .i32 c] [] (.bool res) []:=by
 unfold jr at h
 refine Ub Tryz.func207 rfl rfl (m:=17) rfl (rs:=[.tmp 2]) rfl (l:=[(0,.int .i32 c)]) rfl ?_
 refine sh fol [(0,.int .i32 c)] ?_
 refine sq ?_
 obtain⟨g,a,h⟩:=bnd h
 refine Goes.cut (s':=(ofG 17 [(2,.bool g)],[])) ?_ ?_
 ·rcases wyD a with⟨b,a⟩|⟨b,a⟩
  ·rcases wyD a with⟨d,a⟩|⟨d,a⟩
   ·obtain rfl:=si a
    exact tr fol [2,6] [(2,.bool true)] (ac (gw b) (ac (gw d) az))
   rcases wyD a with⟨e,a⟩|⟨e,a⟩
   ·obtain rfl:=si a
    exact tr fol [2,6,9] [(2,.bool (decide (c<=90)))] (ac (gw b) (ac (gw d) (ac (gw e) az)))
   obtain rfl:=si a
   exact tr fol [2,6,9] [(2,.bool false)] (ac (gw b) (ac (gw d) (ac (gw e) az)))
  rcases wyD a with⟨f,a⟩|⟨f,a⟩
  ·obtain rfl:=si a
   exact tr fol [2,9] [(2,.bool (decide (c<=90)))] (ac (gw b) (ac (gw f) az))
  obtain rfl:=si a
  exact tr fol [2,9] [(2,.bool false)] (ac (gw b) (ac (gw f) az))
 refine Goes.ret ?_
 obtain rfl:=si h
 exact(gw2 [.bool g] (Ua tB))
def zC (b:Str):Nat->Nat->Option (Unit⊕Bool)
 |0,_=>none
 |K+1,a=>
  if a<b.length then
  ((jr (jo b a)).bind fun d=>
  if(!d)=true then
  if(a:Int)=0 then
  some true
  else
  if(!decide ((jo b a)=95))=true then
  if(jo b a)<48 then
  some true
  else
  some (decide ((jo b a)>57))
  else
  some false
  else
  some false:Option Bool).bind fun c=>
  if c=true then
  some (.inr false)
  else
  zC b K (a+runeLen b a)
  else
  some (.inl ())
def jY (N:Nat) (a:Str):Option Bool:=
 (zC a N 0).bind (fun
 |(.inl ())=>
 (if(!(a==[]))=true then
 some (decide ((a.length:Int)<=24))
 else
 some false:Option Bool).bind fun b=>
 some b
 |(.inr c)=>
 some c)
theorem xP (N:Nat) (d:Str) {res:Bool} (h:jY N d=some res):qd ZT (.fn 154) [.str d] [] (.bool res) []:=by
 unfold jY at h
 refine Ub Tryz.func154 rfl rfl (m:=37) rfl (rs:=[.tmp 2]) rfl (l:=[(0,.str d)]) rfl ?_
 refine sh fol [(0,.str d)] ?_
 refine sq ?_
 refine sg fol (kAH d []) [.iter d 0] ?_
 refine Goes.block ?_
 obtain⟨r,g2,h⟩:=bnd h
 refine Goes.imp (Q:=fun x s'=>(x= .exit 0/\(.inl ())=r/\Sub s' (ofG 37 [(0,.str d)],[]))\/(x= .ret/\ ∃w,(.inr w)=r/\zh ZT [.tmp 2] (.bool w) .ret s')) ?_ ?_
 ·refine Goes.sub (s':=(ofG 37 (kAH d []),[.iter d 0])) (Sub.keep [0,6] rfl rfl) ?_
  refine Uc (fun M s=> ∃(e:Nat),s=(ofG 37 (kAH d []),[.iter d e])/\zC d M e=some r) ?_ (m:=N) ⟨_,rfl,g2⟩
  rintro M s ⟨e,rfl,g2⟩
  cases M with
  |zero=>simp only[zC]at g2;cases g2
  |succ M=>
   rw[zC]at g2
   refine sq ?_
   rcases Classical.em (e<d.length)with n|n
   ·rw[if_pos n]at g2
    refine gq fol [0] (kAH d [(7,.tuple [.bool true,.i (e:Int),.int .i32 (jo d e)]),(8,.bool true)]) [.iter d (e+runeLen d e)] (ac (hs (.run [0] (qbt (.ptr 0 0) true) [.iter d e] (.tuple [.bool true,.i (e:Int),.int .i32 (jo d e)]) [.iter d (e+runeLen d e)] true) (qf4 rfl n rfl)) az) ?_
    refine sq ?_
    refine Goes.ifB (b:=true) (by kernel_rfl) (fun _=>?_) (fun c=>(by cases c))
    refine Goes.skip ?_
    refine Goes.block ?_
    refine sh fol (kAK d (e:Int) [(4,.int .i32 (jo d e)),(6,.ptr 0 0)]) ?_
    refine sq ?_
    obtain⟨t,a,g2⟩:=bnd g2
    refine Goes.cut (s':=(ofG 37 (kAH d [(29,.bool t)]),[.iter d (e+runeLen d e)])) ?_ ?_
    ·obtain⟨z,g,a⟩:=bnd a
     rcases wyB a with⟨k,a⟩|⟨k,a⟩
     ·rcases wyD a with⟨o,a⟩|⟨o,a⟩
      ·obtain rfl:=si a
       exact tr fol [1,3,6] (kAH d [(29,.bool true)]) (ac (cv (jh (jo d e) g)) (ac (gw k) (ac (gw o) az)))
      rcases wyB a with⟨q,a⟩|⟨q,a⟩
      ·rcases wyD a with⟨u,a⟩|⟨u,a⟩
       ·obtain rfl:=si a
        exact tr fol [1,3,6,9,12] (kAH d [(29,.bool true)]) (ac (cv (jh (jo d e) g)) (ac (gw k) (ac (gw o) (ac (gw q) (ac (gw u) az)))))
       obtain rfl:=si a
       exact tr fol [1,3,6,9,12] (kAH d [(29,.bool (decide ((jo d e)>57)))]) (ac (cv (jh (jo d e) g)) (ac (gw k) (ac (gw o) (ac (gw q) (ac (gw u) az)))))
      obtain rfl:=si a
      exact tr fol [1,3,6,9] (kAH d [(29,.bool false)]) (ac (cv (jh (jo d e) g)) (ac (gw k) (ac (gw o) (ac (gw q) az))))
     obtain rfl:=si a
     exact tr fol [1,3] (kAH d [(29,.bool false)]) (ac (cv (jh (jo d e) g)) (ac (gw k) az))
    refine ihB g2 (fun v g2=>?_) (fun v g2=>?_)
    ·refine sh fol [(2,.bool false)] ?_
     refine Goes.ret ?_
     obtain rfl:=si g2
     exact Or.inr (⟨rfl,_,rfl,(gw2 [.bool false] (Ua tB))⟩)
    refine Goes.skip ?_
    exact⟨M,(ofG 37 (kAH d []),[.iter d (e+runeLen d e)]),Nat.lt_succ_self _,(Sub.keep [0,6] rfl rfl),_,rfl,g2⟩
   rw[if_neg n]at g2
   refine gr fol [0] (kAH d [(7,.tuple [.bool false]),(8,.bool false)]) (ac (hs (.run [0] (qbt (.ptr 0 0) true) [.iter d e] (.tuple [.bool false]) [.iter d e] false) (qf8 rfl n)) az) ?_
   refine sq ?_
   refine Goes.ifB (b:=false) (by kernel_rfl) (fun c=>(by cases c)) (fun _=>?_)
   refine Goes.exit ?_
   obtain rfl:=si g2
   exact Or.inl (⟨rfl,rfl,(Sub.norm [] [] rfl rfl (.keep (.same nS) .nil) .nil)⟩)
 rintro x s' (⟨rfl,rfl,hsub⟩|⟨rfl,y,rfl,hret⟩)
 ·try dsimp only at h
  refine Goes.sub hsub ?_
  refine sq ?_
  obtain⟨p,f,h⟩:=bnd h
  refine Goes.cut (s':=(ofG 37 [(2,.bool p)],[])) ?_ ?_
  ·rcases wyB f with⟨j,f⟩|⟨j,f⟩
   ·obtain rfl:=si f
    exact tr fol [2] [(2,.bool (decide ((d.length:Int)<=24)))] (ac (gw j) az)
   obtain rfl:=si f
   exact tr fol [2] [(2,.bool false)] (ac (gw j) az)
  refine Goes.ret ?_
  obtain rfl:=si h
  exact(gw2 [.bool p] (Ua tB))
 try dsimp only at h
 obtain rfl:=si h
 exact hret
def vz (N:Nat) (a:Str):Option Int:=
 (jY N a).bind fun b=>
 (zl (!b) 8).bind fun c=>
 some c
theorem vJ (N:Nat) (a:Str) {res:Int} (h:vz N a=some res):qd ZT (.fn 89) [.str a] [] (.i res) []:=by
 unfold vz at h
 refine Ub Tryz.func89 rfl rfl (m:=7) rfl (rs:=[.tmp 2]) rfl (l:=[(0,.str a)]) rfl ?_
 refine sh fol [(0,.str a)] ?_
 obtain⟨e,b,h⟩:=bnd h
 obtain⟨d,c,h⟩:=bnd h
 refine sq (gr fol [1,3] [(2,.i d)] (ac (cv (xP N a b)) (ac (cv (qI (!e) 8 c)) az)) ?_)
 refine Goes.ret ?_
 obtain rfl:=si h
 exact(gw2 [.i d] (Ua tI))
def jZ (N:Nat) (a:Str):Option Int:=
 (if(!(a==[]))=true then
 (jY N a).bind fun b=>
 (zl (!b) 8).bind fun c=>
 some c
 else
 (zl false 8).bind fun d=>
 some d:Option Int).bind fun e=>
 some e
theorem xI (N:Nat) (b:Str) {res:Int} (h:jZ N b=some res):qd ZT (.fn 119) [.str b] [] (.i res) []:=by
 unfold jZ at h
 refine Ub Tryz.func119 rfl rfl (m:=11) rfl (rs:=[.tmp 2]) rfl (l:=[(0,.str b)]) rfl ?_
 refine sh fol [(0,.str b)] ?_
 refine sq ?_
 obtain⟨g,a,h⟩:=bnd h
 refine Goes.cut (s':=(ofG 11 [(2,.i g)],[])) ?_ ?_
 ·rcases wyB a with⟨f,a⟩|⟨f,a⟩
  ·obtain⟨j,c,a⟩:=bnd a
   obtain⟨k,d,a⟩:=bnd a
   obtain rfl:=si a
   exact tr fol [2,4,7] [(2,.i k)] (ac (gw f) (ac (cv (xP N b c)) (ac (cv (qI (!j) 8 d)) az)))
  obtain⟨n,e,a⟩:=bnd a
  obtain rfl:=si a
  exact tr fol [2,7] [(2,.i n)] (ac (gw f) (ac (cv (qI false 8 e)) az))
 refine Goes.ret ?_
 obtain rfl:=si h
 exact(gw2 [.i g] (Ua tI))
def vI (N:Nat) (l:qj) (before:List qj):Option Int:=
 (if(before.length:Int)>0 then
 (idx before (w64 ((before.length:Int)-1))).bind fun b=>
 some (ltL l.Name b.Name||l.Name==b.Name)
 else
 some false:Option Bool).bind fun c=>
 (vz N l.Name).bind fun d=>
 (vz N l.Yarn).bind fun e=>
 (jZ N l.Dye).bind fun f=>
 (zl c 11).bind fun g=>
 (jv l.Stock 0 999999999).bind fun h=>
 (zS N ([d,e,f,g,h]:List Int)).bind fun a=>
 some a
theorem qbI (N:Nat) (l:qj) (before:List qj) {res:Int} (h:vI N l before=some res):qd ZT (.fn 108) (kAR l.Name l.Yarn l.Dye l.Stock [vl qa before]) [] (.i res) []:=by
 unfold vI at h
 refine Ub Tryz.func108 rfl rfl (m:=37) rfl (rs:=[.tmp 4]) rfl (l:=[(0,.agg [.str l.Name,.str l.Yarn,.str l.Dye,.i l.Stock]),(1,vl qa before)]) rfl ?_
 refine sg fol ((1,vl qa before)::(kM [])) (kK l.Name l.Yarn l.Dye l.Stock []) ?_
 refine sq ?_
 obtain⟨t,a,h⟩:=bnd h
 refine Goes.cut (s':=(ofG 37 (kM [(5,.bool t)]),(kK l.Name l.Yarn l.Dye l.Stock []))) ?_ ?_
 ·rcases wyD a with⟨s,a⟩|⟨s,a⟩
  ·obtain⟨u,b,a⟩:=bnd a
   obtain rfl:=si a
   exact tr fol [3,10,12] (kM [(5,.bool (ltL l.Name u.Name||l.Name==u.Name))]) (ac (gw s) (ac (iv qbY qa b) (ac (lv 0 ce9 qa b rfl) az)))
  obtain rfl:=si a
  exact tr fol [3] (kM [(5,.bool false)]) (ac (gw s) az)
 obtain⟨n,e,h⟩:=bnd h
 obtain⟨o,f,h⟩:=bnd h
 obtain⟨p,g,h⟩:=bnd h
 obtain⟨q,j,h⟩:=bnd h
 obtain⟨r,k,h⟩:=bnd h
 obtain⟨c,d,h⟩:=bnd h
 refine sq (gq fol [2,5,8,10,13,15] [(4,.i c)] (kK l.Name l.Yarn l.Dye l.Stock [.cells [.i n,.i o,.i p,.i q,.i r]]) (ac (cv (vJ N l.Name e)) (ac (cv (vJ N l.Yarn f)) (ac (cv (xI N l.Dye g)) (ac (cv (qI t 11 j)) (ac (cv (je l.Stock 0 999999999 k)) (ac (hs (.call 47 [.slice 1 0 5 5 1] (kK l.Name l.Yarn l.Dye l.Stock [.cells [.i n,.i o,.i p,.i q,.i r]]) [1] [vl encI ([n,o,p,q,r]:List Int)] (.i c)) (j3 (FzL.cons (Fz.lit rfl rfl (Ue (AllST.cons tI (AllST.cons tI (AllST.cons tI (AllST.cons tI (AllST.cons tI AllST.nil))))))) FzL.nil) (zY N ([n,o,p,q,r]:List Int) d) tI rfl)) az)))))) ?_)
 refine Goes.ret ?_
 obtain rfl:=si h
 exact(gw2 [.i c] (Ua tI))
def jC (vals:List Int):Nat->Int->Option (Unit⊕Int)
 |0,_=>none
 |K+1,a=>
  if a<(vals.length:Int)then
  (idx vals a).bind fun b=>
  if(!decide (b=0))=true then
  some (.inr b)
  else
  jC vals K (w64 (a+1))
  else
  some (.inl ())
def yj (N:Nat) (vals:List Int):Option Int:=
 (jC vals N 0).bind (fun
 |(.inl ())=>
 some 0
 |(.inr a)=>
 some a)
theorem qaX (N:Nat) (vals:List Int) {res:Int} (h:yj N vals=some res):qd ZT (.fn 51) [vl encI vals] [] (.i res) []:=by
 unfold yj at h
 refine Ub Tryz.func51 rfl rfl (m:=18) rfl (rs:=[.tmp 2]) rfl (l:=[(0,vl encI vals)]) rfl ?_
 refine sh fol [(0,vl encI vals)] ?_
 refine sh fol [(0,vl encI vals),(3,.i 0)] ?_
 refine sq ?_
 refine sh fol [(3,.i 0),(6,vl encI vals),(7,.i (vals.length:Int)),(8,.i 0)] ?_
 refine Goes.block ?_
 obtain⟨d,g2,h⟩:=bnd h
 refine Goes.imp (Q:=fun x s'=>(x= .exit 0/\(.inl ())=d/\Sub s' (ofG 18 [(3,.i 0)],[]))\/(x= .ret/\ ∃e,(.inr e)=d/\zh ZT [.tmp 2] (.i e) .ret s')) ?_ ?_
 ·refine Uc (fun M s=> ∃(a:Int),s=(ofG 18 ((3,.i 0)::(6,vl encI vals)::(kAM (vals.length:Int) a [])),[])/\jC vals M a=some d) ?_ (m:=N) ⟨_,rfl,g2⟩
  rintro M s ⟨a,rfl,g2⟩
  cases M with
  |zero=>simp only[jC]at g2;cases g2
  |succ M=>
   rw[jC]at g2
   refine sh fol ((3,.i 0)::(6,vl encI vals)::(kAM (vals.length:Int) a [(9,.bool (decide (a<(vals.length:Int))))])) ?_
   refine sq ?_
   refine ihD g2 (fun f g2=>?_) (fun f g2=>?_)
   ·refine Goes.skip ?_
    refine sq (Goes.block ?_)
    obtain⟨c,b,g2⟩:=bnd g2
    refine sq (gr fol [0,1] ((3,.i 0)::(5,.i c)::(6,vl encI vals)::(kAM (vals.length:Int) a [])) (ac (iv qah encI b) (ac (lv 0 ce3 encI b rfl) az)) ?_)
    refine sh fol ((3,.i 0)::(5,.i c)::(6,vl encI vals)::(kAM (vals.length:Int) a [(14,.bool (!decide (c=0)))])) ?_
    refine ihB g2 (fun g g2=>?_) (fun g g2=>?_)
    ·refine sh fol [(2,.i c)] ?_
     refine Goes.ret ?_
     obtain rfl:=si g2
     exact Or.inr (⟨rfl,_,rfl,(gw2 [.i c] (Ua tI))⟩)
    refine Goes.skip ?_
    refine gh fol ((3,.i 0)::(6,vl encI vals)::(kAM (vals.length:Int) (w64 (a+1)) [])) ?_
    exact⟨M,(ofG 18 ((3,.i 0)::(6,vl encI vals)::(kAM (vals.length:Int) (w64 (a+1)) [])),[]),Nat.lt_succ_self _,(Sub.refl _),_,rfl,g2⟩
   refine Goes.exit ?_
   obtain rfl:=si g2
   exact Or.inl (⟨rfl,rfl,(Sub.keep [3] rfl rfl)⟩)
 rintro x s' (⟨rfl,rfl,hsub⟩|⟨rfl,j,rfl,hret⟩)
 ·try dsimp only at h
  refine Goes.sub hsub ?_
  refine sh fol [(2,.i 0)] ?_
  refine Goes.ret ?_
  obtain rfl:=si h
  exact(gw2 [.i 0] (Ua tI))
 try dsimp only at h
 obtain rfl:=si h
 exact hret
def zN (N:Nat) (a:qh) (o:qh):Option Int:=
 (qeY a.Lot o.Lot).bind fun b=>
 (qeY a.Order o.Order).bind fun c=>
 (yj N ([b,c]:List Int)).bind fun d=>
 some d
theorem qaA (N:Nat) (a:qh) (o:qh) {res:Int} (h:zN N a o=some res):qd ZT (.fn 113) [.agg [.str a.Lot,.str a.Order,.i a.Reserved,.i a.Taken],.agg [.str o.Lot,.str o.Order,.i o.Reserved,.i o.Taken]] [] (.i res) []:=by
 unfold zN at h
 refine Ub Tryz.func113 rfl rfl (m:=17) rfl (rs:=[.tmp 4]) rfl (l:=[(0,.agg [.str a.Lot,.str a.Order,.i a.Reserved,.i a.Taken]),(1,.agg [.str o.Lot,.str o.Order,.i o.Reserved,.i o.Taken])]) rfl ?_
 refine sg fol (kM [(3,.ptr 1 0)]) (kH a.Lot a.Order a.Reserved a.Taken (kH o.Lot o.Order o.Reserved o.Taken [])) ?_
 obtain⟨e,b,h⟩:=bnd h
 obtain⟨f,c,h⟩:=bnd h
 obtain⟨g,d,h⟩:=bnd h
 refine sq (gq fol [4,9,11] [(4,.i g)] (kH a.Lot a.Order a.Reserved a.Taken (kH o.Lot o.Order o.Reserved o.Taken (kX e f))) (ac (cv (qdQ a.Lot o.Lot b)) (ac (cv (qdQ a.Order o.Order c)) (ac (hs (.call 51 [.slice 2 0 2 2 1] (kH a.Lot a.Order a.Reserved a.Taken (kH o.Lot o.Order o.Reserved o.Taken (kX e f))) [2] [vl encI ([e,f]:List Int)] (.i g)) (j3 (FzL.cons (Fz.lit rfl rfl (Ue (AllST.cons tI (AllST.cons tI AllST.nil)))) FzL.nil) (qaX N ([e,f]:List Int) d) tI rfl)) az))) ?_)
 refine Goes.ret ?_
 obtain rfl:=si h
 exact(gw2 [.i g] (Ua tI))
def qH (a:StateT) (lot:Str):Nat->Int->Int->Option Int
 |0,_,_=>none
 |K+1,b,c=>
  if b<(a.Holds.length:Int)then
  (((idx a.Holds b).bind fun d=>
  if(d.Lot==lot)=true then
  some (w64 (c+d.Reserved))
  else
  some c:Option Int)).bind fun e=>
  qH a lot K (w64 (b+1)) e
  else
  some c
def jG (N:Nat) (a:StateT) (lot:Str):Option Int:=
 (qH a lot N 0 0).bind fun b=>
 some b
theorem qac (N:Nat) (a:StateT) (lot:Str) {res:Int} (h:jG N a lot=some res):qd ZT (.fn 118) (kT a.Day a.Lots a.Holds [.str lot]) [] (.i res) []:=by
 unfold jG at h
 refine Ub Tryz.func118 rfl rfl (m:=25) rfl (rs:=[.tmp 4]) rfl (l:=(kL a.Day a.Lots a.Holds (kAQ lot []))) rfl ?_
 refine sg fol (kAQ lot (kM [])) (kA a.Day a.Lots a.Holds []) ?_
 refine sh fol (kAQ lot (kM [(5,.i 0)])) ?_
 refine sq ?_
 refine sh fol (kAQ lot [(5,.i 0),(9,vl qb a.Holds),(10,.i (a.Holds.length:Int)),(11,.i 0)]) ?_
 refine Goes.block ?_
 obtain⟨j,g4,h⟩:=bnd h
 refine Goes.imp (Q:=fun x s'=>(x= .exit 0/\ ∃f,f=j/\Sub s' (ofG 25 (kAb f),[]))) ?_ ?_
 ·refine Goes.sub (s':=(ofG 25 (kAQ lot [(5,.i 0),(9,vl qb a.Holds),(10,.i (a.Holds.length:Int)),(11,.i 0)]),[])) (Sub.norm [] [] rfl rfl (.keep (.same nS) (.keep (.same nI) (.keep (.same (qf qb _)) (.keep (.same nI) (.keep (.same nI) .nil))))) .nil) ?_
  refine Uc (fun M s=> ∃(b:Int) (d:Int),s=(ofG 25 (kAQ lot ((5,.i d)::(9,vl qb a.Holds)::(kW (a.Holds.length:Int) b []))),[])/\qH a lot M b d=some j) ?_ (m:=N) ⟨_,_,rfl,g4⟩
  rintro M s ⟨b,d,rfl,g4⟩
  cases M with
  |zero=>simp only[qH]at g4;cases g4
  |succ M=>
   rw[qH]at g4
   refine sh fol (kAQ lot ((5,.i d)::(9,vl qb a.Holds)::(kW (a.Holds.length:Int) b [(12,.bool (decide (b<(a.Holds.length:Int))))]))) ?_
   refine sq ?_
   refine ihD g4 (fun k g4=>?_) (fun k g4=>?_)
   ·refine Goes.skip ?_
    refine sq ?_
    obtain⟨n,g7,g4⟩:=bnd g4
    refine Goes.imp (Q:=fun x s'=>(x= .normal/\ ∃g,g=n/\Sub s' (ofG 25 (kAQ lot ((5,.i g)::(9,vl qb a.Holds)::(kW (a.Holds.length:Int) b []))),[]))) ?_ ?_
    ·refine Goes.block ?_
     obtain⟨e,c,g7⟩:=bnd g7
     refine sq (gq fol [0,1] (kAQ lot ((5,.i d)::(7,.ptr 0 0)::(9,vl qb a.Holds)::(kW (a.Holds.length:Int) b []))) (kH e.Lot e.Order e.Reserved e.Taken []) (ac (iv qg4 qb c) (ac (la ag75 qb c) az)) ?_)
     refine sh fol (kAQ lot ((5,.i d)::(7,.ptr 0 0)::(9,vl qb a.Holds)::(kW (a.Holds.length:Int) b [(18,.bool (e.Lot==lot))]))) ?_
     refine ihB g7 (fun o g7=>?_) (fun o g7=>?_)
     ·refine gh fol (kAQ lot ((5,.i (w64 (d+e.Reserved)))::(9,vl qb a.Holds)::(kW (a.Holds.length:Int) b []))) ?_
      obtain rfl:=si g7
      exact⟨rfl,_,rfl,(Sub.norm [] [] rfl rfl (.keep (.same nS) (.keep (.same nI) (.keep (.same (qf qb _)) (.keep (.same nI) (.keep (.same nI) .nil))))) .nil)⟩
     refine Goes.skip ?_
     obtain rfl:=si g7
     exact⟨rfl,_,rfl,(Sub.norm [] [] rfl rfl (.keep (.same nS) (.keep (.same nI) (.drop (.keep (.same (qf qb _)) (.keep (.same nI) (.keep (.same nI) .nil)))))) .nil)⟩
    rintro x s' ⟨rfl,g,rfl,hsub⟩
    refine Goes.sub hsub ?_
    refine gh fol (kAQ lot ((5,.i g)::(9,vl qb a.Holds)::(kW (a.Holds.length:Int) (w64 (b+1)) []))) ?_
    exact⟨M,(ofG 25 (kAQ lot ((5,.i g)::(9,vl qb a.Holds)::(kW (a.Holds.length:Int) (w64 (b+1)) []))),[]),Nat.lt_succ_self _,(Sub.refl _),_,_,rfl,g4⟩
   refine Goes.exit ?_
   obtain rfl:=si g4
   exact⟨rfl,_,rfl,(Sub.keep [5] rfl rfl)⟩
 rintro x s' ⟨rfl,f,rfl,hsub⟩
 refine Goes.sub hsub ?_
 refine sh fol [(4,.i f)] ?_
 refine Goes.ret ?_
 obtain rfl:=si h
 exact(gw2 [.i f] (Ua tI))
def kw (N:Nat) (a:StateT) (l:qj):Option Int:=
 (jG N a l.Name).bind fun b=>
 some (w64 (l.Stock-b))
theorem zy (N:Nat) (a:StateT) (l:qj) {res:Int} (h:kw N a l=some res):qd ZT (.fn 45) (kT a.Day a.Lots a.Holds (kAR l.Name l.Yarn l.Dye l.Stock [])) [] (.i res) []:=by
 unfold kw at h
 refine Ub Tryz.func45 rfl rfl (m:=12) rfl (rs:=[.tmp 4]) rfl (l:=(kL a.Day a.Lots a.Holds [(1,.agg [.str l.Name,.str l.Yarn,.str l.Dye,.i l.Stock])])) rfl ?_
 refine sg fol (kM [(3,.ptr 1 0)]) (kA a.Day a.Lots a.Holds (kK l.Name l.Yarn l.Dye l.Stock [])) ?_
 obtain⟨c,b,h⟩:=bnd h
 refine sq (gr fol [5] [(4,.i (w64 (l.Stock-c)))] (ac (cv (qac N a l.Name b)) az) ?_)
 refine Goes.ret ?_
 obtain rfl:=si h
 exact(gw2 [.i (w64 (l.Stock-c))] (Ua tI))
def zb (N:Nat) (a:List qj):Nat->Int->Option (Unit⊕Int)
 |0,_=>none
 |K+1,b=>
  if b<(a.length:Int)then
  (idx a b).bind fun d=>
  (cut a 0 b).bind fun e=>
  (vI N d e).bind fun c=>
  if(!decide (c=0))=true then
  some (.inr c)
  else
  zb N a K (w64 (b+1))
  else
  some (.inl ())
def vB (N:Nat) (a:List qj) (b:Int):Option Int:=
 if(a.length:Int)>b then
 some 5
 else
 (zb N a N 0).bind (fun
 |(.inl ())=>
 some 0
 |(.inr c)=>
 some c)
theorem qaW (N:Nat) (a:List qj) (c:Int) {res:Int} (h:vB N a c=some res):qd ZT (.fn 107) [vl qa a,.i c,.func (.func 108) [] []] [] (.i res) []:=by
 unfold vB at h
 refine Ub Tryz.func107 rfl rfl (m:=31) rfl (rs:=[.tmp 6]) rfl (l:=(kR a [(1,.i c),(2,.func (.func 108) [] [])])) rfl ?_
 refine sh fol (kR a [(1,.i c),(2,.func (.func 108) [] [])]) ?_
 refine sq ?_
 refine sh fol (kR a [(2,.func (.func 108) [] []),(13,.bool (decide ((a.length:Int)>c)))]) ?_
 refine ihD h (fun p h=>?_) (fun p h=>?_)
 ·refine sh fol [(6,.i 5)] ?_
  refine Goes.ret ?_
  obtain rfl:=si h
  exact(gw2 [.i 5] (Ua tI))
 refine Goes.skip ?_
 refine sq ?_
 refine sh fol (kR a [(2,.func (.func 108) [] []),(14,vl qa a),(15,.i (a.length:Int)),(16,.i 0)]) ?_
 refine Goes.block ?_
 obtain⟨k,g3,h⟩:=bnd h
 refine Goes.imp (Q:=fun x s'=>(x= .exit 0/\(.inl ())=k/\Sub s' (ofG 31 [],[]))\/(x= .ret/\ ∃n,(.inr n)=k/\zh ZT [.tmp 6] (.i n) .ret s')) ?_ ?_
 ·refine Uc (fun M s=> ∃(b:Int),s=(ofG 31 (kR a ((2,.func (.func 108) [] [])::(14,vl qa a)::(kAB (a.length:Int) b []))),[])/\zb N a M b=some k) ?_ (m:=N) ⟨_,rfl,g3⟩
  rintro M s ⟨b,rfl,g3⟩
  cases M with
  |zero=>simp only[zb]at g3;cases g3
  |succ M=>
   rw[zb]at g3
   refine sh fol (kR a ((2,.func (.func 108) [] [])::(14,vl qa a)::(kAB (a.length:Int) b [(17,.bool (decide (b<(a.length:Int))))]))) ?_
   refine sq ?_
   refine ihD g3 (fun q g3=>?_) (fun q g3=>?_)
   ·refine Goes.skip ?_
    refine sq (Goes.block ?_)
    obtain⟨e,d,g3⟩:=bnd g3
    refine sq (gq fol [1,2] (kR a ((2,.func (.func 108) [] [])::(7,.i b)::(8,.ptr 0 0)::(14,vl qa a)::(kAB (a.length:Int) b []))) (kK e.Name e.Yarn e.Dye e.Stock []) (ac (iv qbY qa d) (ac (la qcV qa d) az)) ?_)
    obtain⟨o,f,g3⟩:=bnd g3
    obtain⟨g,j,g3⟩:=bnd g3
    refine sq (gr fol [4,5] (kR a ((2,.func (.func 108) [] [])::(9,.i g)::(14,vl qa a)::(kAB (a.length:Int) b []))) (ac (hs (.done (.opt (qbe ZT 22 (vl qa a) none (some (.i b)) none)) (vl qa o)) (qit qbY (E:=qa) rfl none (some b) f)) (ac (cv (qbI N e o j)) az)) ?_)
    refine sh fol (kR a ((2,.func (.func 108) [] [])::(9,.i g)::(14,vl qa a)::(kAB (a.length:Int) b [(28,.bool (!decide (g=0)))]))) ?_
    refine ihB g3 (fun r g3=>?_) (fun r g3=>?_)
    ·refine sh fol [(6,.i g)] ?_
     refine Goes.ret ?_
     obtain rfl:=si g3
     exact Or.inr (⟨rfl,_,rfl,(gw2 [.i g] (Ua tI))⟩)
    refine Goes.skip ?_
    refine gh fol (kR a ((2,.func (.func 108) [] [])::(14,vl qa a)::(kAB (a.length:Int) (w64 (b+1)) []))) ?_
    exact⟨M,(ofG 31 (kR a ((2,.func (.func 108) [] [])::(14,vl qa a)::(kAB (a.length:Int) (w64 (b+1)) []))),[]),Nat.lt_succ_self _,(Sub.norm [] [] rfl rfl (.keep (.same (qf qa _)) (.keep (.same (ql.func sn sn)) (.keep (.same (qf qa _)) (.keep (.same nI) (.keep (.same nI) .nil))))) .nil),_,rfl,g3⟩
   refine Goes.exit ?_
   obtain rfl:=si g3
   exact Or.inl (⟨rfl,rfl,(Sub.keep [] rfl rfl)⟩)
 rintro x s' (⟨rfl,rfl,hsub⟩|⟨rfl,t,rfl,hret⟩)
 ·try dsimp only at h
  refine Goes.sub hsub ?_
  refine sh fol [(6,.i 0)] ?_
  refine Goes.ret ?_
  obtain rfl:=si h
  exact(gw2 [.i 0] (Ua tI))
 try dsimp only at h
 obtain rfl:=si h
 exact hret
def zJ (a:qj) (b:Str) (c:Str) (d:Int) (e:Int):Option Bool:=
 some (a.Name==b)
theorem y8 (a:qj) (b:Str) (c:Str) (d:Int) (e:Int) {res:Bool} (h:zJ a b c d e=some res):qd ZT (.fn 112) (kAR a.Name a.Yarn a.Dye a.Stock [.fptr [.str b,.str c,.i d,.i e] 0]) [] (.bool res) []:=by
 unfold zJ at h
 refine Ub Tryz.func112 rfl rfl (m:=9) rfl (rs:=[.tmp 3]) rfl (l:=[(0,.agg [.str a.Name,.str a.Yarn,.str a.Dye,.i a.Stock]),(1,.fptr [.str b,.str c,.i d,.i e] 0)]) rfl ?_
 refine sg fol ((1,.fptr [.str b,.str c,.i d,.i e] 0)::(kM [])) (kK a.Name a.Yarn a.Dye a.Stock []) ?_
 refine sh fol [(3,.bool (a.Name==b))] ?_
 refine Goes.ret ?_
 obtain rfl:=si h
 exact(gw2 [.bool (a.Name==b)] (Ua tB))
def qo (a:List qj) (b:Str) (c:Str) (d:Int) (e:Int):Nat->Int->Option (Unit⊕Int)
 |0,_=>none
 |K+1,f=>
  if f<(a.length:Int)then
  (idx a f).bind fun g=>
  (zJ g b c d e).bind fun h=>
  if h=true then
  some (.inr f)
  else
  qo a b c d e K (w64 (f+1))
  else
  some (.inl ())
def zM (N:Nat) (a:List qj) (b:Str) (c:Str) (d:Int) (e:Int):Option Int:=
 (qo a b c d e N 0).bind (fun
 |(.inl ())=>
 some (-1)
 |(.inr f)=>
 some f)
theorem xg (N:Nat) (a:List qj) (b:Str) (c:Str) (d:Int) (e:Int) {res:Int} (h:zM N a b c d e=some res):qd ZT (.fn 170) [vl qa a,.func (.func 112) [] [.fptr [.str b,.str c,.i d,.i e] 0]] [] (.i res) []:=by
 unfold zM at h
 refine Ub Tryz.func170 rfl rfl (m:=19) rfl (rs:=[.tmp 4]) rfl (l:=(kR a [(1,.func (.func 112) [] [.fptr [.str b,.str c,.i d,.i e] 0])])) rfl ?_
 refine sh fol (kR a [(1,.func (.func 112) [] [.fptr [.str b,.str c,.i d,.i e] 0])]) ?_
 refine sq ?_
 refine sh fol (kR a [(1,.func (.func 112) [] [.fptr [.str b,.str c,.i d,.i e] 0]),(7,.i (a.length:Int)),(8,.i 0)]) ?_
 refine Goes.block ?_
 obtain⟨n,g2,h⟩:=bnd h
 refine Goes.imp (Q:=fun x s'=>(x= .exit 0/\(.inl ())=n/\Sub s' (ofG 19 [],[]))\/(x= .ret/\ ∃o,(.inr o)=n/\zh ZT [.tmp 4] (.i o) .ret s')) ?_ ?_
 ·refine Uc (fun M s=> ∃(f:Int),s=(ofG 19 (kR a ((1,.func (.func 112) [] [.fptr [.str b,.str c,.i d,.i e] 0])::(kAM (a.length:Int) f []))),[])/\qo a b c d e M f=some n) ?_ (m:=N) ⟨_,rfl,g2⟩
  rintro M s ⟨f,rfl,g2⟩
  cases M with
  |zero=>simp only[qo]at g2;cases g2
  |succ M=>
   rw[qo]at g2
   refine sh fol (kR a ((1,.func (.func 112) [] [.fptr [.str b,.str c,.i d,.i e] 0])::(kAM (a.length:Int) f [(9,.bool (decide (f<(a.length:Int))))]))) ?_
   refine sq ?_
   refine ihD g2 (fun q g2=>?_) (fun q g2=>?_)
   ·refine Goes.skip ?_
    refine sq (Goes.block ?_)
    refine sh fol (kR a ((1,.func (.func 112) [] [.fptr [.str b,.str c,.i d,.i e] 0])::(5,.i f)::(kAM (a.length:Int) f []))) ?_
    obtain⟨g,j,g2⟩:=bnd g2
    obtain⟨p,k,g2⟩:=bnd g2
    refine sq (gr fol [3,4,5] (kR a ((1,.func (.func 112) [] [.fptr [.str b,.str c,.i d,.i e] 0])::(5,.i f)::(kAM (a.length:Int) f [(16,.bool p)]))) (ac (iv qbY qa j) (ac (la qcV qa j) (ac (hs (.call 112 (kAR g.Name g.Yarn g.Dye g.Stock [.fptr [.str b,.str c,.i d,.i e] 0]) [] [] (kAR g.Name g.Yarn g.Dye g.Stock [.fptr [.str b,.str c,.i d,.i e] 0]) (.bool p)) (qa9 (FzL.cons (Ud (Still.agg (AllST.cons tS (AllST.cons tS (AllST.cons tS (AllST.cons tI AllST.nil)))))) (FzL.cons (Ud (Still.fptr (AllST.cons tS (AllST.cons tS (AllST.cons tI (AllST.cons tI AllST.nil)))))) FzL.nil)) (y8 g b c d e k) tB)) az))) ?_)
    refine ihB g2 (fun r g2=>?_) (fun r g2=>?_)
    ·refine sh fol [(4,.i f)] ?_
     refine Goes.ret ?_
     obtain rfl:=si g2
     exact Or.inr (⟨rfl,_,rfl,(gw2 [.i f] (Ua tI))⟩)
    refine Goes.skip ?_
    refine gh fol (kR a ((1,.func (.func 112) [] [.fptr [.str b,.str c,.i d,.i e] 0])::(kAM (a.length:Int) (w64 (f+1)) []))) ?_
    exact⟨M,(ofG 19 (kR a ((1,.func (.func 112) [] [.fptr [.str b,.str c,.i d,.i e] 0])::(kAM (a.length:Int) (w64 (f+1)) []))),[]),Nat.lt_succ_self _,(Sub.refl _),_,rfl,g2⟩
   refine Goes.exit ?_
   obtain rfl:=si g2
   exact Or.inl (⟨rfl,rfl,(Sub.keep [] rfl rfl)⟩)
 rintro x s' (⟨rfl,rfl,hsub⟩|⟨rfl,t,rfl,hret⟩)
 ·try dsimp only at h
  refine Goes.sub hsub ?_
  refine sh fol [(4,.i (-1))] ?_
  refine Goes.ret ?_
  obtain rfl:=si h
  exact(gw2 [.i (-1)] (Ua tI))
 try dsimp only at h
 obtain rfl:=si h
 exact hret
def kr (N:Nat) (a:List qj) (b:Str) (c:Str) (d:Int) (e:Int):Option Bool:=
 (zM N a b c d e).bind fun f=>
 some (decide (f>=0))
theorem yC (N:Nat) (a:List qj) (b:Str) (c:Str) (d:Int) (e:Int) {res:Bool} (h:kr N a b c d e=some res):qd ZT (.fn 111) [vl qa a,.func (.func 112) [] [.fptr [.str b,.str c,.i d,.i e] 0]] [] (.bool res) []:=by
 unfold kr at h
 refine Ub Tryz.func111 rfl rfl (m:=9) rfl (rs:=[.tmp 4]) rfl (l:=(kR a [(1,.func (.func 112) [] [.fptr [.str b,.str c,.i d,.i e] 0])])) rfl ?_
 refine sh fol (kR a [(1,.func (.func 112) [] [.fptr [.str b,.str c,.i d,.i e] 0])]) ?_
 obtain⟨g,f,h⟩:=bnd h
 refine sq (gr fol [2] [(4,.bool (decide (g>=0)))] (ac (hs (.call 170 [vl qa a,.func (.func 112) [] [.fptr [.str b,.str c,.i d,.i e] 0]] [] [] [vl qa a,.func (.func 112) [] [.fptr [.str b,.str c,.i d,.i e] 0]] (.i g)) (qa9 (FzL.cons (Ud (qz qa _ (nl rfl))) (FzL.cons (Fz.func FzL.nil (FzL.cons (Ud (Still.fptr (AllST.cons tS (AllST.cons tS (AllST.cons tI (AllST.cons tI AllST.nil)))))) FzL.nil)) FzL.nil)) (xg N a b c d e f) tI)) az) ?_)
 refine Goes.ret ?_
 obtain rfl:=si h
 exact(gw2 [.bool (decide (g>=0))] (Ua tB))
def zw (N:Nat) (a:qh) (d:List qh) (n:Int) (j:List qj) (o:List qh):Option Int:=
 (kr N j a.Lot a.Order a.Reserved a.Taken).bind fun p=>
 (if(d.length:Int)>0 then
 (idx d (w64 ((d.length:Int)-1))).bind fun q=>
 (zN N a q).bind fun r=>
 some (decide (r<=0))
 else
 some false:Option Bool).bind fun s=>
 ((zl (!p) 10).bind fun g=>
 (vz N a.Order).bind fun h=>
 (zl s 11).bind fun i=>
 (jv a.Reserved 0 999999999).bind fun b=>
 (jv a.Taken 0 999999999).bind fun c=>
 if a.Reserved=0 then
 (zl (decide (a.Taken=0)) 6).bind fun e=>
 (zS N ([g,h,i,b,c,e]:List Int)).bind fun k=>
 some (g,h,i,b,c,e,k)
 else
 (zl false 6).bind fun f=>
 (zS N ([g,h,i,b,c,f]:List Int)).bind fun l=>
 some (g,h,i,b,c,f,l):Option (Int×Int×Int×Int×Int×Int×Int)).bind fun(t,u,v,w,x,y,m)=>
 some m
theorem xz (N:Nat) (a:qh) (g:List qh) (n:Int) (f:List qj) (o:List qh) {res:Int} (h:zw N a g n f o=some res):qd ZT (.fn 110) [.agg [.str a.Lot,.str a.Order,.i a.Reserved,.i a.Taken],vl qb g,.fptr [.i n,vl qa f,vl qb o] 0] [] (.i res) []:=by
 unfold zw at h
 refine Ub Tryz.func110 rfl rfl (m:=51) rfl (rs:=[.tmp 5]) rfl (l:=[(0,.agg [.str a.Lot,.str a.Order,.i a.Reserved,.i a.Taken]),(1,vl qb g),(2,.fptr [.i n,vl qa f,vl qb o] 0)]) rfl ?_
 refine sg fol [(1,vl qb g),(2,.fptr [.i n,vl qa f,vl qb o] 0),(3,.ptr 0 0)] (kH a.Lot a.Order a.Reserved a.Taken []) ?_
 obtain⟨y,E,h⟩:=bnd h
 refine sq (gr fol [3] [(1,vl qb g),(3,.ptr 0 0),(6,.bool y)] (ac (hs (.call 111 [vl qa f,.func (.func 112) [] [.ptr 0 0]] (kH a.Lot a.Order a.Reserved a.Taken []) [0] [vl qa f,.func (.func 112) [] [.fptr [.str a.Lot,.str a.Order,.i a.Reserved,.i a.Taken] 0]] (.bool y)) (j3 (FzL.cons (Ud (qz qa _ (nl rfl))) (FzL.cons (Fz.func FzL.nil (FzL.cons (Fz.ptr rfl rfl (FzL.cons (Ud tS) (FzL.cons (Ud tS) (FzL.cons (Ud tI) (FzL.cons (Ud tI) FzL.nil))))) FzL.nil)) FzL.nil)) (yC N f a.Lot a.Order a.Reserved a.Taken E) tB rfl)) az) ?_)
 refine sq ?_
 obtain⟨J,c,h⟩:=bnd h
 refine Goes.cut (s':=(ofG 51 [(3,.ptr 0 0),(6,.bool y),(7,.bool J)],(kH a.Lot a.Order a.Reserved a.Taken []))) ?_ ?_
 ·rcases wyD c with⟨K,c⟩|⟨K,c⟩
  ·obtain⟨V,r,c⟩:=bnd c
   obtain⟨X,F,c⟩:=bnd c
   obtain rfl:=si c
   exact tr fol [3,9,10,11] [(3,.ptr 0 0),(6,.bool y),(7,.bool (decide (X<=0)))] (ac (gw K) (ac (iv qg4 qb r) (ac (la ag75 qb r) (ac (cv (qaA N a V F)) az))))
  obtain rfl:=si c
  exact tr fol [3] [(3,.ptr 0 0),(6,.bool y),(7,.bool false)] (ac (gw K) az)
 refine sq ?_
 obtain⟨⟨L,M,O,P,Q,U,G⟩,b,h⟩:=bnd h
 refine Goes.cut (s':=(ofG 51 (kAb G),(kH a.Lot a.Order a.Reserved a.Taken [.cells [.i L,.i M,.i O,.i P,.i Q,.i U]]))) ?_ ?_
 ·obtain⟨s,t,b⟩:=bnd b
  obtain⟨u,v,b⟩:=bnd b
  obtain⟨w,x,b⟩:=bnd b
  obtain⟨d,j,b⟩:=bnd b
  obtain⟨e,k,b⟩:=bnd b
  rcases wyD b with⟨z,b⟩|⟨z,b⟩
  ·obtain⟨p,A,b⟩:=bnd b
   obtain⟨H,B,b⟩:=bnd b
   simp only[ZI,ZP]at b
   obtain⟨rfl,rfl,rfl,rfl,rfl,rfl,rfl⟩:=b
   exact vw.rq fol [2,5,7,10,13,17,22,24] (kAb H) (kH a.Lot a.Order a.Reserved a.Taken [.cells [.i s,.i u,.i w,.i d,.i e,.i p]]) (ac (cv (qI (!y) 10 t)) (ac (cv (vJ N a.Order v)) (ac (cv (qI J 11 x)) (ac (cv (je a.Reserved 0 999999999 j)) (ac (cv (je a.Taken 0 999999999 k)) (ac (gw z) (ac (cv (qI (decide (a.Taken=0)) 6 A)) (ac (hs (.call 47 [.slice 1 0 6 6 1] (kH a.Lot a.Order a.Reserved a.Taken [.cells [.i s,.i u,.i w,.i d,.i e,.i p]]) [1] [vl encI ([s,u,w,d,e,p]:List Int)] (.i H)) (j3 (FzL.cons (Fz.lit rfl rfl (Ue (AllST.cons tI (AllST.cons tI (AllST.cons tI (AllST.cons tI (AllST.cons tI (AllST.cons tI AllST.nil)))))))) FzL.nil) (zY N ([s,u,w,d,e,p]:List Int) B) tI rfl)) az))))))))
  obtain⟨q,C,b⟩:=bnd b
  obtain⟨I,D,b⟩:=bnd b
  simp only[ZI,ZP]at b
  obtain⟨rfl,rfl,rfl,rfl,rfl,rfl,rfl⟩:=b
  exact vw.rq fol [2,5,7,10,13,17,22,24] (kAb I) (kH a.Lot a.Order a.Reserved a.Taken [.cells [.i s,.i u,.i w,.i d,.i e,.i q]]) (ac (cv (qI (!y) 10 t)) (ac (cv (vJ N a.Order v)) (ac (cv (qI J 11 x)) (ac (cv (je a.Reserved 0 999999999 j)) (ac (cv (je a.Taken 0 999999999 k)) (ac (gw z) (ac (cv (qI false 6 C)) (ac (hs (.call 47 [.slice 1 0 6 6 1] (kH a.Lot a.Order a.Reserved a.Taken [.cells [.i s,.i u,.i w,.i d,.i e,.i q]]) [1] [vl encI ([s,u,w,d,e,q]:List Int)] (.i I)) (j3 (FzL.cons (Fz.lit rfl rfl (Ue (AllST.cons tI (AllST.cons tI (AllST.cons tI (AllST.cons tI (AllST.cons tI (AllST.cons tI AllST.nil)))))))) FzL.nil) (zY N ([s,u,w,d,e,q]:List Int) D) tI rfl)) az))))))))
 try dsimp only at h
 refine Goes.ret ?_
 obtain rfl:=si h
 exact(gw2 [.i G] (Ua tI))
def kg (N:Nat) (a:List qh) (b:Int) (c:List qj) (d:List qh):Nat->Int->Option (Unit⊕Int)
 |0,_=>none
 |K+1,e=>
  if e<(a.length:Int)then
  (idx a e).bind fun g=>
  (cut a 0 e).bind fun h=>
  (zw N g h b c d).bind fun f=>
  if(!decide (f=0))=true then
  some (.inr f)
  else
  kg N a b c d K (w64 (e+1))
  else
  some (.inl ())
def j4 (N:Nat) (a:List qh) (b:Int) (c:Int) (d:List qj) (e:List qh):Option Int:=
 if(a.length:Int)>b then
 some 5
 else
 (kg N a c d e N 0).bind (fun
 |(.inl ())=>
 some 0
 |(.inr f)=>
 some f)
theorem qaH (N:Nat) (a:List qh) (g:Int) (b:Int) (c:List qj) (d:List qh) {res:Int} (h:j4 N a g b c d=some res):qd ZT (.fn 109) [vl qb a,.i g,.func (.func 110) [] [.fptr [.i b,vl qa c,vl qb d] 0]] [] (.i res) []:=by
 unfold j4 at h
 refine Ub Tryz.func109 rfl rfl (m:=31) rfl (rs:=[.tmp 6]) rfl (l:=(kAa a [(1,.i g),(2,.func (.func 110) [] [.fptr [.i b,vl qa c,vl qb d] 0])])) rfl ?_
 refine sh fol (kAa a [(1,.i g),(2,.func (.func 110) [] [.fptr [.i b,vl qa c,vl qb d] 0])]) ?_
 refine sq ?_
 refine sh fol (kAa a [(2,.func (.func 110) [] [.fptr [.i b,vl qa c,vl qb d] 0]),(13,.bool (decide ((a.length:Int)>g)))]) ?_
 refine ihD h (fun t h=>?_) (fun t h=>?_)
 ·refine sh fol [(6,.i 5)] ?_
  refine Goes.ret ?_
  obtain rfl:=si h
  exact(gw2 [.i 5] (Ua tI))
 refine Goes.skip ?_
 refine sq ?_
 refine sh fol (kAa a [(2,.func (.func 110) [] [.fptr [.i b,vl qa c,vl qb d] 0]),(14,vl qb a),(15,.i (a.length:Int)),(16,.i 0)]) ?_
 refine Goes.block ?_
 obtain⟨q,g3,h⟩:=bnd h
 refine Goes.imp (Q:=fun x s'=>(x= .exit 0/\(.inl ())=q/\Sub s' (ofG 31 [],[]))\/(x= .ret/\ ∃r,(.inr r)=q/\zh ZT [.tmp 6] (.i r) .ret s')) ?_ ?_
 ·refine Uc (fun M s=> ∃(e:Int),s=(ofG 31 (kAa a ((2,.func (.func 110) [] [.fptr [.i b,vl qa c,vl qb d] 0])::(14,vl qb a)::(kAB (a.length:Int) e []))),[])/\kg N a b c d M e=some q) ?_ (m:=N) ⟨_,rfl,g3⟩
  rintro M s ⟨e,rfl,g3⟩
  cases M with
  |zero=>simp only[kg]at g3;cases g3
  |succ M=>
   rw[kg]at g3
   refine sh fol (kAa a ((2,.func (.func 110) [] [.fptr [.i b,vl qa c,vl qb d] 0])::(14,vl qb a)::(kAB (a.length:Int) e [(17,.bool (decide (e<(a.length:Int))))]))) ?_
   refine sq ?_
   refine ihD g3 (fun u g3=>?_) (fun u g3=>?_)
   ·refine Goes.skip ?_
    refine sq (Goes.block ?_)
    obtain⟨f,j,g3⟩:=bnd g3
    refine sq (gq fol [1,2] (kAa a ((2,.func (.func 110) [] [.fptr [.i b,vl qa c,vl qb d] 0])::(7,.i e)::(8,.ptr 0 0)::(14,vl qb a)::(kAB (a.length:Int) e []))) (kH f.Lot f.Order f.Reserved f.Taken []) (ac (iv qg4 qb j) (ac (la ag75 qb j) az)) ?_)
    obtain⟨p,n,g3⟩:=bnd g3
    obtain⟨k,o,g3⟩:=bnd g3
    refine sq (gr fol [4,5] (kAa a ((2,.func (.func 110) [] [.fptr [.i b,vl qa c,vl qb d] 0])::(9,.i k)::(14,vl qb a)::(kAB (a.length:Int) e []))) (ac (hs (.done (.opt (qbe ZT 23 (vl qb a) none (some (.i e)) none)) (vl qb p)) (qit qg4 (E:=qb) rfl none (some e) n)) (ac (hs (.call 110 [.agg [.str f.Lot,.str f.Order,.i f.Reserved,.i f.Taken],vl qb p,.fptr [.i b,vl qa c,vl qb d] 0] [] [] [.agg [.str f.Lot,.str f.Order,.i f.Reserved,.i f.Taken],vl qb p,.fptr [.i b,vl qa c,vl qb d] 0] (.i k)) (qa9 (FzL.cons (Ud (Still.agg (AllST.cons tS (AllST.cons tS (AllST.cons tI (AllST.cons tI AllST.nil)))))) (FzL.cons (Ud (qz qb _ (nl rfl))) (FzL.cons (Ud (Still.fptr (AllST.cons tI (AllST.cons (qz qa _ (nl rfl)) (AllST.cons (qz qb _ (nl rfl)) AllST.nil))))) FzL.nil))) (xz N f p b c d o) tI)) az)) ?_)
    refine sh fol (kAa a ((2,.func (.func 110) [] [.fptr [.i b,vl qa c,vl qb d] 0])::(9,.i k)::(14,vl qb a)::(kAB (a.length:Int) e [(28,.bool (!decide (k=0)))]))) ?_
    refine ihB g3 (fun v g3=>?_) (fun v g3=>?_)
    ·refine sh fol [(6,.i k)] ?_
     refine Goes.ret ?_
     obtain rfl:=si g3
     exact Or.inr (⟨rfl,_,rfl,(gw2 [.i k] (Ua tI))⟩)
    refine Goes.skip ?_
    refine gh fol (kAa a ((2,.func (.func 110) [] [.fptr [.i b,vl qa c,vl qb d] 0])::(14,vl qb a)::(kAB (a.length:Int) (w64 (e+1)) []))) ?_
    exact⟨M,(ofG 31 (kAa a ((2,.func (.func 110) [] [.fptr [.i b,vl qa c,vl qb d] 0])::(14,vl qb a)::(kAB (a.length:Int) (w64 (e+1)) []))),[]),Nat.lt_succ_self _,(Sub.norm [] [] rfl rfl (.keep (.same (qf qb _)) (.keep (.same (ql.func sn sn)) (.keep (.same (qf qb _)) (.keep (.same nI) (.keep (.same nI) .nil))))) .nil),_,rfl,g3⟩
   refine Goes.exit ?_
   obtain rfl:=si g3
   exact Or.inl (⟨rfl,rfl,(Sub.keep [] rfl rfl)⟩)
 rintro x s' (⟨rfl,rfl,hsub⟩|⟨rfl,w,rfl,hret⟩)
 ·try dsimp only at h
  refine Goes.sub hsub ?_
  refine sh fol [(6,.i 0)] ?_
  refine Goes.ret ?_
  obtain rfl:=si h
  exact(gw2 [.i 0] (Ua tI))
 try dsimp only at h
 obtain rfl:=si h
 exact hret
def jm (N:Nat) (a:qj) (b:Int) (c:List qj) (d:List qh):Option Bool:=
 (kw N (⟨b,c,d⟩:StateT) a).bind fun e=>
 some (decide (e<0))
theorem xD (N:Nat) (a:qj) (b:Int) (c:List qj) (d:List qh) {res:Bool} (h:jm N a b c d=some res):qd ZT (.fn 114) (kAR a.Name a.Yarn a.Dye a.Stock [.fptr [.i b,vl qa c,vl qb d] 0]) [] (.bool res) []:=by
 unfold jm at h
 refine Ub Tryz.func114 rfl rfl (m:=8) rfl (rs:=[.tmp 3]) rfl (l:=[(0,.agg [.str a.Name,.str a.Yarn,.str a.Dye,.i a.Stock]),(1,.fptr [.i b,vl qa c,vl qb d] 0)]) rfl ?_
 refine sg fol ((1,.fptr [.i b,vl qa c,vl qb d] 0)::(kM [])) (kK a.Name a.Yarn a.Dye a.Stock []) ?_
 obtain⟨f,e,h⟩:=bnd h
 refine sq (gr fol [2] [(3,.bool (decide (f<0)))] (ac (cv (zy N (⟨b,c,d⟩:StateT) a e)) az) ?_)
 refine Goes.ret ?_
 obtain rfl:=si h
 exact(gw2 [.bool (decide (f<0))] (Ua tB))
def qm (N:Nat) (a:List qj) (b:Int) (c:List qj) (d:List qh):Nat->Int->Option (Unit⊕Int)
 |0,_=>none
 |K+1,e=>
  if e<(a.length:Int)then
  (idx a e).bind fun f=>
  (jm N f b c d).bind fun g=>
  if g=true then
  some (.inr e)
  else
  qm N a b c d K (w64 (e+1))
  else
  some (.inl ())
def zO (N:Nat) (a:List qj) (b:Int) (c:List qj) (d:List qh):Option Int:=
 (qm N a b c d N 0).bind (fun
 |(.inl ())=>
 some (-1)
 |(.inr e)=>
 some e)
theorem xh (N:Nat) (a:List qj) (b:Int) (c:List qj) (d:List qh) {res:Int} (h:zO N a b c d=some res):qd ZT (.fn 170) [vl qa a,.func (.func 114) [] [.fptr [.i b,vl qa c,vl qb d] 0]] [] (.i res) []:=by
 unfold zO at h
 refine Ub Tryz.func170 rfl rfl (m:=19) rfl (rs:=[.tmp 4]) rfl (l:=(kR a [(1,.func (.func 114) [] [.fptr [.i b,vl qa c,vl qb d] 0])])) rfl ?_
 refine sh fol (kR a [(1,.func (.func 114) [] [.fptr [.i b,vl qa c,vl qb d] 0])]) ?_
 refine sq ?_
 refine sh fol (kR a [(1,.func (.func 114) [] [.fptr [.i b,vl qa c,vl qb d] 0]),(7,.i (a.length:Int)),(8,.i 0)]) ?_
 refine Goes.block ?_
 obtain⟨k,g2,h⟩:=bnd h
 refine Goes.imp (Q:=fun x s'=>(x= .exit 0/\(.inl ())=k/\Sub s' (ofG 19 [],[]))\/(x= .ret/\ ∃n,(.inr n)=k/\zh ZT [.tmp 4] (.i n) .ret s')) ?_ ?_
 ·refine Uc (fun M s=> ∃(e:Int),s=(ofG 19 (kR a ((1,.func (.func 114) [] [.fptr [.i b,vl qa c,vl qb d] 0])::(kAM (a.length:Int) e []))),[])/\qm N a b c d M e=some k) ?_ (m:=N) ⟨_,rfl,g2⟩
  rintro M s ⟨e,rfl,g2⟩
  cases M with
  |zero=>simp only[qm]at g2;cases g2
  |succ M=>
   rw[qm]at g2
   refine sh fol (kR a ((1,.func (.func 114) [] [.fptr [.i b,vl qa c,vl qb d] 0])::(kAM (a.length:Int) e [(9,.bool (decide (e<(a.length:Int))))]))) ?_
   refine sq ?_
   refine ihD g2 (fun p g2=>?_) (fun p g2=>?_)
   ·refine Goes.skip ?_
    refine sq (Goes.block ?_)
    refine sh fol (kR a ((1,.func (.func 114) [] [.fptr [.i b,vl qa c,vl qb d] 0])::(5,.i e)::(kAM (a.length:Int) e []))) ?_
    obtain⟨f,g,g2⟩:=bnd g2
    obtain⟨o,j,g2⟩:=bnd g2
    refine sq (gr fol [3,4,5] (kR a ((1,.func (.func 114) [] [.fptr [.i b,vl qa c,vl qb d] 0])::(5,.i e)::(kAM (a.length:Int) e [(16,.bool o)]))) (ac (iv qbY qa g) (ac (la qcV qa g) (ac (hs (.call 114 (kAR f.Name f.Yarn f.Dye f.Stock [.fptr [.i b,vl qa c,vl qb d] 0]) [] [] (kAR f.Name f.Yarn f.Dye f.Stock [.fptr [.i b,vl qa c,vl qb d] 0]) (.bool o)) (qa9 (FzL.cons (Ud (Still.agg (AllST.cons tS (AllST.cons tS (AllST.cons tS (AllST.cons tI AllST.nil)))))) (FzL.cons (Ud (Still.fptr (AllST.cons tI (AllST.cons (qz qa _ (nl rfl)) (AllST.cons (qz qb _ (nl rfl)) AllST.nil))))) FzL.nil)) (xD N f b c d j) tB)) az))) ?_)
    refine ihB g2 (fun q g2=>?_) (fun q g2=>?_)
    ·refine sh fol [(4,.i e)] ?_
     refine Goes.ret ?_
     obtain rfl:=si g2
     exact Or.inr (⟨rfl,_,rfl,(gw2 [.i e] (Ua tI))⟩)
    refine Goes.skip ?_
    refine gh fol (kR a ((1,.func (.func 114) [] [.fptr [.i b,vl qa c,vl qb d] 0])::(kAM (a.length:Int) (w64 (e+1)) []))) ?_
    exact⟨M,(ofG 19 (kR a ((1,.func (.func 114) [] [.fptr [.i b,vl qa c,vl qb d] 0])::(kAM (a.length:Int) (w64 (e+1)) []))),[]),Nat.lt_succ_self _,(Sub.refl _),_,rfl,g2⟩
   refine Goes.exit ?_
   obtain rfl:=si g2
   exact Or.inl (⟨rfl,rfl,(Sub.keep [] rfl rfl)⟩)
 rintro x s' (⟨rfl,rfl,hsub⟩|⟨rfl,r,rfl,hret⟩)
 ·try dsimp only at h
  refine Goes.sub hsub ?_
  refine sh fol [(4,.i (-1))] ?_
  refine Goes.ret ?_
  obtain rfl:=si h
  exact(gw2 [.i (-1)] (Ua tI))
 try dsimp only at h
 obtain rfl:=si h
 exact hret
def ko (N:Nat) (a:List qj) (b:Int) (c:List qj) (d:List qh):Option Bool:=
 (zO N a b c d).bind fun e=>
 some (decide (e>=0))
theorem yz (N:Nat) (a:List qj) (b:Int) (c:List qj) (d:List qh) {res:Bool} (h:ko N a b c d=some res):qd ZT (.fn 111) [vl qa a,.func (.func 114) [] [.fptr [.i b,vl qa c,vl qb d] 0]] [] (.bool res) []:=by
 unfold ko at h
 refine Ub Tryz.func111 rfl rfl (m:=9) rfl (rs:=[.tmp 4]) rfl (l:=(kR a [(1,.func (.func 114) [] [.fptr [.i b,vl qa c,vl qb d] 0])])) rfl ?_
 refine sh fol (kR a [(1,.func (.func 114) [] [.fptr [.i b,vl qa c,vl qb d] 0])]) ?_
 obtain⟨f,e,h⟩:=bnd h
 refine sq (gr fol [2] [(4,.bool (decide (f>=0)))] (ac (hs (.call 170 [vl qa a,.func (.func 114) [] [.fptr [.i b,vl qa c,vl qb d] 0]] [] [] [vl qa a,.func (.func 114) [] [.fptr [.i b,vl qa c,vl qb d] 0]] (.i f)) (qa9 (FzL.cons (Ud (qz qa _ (nl rfl))) (FzL.cons (Fz.func FzL.nil (FzL.cons (Ud (Still.fptr (AllST.cons tI (AllST.cons (qz qa _ (nl rfl)) (AllST.cons (qz qb _ (nl rfl)) AllST.nil))))) FzL.nil)) FzL.nil)) (xh N a b c d e) tI)) az) ?_)
 refine Goes.ret ?_
 obtain rfl:=si h
 exact(gw2 [.bool (decide (f>=0))] (Ua tB))
def ku (N:Nat) (a:StateT):Option Int:=
 (jv a.Day 0 99999).bind fun c=>
 (vB N a.Lots 64).bind fun d=>
 (zS N ([c,d]:List Int)).bind fun b=>
 if(!decide (b=0))=true then
 some b
 else
 (j4 N a.Holds 256 a.Day a.Lots a.Holds).bind fun e=>
 (ko N a.Lots a.Day a.Lots a.Holds).bind fun f=>
 (zl f 32).bind fun g=>
 (zS N ([e,g]:List Int)).bind fun h=>
 some h
theorem xm (N:Nat) (a:StateT) {res:Int} (h:ku N a=some res):qd ZT (.fn 43) [.agg [.i a.Day,vl qa a.Lots,vl qb a.Holds]] [] (.i res) []:=by
 unfold ku at h
 refine Ub Tryz.func43 rfl rfl (m:=28) rfl (rs:=[.tmp 2]) rfl (l:=(kL a.Day a.Lots a.Holds [])) rfl ?_
 refine sg fol (kS []) (kA a.Day a.Lots a.Holds []) ?_
 refine sq ?_
 obtain⟨c,f,h⟩:=bnd h
 obtain⟨b,g,h⟩:=bnd h
 obtain⟨d,j,h⟩:=bnd h
 refine sq (gq fol [2,5,7] (kS [(3,.i d)]) (kA a.Day a.Lots a.Holds (kX c b)) (ac (cv (je a.Day 0 99999 f)) (ac (hs (.call 107 [vl qa a.Lots,.i 64,.func (.func 108) [] []] [] [] [vl qa a.Lots,.i 64,.func (.func 108) [] []] (.i b)) (qa9 (FzL.cons (Ud (qz qa _ (nl rfl))) (FzL.cons (Ud tI) (FzL.cons (Fz.func FzL.nil FzL.nil) FzL.nil))) (qaW N a.Lots 64 g) tI)) (ac (hs (.call 47 [.slice 1 0 2 2 1] (kA a.Day a.Lots a.Holds (kX c b)) [1] [vl encI ([c,b]:List Int)] (.i d)) (j3 (FzL.cons (Fz.lit rfl rfl (Ue (AllST.cons tI (AllST.cons tI AllST.nil)))) FzL.nil) (zY N ([c,b]:List Int) j) tI rfl)) az))) ?_)
 refine sh fol (kS [(3,.i d),(14,.bool (!decide (d=0)))]) ?_
 refine ihB h (fun t h=>?_) (fun t h=>?_)
 ·refine sh fol [(2,.i d)] ?_
  refine Goes.ret ?_
  obtain rfl:=si h
  exact(gw2 [.i d] (Ua tI))
 refine Goes.skip ?_
 obtain⟨e,k,h⟩:=bnd h
 refine sq (gr fol [3] (kS [(4,.i e)]) (ac (hs (.call 109 [vl qb a.Holds,.i 256,.func (.func 110) [] [.ptr 0 0]] (kA a.Day a.Lots a.Holds (kX c b)) [0] [vl qb a.Holds,.i 256,.func (.func 110) [] [.fptr [.i a.Day,vl qa a.Lots,vl qb a.Holds] 0]] (.i e)) (j3 (FzL.cons (Ud (qz qb _ (nl rfl))) (FzL.cons (Ud tI) (FzL.cons (Fz.func FzL.nil (FzL.cons (Fz.ptr rfl rfl (FzL.cons (Ud tI) (FzL.cons (Ud (qz qa _ (nl rfl))) (FzL.cons (Ud (qz qb _ (nl rfl))) FzL.nil)))) FzL.nil)) FzL.nil))) (qaH N a.Holds 256 a.Day a.Lots a.Holds k) tI rfl)) az) ?_)
 obtain⟨s,n,h⟩:=bnd h
 obtain⟨q,o,h⟩:=bnd h
 obtain⟨r,p,h⟩:=bnd h
 refine sq (gq fol [4,5,7] [(2,.i r)] (kA a.Day a.Lots a.Holds (.cells [.i c,.i b]::(kX e q))) (ac (hs (.call 111 [vl qa a.Lots,.func (.func 114) [] [.ptr 0 0]] (kA a.Day a.Lots a.Holds (kX c b)) [0] [vl qa a.Lots,.func (.func 114) [] [.fptr [.i a.Day,vl qa a.Lots,vl qb a.Holds] 0]] (.bool s)) (j3 (FzL.cons (Ud (qz qa _ (nl rfl))) (FzL.cons (Fz.func FzL.nil (FzL.cons (Fz.ptr rfl rfl (FzL.cons (Ud tI) (FzL.cons (Ud (qz qa _ (nl rfl))) (FzL.cons (Ud (qz qb _ (nl rfl))) FzL.nil)))) FzL.nil)) FzL.nil)) (yz N a.Lots a.Day a.Lots a.Holds n) tB rfl)) (ac (cv (qI s 32 o)) (ac (hs (.call 47 [.slice 2 0 2 2 1] (kA a.Day a.Lots a.Holds (.cells [.i c,.i b]::(kX e q))) [2] [vl encI ([e,q]:List Int)] (.i r)) (j3 (FzL.cons (Fz.lit rfl rfl (Ue (AllST.cons tI (AllST.cons tI AllST.nil)))) FzL.nil) (zY N ([e,q]:List Int) p) tI rfl)) az))) ?_)
 refine Goes.ret ?_
 obtain rfl:=si h
 exact(gw2 [.i r] (Ua tI))
def zL (l:qj) (name:Str):Option Int:=
 (qeY l.Name name).bind fun a=>
 some a
theorem yA (l:qj) (name:Str) {res:Int} (h:zL l name=some res):qd ZT (.fn 116) (kAR l.Name l.Yarn l.Dye l.Stock [.str name]) [] (.i res) []:=by
 unfold zL at h
 refine Ub Tryz.func116 rfl rfl (m:=9) rfl (rs:=[.tmp 4]) rfl (l:=((0,.agg [.str l.Name,.str l.Yarn,.str l.Dye,.i l.Stock])::(kAQ name []))) rfl ?_
 refine sg fol (kAQ name (kM [])) (kK l.Name l.Yarn l.Dye l.Stock []) ?_
 obtain⟨b,a,h⟩:=bnd h
 refine sq (gr fol [3] [(4,.i b)] (ac (cv (qdQ l.Name name a)) az) ?_)
 refine Goes.ret ?_
 obtain rfl:=si h
 exact(gw2 [.i b] (Ua tI))
def qg (b:List qj) (c:Str):Nat->Int->Int->Option Int
 |0,_,_=>none
 |K+1,d,a=>
  if a<d then
  (((idx b (w64 (qeI .u64 (IntKind.wrap .u64 (w64 (a+d))) 1))).bind fun f=>
  (zL f c).bind fun e=>
  if e<0 then
  some (w64 ((w64 (qeI .u64 (IntKind.wrap .u64 (w64 (a+d))) 1))+1),d)
  else
  some (a,w64 (qeI .u64 (IntKind.wrap .u64 (w64 (a+d))) 1)):Option (Int×Int))).bind fun(g,h)=>
  qg b c K h g
  else
  some a
def qM (N:Nat) (a:List qj) (b:Str):Option (Int×Bool):=
 (qg a b N (a.length:Int) 0).bind fun c=>
 (if c<(a.length:Int)then
 (idx a c).bind fun d=>
 (zL d b).bind fun e=>
 some (decide (e=0))
 else
 some false:Option Bool).bind fun f=>
 some (c,f)
theorem vF (N:Nat) (a:List qj) (c:Str) {res:Int×Bool} (h:qM N a c=some res):qd ZT (.fn 115) [vl qa a,.str c,.func (.func 116) [] []] [] (.tuple [.i res.1,.bool res.2]) []:=by
 unfold qM at h
 refine Ub Tryz.func115 rfl rfl (m:=49) rfl (rs:=[.tmp 6,.tmp 7]) rfl (l:=(kR a (kAQ c [(2,.func (.func 116) [] [])]))) rfl ?_
 refine sh fol (kR a (kAQ c [(2,.func (.func 116) [] [])])) ?_
 refine sh fol (kR a (kAQ c [(2,.func (.func 116) [] []),(8,.i (a.length:Int))])) ?_
 refine sh fol (kR a (kAQ c [(2,.func (.func 116) [] []),(8,.i (a.length:Int)),(9,.i 0),(10,.i (a.length:Int))])) ?_
 refine sq (Goes.block ?_)
 obtain⟨y,g4,h⟩:=bnd h
 refine Goes.imp (Q:=fun x s'=>(x= .exit 0/\ ∃j,j=y/\Sub s' (ofG 49 (kR a (kAQ c [(2,.func (.func 116) [] []),(8,.i (a.length:Int)),(9,.i j)])),[]))) ?_ ?_
 ·refine Uc (fun M s=> ∃(d:Int) (e:Int),s=(ofG 49 (kR a (kAQ c ((2,.func (.func 116) [] [])::(kQ (a.length:Int) e d [])))),[])/\qg a c M d e=some y) ?_ (m:=N) ⟨_,_,rfl,g4⟩
  rintro M s ⟨d,e,rfl,g4⟩
  cases M with
  |zero=>simp only[qg]at g4;cases g4
  |succ M=>
   rw[qg]at g4
   refine sq ?_
   refine sh fol (kR a (kAQ c ((2,.func (.func 116) [] [])::(kQ (a.length:Int) e d [(17,.bool (decide (e<d)))])))) ?_
   refine ihD g4 (fun z g4=>?_) (fun z g4=>?_)
   ·refine Goes.skip ?_
    obtain⟨A,g8,g4⟩:=bnd g4
    refine Goes.imp (Q:=fun x s'=>(x= .normal/\ ∃q r,(q,r)=A/\Sub s' (ofG 49 (kR a (kAQ c ((2,.func (.func 116) [] [])::(kQ (a.length:Int) q r [])))),[]))) ?_ ?_
    ·refine Goes.block ?_
     refine sh fol (kR a (kAQ c ((2,.func (.func 116) [] [])::(kQ (a.length:Int) e d [(11,.i (w64 (qeI .u64 (IntKind.wrap .u64 (w64 (e+d))) 1)))])))) ?_
     obtain⟨B,g,g8⟩:=bnd g8
     obtain⟨t,k,g8⟩:=bnd g8
     refine sq (gr fol [3,4,6] (kR a (kAQ c ((2,.func (.func 116) [] [])::(kQ (a.length:Int) e d [(11,.i (w64 (qeI .u64 (IntKind.wrap .u64 (w64 (e+d))) 1))),(31,.bool (decide (t<0)))])))) (ac (iv qbY qa g) (ac (la qcV qa g) (ac (cv (yA B c k)) az))) ?_)
     refine ihD g8 (fun u g8=>?_) (fun u g8=>?_)
     ·refine gh fol (kR a (kAQ c ((2,.func (.func 116) [] [])::(kQ (a.length:Int) (w64 ((w64 (qeI .u64 (IntKind.wrap .u64 (w64 (e+d))) 1))+1)) d [])))) ?_
      obtain rfl:=si g8
      exact⟨rfl,_,_,rfl,(Sub.refl _)⟩
     refine gh fol (kR a (kAQ c ((2,.func (.func 116) [] [])::(kQ (a.length:Int) e (w64 (qeI .u64 (IntKind.wrap .u64 (w64 (e+d))) 1)) [])))) ?_
     obtain rfl:=si g8
     exact⟨rfl,_,_,rfl,(Sub.refl _)⟩
    rintro x s' ⟨rfl,q,r,rfl,hsub⟩
    try dsimp only at g4
    exact⟨M,(ofG 49 (kR a (kAQ c ((2,.func (.func 116) [] [])::(kQ (a.length:Int) q r [])))),[]),Nat.lt_succ_self _,(hsub.trans (Sub.refl _)),_,_,rfl,g4⟩
   refine Goes.exit ?_
   obtain rfl:=si g4
   exact⟨rfl,_,rfl,(Sub.keep [0,1,2,8,9] rfl rfl)⟩
 rintro x s' ⟨rfl,j,rfl,hsub⟩
 refine Goes.sub hsub ?_
 refine sq ?_
 obtain⟨p,b,h⟩:=bnd h
 refine Goes.cut (s':=(ofG 49 [(6,.i j),(7,.bool p)],[])) ?_ ?_
 ·rcases wyD b with⟨n,b⟩|⟨n,b⟩
  ·obtain⟨v,f,b⟩:=bnd b
   obtain⟨w,o,b⟩:=bnd b
   obtain rfl:=si b
   exact tr fol [4,8,9,11] [(6,.i j),(7,.bool (decide (w=0)))] (ac (gw n) (ac (iv qbY qa f) (ac (la qcV qa f) (ac (cv (yA v c o)) az))))
  obtain rfl:=si b
  exact tr fol [4] [(6,.i j),(7,.bool false)] (ac (gw n) az)
 refine Goes.ret ?_
 obtain rfl:=si h
 exact(gw2 [.i j,.bool p] (FzW.tuple (zA.cons (Ua tI) (zA.cons (Ua tB) zA.nil))))
def jK (N:Nat) (b:StateT) (name:Str):Option (Int×Bool):=
 (qM N b.Lots name).bind fun a=>
 some (a.1,a.2)
theorem qbv (N:Nat) (a:StateT) (name:Str) {res:Int×Bool} (h:jK N a name=some res):qd ZT (.fn 44) (kT a.Day a.Lots a.Holds [.str name]) [] (.tuple [.i res.1,.bool res.2]) []:=by
 unfold jK at h
 refine Ub Tryz.func44 rfl rfl (m:=12) rfl (rs:=[.tmp 4,.tmp 5]) rfl (l:=(kL a.Day a.Lots a.Holds (kAQ name []))) rfl ?_
 refine sg fol (kAQ name (kM [])) (kA a.Day a.Lots a.Holds []) ?_
 obtain⟨b,c,h⟩:=bnd h
 refine sq (gr fol [3] [(4,.i b.1),(5,.bool b.2)] (ac (hs (.call 115 [vl qa a.Lots,.str name,.func (.func 116) [] []] [] [] [vl qa a.Lots,.str name,.func (.func 116) [] []] (.tuple [.i b.1,.bool b.2])) (qa9 (FzL.cons (Ud (qz qa _ (nl rfl))) (FzL.cons (Ud tS) (FzL.cons (Fz.func FzL.nil FzL.nil) FzL.nil))) (vF N a.Lots name c) (Still.tuple (AllST.cons tI (AllST.cons tB AllST.nil))))) az) ?_)
 refine Goes.ret ?_
 obtain rfl:=si h
 exact(gw2 [.i b.1,.bool b.2] (FzW.tuple (zA.cons (Ua tI) (zA.cons (Ua tB) zA.nil))))
def xK (N:Nat) (a:StateT) (lot:Str):Option (Int×Int):=
 (ku N a).bind fun b=>
 if(!decide (b=0))=true then
 some (0,b)
 else
 (jK N a lot).bind fun c=>
 if(!c.2)=true then
 some (0,10)
 else
 (idx a.Lots c.1).bind fun d=>
 (kw N a d).bind fun e=>
 some (e,0)
theorem qdE (N:Nat) (a:StateT) (lot:Str) {res:Int×Int} (h:xK N a lot=some res):qd ZT (.fn 8) (kT a.Day a.Lots a.Holds [.str lot]) [] (.tuple [.i res.1,.i res.2]) []:=by
 unfold xK at h
 refine Ub Tryz.func8 rfl rfl (m:=29) rfl (rs:=[.tmp 4,.tmp 5]) rfl (l:=(kL a.Day a.Lots a.Holds (kAQ lot []))) rfl ?_
 refine sg fol (kAQ lot (kM [])) (kA a.Day a.Lots a.Holds []) ?_
 refine sq ?_
 obtain⟨c,d,h⟩:=bnd h
 refine sq (gr fol [1] (kAQ lot (kM [(6,.i c)])) (ac (cv (xm N a d)) az) ?_)
 refine sh fol (kAQ lot (kM [(6,.i c),(12,.bool (!decide (c=0)))])) ?_
 refine ihB h (fun k h=>?_) (fun k h=>?_)
 ·refine sh fol ((4,.i 0)::(kAb c)) ?_
  refine Goes.ret ?_
  obtain rfl:=si h
  exact(gw2 [.i 0,.i c] (FzW.tuple (zA.cons (Ua tI) (zA.cons (Ua tI) zA.nil))))
 refine Goes.skip ?_
 obtain⟨g,e,h⟩:=bnd h
 refine sq (gr fol [2] (kM [(7,.i g.1),(8,.bool g.2)]) (ac (cv (qbv N a lot e)) az) ?_)
 refine sq ?_
 refine sh fol (kM [(7,.i g.1),(21,.bool (!g.2))]) ?_
 refine ihB h (fun n h=>?_) (fun n h=>?_)
 ·refine sh fol [(4,.i 0),(5,.i 10)] ?_
  refine Goes.ret ?_
  obtain rfl:=si h
  exact(gw2 [.i 0,.i 10] (FzW.tuple (zA.cons (Ua tI) (zA.cons (Ua tI) zA.nil))))
 refine Goes.skip ?_
 obtain⟨o,b,h⟩:=bnd h
 obtain⟨j,f,h⟩:=bnd h
 refine sq (gr fol [4,5,6] [(4,.i j),(5,.i 0)] (ac (iv qbY qa b) (ac (la qcV qa b) (ac (cv (zy N a o f)) az))) ?_)
 refine Goes.ret ?_
 obtain rfl:=si h
 exact(gw2 [.i j,.i 0] (FzW.tuple (zA.cons (Ua tI) (zA.cons (Ua tI) zA.nil))))
def zI (N:Nat) (a:StateT) (yarn:Str) (dye:Str):Option Int:=
 (ku N a).bind fun b=>
 (vz N yarn).bind fun c=>
 (jZ N dye).bind fun d=>
 (zS N ([b,c,d]:List Int)).bind fun e=>
 some e
theorem xq (N:Nat) (a:StateT) (yarn:Str) (dye:Str) {res:Int} (h:zI N a yarn dye=some res):qd ZT (.fn 46) (kT a.Day a.Lots a.Holds [.str yarn,.str dye]) [] (.i res) []:=by
 unfold zI at h
 refine Ub Tryz.func46 rfl rfl (m:=15) rfl (rs:=[.tmp 6]) rfl (l:=(kL a.Day a.Lots a.Holds (kAQ yarn [(2,.str dye)]))) rfl ?_
 refine sg fol (kD yarn dye []) (kA a.Day a.Lots a.Holds []) ?_
 obtain⟨f,b,h⟩:=bnd h
 obtain⟨g,c,h⟩:=bnd h
 obtain⟨j,d,h⟩:=bnd h
 obtain⟨k,e,h⟩:=bnd h
 refine sq (gq fol [1,3,5,7] [(6,.i k)] (kA a.Day a.Lots a.Holds [.cells [.i f,.i g,.i j]]) (ac (cv (xm N a b)) (ac (cv (vJ N yarn c)) (ac (cv (xI N dye d)) (ac (hs (.call 47 [.slice 1 0 3 3 1] (kA a.Day a.Lots a.Holds [.cells [.i f,.i g,.i j]]) [1] [vl encI ([f,g,j]:List Int)] (.i k)) (j3 (FzL.cons (Fz.lit rfl rfl (Ue (AllST.cons tI (AllST.cons tI (AllST.cons tI AllST.nil))))) FzL.nil) (zY N ([f,g,j]:List Int) e) tI rfl)) az)))) ?_)
 refine Goes.ret ?_
 obtain rfl:=si h
 exact(gw2 [.i k] (Ua tI))
def jD (N:Nat) (b:StateT) (yarn:Str) (dye:Str):Nat->Int->Int->Int->Option (Int×Int)
 |0,_,_,_=>none
 |K+1,c,d,e=>
  if e<(b.Lots.length:Int)then
  (((idx b.Lots e).bind fun a=>
  (if(a.Yarn==yarn)=true then
  some (a.Dye==dye)
  else
  some false:Option Bool).bind fun f=>
  if f=true then
  (kw N b a).bind fun g=>
  some (w64 (c+a.Stock),w64 (d+g))
  else
  some (c,d):Option (Int×Int))).bind fun(h,i)=>
  jD N b yarn dye K h i (w64 (e+1))
  else
  some (c,d)
def yZ (N:Nat) (a:StateT) (yarn:Str) (dye:Str):Option (Int×Int×Int):=
 (zI N a yarn dye).bind fun b=>
 if(!decide (b=0))=true then
 some (0,0,b)
 else
 (jD N a yarn dye N 0 0 0).bind fun(c,d)=>
 some (c,d,0)
theorem qc9 (N:Nat) (a:StateT) (yarn:Str) (dye:Str) {res:Int×Int×Int} (h:yZ N a yarn dye=some res):qd ZT (.fn 9) (kT a.Day a.Lots a.Holds [.str yarn,.str dye]) [] (.tuple [.i res.1,.i res.2.1,.i res.2.2]) []:=by
 unfold yZ at h
 refine Ub Tryz.func9 rfl rfl (m:=50) rfl (rs:=[.tmp 6,.tmp 7,.tmp 8]) rfl (l:=(kL a.Day a.Lots a.Holds (kAQ yarn [(2,.str dye)]))) rfl ?_
 refine sg fol (kD yarn dye []) (kA a.Day a.Lots a.Holds []) ?_
 refine sq ?_
 obtain⟨p,q,h⟩:=bnd h
 refine sq (gr fol [3] (kD yarn dye [(9,.i p)]) (ac (cv (xq N a yarn dye q)) az) ?_)
 refine sh fol (kD yarn dye [(9,.i p),(19,.bool (!decide (p=0)))]) ?_
 refine ihB h (fun A h=>?_) (fun A h=>?_)
 ·refine sh fol [(6,.i 0),(7,.i 0),(8,.i p)] ?_
  refine Goes.ret ?_
  obtain rfl:=si h
  exact(gw2 [.i 0,.i 0,.i p] (FzW.tuple (zA.cons (Ua tI) (zA.cons (Ua tI) (zA.cons (Ua tI) zA.nil)))))
 refine Goes.skip ?_
 refine sh fol (kD yarn dye [(10,.i 0),(11,.i 0)]) ?_
 refine sq ?_
 refine sh fol (kD yarn dye [(10,.i 0),(11,.i 0),(22,vl qa a.Lots),(23,.i (a.Lots.length:Int)),(24,.i 0)]) ?_
 refine Goes.block ?_
 obtain⟨z,g8,h⟩:=bnd h
 refine Goes.imp (Q:=fun x s'=>(x= .exit 0/\ ∃r t,(r,t)=z/\Sub s' (ofG 50 (kW r t []),[]))) ?_ ?_
 ·refine Uc (fun M s=> ∃(j:Int) (k:Int) (d:Int),s=(ofG 50 (kD yarn dye (kW j k (kY a.Lots (a.Lots.length:Int) d []))),(kA a.Day a.Lots a.Holds []))/\jD N a yarn dye M j k d=some z) ?_ (m:=N) ⟨_,_,_,rfl,g8⟩
  rintro M s ⟨j,k,d,rfl,g8⟩
  cases M with
  |zero=>simp only[jD]at g8;cases g8
  |succ M=>
   rw[jD]at g8
   refine sh fol (kD yarn dye (kW j k (kY a.Lots (a.Lots.length:Int) d [(25,.bool (decide (d<(a.Lots.length:Int))))]))) ?_
   refine sq ?_
   refine ihD g8 (fun B g8=>?_) (fun B g8=>?_)
   ·refine Goes.skip ?_
    refine sq ?_
    obtain⟨u,g12,g8⟩:=bnd g8
    refine Goes.imp (Q:=fun x s'=>(x= .normal/\ ∃e f,(e,f)=u/\Sub s' (ofG 50 (kD yarn dye (kW e f (kY a.Lots (a.Lots.length:Int) d []))),(kA a.Day a.Lots a.Holds [])))) ?_ ?_
    ·refine Goes.block ?_
     obtain⟨b,g,g12⟩:=bnd g12
     refine sq (gq fol [0,1] (kD yarn dye (kW j k ((13,.ptr 1 0)::(kY a.Lots (a.Lots.length:Int) d [])))) (kA a.Day a.Lots a.Holds (kK b.Name b.Yarn b.Dye b.Stock [])) (ac (iv qbY qa g) (ac (la qcV qa g) az)) ?_)
     refine sq ?_
     obtain⟨v,c,g12⟩:=bnd g12
     refine Goes.cut (s':=(ofG 50 (kD yarn dye (kW j k ((13,.ptr 1 0)::(kY a.Lots (a.Lots.length:Int) d [(37,.bool v)])))),(kA a.Day a.Lots a.Holds (kK b.Name b.Yarn b.Dye b.Stock [])))) ?_ ?_
     ·rcases wyB c with⟨n,c⟩|⟨n,c⟩
      ·obtain rfl:=si c
       exact tr fol [4] (kD yarn dye (kW j k ((13,.ptr 1 0)::(kY a.Lots (a.Lots.length:Int) d [(37,.bool (b.Dye==dye))])))) (ac (gw n) az)
      obtain rfl:=si c
      exact tr fol [4] (kD yarn dye (kW j k ((13,.ptr 1 0)::(kY a.Lots (a.Lots.length:Int) d [(37,.bool false)])))) (ac (gw n) az)
     refine ihB g12 (fun w g12=>?_) (fun w g12=>?_)
     ·refine sh fol (kD yarn dye (kW (w64 (j+b.Stock)) k ((13,.ptr 1 0)::(kY a.Lots (a.Lots.length:Int) d [])))) ?_
      obtain⟨y,o,g12⟩:=bnd g12
      refine gr fol [3] (kD yarn dye (kW (w64 (j+b.Stock)) (w64 (k+y)) (kY a.Lots (a.Lots.length:Int) d []))) (ac (cv (zy N a b o)) az) ?_
      obtain rfl:=si g12
      exact⟨rfl,_,_,rfl,(Sub.norm [] [some 0] rfl rfl (.keep (.same nS) (.keep (.same nS) (.kp (.keep (.same nI) (.keep (.same nI) (.keep (.same (qf qa _)) (.keep (.same nI) (.keep (.same nI) .nil)))))))) (.kb rfl (.same sn) .nil))⟩
     refine Goes.skip ?_
     obtain rfl:=si g12
     exact⟨rfl,_,_,rfl,(Sub.norm [] [some 0] rfl rfl (.keep (.same nS) (.keep (.same nS) (.kp (.keep (.same nI) (.keep (.same nI) (.drop (.keep (.same (qf qa _)) (.keep (.same nI) (.keep (.same nI) .nil))))))))) (.kb rfl (.same sn) .nil))⟩
    rintro x s' ⟨rfl,e,f,rfl,hsub⟩
    try dsimp only at g8
    refine Goes.sub hsub ?_
    refine gh fol (kD yarn dye (kW e f (kY a.Lots (a.Lots.length:Int) (w64 (d+1)) []))) ?_
    exact⟨M,(ofG 50 (kD yarn dye (kW e f (kY a.Lots (a.Lots.length:Int) (w64 (d+1)) []))),(kA a.Day a.Lots a.Holds [])),Nat.lt_succ_self _,(Sub.refl _),_,_,_,rfl,g8⟩
   refine Goes.exit ?_
   obtain rfl:=si g8
   exact⟨rfl,_,_,rfl,(Sub.norm [] [] rfl rfl (.drop (.drop (.drop (.keep (.same nI) (.keep (.same nI) .nil))))) .nil)⟩
 rintro x s' ⟨rfl,r,t,rfl,hsub⟩
 try dsimp only at h
 refine Goes.sub hsub ?_
 refine sh fol [(6,.i r),(7,.i t),(8,.i 0)] ?_
 refine Goes.ret ?_
 obtain rfl:=si h
 exact(gw2 [.i r,.i t,.i 0] (FzW.tuple (zA.cons (Ua tI) (zA.cons (Ua tI) (zA.cons (Ua tI) zA.nil)))))
def jc:Option (List Int):=
 qfP (some []) ((app 8 ([]:List Int) ([]:List Int)).bind fun a=>
 some a)
theorem qan {res:List Int} (h:jc=some res):qd ZT (.fn 50) [vl encI ([]:List Int)] [] (vl encI res) []:=by
 unfold jc at h
 refine Ub Tryz.func50 rfl rfl (m:=8) rfl (rs:=[.tmp 2]) rfl (l:=[(0,vl encI ([]:List Int))]) rfl ?_
 refine sh fol [(0,vl encI ([]:List Int))] ?_
 refine sq ?_
 refine sh fol [(0,vl encI ([]:List Int)),(4,.anyb)] ?_
 refine Goes.condAny (by kernel_rfl) ?_ ?_
 ·replace h:=(qck h).1
  refine sh fol [(2,.nilslice)] ?_
  refine Goes.ret ?_
  obtain rfl:=si h
  exact(gw2 [.nilslice] (FzW.nilv (E:=encI)))
 replace h:=(qck h).2
 refine Goes.skip ?_
 obtain⟨a,b,h⟩:=bnd h
 refine sq (gq fol [2] [(2,.oslice 1 a.length 1)] (.dead::(kF a [])) (ac (hs (.run [0] (j5 ZT [40,40] (.slice 0 0 0 0 1) (vl encI ([]:List Int))) [.cells []] (.oslice 1 a.length 1) (.dead::(kF a [])) true) (xx qah (E:=encI) rfl (qiH (E:=encI) rfl _) (qiF (E:=encI) rfl rfl rfl b rfl))) az) ?_)
 refine Goes.ret ?_
 obtain rfl:=si h
 exact(gw2 [.oslice 1 a.length 1] (FzW.fz (Fz.os (E:=encI) rfl rfl (nl rfl))))
def jd (hd:Int) (tl:List Int):Option (List Int):=
 (app 8 ([]:List Int) (hd::tl)).bind fun a=>
 some a
theorem qao (hd:Int) (tl:List Int) {res:List Int} (h:jd hd tl=some res):qd ZT (.fn 50) [vl encI (hd::tl)] [] (vl encI res) []:=by
 unfold jd at h
 refine Ub Tryz.func50 rfl rfl (m:=8) rfl (rs:=[.tmp 2]) rfl (l:=[(0,vl encI (hd::tl))]) rfl ?_
 refine sh fol [(0,vl encI (hd::tl))] ?_
 refine sq ?_
 refine sh fol ((0,vl encI (hd::tl))::kAS) ?_
 refine Goes.ifB (b:=false) (by kernel_rfl) (fun c=>(by cases c)) (fun _=>?_)
 refine Goes.skip ?_
 obtain⟨a,d,h⟩:=bnd h
 refine sq (gq fol [2] [(2,.oslice 1 a.length 1)] (.dead::(kF a [])) (ac (hs (.run [0] (j5 ZT [40,40] (.slice 0 0 0 0 1) (vl encI (hd::tl))) [.cells []] (.oslice 1 a.length 1) (.dead::(kF a [])) true) (xx qah (E:=encI) rfl (qiH (E:=encI) rfl _) (qiF (E:=encI) rfl rfl rfl d rfl))) az) ?_)
 refine Goes.ret ?_
 obtain rfl:=si h
 exact(gw2 [.oslice 1 a.length 1] (FzW.fz (Fz.os (E:=encI) rfl rfl (nl rfl))))
def slices_Clone_int:(List Int)->Option (List Int)
 |[]=>jc
 |hd::tl=>jd hd tl
theorem qaU (l:List Int) {res:List Int} (h:slices_Clone_int l=some res):qd ZT (.fn 50) [vl encI l] [] (vl encI res) []:=by
 cases l with
 |nil=>exact qan h
 |cons hd tl=>exact qao hd tl h
def cmp_isNaN_int (a:Int):Option Bool:=
 some (!decide (a=a))
theorem xO (a:Int) {res:Bool} (h:cmp_isNaN_int a=some res):qd ZT (.fn 120) [.i a] [] (.bool res) []:=by
 unfold cmp_isNaN_int at h
 refine Ub Tryz.func120 rfl rfl (m:=6) rfl (rs:=[.tmp 2]) rfl (l:=[(0,.i a)]) rfl ?_
 refine sh fol [(0,.i a)] ?_
 refine sh fol [(2,.bool (!decide (a=a)))] ?_
 refine Goes.ret ?_
 obtain rfl:=si h
 exact(gw2 [.bool (!decide (a=a))] (Ua tB))
def cmp_Compare_int (a:Int) (y:Int):Option Int:=
 (cmp_isNaN_int a).bind fun c=>
 (cmp_isNaN_int y).bind fun b=>
 if c=true then
 if b=true then
 some 0
 else
 some (-1)
 else
 if b=true then
 some 1
 else
 if a<y then
 some (-1)
 else
 if a>y then
 some 1
 else
 some 0
theorem y7 (a:Int) (y:Int) {res:Int} (h:cmp_Compare_int a y=some res):qd ZT (.fn 52) [.i a,.i y] [] (.i res) []:=by
 unfold cmp_Compare_int at h
 refine Ub Tryz.func52 rfl rfl (m:=20) rfl (rs:=[.tmp 4]) rfl (l:=[(0,.i a),(1,.i y)]) rfl ?_
 refine sh fol [(0,.i a),(1,.i y)] ?_
 obtain⟨e,b,h⟩:=bnd h
 refine sq (gr fol [1] [(0,.i a),(1,.i y),(5,.bool e)] (ac (cv (xO a b)) az) ?_)
 obtain⟨d,c,h⟩:=bnd h
 refine sq (gr fol [1] [(0,.i a),(1,.i y),(5,.bool e),(6,.bool d)] (ac (cv (xO y c)) az) ?_)
 refine sq ?_
 refine sh fol [(0,.i a),(1,.i y),(6,.bool d),(11,.bool e)] ?_
 refine ihB h (fun f h=>?_) (fun f h=>?_)
 ·refine sq ?_
  refine sh fol [(12,.bool d)] ?_
  refine ihB h (fun g h=>?_) (fun g h=>?_)
  ·refine sh fol [(4,.i 0)] ?_
   refine Goes.ret ?_
   obtain rfl:=si h
   exact(gw2 [.i 0] (Ua tI))
  refine Goes.skip ?_
  refine sh fol [(4,.i (-1))] ?_
  refine Goes.ret ?_
  obtain rfl:=si h
  exact(gw2 [.i (-1)] (Ua tI))
 refine Goes.skip ?_
 refine sq ?_
 refine sh fol [(0,.i a),(1,.i y),(13,.bool d)] ?_
 refine ihB h (fun j h=>?_) (fun j h=>?_)
 ·refine sh fol [(4,.i 1)] ?_
  refine Goes.ret ?_
  obtain rfl:=si h
  exact(gw2 [.i 1] (Ua tI))
 refine Goes.skip ?_
 refine sq ?_
 refine sh fol [(0,.i a),(1,.i y),(16,.bool (decide (a<y)))] ?_
 refine ihD h (fun k h=>?_) (fun k h=>?_)
 ·refine sh fol [(4,.i (-1))] ?_
  refine Goes.ret ?_
  obtain rfl:=si h
  exact(gw2 [.i (-1)] (Ua tI))
 refine Goes.skip ?_
 refine sq ?_
 refine sh fol [(19,.bool (decide (a>y)))] ?_
 refine ihD h (fun n h=>?_) (fun n h=>?_)
 ·refine sh fol [(4,.i 1)] ?_
  refine Goes.ret ?_
  obtain rfl:=si h
  exact(gw2 [.i 1] (Ua tI))
 refine Goes.skip ?_
 refine sh fol [(4,.i 0)] ?_
 refine Goes.ret ?_
 obtain rfl:=si h
 exact(gw2 [.i 0] (Ua tI))
def qW (c:List Int) (d:List Int):Nat->Int->Option (((List Int)×(List Int))⊕Int)
 |0,_=>none
 |K+1,a=>
  if a<(c.length:Int)then
  (idx c a).bind fun e=>
  if a>=(d.length:Int)then
  some (.inr 1)
  else
  (idx d a).bind fun f=>
  (cmp_Compare_int e f).bind fun b=>
  if(!decide (b=0))=true then
  some (.inr b)
  else
  qW c d K (w64 (a+1))
  else
  some (.inl (c,d))
def jN (N:Nat) (b:List Int) (c:List Int):Option Int:=
 (qW b c N 0).bind (fun
 |(.inl (d,e))=>
 if(d.length:Int)<(e.length:Int)then
 some (-1)
 else
 some 0
 |(.inr a)=>
 some a)
theorem qam (N:Nat) (a:List Int) (b:List Int) {res:Int} (h:jN N a b=some res):qd ZT (.fn 53) [vl encI a,vl encI b] [] (.i res) []:=by
 unfold jN at h
 refine Ub Tryz.func53 rfl rfl (m:=36) rfl (rs:=[.tmp 4]) rfl (l:=(kJ a b [])) rfl ?_
 refine sh fol (kJ a b []) ?_
 refine sq ?_
 refine sh fol (kJ a b [(9,vl encI a),(10,.i (a.length:Int)),(11,.i 0)]) ?_
 refine Goes.block ?_
 obtain⟨o,g4,h⟩:=bnd h
 refine Goes.imp (Q:=fun x s'=>(x= .exit 0/\ ∃j k,(.inl (j,k))=o/\Sub s' (ofG 36 (kJ j k []),[]))\/(x= .ret/\ ∃r,(.inr r)=o/\zh ZT [.tmp 4] (.i r) .ret s')) ?_ ?_
 ·refine Uc (fun M s=> ∃(c:Int),s=(ofG 36 (kJ a b ((9,vl encI a)::(kW (a.length:Int) c []))),[])/\qW a b M c=some o) ?_ (m:=N) ⟨_,rfl,g4⟩
  rintro M s ⟨c,rfl,g4⟩
  cases M with
  |zero=>simp only[qW]at g4;cases g4
  |succ M=>
   rw[qW]at g4
   refine sh fol (kJ a b ((9,vl encI a)::(kW (a.length:Int) c [(12,.bool (decide (c<(a.length:Int))))]))) ?_
   refine sq ?_
   refine ihD g4 (fun u g4=>?_) (fun u g4=>?_)
   ·refine Goes.skip ?_
    refine sq (Goes.block ?_)
    obtain⟨n,e,g4⟩:=bnd g4
    refine sq (gr fol [1,2] (kJ a b ((5,.i c)::(6,.i n)::(9,vl encI a)::(kW (a.length:Int) c []))) (ac (iv qah encI e) (ac (lv 0 ce3 encI e rfl) az)) ?_)
    refine sq ?_
    refine sh fol (kJ a b ((5,.i c)::(6,.i n)::(9,vl encI a)::(kW (a.length:Int) c [(19,.bool (decide (c>=(b.length:Int))))]))) ?_
    refine ihD g4 (fun v g4=>?_) (fun v g4=>?_)
    ·refine sh fol [(4,.i 1)] ?_
     refine Goes.ret ?_
     obtain rfl:=si g4
     exact Or.inr (⟨rfl,_,rfl,(gw2 [.i 1] (Ua tI))⟩)
    refine Goes.skip ?_
    obtain⟨t,f,g4⟩:=bnd g4
    refine sq (gr fol [2,3] (kJ a b ((6,.i n)::(7,.i t)::(9,vl encI a)::(kW (a.length:Int) c []))) (ac (iv qah encI f) (ac (lv 0 ce3 encI f rfl) az)) ?_)
    obtain⟨d,g,g4⟩:=bnd g4
    refine sq (gr fol [2] (kJ a b ((8,.i d)::(9,vl encI a)::(kW (a.length:Int) c []))) (ac (cv (y7 n t g)) az) ?_)
    refine sh fol (kJ a b ((8,.i d)::(9,vl encI a)::(kW (a.length:Int) c [(28,.bool (!decide (d=0)))]))) ?_
    refine ihB g4 (fun p g4=>?_) (fun p g4=>?_)
    ·refine sh fol [(4,.i d)] ?_
     refine Goes.ret ?_
     obtain rfl:=si g4
     exact Or.inr (⟨rfl,_,rfl,(gw2 [.i d] (Ua tI))⟩)
    refine Goes.skip ?_
    refine gh fol (kJ a b ((9,vl encI a)::(kW (a.length:Int) (w64 (c+1)) []))) ?_
    exact⟨M,(ofG 36 (kJ a b ((9,vl encI a)::(kW (a.length:Int) (w64 (c+1)) []))),[]),Nat.lt_succ_self _,(Sub.refl _),_,rfl,g4⟩
   refine Goes.exit ?_
   obtain rfl:=si g4
   exact Or.inl (⟨rfl,_,_,rfl,(Sub.keep [0,1] rfl rfl)⟩)
 rintro x s' (⟨rfl,j,k,rfl,hsub⟩|⟨rfl,w,rfl,hret⟩)
 ·try dsimp only at h
  refine Goes.sub hsub ?_
  refine sq ?_
  refine sh fol [(35,.bool (decide ((j.length:Int)<(k.length:Int))))] ?_
  refine ihD h (fun q h=>?_) (fun q h=>?_)
  ·refine sh fol [(4,.i (-1))] ?_
   refine Goes.ret ?_
   obtain rfl:=si h
   exact(gw2 [.i (-1)] (Ua tI))
  refine Goes.skip ?_
  refine sh fol [(4,.i 0)] ?_
  refine Goes.ret ?_
  obtain rfl:=si h
  exact(gw2 [.i 0] (Ua tI))
 try dsimp only at h
 obtain rfl:=si h
 exact hret
def zZ (N:Nat) (b:StateT) (yarn:Str) (dye:Str):Nat->(List Int)->Int->Int->Option ((List Int)×Int)
 |0,_,_,_=>none
 |K+1,d,e,c=>
  if c<(b.Lots.length:Int)then
  (((idx b.Lots c).bind fun a=>
  (if(a.Yarn==yarn)=true then
  if(a.Dye==dye)=true then
  (kw N b a).bind fun f=>
  some (decide (f>0))
  else
  some false
  else
  some false:Option Bool).bind fun g=>
  if g=true then
  (app 8 d [c]).bind fun h=>
  (kw N b a).bind fun i=>
  some (h,w64 (e+i))
  else
  some (d,e):Option ((List Int)×Int))).bind fun(j,k)=>
  zZ N b yarn dye K j k (w64 (c+1))
  else
  some (d,e)
def jA (N:Nat) (f:StateT) (g:List Int) (d:Int):Nat->(List Int)->Int->Int->Option ((List Int)×Int)
 |0,_,_,_=>none
 |K+1,b,c,a=>
  if a<(g.length:Int)then
  (((idx g a).bind fun e=>
  (qgp .i64 d a).bind fun h=>
  if(andI .i64 h 1)=1 then
  (app 8 b [e]).bind fun i=>
  (idx f.Lots e).bind fun j=>
  (kw N f j).bind fun k=>
  some (i,w64 (c-k))
  else
  some (b,c):Option ((List Int)×Int))).bind fun(l,m)=>
  jA N f g d K l m (w64 (a+1))
  else
  some (b,c)
def jE (N:Nat) (j:StateT) (amount:Int) (k:List Int) (d:Int):Nat->(List Int)->Int->Option (List Int)
 |0,_,_=>none
 |K+1,a,b=>
  if b<d then
  (((jA N j k b N ([]:List Int) amount 0).bind fun(c,e)=>
  if e>0 then
  some a
  else
  (cmp_Compare_int (c.length:Int) (a.length:Int)).bind fun f=>
  (jN N c a).bind fun g=>
  (yj N ([f,g]:List Int)).bind fun h=>
  if h<0 then
  some c
  else
  some a:Option (List Int))).bind fun i=>
  jE N j amount k d K i (w64 (b+1))
  else
  some a
def yU (N:Nat) (c:StateT) (yarn:Str) (dye:Str) (amount:Int):Option ((List Int)×Int):=
 (zI N c yarn dye).bind fun j=>
 (jv amount 0 999999999).bind fun k=>
 (zS N ([j,k]:List Int)).bind fun i=>
 if(!decide (i=0))=true then
 some ([],i)
 else
 (zZ N c yarn dye N ([]:List Int) 0 0).bind fun(b,l)=>
 (zl (decide ((b.length:Int)>8)) 22).bind fun d=>
 (zl (decide (l<amount)) 32).bind fun e=>
 (zS N ([d,e]:List Int)).bind fun a=>
 if(!decide (a=0))=true then
 some ([],a)
 else
 (slices_Clone_int b).bind fun f=>
 (qgN .i64 1 (b.length:Int)).bind fun g=>
 (jE N c amount b g N f 0).bind fun h=>
 some (h,0)
theorem qcX (N:Nat) (a:StateT) (yarn:Str) (dye:Str) (amount:Int) {res:(List Int)×Int} (h:yU N a yarn dye amount=some res):qd ZT (.fn 10) (kT a.Day a.Lots a.Holds [.str yarn,.str dye,.i amount]) [] (.tuple [vl encI res.1,.i res.2]) []:=by
 unfold yU at h
 refine Ub Tryz.func10 rfl rfl (m:=131) rfl (rs:=[.tmp 8,.tmp 9]) rfl (l:=(kL a.Day a.Lots a.Holds (kAQ yarn [(2,.str dye),(3,.i amount)]))) rfl ?_
 refine sg fol (kG yarn dye amount []) (kA a.Day a.Lots a.Holds []) ?_
 refine Goes.scope ?_
 refine sq ?_
 obtain⟨r1,e_r1,h⟩:=bnd h
 obtain⟨r2,e_r2,h⟩:=bnd h
 obtain⟨r3,e_r3,h⟩:=bnd h
 refine sq (gq fol [3,5,7] (kG yarn dye amount [(10,.i r3)]) (kA a.Day a.Lots a.Holds (kX r1 r2)) (ac (cv (xq N a yarn dye e_r1)) (ac (cv (je amount 0 999999999 e_r2)) (ac (hs (.call 47 [.slice 1 0 2 2 1] (kA a.Day a.Lots a.Holds (kX r1 r2)) [1] [vl encI ([r1,r2]:List Int)] (.i r3)) (j3 (FzL.cons (Fz.lit rfl rfl (Ue (AllST.cons tI (AllST.cons tI AllST.nil)))) FzL.nil) (zY N ([r1,r2]:List Int) e_r3) tI rfl)) az))) ?_)
 refine sh fol (kG yarn dye amount [(10,.i r3),(31,.bool (!decide (r3=0)))]) ?_
 refine ihB h (fun c4 h=>?_) (fun c4 h=>?_)
 ·refine sh fol [(8,.nilslice),(9,.i r3)] ?_
  refine Goes.ret ?_
  obtain rfl:=si h
  exact(gw2 [.nilslice,.i r3] (FzW.tuple (zA.cons (FzW.nilv (E:=encI)) (zA.cons (Ua tI) zA.nil))))
 refine Goes.skip ?_
 refine sh fol (kG yarn dye amount [(11,.nilslice)]) ?_
 refine sh fol (kG yarn dye amount [(11,.nilslice),(12,.i 0)]) ?_
 refine sq ?_
 refine sh fol (kG yarn dye amount [(11,.nilslice),(12,.i 0),(34,vl qa a.Lots),(35,.i (a.Lots.length:Int)),(36,.i 0)]) ?_
 refine Goes.block ?_
 obtain⟨r10,g10,h⟩:=bnd h
 refine Goes.imp (Q:=fun x s'=>(x= .exit 0/\ ∃d n9,(d,n9)=r10/\Sub s' (ofG 131 (kAF amount (kAV d [(12,.i n9)])),(kA a.Day a.Lots a.Holds (kF d []))))) ?_ ?_
 ·refine Goes.sub (s':=(ofG 131 (kG yarn dye amount [(11,.gslice 1 ([]:List Int).length 1),(12,.i 0),(34,vl qa a.Lots),(35,.i (a.Lots.length:Int)),(36,.i 0)]),(kA a.Day a.Lots a.Holds kAO))) (Sub.norm [] [some 0,none] rfl rfl (.keep (.same nS) (.keep (.same nS) (.keep (.same nI) (.kp (.keep .nil (.keep (.same nI) (.keep (.same (qf qa _)) (.keep (.same nI) (.keep (.same nI) .nil))))))))) (.kb rfl (.same sn) (.fresh .nil))) ?_
  refine Uc (fun M s=> ∃(r:List Int) (A:Int) (p:Int),s=(ofG 131 (kG yarn dye amount (kAE r A a.Lots (a.Lots.length:Int) p [])),(kA a.Day a.Lots a.Holds (kF r [])))/\zZ N a yarn dye M r A p=some r10) ?_ (m:=N) ⟨_,_,_,rfl,g10⟩
  rintro M s ⟨r,A,p,rfl,g10⟩
  cases M with
  |zero=>simp only[zZ]at g10;cases g10
  |succ M=>
   rw[zZ]at g10
   refine sh fol (kG yarn dye amount (kAE r A a.Lots (a.Lots.length:Int) p [(37,.bool (decide (p<(a.Lots.length:Int))))])) ?_
   refine sq ?_
   refine ihD g10 (fun c11 g10=>?_) (fun c11 g10=>?_)
   ·refine Goes.skip ?_
    refine sq ?_
    obtain⟨r14,g14,g10⟩:=bnd g10
    refine Goes.imp (Q:=fun x s'=>(x= .normal/\ ∃t B,(t,B)=r14/\Sub s' (ofG 131 (kG yarn dye amount (kAE t B a.Lots (a.Lots.length:Int) p [])),(kA a.Day a.Lots a.Holds (kF t []))))) ?_ ?_
    ·refine Goes.block ?_
     obtain⟨j,C,g14⟩:=bnd g14
     refine sq (gq fol [1,2] (kG yarn dye amount (kV r A p a.Lots (a.Lots.length:Int) [])) (kA a.Day a.Lots a.Holds (kF r (kK j.Name j.Yarn j.Dye j.Stock []))) (ac (iv qbY qa C) (ac (la qcV qa C) az)) ?_)
     refine sq ?_
     obtain⟨b19,g,g14⟩:=bnd g14
     refine Goes.cut (s':=(ofG 131 (kG yarn dye amount (kV r A p a.Lots (a.Lots.length:Int) [(56,.bool b19)])),(kA a.Day a.Lots a.Holds (kF r (kK j.Name j.Yarn j.Dye j.Stock []))))) ?_ ?_
     ·rcases wyB g with⟨P,g⟩|⟨P,g⟩
      ·rcases wyB g with⟨X,g⟩|⟨X,g⟩
       ·obtain⟨r18,Y,g⟩:=bnd g
        obtain rfl:=si g
        exact tr fol [4,10,13] (kG yarn dye amount (kV r A p a.Lots (a.Lots.length:Int) [(56,.bool (decide (r18>0)))])) (ac (gw P) (ac (gw X) (ac (cv (zy N a j Y)) az)))
       obtain rfl:=si g
       exact tr fol [4,10] (kG yarn dye amount (kV r A p a.Lots (a.Lots.length:Int) [(56,.bool false)])) (ac (gw P) (ac (gw X) az))
      obtain rfl:=si g
      exact tr fol [4] (kG yarn dye amount (kV r A p a.Lots (a.Lots.length:Int) [(56,.bool false)])) (ac (gw P) az)
     refine ihB g14 (fun c21 g14=>?_) (fun c21 g14=>?_)
     ·obtain⟨D,Z,g14⟩:=bnd g14
      refine sq (gq fol [3] (kG yarn dye amount [(11,.gslice 4 D.length 1),(12,.i A),(14,.ptr 2 0),(34,vl qa a.Lots),(35,.i (a.Lots.length:Int)),(36,.i p)]) (kA a.Day a.Lots a.Holds (.dead::(kK j.Name j.Yarn j.Dye j.Stock (.cells [.i p]::(kF D []))))) (ac (hs (.run [1,3] (j5 ZT [40,40] (.gslice 1 r.length 1) (.slice 3 0 1 1 1)) (kA a.Day a.Lots a.Holds (kF r (kK j.Name j.Yarn j.Dye j.Stock [.cells [.i p]]))) (.gslice 4 D.length 1) (kA a.Day a.Lots a.Holds (.dead::(kK j.Name j.Yarn j.Dye j.Stock (.cells [.i p]::(kF D []))))) true) (xx qah (E:=encI) rfl (qdi (E:=encI) (ys:=[p]) rfl rfl rfl rfl) (qdr (E:=encI) (l:=r) rfl rfl rfl Z rfl))) az) ?_)
      obtain⟨r23,a0,g14⟩:=bnd g14
      refine gr fol [3] (kG yarn dye amount [(11,.gslice 4 D.length 1),(12,.i (w64 (A+r23))),(34,vl qa a.Lots),(35,.i (a.Lots.length:Int)),(36,.i p)]) (ac (cv (zy N a j a0)) az) ?_
      obtain rfl:=si g14
      exact⟨rfl,_,_,rfl,(Sub.norm [] [some 0,some 4] rfl rfl (.keep (.same nS) (.keep (.same nS) (.keep (.same nI) (.kp (.keep (.gslice rfl) (.keep (.same nI) (.keep (.same (qf qa _)) (.keep (.same nI) (.keep (.same nI) .nil))))))))) (.kb rfl (.same sn) (.ks .nil)))⟩
     refine Goes.skip ?_
     obtain rfl:=si g14
     exact⟨rfl,_,_,rfl,(Sub.norm [] [some 0,some 1] rfl rfl (.keep (.same nS) (.keep (.same nS) (.keep (.same nI) (.kp (.keep (.gslice rfl) (.keep (.same nI) (.drop (.drop (.keep (.same (qf qa _)) (.keep (.same nI) (.keep (.same nI) .nil))))))))))) (.kb rfl (.same sn) (.ks .nil)))⟩
    rintro x s' ⟨rfl,t,B,rfl,hsub⟩
    try dsimp only at g10
    refine Goes.sub hsub ?_
    refine gh fol (kG yarn dye amount (kAE t B a.Lots (a.Lots.length:Int) (w64 (p+1)) [])) ?_
    exact⟨M,(ofG 131 (kG yarn dye amount (kAE t B a.Lots (a.Lots.length:Int) (w64 (p+1)) [])),(kA a.Day a.Lots a.Holds (kF t []))),Nat.lt_succ_self _,(Sub.refl _),_,_,_,rfl,g10⟩
   refine Goes.exit ?_
   obtain rfl:=si g10
   exact⟨rfl,_,_,rfl,(Sub.keep [3,4,11,12] rfl rfl)⟩
 rintro x s' ⟨rfl,d,n9,rfl,hsub⟩
 try dsimp only at h
 refine Goes.sub hsub ?_
 refine sq ?_
 obtain⟨u,a1,h⟩:=bnd h
 obtain⟨v,a2,h⟩:=bnd h
 obtain⟨z,a3,h⟩:=bnd h
 refine sq (gq fol [3,7,9] (kAF amount (kAV d [(15,.i z)])) (kA a.Day a.Lots a.Holds (kF d (kX u v))) (ac (cv (qI (decide ((d.length:Int)>8)) 22 a1)) (ac (cv (qI (decide (n9<amount)) 32 a2)) (ac (hs (.call 47 [.slice 2 0 2 2 1] (kA a.Day a.Lots a.Holds (kF d (kX u v))) [2] [vl encI ([u,v]:List Int)] (.i z)) (j3 (FzL.cons (Fz.lit rfl rfl (Ue (AllST.cons tI (AllST.cons tI AllST.nil)))) FzL.nil) (zY N ([u,v]:List Int) a3) tI rfl)) az))) ?_)
 refine sh fol (kAF amount (kAV d [(15,.i z),(78,.bool (!decide (z=0)))])) ?_
 refine ihB h (fun c27 h=>?_) (fun c27 h=>?_)
 ·refine sh fol [(8,.nilslice),(9,.i z)] ?_
  refine Goes.ret ?_
  obtain rfl:=si h
  exact(gw2 [.nilslice,.i z] (FzW.tuple (zA.cons (FzW.nilv (E:=encI)) (zA.cons (Ua tI) zA.nil))))
 refine Goes.skip ?_
 obtain⟨F,a4,h⟩:=bnd h
 refine sq (gq fol [1] (kAF amount (kAV d [(16,vl encI F)])) (kA a.Day a.Lots a.Holds (.frozen (d.flatMap encI.c)::(kX u v))) (ac (hs (.callF 50 [.gslice 1 d.length 1] (kA a.Day a.Lots a.Holds (kF d (kX u v))) [1] [vl encI d] (vl encI F)) (qjj (FzL.cons (Fz.gs (E:=encI) rfl rfl (nl rfl)) FzL.nil) (qaU d a4) (qz encI _ (nl rfl)))) az) ?_)
 refine Goes.sub (show Sub (ofG 131 (kAF amount (kAV d [(16,vl encI F)])),(kA a.Day a.Lots a.Holds (.frozen (d.flatMap encI.c)::(kX u v)))) (ofG 131 (kE amount d F []),(kA a.Day a.Lots a.Holds []))from(Sub.norm [1] [some 0] rfl rfl (.keep (.same nI) (.kp (.keep (.frz (Fz.gsF (E:=encI) rfl rfl (nl rfl)) (qf encI _)) (.keep (.same (qf encI _)) .nil)))) (.kb rfl (.same sn) .nil))) ?_
 refine sq (Goes.label ?_)
 refine sq ?_
 obtain⟨e,a5,h⟩:=bnd h
 refine sq (gr fol [2] (kE amount d F [(84,.i e),(85,.i 0)]) (ac (hs (.done (.opt (qaV ZT .shl 3 (.const (.int .i64 1)) (.tmp 83) (.i 1) (.i (d.length:Int)))) (.i e)) (qfJ a5)) az) ?_)
 refine Goes.block ?_
 obtain⟨r33,g33,h⟩:=bnd h
 refine Goes.imp (Q:=fun x s'=>(x= .exit 2/\ ∃G,G=r33/\Sub s' (ofG 131 [(16,vl encI G)],[]))) ?_ ?_
 ·refine Uc (fun M s=> ∃(f:List Int) (b:Int),s=(ofG 131 (kE amount d f (kAT e b)),(kA a.Day a.Lots a.Holds []))/\jE N a amount d e M f b=some r33) ?_ (m:=N) ⟨_,_,rfl,g33⟩
  rintro M s ⟨f,b,rfl,g33⟩
  cases M with
  |zero=>simp only[jE]at g33;cases g33
  |succ M=>
   rw[jE]at g33
   refine sh fol (kE amount d f [(84,.i e),(85,.i b),(86,.bool (decide (b<e)))]) ?_
   refine sq ?_
   refine ihD g33 (fun c34 g33=>?_) (fun c34 g33=>?_)
   ·refine Goes.skip ?_
    refine sq ?_
    obtain⟨r36,g36,g33⟩:=bnd g33
    refine Goes.imp (Q:=fun x s'=>(x= .normal/\ ∃H,H=r36/\Sub s' (ofG 131 (kE amount d H (kAT e b)),(kA a.Day a.Lots a.Holds [])))) ?_ ?_
    ·refine Goes.block ?_
     refine sh fol (kE amount d f ((17,.i b)::(kAT e b))) ?_
     refine sh fol (kE amount d f ((17,.i b)::(18,.nilslice)::(kAT e b))) ?_
     refine sh fol (kE amount d f ((17,.i b)::(18,.nilslice)::(19,.i amount)::(kAT e b))) ?_
     refine sq ?_
     refine sh fol (kE amount d f ((17,.i b)::(18,.nilslice)::(19,.i amount)::(kU e b d (d.length:Int) [(91,.i 0)]))) ?_
     refine Goes.block ?_
     obtain⟨r42,g42,g36⟩:=bnd g36
     refine Goes.imp (Q:=fun x s'=>(x= .exit 4/\ ∃k U,(k,U)=r42/\Sub s' (ofG 131 (kE amount d f ((18,.gslice 1 k.length 1)::(19,.i U)::(kAT e b))),(kA a.Day a.Lots a.Holds (kF k []))))) ?_ ?_
     ·refine Goes.sub (s':=(ofG 131 (kE amount d f ((17,.i b)::(18,.gslice 1 ([]:List Int).length 1)::(19,.i amount)::(kU e b d (d.length:Int) [(91,.i 0)]))),(kA a.Day a.Lots a.Holds kAO))) (Sub.norm [] [some 0,none] rfl rfl (.keep (.same nI) (.kp (.keep (.same (qf encI _)) (.keep (.same (qf encI _)) (.keep (.same nI) (.keep .nil (.keep (.same nI) (.keep (.same nI) (.keep (.same nI) (.keep (.same (qf encI _)) (.keep (.same nI) (.keep (.same nI) .nil)))))))))))) (.kb rfl (.same sn) (.fresh .nil))) ?_
      refine Uc (fun M s=> ∃(o:List Int) (q:Int) (n:Int),s=(ofG 131 (kE amount d f (kAG b o q (kU e b d (d.length:Int) [(91,.i n)]))),(kA a.Day a.Lots a.Holds (kF o [])))/\jA N a d b M o q n=some r42) ?_ (m:=N) ⟨_,_,_,rfl,g42⟩
      rintro M s ⟨o,q,n,rfl,g42⟩
      cases M with
      |zero=>simp only[jA]at g42;cases g42
      |succ M=>
       rw[jA]at g42
       refine sh fol (kE amount d f (kAG b o q (kU e b d (d.length:Int) [(91,.i n),(92,.bool (decide (n<(d.length:Int))))]))) ?_
       refine sq ?_
       refine ihD g42 (fun c43 g42=>?_) (fun c43 g42=>?_)
       ·refine Goes.skip ?_
        refine sq ?_
        obtain⟨r46,g46,g42⟩:=bnd g42
        refine Goes.imp (Q:=fun x s'=>(x= .normal/\ ∃w I,(w,I)=r46/\Sub s' (ofG 131 (kE amount d f (kAG b w I (kU e b d (d.length:Int) [(91,.i n)]))),(kA a.Day a.Lots a.Holds (kF w []))))) ?_ ?_
        ·refine Goes.block ?_
         obtain⟨y,J,g46⟩:=bnd g46
         refine sq (gr fol [1,2] (kE amount d f (kAG b o q ((20,.i n)::(21,.i y)::(kU e b d (d.length:Int) [(91,.i n)])))) (ac (iv qah encI J) (ac (lv 0 ce3 encI J rfl) az)) ?_)
         obtain⟨q48,a6,g46⟩:=bnd g46
         refine sq (gr fol [2] (kE amount d f (kAG b o q ((21,.i y)::(kU e b d (d.length:Int) [(91,.i n),(100,.bool (decide ((andI .i64 q48 1)=1)))])))) (ac (hs (.done (.opt (qaV ZT .shr 3 (.tmp 96) (.tmp 97) (.i b) (.i n))) (.i q48)) (qfN a6)) az) ?_)
         refine ihD g46 (fun c49 g46=>?_) (fun c49 g46=>?_)
         ·obtain⟨K,a7,g46⟩:=bnd g46
          refine sq (gq fol [3] (kE amount d f ((17,.i b)::(18,.gslice 3 K.length 1)::(19,.i q)::(21,.i y)::(kU e b d (d.length:Int) [(91,.i n)]))) (kA a.Day a.Lots a.Holds (.dead:: .cells [.i y]::(kF K []))) (ac (hs (.run [1,2] (j5 ZT [40,40] (.gslice 1 o.length 1) (.slice 2 0 1 1 1)) (kA a.Day a.Lots a.Holds (kF o [.cells [.i y]])) (.gslice 3 K.length 1) (kA a.Day a.Lots a.Holds (.dead:: .cells [.i y]::(kF K []))) true) (xx qah (E:=encI) rfl (qdi (E:=encI) (ys:=[y]) rfl rfl rfl rfl) (qdr (E:=encI) (l:=o) rfl rfl rfl a7 rfl))) az) ?_)
          obtain⟨x51,L,g46⟩:=bnd g46
          obtain⟨r52,a8,g46⟩:=bnd g46
          refine gr fol [5,6,7] (kE amount d f ((17,.i b)::(18,.gslice 3 K.length 1)::(19,.i (w64 (q-r52)))::(kU e b d (d.length:Int) [(91,.i n)]))) (ac (iv qbY qa L) (ac (la qcV qa L) (ac (cv (zy N a x51 a8)) az))) ?_
          obtain rfl:=si g46
          exact⟨rfl,_,_,rfl,(Sub.norm [] [some 0,some 3] rfl rfl (.keep (.same nI) (.kp (.keep (.same (qf encI _)) (.keep (.same (qf encI _)) (.keep (.same nI) (.keep (.gslice rfl) (.keep (.same nI) (.keep (.same nI) (.keep (.same nI) (.keep (.same (qf encI _)) (.keep (.same nI) (.keep (.same nI) .nil)))))))))))) (.kb rfl (.same sn) (.ks .nil)))⟩
         refine Goes.skip ?_
         obtain rfl:=si g46
         exact⟨rfl,_,_,rfl,(Sub.keep [3,4,11,16,17,18,19,84,85,89,90,91] rfl rfl)⟩
        rintro x s' ⟨rfl,w,I,rfl,hsub⟩
        try dsimp only at g42
        refine Goes.sub hsub ?_
        refine gh fol (kE amount d f (kAG b w I (kU e b d (d.length:Int) [(91,.i (w64 (n+1)))]))) ?_
        exact⟨M,(ofG 131 (kE amount d f (kAG b w I (kU e b d (d.length:Int) [(91,.i (w64 (n+1)))]))),(kA a.Day a.Lots a.Holds (kF w []))),Nat.lt_succ_self _,(Sub.refl _),_,_,_,rfl,g42⟩
       refine Goes.exit ?_
       obtain rfl:=si g42
       exact⟨rfl,_,_,rfl,(Sub.keep [3,4,11,16,18,19,84,85] rfl rfl)⟩
     rintro x s' ⟨rfl,k,U,rfl,hsub⟩
     try dsimp only at g36
     refine Goes.sub hsub ?_
     refine sq ?_
     refine sh fol (kE amount d f [(18,.gslice 1 k.length 1),(84,.i e),(85,.i b),(116,.bool (decide (U>0)))]) ?_
     refine ihD g36 (fun c53 g36=>?_) (fun c53 g36=>?_)
     ·refine Goes.exit ?_
      obtain rfl:=si g36
      exact⟨rfl,_,rfl,(Sub.norm [] [some 0] rfl rfl (.keep (.same nI) (.kp (.keep (.same (qf encI _)) (.keep (.same (qf encI _)) (.drop (.keep (.same nI) (.keep (.same nI) .nil))))))) (.kb rfl (.same sn) .nil))⟩
     refine Goes.skip ?_
     obtain⟨V,a9,g36⟩:=bnd g36
     obtain⟨O,b0,g36⟩:=bnd g36
     obtain⟨r56,b1,g36⟩:=bnd g36
     refine sq (gq fol [4,7,9] (kE amount d f [(18,.gslice 1 k.length 1),(84,.i e),(85,.i b),(127,.bool (decide (r56<0)))]) (kA a.Day a.Lots a.Holds (kF k (kX V O))) (ac (cv (y7 (k.length:Int) (f.length:Int) a9)) (ac (hs (.call 53 [.gslice 1 k.length 1,vl encI f] (kA a.Day a.Lots a.Holds (kF k [])) [1] [vl encI k,vl encI f] (.i O)) (j3 (FzL.cons (Fz.gs (E:=encI) rfl rfl (nl rfl)) (FzL.cons (Ud (qz encI _ (nl rfl))) FzL.nil)) (qam N k f b0) tI rfl)) (ac (hs (.call 51 [.slice 2 0 2 2 1] (kA a.Day a.Lots a.Holds (kF k (kX V O))) [2] [vl encI ([V,O]:List Int)] (.i r56)) (j3 (FzL.cons (Fz.lit rfl rfl (Ue (AllST.cons tI (AllST.cons tI AllST.nil)))) FzL.nil) (qaX N ([V,O]:List Int) b1) tI rfl)) az))) ?_)
     refine ihD g36 (fun c57 g36=>?_) (fun c57 g36=>?_)
     ·refine gh fol (kAF amount ((11,vl encI d)::(16,.gslice 1 k.length 1)::(kAT e b))) ?_
      obtain rfl:=si g36
      exact⟨rfl,_,rfl,(Sub.norm [1] [some 0] rfl rfl (.keep (.same nI) (.kp (.keep (.same (qf encI _)) (.keep (.frz (Fz.gs (E:=encI) rfl rfl (nl rfl)) (qf encI _)) (.keep (.same nI) (.keep (.same nI) .nil)))))) (.kb rfl (.same sn) .nil))⟩
     refine Goes.skip ?_
     obtain rfl:=si g36
     exact⟨rfl,_,rfl,(Sub.norm [] [some 0] rfl rfl (.keep (.same nI) (.kp (.keep (.same (qf encI _)) (.keep (.same (qf encI _)) (.drop (.keep (.same nI) (.keep (.same nI) .nil))))))) (.kb rfl (.same sn) .nil))⟩
    rintro x s' ⟨rfl,H,rfl,hsub⟩
    refine Goes.sub hsub ?_
    refine gh fol (kE amount d H (kAT e (w64 (b+1)))) ?_
    exact⟨M,(ofG 131 (kE amount d H (kAT e (w64 (b+1)))),(kA a.Day a.Lots a.Holds [])),Nat.lt_succ_self _,(Sub.refl _),_,_,rfl,g33⟩
   refine Goes.exit ?_
   obtain rfl:=si g33
   exact⟨rfl,_,rfl,(Sub.norm [] [] rfl rfl (.drop (.drop (.drop (.keep (.same (qf encI _)) .nil)))) .nil)⟩
 rintro x s' ⟨rfl,G,rfl,hsub⟩
 refine Goes.sub hsub ?_
 refine sh fol [(8,vl encI G),(9,.i 0)] ?_
 refine Goes.ret ?_
 obtain rfl:=si h
 exact(gw2 [vl encI G,.i 0] (FzW.tuple (zA.cons (Ua (qz encI _ (nl rfl))) (zA.cons (Ua tI) zA.nil))))
def qF (b:qX) (name:Str):Nat->Int->Option (Unit⊕Int)
 |0,_=>none
 |K+1,a=>
  if a<(b.Lots.length:Int)then
  (idx b.Lots a).bind fun c=>
  if(c.Name==name)=true then
  some (.inr a)
  else
  qF b name K (w64 (a+1))
  else
  some (.inl ())
def qE (N:Nat) (a:qX) (name:Str):Option Int:=
 (qF a name N 0).bind (fun
 |(.inl ())=>
 some (-1)
 |(.inr b)=>
 some b)
theorem yH (N:Nat) (a:qX) (name:Str) {res:Int} (h:qE N a name=some res):qd ZT (.fn 15) (kT a.Day a.Lots a.Holds [.str name]) [] (.i res) []:=by
 unfold qE at h
 refine Ub Tryz.func15 rfl rfl (m:=22) rfl (rs:=[.tmp 4]) rfl (l:=(kL a.Day a.Lots a.Holds (kAQ name []))) rfl ?_
 refine sg fol (kAQ name (kM [])) (kA a.Day a.Lots a.Holds []) ?_
 refine sq ?_
 refine sh fol (kAQ name (kM [(5,.i 0)])) ?_
 refine Goes.block ?_
 obtain⟨d,g2,h⟩:=bnd h
 refine Goes.imp (Q:=fun x s'=>(x= .exit 0/\(.inl ())=d/\Sub s' (ofG 22 [],[]))\/(x= .ret/\ ∃e,(.inr e)=d/\zh ZT [.tmp 4] (.i e) .ret s')) ?_ ?_
 ·refine Uc (fun M s=> ∃(b:Int),s=(ofG 22 (kAQ name (kM (kAb b))),(kA a.Day a.Lots a.Holds []))/\qF a name M b=some d) ?_ (m:=N) ⟨_,rfl,g2⟩
  rintro M s ⟨b,rfl,g2⟩
  cases M with
  |zero=>simp only[qF]at g2;cases g2
  |succ M=>
   rw[qF]at g2
   refine sq ?_
   refine sh fol (kAQ name (kM [(5,.i b),(10,.bool (decide (b<(a.Lots.length:Int))))])) ?_
   refine ihD g2 (fun f g2=>?_) (fun f g2=>?_)
   ·refine Goes.skip ?_
    refine sq (Goes.block ?_)
    obtain⟨g,c,g2⟩:=bnd g2
    refine sq (gr fol [3,5] (kAQ name (kM [(5,.i b),(20,.bool (g.Name==name))])) (ac (iv xG qa c) (ac (lv 0 ce9 qa c rfl) az)) ?_)
    refine ihB g2 (fun j g2=>?_) (fun j g2=>?_)
    ·refine sh fol [(4,.i b)] ?_
     refine Goes.ret ?_
     obtain rfl:=si g2
     exact Or.inr (⟨rfl,_,rfl,(gw2 [.i b] (Ua tI))⟩)
    refine Goes.skip ?_
    refine gh fol (kAQ name (kM (kAb (w64 (b+1))))) ?_
    exact⟨M,(ofG 22 (kAQ name (kM (kAb (w64 (b+1))))),(kA a.Day a.Lots a.Holds [])),Nat.lt_succ_self _,(Sub.refl _),_,rfl,g2⟩
   refine Goes.exit ?_
   obtain rfl:=si g2
   exact Or.inl (⟨rfl,rfl,(Sub.norm [] [] rfl rfl .nil .nil)⟩)
 rintro x s' (⟨rfl,rfl,hsub⟩|⟨rfl,k,rfl,hret⟩)
 ·try dsimp only at h
  refine Goes.sub hsub ?_
  refine sh fol [(4,.i (-1))] ?_
  refine Goes.ret ?_
  obtain rfl:=si h
  exact(gw2 [.i (-1)] (Ua tI))
 try dsimp only at h
 obtain rfl:=si h
 exact hret
def za (a:qX) (i:Int):Nat->Int->Int->Option Int
 |0,_,_=>none
 |K+1,b,c=>
  if c<(a.Holds.length:Int)then
  (((idx a.Holds c).bind fun e=>
  (idx a.Lots i).bind fun d=>
  if(e.Lot==d.Name)=true then
  some (w64 (b-e.Reserved))
  else
  some b:Option Int)).bind fun f=>
  za a i K f (w64 (c+1))
  else
  some b
def qO (N:Nat) (a:qX) (i:Int):Option Int:=
 (idx a.Lots i).bind fun b=>
 (za a i N b.Stock 0).bind fun c=>
 some c
theorem zV (N:Nat) (a:qX) (i:Int) {res:Int} (h:qO N a i=some res):qd ZT (.fn 16) (kT a.Day a.Lots a.Holds [.i i]) [] (.i res) []:=by
 unfold qO at h
 refine Ub Tryz.func16 rfl rfl (m:=42) rfl (rs:=[.tmp 4]) rfl (l:=(kL a.Day a.Lots a.Holds [(1,.i i)])) rfl ?_
 refine sg fol ((1,.i i)::(kM [])) (kA a.Day a.Lots a.Holds []) ?_
 obtain⟨o,e,h⟩:=bnd h
 refine sq (gr fol [3,5] ((1,.i i)::(kM (kAb o.Stock))) (ac (iv xG qa e) (ac (lv 3 ce3 qa e rfl) az)) ?_)
 refine sq ?_
 refine sh fol ((1,.i i)::(kM [(5,.i o.Stock),(6,.i 0)])) ?_
 refine Goes.block ?_
 obtain⟨p,g5,h⟩:=bnd h
 refine Goes.imp (Q:=fun x s'=>(x= .exit 0/\ ∃g,g=p/\Sub s' (ofG 42 (kAb g),[]))) ?_ ?_
 ·refine Uc (fun M s=> ∃(f:Int) (d:Int),s=(ofG 42 ((1,.i i)::(kM [(5,.i f),(6,.i d)])),(kA a.Day a.Lots a.Holds []))/\za a i M f d=some p) ?_ (m:=N) ⟨_,_,rfl,g5⟩
  rintro M s ⟨f,d,rfl,g5⟩
  cases M with
  |zero=>simp only[za]at g5;cases g5
  |succ M=>
   rw[za]at g5
   refine sq ?_
   refine sh fol ((1,.i i)::(kM [(5,.i f),(6,.i d),(17,.bool (decide (d<(a.Holds.length:Int))))])) ?_
   refine ihD g5 (fun r g5=>?_) (fun r g5=>?_)
   ·refine Goes.skip ?_
    refine sq ?_
    obtain⟨t,g8,g5⟩:=bnd g5
    refine Goes.imp (Q:=fun x s'=>(x= .normal/\ ∃j,j=t/\Sub s' (ofG 42 ((1,.i i)::(kM [(5,.i j),(6,.i d)])),(kA a.Day a.Lots a.Holds [])))) ?_ ?_
    ·refine Goes.block ?_
     obtain⟨q,b,g8⟩:=bnd g8
     obtain⟨k,c,g8⟩:=bnd g8
     refine sq (gr fol [3,5,9,11] ((1,.i i)::(kM [(5,.i f),(6,.i d),(32,.bool (q.Lot==k.Name))])) (ac (iv qee qb b) (ac (lv 0 ce9 qb b rfl) (ac (iv xG qa c) (ac (lv 0 ce9 qa c rfl) az)))) ?_)
     refine ihB g8 (fun n g8=>?_) (fun n g8=>?_)
     ·refine gr fol [4,6] ((1,.i i)::(kM [(5,.i (w64 (f-q.Reserved))),(6,.i d)])) (ac (iv qee qb b) (ac (lv 2 ce3 qb b rfl) az)) ?_
      obtain rfl:=si g8
      exact⟨rfl,_,rfl,(Sub.refl _)⟩
     refine Goes.skip ?_
     obtain rfl:=si g8
     exact⟨rfl,_,rfl,(Sub.keep [1,2,5,6] rfl rfl)⟩
    rintro x s' ⟨rfl,j,rfl,hsub⟩
    refine Goes.sub hsub ?_
    refine gh fol ((1,.i i)::(kM [(5,.i j),(6,.i (w64 (d+1)))])) ?_
    exact⟨M,(ofG 42 ((1,.i i)::(kM [(5,.i j),(6,.i (w64 (d+1)))])),(kA a.Day a.Lots a.Holds [])),Nat.lt_succ_self _,(Sub.refl _),_,_,rfl,g5⟩
   refine Goes.exit ?_
   obtain rfl:=si g5
   exact⟨rfl,_,rfl,(Sub.norm [] [] rfl rfl (.drop (.drop (.keep (.same nI) .nil))) .nil)⟩
 rintro x s' ⟨rfl,g,rfl,hsub⟩
 refine Goes.sub hsub ?_
 refine sh fol [(4,.i g)] ?_
 refine Goes.ret ?_
 obtain rfl:=si h
 exact(gw2 [.i g] (Ua tI))
def vS (n:Int) (least:Int) (most:Int):Option Bool:=
 (if n<least then
 some true
 else
 some (decide (n>most)):Option Bool).bind fun a=>
 some a
theorem vZ (n:Int) (least:Int) (most:Int) {res:Bool} (h:vS n least most=some res):qd ZT (.fn 54) [.i n,.i least,.i most] [] (.bool res) []:=by
 unfold vS at h
 refine Ub Tryz.func54 rfl rfl (m:=15) rfl (rs:=[.tmp 6]) rfl (l:=[(0,.i n),(1,.i least),(2,.i most)]) rfl ?_
 refine sh fol [(0,.i n),(1,.i least),(2,.i most)] ?_
 refine sq ?_
 obtain⟨c,a,h⟩:=bnd h
 refine Goes.cut (s':=(ofG 15 [(6,.bool c)],[])) ?_ ?_
 ·rcases wyD a with⟨b,a⟩|⟨b,a⟩
  ·obtain rfl:=si a
   exact tr fol [3] [(6,.bool true)] (ac (gw b) az)
  obtain rfl:=si a
  exact tr fol [3] [(6,.bool (decide (n>most)))] (ac (gw b) az)
 refine Goes.ret ?_
 obtain rfl:=si h
 exact(gw2 [.bool c] (Ua tB))
def zR (c:Str):Nat->Int->Option (Unit⊕Bool)
 |0,_=>none
 |K+1,b=>
  if b<(c.length:Int)then
  (idx c b).bind fun a=>
  (if(a.toNat:Int)>=97 then
  if(a.toNat:Int)<=122 then
  some true
  else
  if(a.toNat:Int)>=65 then
  some (decide ((a.toNat:Int)<=90))
  else
  some false
  else
  if(a.toNat:Int)>=65 then
  some (decide ((a.toNat:Int)<=90))
  else
  some false:Option Bool).bind fun d=>
  (if(!d)=true then
  if b=0 then
  some true
  else
  if(a.toNat:Int)>=48 then
  if(a.toNat:Int)<=57 then
  some false
  else
  some (!(decide ((a.toNat:Int)=95)))
  else
  some (!(decide ((a.toNat:Int)=95)))
  else
  some false:Option Bool).bind fun e=>
  if e=true then
  some (.inr false)
  else
  zR c K (w64 (b+1))
  else
  some (.inl ())
def zX (N:Nat) (a:Str):Option Bool:=
 (if(a.length:Int)<1 then
 some true
 else
 some (decide ((a.length:Int)>24)):Option Bool).bind fun c=>
 if c=true then
 some false
 else
 (zR a N 0).bind (fun
 |(.inl ())=>
 some true
 |(.inr b)=>
 some b)
theorem zi (N:Nat) (c:Str) {res:Bool} (h:zX N c=some res):qd ZT (.fn 55) [.str c] [] (.bool res) []:=by
 unfold zX at h
 refine Ub Tryz.func55 rfl rfl (m:=56) rfl (rs:=[.tmp 2]) rfl (l:=[(0,.str c)]) rfl ?_
 refine sh fol [(0,.str c)] ?_
 refine sq ?_
 refine sq ?_
 obtain⟨B,e,h⟩:=bnd h
 refine Goes.cut (s':=(ofG 56 [(0,.str c),(13,.bool B)],[])) ?_ ?_
 ·rcases wyD e with⟨u,e⟩|⟨u,e⟩
  ·obtain rfl:=si e
   exact tr fol [3] [(0,.str c),(13,.bool true)] (ac (gw u) az)
  obtain rfl:=si e
  exact tr fol [3] [(0,.str c),(13,.bool (decide ((c.length:Int)>24)))] (ac (gw u) az)
 refine ihB h (fun C h=>?_) (fun C h=>?_)
 ·refine sh fol [(2,.bool false)] ?_
  refine Goes.ret ?_
  obtain rfl:=si h
  exact(gw2 [.bool false] (Ua tB))
 refine Goes.skip ?_
 refine sq ?_
 refine sh fol [(0,.str c),(3,.i 0)] ?_
 refine Goes.block ?_
 obtain⟨v,g6,h⟩:=bnd h
 refine Goes.imp (Q:=fun x s'=>(x= .exit 0/\(.inl ())=v/\Sub s' (ofG 56 [],[]))\/(x= .ret/\ ∃A,(.inr A)=v/\zh ZT [.tmp 2] (.bool A) .ret s')) ?_ ?_
 ·refine Uc (fun M s=> ∃(d:Int),s=(ofG 56 (kAK c d []),[])/\zR c M d=some v) ?_ (m:=N) ⟨_,rfl,g6⟩
  rintro M s ⟨d,rfl,g6⟩
  cases M with
  |zero=>simp only[zR]at g6;cases g6
  |succ M=>
   rw[zR]at g6
   refine sq ?_
   refine sh fol (kAK c d [(17,.bool (decide (d<(c.length:Int))))]) ?_
   refine ihD g6 (fun D g6=>?_) (fun D g6=>?_)
   ·refine Goes.skip ?_
    refine sq (Goes.block ?_)
    obtain⟨j,t,g6⟩:=bnd g6
    refine sq (gr fol [2] (kAK c d [(4,.int .u8 (j.toNat:Int))]) (ac (hs (.done (.opt (qbb ZT 9 (.str c) (.i d))) (.int .u8 (j.toNat:Int))) (qiW st9 t)) az) ?_)
    refine sq ?_
    obtain⟨w,a,g6⟩:=bnd g6
    refine Goes.cut (s':=(ofG 56 (kAK c d [(4,.int .u8 (j.toNat:Int)),(5,.bool w)]),[])) ?_ ?_
    ·rcases wyD a with⟨f,a⟩|⟨f,a⟩
     ·rcases wyD a with⟨n,a⟩|⟨n,a⟩
      ·obtain rfl:=si a
       exact tr fol [2,6] (kAK c d [(4,.int .u8 (j.toNat:Int)),(5,.bool true)]) (ac (gw f) (ac (gw n) az))
      rcases wyD a with⟨p,a⟩|⟨p,a⟩
      ·obtain rfl:=si a
       exact tr fol [2,6,9] (kAK c d [(4,.int .u8 (j.toNat:Int)),(5,.bool (decide ((j.toNat:Int)<=90)))]) (ac (gw f) (ac (gw n) (ac (gw p) az)))
      obtain rfl:=si a
      exact tr fol [2,6,9] (kAK c d [(4,.int .u8 (j.toNat:Int)),(5,.bool false)]) (ac (gw f) (ac (gw n) (ac (gw p) az)))
     rcases wyD a with⟨q,a⟩|⟨q,a⟩
     ·obtain rfl:=si a
      exact tr fol [2,9] (kAK c d [(4,.int .u8 (j.toNat:Int)),(5,.bool (decide ((j.toNat:Int)<=90)))]) (ac (gw f) (ac (gw q) az))
     obtain rfl:=si a
     exact tr fol [2,9] (kAK c d [(4,.int .u8 (j.toNat:Int)),(5,.bool false)]) (ac (gw f) (ac (gw q) az))
    refine sq ?_
    obtain⟨y,b,g6⟩:=bnd g6
    refine Goes.cut (s':=(ofG 56 (kAK c d [(55,.bool y)]),[])) ?_ ?_
    ·rcases wyB b with⟨g,b⟩|⟨g,b⟩
     ·rcases wyD b with⟨k,b⟩|⟨k,b⟩
      ·obtain rfl:=si b
       exact tr fol [2,5] (kAK c d [(55,.bool true)]) (ac (gw g) (ac (gw k) az))
      rcases wyD b with⟨o,b⟩|⟨o,b⟩
      ·rcases wyD b with⟨r,b⟩|⟨r,b⟩
       ·obtain rfl:=si b
        exact tr fol [2,5,8,12] (kAK c d [(55,.bool false)]) (ac (gw g) (ac (gw k) (ac (gw o) (ac (gw r) az))))
       obtain rfl:=si b
       exact tr fol [2,5,8,12] (kAK c d [(55,.bool (!(decide ((j.toNat:Int)=95))))]) (ac (gw g) (ac (gw k) (ac (gw o) (ac (gw r) az))))
      obtain rfl:=si b
      exact tr fol [2,5,8] (kAK c d [(55,.bool (!(decide ((j.toNat:Int)=95))))]) (ac (gw g) (ac (gw k) (ac (gw o) az)))
     obtain rfl:=si b
     exact tr fol [2] (kAK c d [(55,.bool false)]) (ac (gw g) az)
    refine ihB g6 (fun z g6=>?_) (fun z g6=>?_)
    ·refine sh fol [(2,.bool false)] ?_
     refine Goes.ret ?_
     obtain rfl:=si g6
     exact Or.inr (⟨rfl,_,rfl,(gw2 [.bool false] (Ua tB))⟩)
    refine Goes.skip ?_
    refine gh fol (kAK c (w64 (d+1)) []) ?_
    exact⟨M,(ofG 56 (kAK c (w64 (d+1)) []),[]),Nat.lt_succ_self _,(Sub.refl _),_,rfl,g6⟩
   refine Goes.exit ?_
   obtain rfl:=si g6
   exact Or.inl (⟨rfl,rfl,(Sub.keep [] rfl rfl)⟩)
 rintro x s' (⟨rfl,rfl,hsub⟩|⟨rfl,E,rfl,hret⟩)
 ·try dsimp only at h
  refine Goes.sub hsub ?_
  refine sh fol [(2,.bool true)] ?_
  refine Goes.ret ?_
  obtain rfl:=si h
  exact(gw2 [.bool true] (Ua tB))
 try dsimp only at h
 obtain rfl:=si h
 exact hret
def vU (N:Nat) (a:Str):Option Bool:=
 (if(a==[])=true then
 some true
 else
 (zX N a).bind fun b=>
 some b:Option Bool).bind fun c=>
 some c
theorem qaK (N:Nat) (b:Str) {res:Bool} (h:vU N b=some res):qd ZT (.fn 56) [.str b] [] (.bool res) []:=by
 unfold vU at h
 refine Ub Tryz.func56 rfl rfl (m:=9) rfl (rs:=[.tmp 2]) rfl (l:=[(0,.str b)]) rfl ?_
 refine sh fol [(0,.str b)] ?_
 refine sq ?_
 obtain⟨e,a,h⟩:=bnd h
 refine Goes.cut (s':=(ofG 9 [(2,.bool e)],[])) ?_ ?_
 ·rcases wyB a with⟨d,a⟩|⟨d,a⟩
  ·obtain rfl:=si a
   exact tr fol [2] [(2,.bool true)] (ac (gw d) az)
  obtain⟨f,c,a⟩:=bnd a
  obtain rfl:=si a
  exact tr fol [2,4] [(2,.bool f)] (ac (gw d) (ac (cv (zi N b c)) az))
 refine Goes.ret ?_
 obtain rfl:=si h
 exact(gw2 [.bool e] (Ua tB))
def vT (a:qh) (b:qh):Option Bool:=
 (if(!(ltL a.Lot b.Lot||a.Lot==b.Lot))=true then
 some true
 else
 if(a.Lot==b.Lot)=true then
 some (!(ltL a.Order b.Order||a.Order==b.Order))
 else
 some false:Option Bool).bind fun c=>
 some c
theorem qcL (a:qh) (b:qh) {res:Bool} (h:vT a b=some res):qd ZT (.fn 57) [.agg [.str a.Lot,.str a.Order,.i a.Reserved,.i a.Taken],.agg [.str b.Lot,.str b.Order,.i b.Reserved,.i b.Taken]] [] (.bool res) []:=by
 unfold vT at h
 refine Ub Tryz.func57 rfl rfl (m:=24) rfl (rs:=[.tmp 4]) rfl (l:=[(0,.agg [.str a.Lot,.str a.Order,.i a.Reserved,.i a.Taken]),(1,.agg [.str b.Lot,.str b.Order,.i b.Reserved,.i b.Taken])]) rfl ?_
 refine sg fol (kM [(3,.ptr 1 0)]) (kH a.Lot a.Order a.Reserved a.Taken (kH b.Lot b.Order b.Reserved b.Taken [])) ?_
 refine sq ?_
 obtain⟨f,c,h⟩:=bnd h
 refine Goes.cut (s':=(ofG 24 [(4,.bool f)],(kH a.Lot a.Order a.Reserved a.Taken (kH b.Lot b.Order b.Reserved b.Taken [])))) ?_ ?_
 ·rcases wyB c with⟨d,c⟩|⟨d,c⟩
  ·obtain rfl:=si c
   exact tr fol [5] [(4,.bool true)] (ac (gw d) az)
  rcases wyB c with⟨e,c⟩|⟨e,c⟩
  ·obtain rfl:=si c
   exact tr fol [5,11] [(4,.bool (!(ltL a.Order b.Order||a.Order==b.Order)))] (ac (gw d) (ac (gw e) az))
  obtain rfl:=si c
  exact tr fol [5,11] kAS (ac (gw d) (ac (gw e) az))
 refine Goes.ret ?_
 obtain rfl:=si h
 exact(gw2 [.bool f] (Ua tB))
end Go.Av
