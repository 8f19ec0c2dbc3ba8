/-
  Walks of functions: what each computes, as a plain function.
-/
import Derived.Test.YtcnioemfifogeaaGreatDoorQGenA1r2
noncomputable section
namespace Go.Av
open Go.Proofs Go.RowKit
set_option linter.unusedSectionVars false
set_option linter.unusedVariables false
set_option linter.unusedSimpArgs false
set_option maxRecDepth 100000
def qbf (a:qb) (b:StateT):Option Bool:=
 some (decide (a.Day>=b.Day))
theorem qeP (a:qb) (b:StateT) {res:Bool} (h:qbf a b=some res):qp ZT (.fn 115) [.fptr (kA a.Kind a.Day a.Lot a.Amount a.Yarn a.Dye a.Order) 0,.fptr (kH b.Day b.Lots b.Holds) 0] [] (.bool res) []:=by
 unfold qbf at h
 refine Uc Tryz.func115 rfl rfl (m:=8) rfl (rs:=[.tmp 2]) rfl (l:=[(0,.fptr (kA a.Kind a.Day a.Lot a.Amount a.Yarn a.Dye a.Order) 0),(1,.fptr (kH b.Day b.Lots b.Holds) 0)]) rfl ?_
 refine sh fol [(0,.fptr (kA a.Kind a.Day a.Lot a.Amount a.Yarn a.Dye a.Order) 0),(1,.fptr (kH b.Day b.Lots b.Holds) 0)] ?_
 refine sh fol (kAc (decide (a.Day>=b.Day))) ?_
 refine Goes.ret ?_
 obtain rfl:=si h
 exact(gw2 [.bool (decide (a.Day>=b.Day))] (Ub tB))
def jM (a:qb) (b:StateT):Option Bool:=
 (qbf a b).bind fun c=>
 some (!c)
theorem xw (a:qb) (b:StateT) {res:Bool} (h:jM a b=some res):qp ZT (.fn 177) [.func (.func 115) [] [.fptr (kA a.Kind a.Day a.Lot a.Amount a.Yarn a.Dye a.Order) 0,.fptr (kH b.Day b.Lots b.Holds) 0]] [] (.bool res) []:=by
 unfold jM at h
 refine Uc Tryz.func177 rfl rfl (m:=6) rfl (rs:=[.tmp 2]) rfl (l:=[(0,.func (.func 115) [] [.fptr (kA a.Kind a.Day a.Lot a.Amount a.Yarn a.Dye a.Order) 0,.fptr (kH b.Day b.Lots b.Holds) 0])]) rfl ?_
 refine sh fol [(0,.func (.func 115) [] [.fptr (kA a.Kind a.Day a.Lot a.Amount a.Yarn a.Dye a.Order) 0,.fptr (kH b.Day b.Lots b.Holds) 0])] ?_
 obtain⟨d,c,h⟩:=bnd h
 refine sq (gr fol [1] (kAc (!d)) (ac (hs (.call 115 [.fptr (kA a.Kind a.Day a.Lot a.Amount a.Yarn a.Dye a.Order) 0,.fptr (kH b.Day b.Lots b.Holds) 0] [] [] [.fptr (kA a.Kind a.Day a.Lot a.Amount a.Yarn a.Dye a.Order) 0,.fptr (kH b.Day b.Lots b.Holds) 0] (.bool d)) (zn (FzL.cons (Ua (Still.fptr (AllST.cons tS (AllST.cons tI (AllST.cons tS (AllST.cons tI (AllST.cons tS (AllST.cons tS (AllST.cons tS AllST.nil))))))))) (FzL.cons (Ua (Still.fptr (AllST.cons tI (AllST.cons (qw qo _ (nl rfl)) (AllST.cons (qw qg _ (nl rfl)) AllST.nil))))) FzL.nil)) (qeP a b c) tB)) az) ?_)
 refine Goes.ret ?_
 obtain rfl:=si h
 exact(gw2 [.bool (!d)] (Ub tB))
def qah (b:qb) (a:qa):Option Bool:=
 if(!(b.Kind==[114,101,99,101,105,118,101]))=true then
 some a.known
 else
 (if(!a.known)=true then
 some true
 else
 if(a.lot.Yarn==b.Yarn)=true then
 some (a.lot.Dye==b.Dye)
 else
 some false:Option Bool).bind fun c=>
 some c
theorem qeE (b:qb) (a:qa) {res:Bool} (h:qah b a=some res):qp ZT (.fn 116) [.fptr (kA b.Kind b.Day b.Lot b.Amount b.Yarn b.Dye b.Order) 0,.fptr (.str a.lot.Name::(kB a.lot.Yarn a.lot.Dye a.lot.Stock a.known a.hold.Lot a.hold.Order a.hold.Reserved a.hold.Taken a.free)) 0] [] (.bool res) []:=by
 unfold qah at h
 refine Uc Tryz.func116 rfl rfl (m:=27) rfl (rs:=[.tmp 2]) rfl (l:=[(0,.fptr (kA b.Kind b.Day b.Lot b.Amount b.Yarn b.Dye b.Order) 0),(1,.fptr (.str a.lot.Name::(kB a.lot.Yarn a.lot.Dye a.lot.Stock a.known a.hold.Lot a.hold.Order a.hold.Reserved a.hold.Taken a.free)) 0)]) rfl ?_
 refine sh fol [(0,.fptr (kA b.Kind b.Day b.Lot b.Amount b.Yarn b.Dye b.Order) 0),(1,.fptr (.str a.lot.Name::(kB a.lot.Yarn a.lot.Dye a.lot.Stock a.known a.hold.Lot a.hold.Order a.hold.Reserved a.hold.Taken a.free)) 0)] ?_
 refine sq ?_
 refine sh fol [(0,.fptr [.str b.Kind,.i b.Day,.str b.Lot,.i b.Amount,.str b.Yarn,.str b.Dye,.str b.Order] 0),(1,.fptr [.str a.lot.Name,.str a.lot.Yarn,.str a.lot.Dye,.i a.lot.Stock,.bool a.known,.str a.hold.Lot,.str a.hold.Order,.i a.hold.Reserved,.i a.hold.Taken,.i a.free] 0),(5,.bool (!(b.Kind==[114,101,99,101,105,118,101])))] ?_
 refine ihB h (fun g h=>?_) (fun g h=>?_)
 ·refine sh fol (kAc a.known) ?_
  refine Goes.ret ?_
  obtain rfl:=si h
  exact(gw2 [.bool a.known] (Ub tB))
 refine Goes.skip ?_
 refine sq ?_
 obtain⟨f,c,h⟩:=bnd h
 refine Goes.cut (s':=(ofG 27 (kAc f),[])) ?_ ?_
 ·rcases wyB c with⟨d,c⟩|⟨d,c⟩
  ·obtain rfl:=si c
   exact tr fol [3] [(2,.bool true)] (ac (gw d) az)
  rcases wyB c with⟨e,c⟩|⟨e,c⟩
  ·obtain rfl:=si c
   exact tr fol [3,10] (kAc (a.lot.Dye==b.Dye)) (ac (gw d) (ac (gw e) az))
  obtain rfl:=si c
  exact tr fol [3,10] kAh (ac (gw d) (ac (gw e) az))
 refine Goes.ret ?_
 obtain rfl:=si h
 exact(gw2 [.bool f] (Ub tB))
def zV (a:qb) (b:qa):Option Bool:=
 (qah a b).bind fun c=>
 some (!c)
theorem xG (b:qb) (a:qa) {res:Bool} (h:zV b a=some res):qp ZT (.fn 177) [.func (.func 116) [] [.fptr (kA b.Kind b.Day b.Lot b.Amount b.Yarn b.Dye b.Order) 0,.fptr (.str a.lot.Name::(kB a.lot.Yarn a.lot.Dye a.lot.Stock a.known a.hold.Lot a.hold.Order a.hold.Reserved a.hold.Taken a.free)) 0]] [] (.bool res) []:=by
 unfold zV at h
 refine Uc Tryz.func177 rfl rfl (m:=6) rfl (rs:=[.tmp 2]) rfl (l:=[(0,.func (.func 116) [] [.fptr (kA b.Kind b.Day b.Lot b.Amount b.Yarn b.Dye b.Order) 0,.fptr (.str a.lot.Name::(kB a.lot.Yarn a.lot.Dye a.lot.Stock a.known a.hold.Lot a.hold.Order a.hold.Reserved a.hold.Taken a.free)) 0])]) rfl ?_
 refine sh fol [(0,.func (.func 116) [] [.fptr (kA b.Kind b.Day b.Lot b.Amount b.Yarn b.Dye b.Order) 0,.fptr (.str a.lot.Name::(kB a.lot.Yarn a.lot.Dye a.lot.Stock a.known a.hold.Lot a.hold.Order a.hold.Reserved a.hold.Taken a.free)) 0])] ?_
 obtain⟨d,c,h⟩:=bnd h
 refine sq (gr fol [1] (kAc (!d)) (ac (hs (.call 116 [.fptr (kA b.Kind b.Day b.Lot b.Amount b.Yarn b.Dye b.Order) 0,.fptr (.str a.lot.Name::(kB a.lot.Yarn a.lot.Dye a.lot.Stock a.known a.hold.Lot a.hold.Order a.hold.Reserved a.hold.Taken a.free)) 0] [] [] [.fptr (kA b.Kind b.Day b.Lot b.Amount b.Yarn b.Dye b.Order) 0,.fptr (.str a.lot.Name::(kB a.lot.Yarn a.lot.Dye a.lot.Stock a.known a.hold.Lot a.hold.Order a.hold.Reserved a.hold.Taken a.free)) 0] (.bool d)) (zn (FzL.cons (Ua (Still.fptr (AllST.cons tS (AllST.cons tI (AllST.cons tS (AllST.cons tI (AllST.cons tS (AllST.cons tS (AllST.cons tS AllST.nil))))))))) (FzL.cons (Ua (Still.fptr (AllST.cons tS (AllST.cons tS (AllST.cons tS (AllST.cons tI (AllST.cons tB (AllST.cons tS (AllST.cons tS (AllST.cons tI (AllST.cons tI (AllST.cons tI AllST.nil)))))))))))) FzL.nil)) (qeE b a c) tB)) az) ?_)
 refine Goes.ret ?_
 obtain rfl:=si h
 exact(gw2 [.bool (!d)] (Ub tB))
def qbe (a:qa) (b:qb):Option Bool:=
 (qe7 a b.Amount).bind fun c=>
 some c
theorem qeV (a:qa) (b:qb) {res:Bool} (h:qbe a b=some res):qp ZT (.fn 117) [.fptr [.func (.func 132) [] [],.func (.func 133) [] []] 0,.fptr (.str a.lot.Name::(kB a.lot.Yarn a.lot.Dye a.lot.Stock a.known a.hold.Lot a.hold.Order a.hold.Reserved a.hold.Taken a.free)) 0,.fptr (kA b.Kind b.Day b.Lot b.Amount b.Yarn b.Dye b.Order) 0] [] (.bool res) []:=by
 unfold qbe at h
 refine Uc Tryz.func117 rfl rfl (m:=10) rfl (rs:=[.tmp 3]) rfl (l:=[(0,.fptr [.func (.func 132) [] [],.func (.func 133) [] []] 0),(1,.fptr (.str a.lot.Name::(kB a.lot.Yarn a.lot.Dye a.lot.Stock a.known a.hold.Lot a.hold.Order a.hold.Reserved a.hold.Taken a.free)) 0),(2,.fptr (kA b.Kind b.Day b.Lot b.Amount b.Yarn b.Dye b.Order) 0)]) rfl ?_
 refine sh fol [(0,.fptr [.func (.func 132) [] [],.func (.func 133) [] []] 0),(1,.fptr (.str a.lot.Name::(kB a.lot.Yarn a.lot.Dye a.lot.Stock a.known a.hold.Lot a.hold.Order a.hold.Reserved a.hold.Taken a.free)) 0),(2,.fptr (kA b.Kind b.Day b.Lot b.Amount b.Yarn b.Dye b.Order) 0)] ?_
 obtain⟨d,c,h⟩:=bnd h
 refine sq (gr fol [5] (kA7 d) (ac (cv (qi2 a b.Amount c)) az) ?_)
 refine Goes.ret ?_
 obtain rfl:=si h
 exact(gw2 [.bool d] (Ub tB))
def qcX (a:qa) (b:qb):Option Bool:=
 (qbe a b).bind fun c=>
 some (!c)
theorem qgj (a:qa) (b:qb) {res:Bool} (h:qcX a b=some res):qp ZT (.fn 177) [.func (.func 117) [] [.fptr [.func (.func 132) [] [],.func (.func 133) [] []] 0,.fptr (.str a.lot.Name::(kB a.lot.Yarn a.lot.Dye a.lot.Stock a.known a.hold.Lot a.hold.Order a.hold.Reserved a.hold.Taken a.free)) 0,.fptr (kA b.Kind b.Day b.Lot b.Amount b.Yarn b.Dye b.Order) 0]] [] (.bool res) []:=by
 unfold qcX at h
 refine Uc Tryz.func177 rfl rfl (m:=6) rfl (rs:=[.tmp 2]) rfl (l:=[(0,.func (.func 117) [] [.fptr [.func (.func 132) [] [],.func (.func 133) [] []] 0,.fptr (.str a.lot.Name::(kB a.lot.Yarn a.lot.Dye a.lot.Stock a.known a.hold.Lot a.hold.Order a.hold.Reserved a.hold.Taken a.free)) 0,.fptr (kA b.Kind b.Day b.Lot b.Amount b.Yarn b.Dye b.Order) 0])]) rfl ?_
 refine sh fol [(0,.func (.func 117) [] [.fptr [.func (.func 132) [] [],.func (.func 133) [] []] 0,.fptr (.str a.lot.Name::(kB a.lot.Yarn a.lot.Dye a.lot.Stock a.known a.hold.Lot a.hold.Order a.hold.Reserved a.hold.Taken a.free)) 0,.fptr (kA b.Kind b.Day b.Lot b.Amount b.Yarn b.Dye b.Order) 0])] ?_
 obtain⟨d,c,h⟩:=bnd h
 refine sq (gr fol [1] (kAc (!d)) (ac (hs (.call 117 [.fptr [.func (.func 132) [] [],.func (.func 133) [] []] 0,.fptr (.str a.lot.Name::(kB a.lot.Yarn a.lot.Dye a.lot.Stock a.known a.hold.Lot a.hold.Order a.hold.Reserved a.hold.Taken a.free)) 0,.fptr (kA b.Kind b.Day b.Lot b.Amount b.Yarn b.Dye b.Order) 0] [] [] [.fptr [.func (.func 132) [] [],.func (.func 133) [] []] 0,.fptr (.str a.lot.Name::(kB a.lot.Yarn a.lot.Dye a.lot.Stock a.known a.hold.Lot a.hold.Order a.hold.Reserved a.hold.Taken a.free)) 0,.fptr (kA b.Kind b.Day b.Lot b.Amount b.Yarn b.Dye b.Order) 0] (.bool d)) (zn (FzL.cons (Ua (Still.fptr (AllST.cons (Still.func AllST.nil AllST.nil) (AllST.cons (Still.func AllST.nil AllST.nil) AllST.nil)))) (FzL.cons (Ua (Still.fptr (AllST.cons tS (AllST.cons tS (AllST.cons tS (AllST.cons tI (AllST.cons tB (AllST.cons tS (AllST.cons tS (AllST.cons tI (AllST.cons tI (AllST.cons tI AllST.nil)))))))))))) (FzL.cons (Ua (Still.fptr (AllST.cons tS (AllST.cons tI (AllST.cons tS (AllST.cons tI (AllST.cons tS (AllST.cons tS (AllST.cons tS AllST.nil))))))))) FzL.nil))) (qeV a b c) tB)) az) ?_)
 refine Goes.ret ?_
 obtain rfl:=si h
 exact(gw2 [.bool (!d)] (Ub tB))
def qbc (b:qa) (c:qb):Option Bool:=
 (qce b c.Amount).bind fun a=>
 some (decide ((if a.hold.Taken>a.lot.Stock then a.hold.Taken else a.lot.Stock)<=999999999))
theorem qeL (a:qa) (b:qb) {res:Bool} (h:qbc a b=some res):qp ZT (.fn 118) [.fptr [.func (.func 132) [] [],.func (.func 133) [] []] 0,.fptr (.str a.lot.Name::(kB a.lot.Yarn a.lot.Dye a.lot.Stock a.known a.hold.Lot a.hold.Order a.hold.Reserved a.hold.Taken a.free)) 0,.fptr (kA b.Kind b.Day b.Lot b.Amount b.Yarn b.Dye b.Order) 0] [] (.bool res) []:=by
 unfold qbc at h
 refine Uc Tryz.func118 rfl rfl (m:=19) rfl (rs:=[.tmp 3]) rfl (l:=[(0,.fptr [.func (.func 132) [] [],.func (.func 133) [] []] 0),(1,.fptr (.str a.lot.Name::(kB a.lot.Yarn a.lot.Dye a.lot.Stock a.known a.hold.Lot a.hold.Order a.hold.Reserved a.hold.Taken a.free)) 0),(2,.fptr (kA b.Kind b.Day b.Lot b.Amount b.Yarn b.Dye b.Order) 0)]) rfl ?_
 refine sh fol [(0,.fptr [.func (.func 132) [] [],.func (.func 133) [] []] 0),(1,.fptr (.str a.lot.Name::(kB a.lot.Yarn a.lot.Dye a.lot.Stock a.known a.hold.Lot a.hold.Order a.hold.Reserved a.hold.Taken a.free)) 0),(2,.fptr (kA b.Kind b.Day b.Lot b.Amount b.Yarn b.Dye b.Order) 0)] ?_
 obtain⟨c,d,h⟩:=bnd h
 refine sq (gq fol [5] kA6 (kC c.lot.Name c.lot.Yarn c.lot.Dye c.lot.Stock c.known c.hold.Lot c.hold.Order c.hold.Reserved c.hold.Taken c.free []) (ac (cv (qfz a b.Amount d)) az) ?_)
 refine sh fol (kA7 (decide ((if c.hold.Taken>c.lot.Stock then c.hold.Taken else c.lot.Stock)<=999999999))) ?_
 refine Goes.ret ?_
 obtain rfl:=si h
 exact(gw2 [.bool (decide ((if c.hold.Taken>c.lot.Stock then c.hold.Taken else c.lot.Stock)<=999999999))] (Ub tB))
def qcR (a:qa) (b:qb):Option Bool:=
 (qbc a b).bind fun c=>
 some (!c)
theorem qgv (a:qa) (b:qb) {res:Bool} (h:qcR a b=some res):qp ZT (.fn 177) [.func (.func 118) [] [.fptr [.func (.func 132) [] [],.func (.func 133) [] []] 0,.fptr (.str a.lot.Name::(kB a.lot.Yarn a.lot.Dye a.lot.Stock a.known a.hold.Lot a.hold.Order a.hold.Reserved a.hold.Taken a.free)) 0,.fptr (kA b.Kind b.Day b.Lot b.Amount b.Yarn b.Dye b.Order) 0]] [] (.bool res) []:=by
 unfold qcR at h
 refine Uc Tryz.func177 rfl rfl (m:=6) rfl (rs:=[.tmp 2]) rfl (l:=[(0,.func (.func 118) [] [.fptr [.func (.func 132) [] [],.func (.func 133) [] []] 0,.fptr (.str a.lot.Name::(kB a.lot.Yarn a.lot.Dye a.lot.Stock a.known a.hold.Lot a.hold.Order a.hold.Reserved a.hold.Taken a.free)) 0,.fptr (kA b.Kind b.Day b.Lot b.Amount b.Yarn b.Dye b.Order) 0])]) rfl ?_
 refine sh fol [(0,.func (.func 118) [] [.fptr [.func (.func 132) [] [],.func (.func 133) [] []] 0,.fptr (.str a.lot.Name::(kB a.lot.Yarn a.lot.Dye a.lot.Stock a.known a.hold.Lot a.hold.Order a.hold.Reserved a.hold.Taken a.free)) 0,.fptr (kA b.Kind b.Day b.Lot b.Amount b.Yarn b.Dye b.Order) 0])] ?_
 obtain⟨d,c,h⟩:=bnd h
 refine sq (gr fol [1] (kAc (!d)) (ac (hs (.call 118 [.fptr [.func (.func 132) [] [],.func (.func 133) [] []] 0,.fptr (.str a.lot.Name::(kB a.lot.Yarn a.lot.Dye a.lot.Stock a.known a.hold.Lot a.hold.Order a.hold.Reserved a.hold.Taken a.free)) 0,.fptr (kA b.Kind b.Day b.Lot b.Amount b.Yarn b.Dye b.Order) 0] [] [] [.fptr [.func (.func 132) [] [],.func (.func 133) [] []] 0,.fptr (.str a.lot.Name::(kB a.lot.Yarn a.lot.Dye a.lot.Stock a.known a.hold.Lot a.hold.Order a.hold.Reserved a.hold.Taken a.free)) 0,.fptr (kA b.Kind b.Day b.Lot b.Amount b.Yarn b.Dye b.Order) 0] (.bool d)) (zn (FzL.cons (Ua (Still.fptr (AllST.cons (Still.func AllST.nil AllST.nil) (AllST.cons (Still.func AllST.nil AllST.nil) AllST.nil)))) (FzL.cons (Ua (Still.fptr (AllST.cons tS (AllST.cons tS (AllST.cons tS (AllST.cons tI (AllST.cons tB (AllST.cons tS (AllST.cons tS (AllST.cons tI (AllST.cons tI (AllST.cons tI AllST.nil)))))))))))) (FzL.cons (Ua (Still.fptr (AllST.cons tS (AllST.cons tI (AllST.cons tS (AllST.cons tI (AllST.cons tS (AllST.cons tS (AllST.cons tS AllST.nil))))))))) FzL.nil))) (qeL a b c) tB)) az) ?_)
 refine Goes.ret ?_
 obtain rfl:=si h
 exact(gw2 [.bool (!d)] (Ub tB))
def qaf (N:Nat) (a:StateT) (b:qb):Option Bool:=
 (yG N a b).bind fun c=>
 (if(c.Lots.length:Int)<=64 then
 some (decide ((c.Holds.length:Int)<=256))
 else
 some false:Option Bool).bind fun d=>
 some d
theorem qeJ (N:Nat) (b:StateT) (a:qb) {res:Bool} (h:qaf N b a=some res):qp ZT (.fn 119) [.fptr (kH b.Day b.Lots b.Holds) 0,.fptr (kA a.Kind a.Day a.Lot a.Amount a.Yarn a.Dye a.Order) 0] [] (.bool res) []:=by
 unfold qaf at h
 refine Uc Tryz.func119 rfl rfl (m:=17) rfl (rs:=[.tmp 2]) rfl (l:=[(0,.fptr (kH b.Day b.Lots b.Holds) 0),(1,.fptr (kA a.Kind a.Day a.Lot a.Amount a.Yarn a.Dye a.Order) 0)]) rfl ?_
 refine sh fol [(0,.fptr (kH b.Day b.Lots b.Holds) 0),(1,.fptr (kA a.Kind a.Day a.Lot a.Amount a.Yarn a.Dye a.Order) 0)] ?_
 obtain⟨d,e,h⟩:=bnd h
 refine sq (gq fol [2] [(3,.ptr 0 0)] (kD d.Day d.Lots d.Holds []) (ac (cv (qeu N b a e)) az) ?_)
 refine sq ?_
 obtain⟨g,c,h⟩:=bnd h
 refine Goes.cut (s':=(ofG 17 (kAc g),(kD d.Day d.Lots d.Holds []))) ?_ ?_
 ·rcases wyD c with⟨f,c⟩|⟨f,c⟩
  ·obtain rfl:=si c
   exact tr fol [4] (kAc (decide ((d.Holds.length:Int)<=256))) (ac (gw f) az)
  obtain rfl:=si c
  exact tr fol [4] kAh (ac (gw f) az)
 refine Goes.ret ?_
 obtain rfl:=si h
 exact(gw2 [.bool g] (Ub tB))
def jK (N:Nat) (a:StateT) (b:qb):Option Bool:=
 (qaf N a b).bind fun c=>
 some (!c)
theorem xE (N:Nat) (b:StateT) (a:qb) {res:Bool} (h:jK N b a=some res):qp ZT (.fn 177) [.func (.func 119) [] [.fptr (kH b.Day b.Lots b.Holds) 0,.fptr (kA a.Kind a.Day a.Lot a.Amount a.Yarn a.Dye a.Order) 0]] [] (.bool res) []:=by
 unfold jK at h
 refine Uc Tryz.func177 rfl rfl (m:=6) rfl (rs:=[.tmp 2]) rfl (l:=[(0,.func (.func 119) [] [.fptr (kH b.Day b.Lots b.Holds) 0,.fptr (kA a.Kind a.Day a.Lot a.Amount a.Yarn a.Dye a.Order) 0])]) rfl ?_
 refine sh fol [(0,.func (.func 119) [] [.fptr (kH b.Day b.Lots b.Holds) 0,.fptr (kA a.Kind a.Day a.Lot a.Amount a.Yarn a.Dye a.Order) 0])] ?_
 obtain⟨d,c,h⟩:=bnd h
 refine sq (gr fol [1] (kAc (!d)) (ac (hs (.call 119 [.fptr (kH b.Day b.Lots b.Holds) 0,.fptr (kA a.Kind a.Day a.Lot a.Amount a.Yarn a.Dye a.Order) 0] [] [] [.fptr (kH b.Day b.Lots b.Holds) 0,.fptr (kA a.Kind a.Day a.Lot a.Amount a.Yarn a.Dye a.Order) 0] (.bool d)) (zn (FzL.cons (Ua (Still.fptr (AllST.cons tI (AllST.cons (qw qo _ (nl rfl)) (AllST.cons (qw qg _ (nl rfl)) AllST.nil))))) (FzL.cons (Ua (Still.fptr (AllST.cons tS (AllST.cons tI (AllST.cons tS (AllST.cons tI (AllST.cons tS (AllST.cons tS (AllST.cons tS AllST.nil))))))))) FzL.nil)) (qeJ N b a c) tB)) az) ?_)
 refine Goes.ret ?_
 obtain rfl:=si h
 exact(gw2 [.bool (!d)] (Ub tB))
def zO (N:Nat) (a:qb) (d:StateT) (b:qa):Nat->Int->Option (Unit⊕Int)
 |0,_=>none
 |K+1,c=>
  if c<5 then
  (if c=0 then
  (jM a d).bind fun i=>
  some i
  else
  if c=1 then
  (zV a b).bind fun j=>
  some j
  else
  if c=2 then
  (qcX b a).bind fun e=>
  some e
  else
  if c=3 then
  (qcR b a).bind fun f=>
  some f
  else
  if c=4 then
  (jK N d a).bind fun g=>
  some g
  else
  none:Option Bool).bind fun h=>
  if h=true then
  some (.inr c)
  else
  zO N a d b K (w64 (c+1))
  else
  some (.inl ())
def xq (N:Nat) (a:qb) (b:StateT) (c:qa):Option Int:=
 (zO N a b c N 0).bind (fun
 |(.inl ())=>
 some (-1)
 |(.inr d)=>
 some d)
theorem qd8 (N:Nat) (a:qb) (c:StateT) (b:qa) {res:Int} (h:xq N a c b=some res):qp ZT (.fn 176) [.fslice 5 (qdO a c b),.func (.func 177) [] []] [] (.i res) []:=by
 unfold xq at h
 refine Uc Tryz.func176 rfl rfl (m:=19) rfl (rs:=[.tmp 4]) rfl (l:=[(0,.fslice 5 (qdO a c b)),(1,.func (.func 177) [] [])]) rfl ?_
 refine sh fol [(0,.fslice 5 (qdO a c b)),(1,.func (.func 177) [] [])] ?_
 refine sq ?_
 refine sh fol ((0,.fslice 5 (qdO a c b))::(1,.func (.func 177) [] [])::kA8) ?_
 refine Goes.block ?_
 obtain⟨u,g2,h⟩:=bnd h
 refine Goes.imp (Q:=fun x s'=>(x= .exit 0/\(.inl ())=u/\Sub s' (ofG 19 [],[]))\/(x= .ret/\ ∃y,(.inr y)=u/\jF ZT [.tmp 4] (.i y) .ret s')) ?_ ?_
 ·refine Ud (fun M s=> ∃(e:Int),s=(ofG 19 ((0,.fslice 5 (qdO a c b))::(1,.func (.func 177) [] [])::(kAM e)),[])/\zO N a c b M e=some u) ?_ (m:=N) ⟨_,rfl,g2⟩
  rintro M s ⟨e,rfl,g2⟩
  cases M with
  |zero=>simp only[zO]at g2;cases g2
  |succ M=>
   rw[zO]at g2
   refine sh fol ((0,.fslice 5 (qdO a c b))::(1,.func (.func 177) [] [])::(7,.i 5)::(kAr e (decide (e<5)))) ?_
   refine sq ?_
   refine ihD g2 (fun E g2=>?_) (fun E g2=>?_)
   ·refine Goes.skip ?_
    refine sq (Goes.block ?_)
    refine sh fol ((0,.fslice 5 (qdO a c b))::(1,.func (.func 177) [] [])::(5,.i e)::(kAM e)) ?_
    refine sq ?_
    obtain⟨v,d,g2⟩:=bnd g2
    refine Goes.cut (s':=(ofG 19 ((0,.fslice 5 (qdO a c b))::(1,.func (.func 177) [] [])::(kM e v)),[])) ?_ ?_
    ·rcases wyD d with⟨z,d⟩|⟨z,d⟩
     ·obtain⟨A,k,d⟩:=bnd d
      obtain rfl:=si d
      exact tr fol [3,5] ((0,.fslice 5 (qdO a c b))::(1,.func (.func 177) [] [])::(kM e A)) (ac (hs (.done (.opt (qH ZT 221 (.fslice 5 (qdO a c b)) (.i e))) (.fptr [.func (.func 115) [] [.fptr (kA a.Kind a.Day a.Lot a.Amount a.Yarn a.Dye a.Order) 0,.fptr (kH c.Day c.Lots c.Holds) 0],.func (.func 116) [] [.fptr (kA a.Kind a.Day a.Lot a.Amount a.Yarn a.Dye a.Order) 0,.fptr (.str b.lot.Name::(kB b.lot.Yarn b.lot.Dye b.lot.Stock b.known b.hold.Lot b.hold.Order b.hold.Reserved b.hold.Taken b.free)) 0],.func (.func 117) [] [.fptr [.func (.func 132) [] [],.func (.func 133) [] []] 0,.fptr (.str b.lot.Name::(kB b.lot.Yarn b.lot.Dye b.lot.Stock b.known b.hold.Lot b.hold.Order b.hold.Reserved b.hold.Taken b.free)) 0,.fptr (kA a.Kind a.Day a.Lot a.Amount a.Yarn a.Dye a.Order) 0],.func (.func 118) [] [.fptr [.func (.func 132) [] [],.func (.func 133) [] []] 0,.fptr (.str b.lot.Name::(kB b.lot.Yarn b.lot.Dye b.lot.Stock b.known b.hold.Lot b.hold.Order b.hold.Reserved b.hold.Taken b.free)) 0,.fptr (kA a.Kind a.Day a.Lot a.Amount a.Yarn a.Dye a.Order) 0],.func (.func 119) [] [.fptr (kH c.Day c.Lots c.Holds) 0,.fptr (kA a.Kind a.Day a.Lot a.Amount a.Yarn a.Dye a.Order) 0]] 0)) (ixA (ot z) (by kernel_rfl))) (ac (hs (.call 177 [.func (.func 115) [] [.fptr (kA a.Kind a.Day a.Lot a.Amount a.Yarn a.Dye a.Order) 0,.fptr (kH c.Day c.Lots c.Holds) 0]] [] [] [.func (.func 115) [] [.fptr (kA a.Kind a.Day a.Lot a.Amount a.Yarn a.Dye a.Order) 0,.fptr (kH c.Day c.Lots c.Holds) 0]] (.bool A)) (zn (FzL.cons (Fz.func FzL.nil (FzL.cons (Ua (Still.fptr (AllST.cons tS (AllST.cons tI (AllST.cons tS (AllST.cons tI (AllST.cons tS (AllST.cons tS (AllST.cons tS AllST.nil))))))))) (FzL.cons (Ua (Still.fptr (AllST.cons tI (AllST.cons (qw qo _ (nl rfl)) (AllST.cons (qw qg _ (nl rfl)) AllST.nil))))) FzL.nil))) FzL.nil) (xw a c k) tB)) az))
     rcases wyD d with⟨B,d⟩|⟨B,d⟩
     ·obtain⟨C,n,d⟩:=bnd d
      obtain rfl:=si d
      exact tr fol [3,5] ((0,.fslice 5 (qdO a c b))::(1,.func (.func 177) [] [])::(kM e C)) (ac (hs (.done (.opt (qH ZT 221 (.fslice 5 (qdO a c b)) (.i e))) (.fptr [.func (.func 115) [] [.fptr (kA a.Kind a.Day a.Lot a.Amount a.Yarn a.Dye a.Order) 0,.fptr (kH c.Day c.Lots c.Holds) 0],.func (.func 116) [] [.fptr (kA a.Kind a.Day a.Lot a.Amount a.Yarn a.Dye a.Order) 0,.fptr (.str b.lot.Name::(kB b.lot.Yarn b.lot.Dye b.lot.Stock b.known b.hold.Lot b.hold.Order b.hold.Reserved b.hold.Taken b.free)) 0],.func (.func 117) [] [.fptr [.func (.func 132) [] [],.func (.func 133) [] []] 0,.fptr (.str b.lot.Name::(kB b.lot.Yarn b.lot.Dye b.lot.Stock b.known b.hold.Lot b.hold.Order b.hold.Reserved b.hold.Taken b.free)) 0,.fptr (kA a.Kind a.Day a.Lot a.Amount a.Yarn a.Dye a.Order) 0],.func (.func 118) [] [.fptr [.func (.func 132) [] [],.func (.func 133) [] []] 0,.fptr (.str b.lot.Name::(kB b.lot.Yarn b.lot.Dye b.lot.Stock b.known b.hold.Lot b.hold.Order b.hold.Reserved b.hold.Taken b.free)) 0,.fptr (kA a.Kind a.Day a.Lot a.Amount a.Yarn a.Dye a.Order) 0],.func (.func 119) [] [.fptr (kH c.Day c.Lots c.Holds) 0,.fptr (kA a.Kind a.Day a.Lot a.Amount a.Yarn a.Dye a.Order) 0]] 1)) (ixA (ot B) (by kernel_rfl))) (ac (hs (.call 177 [.func (.func 116) [] [.fptr (kA a.Kind a.Day a.Lot a.Amount a.Yarn a.Dye a.Order) 0,.fptr (.str b.lot.Name::(kB b.lot.Yarn b.lot.Dye b.lot.Stock b.known b.hold.Lot b.hold.Order b.hold.Reserved b.hold.Taken b.free)) 0]] [] [] [.func (.func 116) [] [.fptr (kA a.Kind a.Day a.Lot a.Amount a.Yarn a.Dye a.Order) 0,.fptr (.str b.lot.Name::(kB b.lot.Yarn b.lot.Dye b.lot.Stock b.known b.hold.Lot b.hold.Order b.hold.Reserved b.hold.Taken b.free)) 0]] (.bool C)) (zn (FzL.cons (Fz.func FzL.nil (FzL.cons (Ua (Still.fptr (AllST.cons tS (AllST.cons tI (AllST.cons tS (AllST.cons tI (AllST.cons tS (AllST.cons tS (AllST.cons tS AllST.nil))))))))) (FzL.cons (Ua (Still.fptr (AllST.cons tS (AllST.cons tS (AllST.cons tS (AllST.cons tI (AllST.cons tB (AllST.cons tS (AllST.cons tS (AllST.cons tI (AllST.cons tI (AllST.cons tI AllST.nil)))))))))))) FzL.nil))) FzL.nil) (xG a b n) tB)) az))
     rcases wyD d with⟨D,d⟩|⟨D,d⟩
     ·obtain⟨o,f,d⟩:=bnd d
      obtain rfl:=si d
      exact tr fol [3,5] ((0,.fslice 5 (qdO a c b))::(1,.func (.func 177) [] [])::(kM e o)) (ac (hs (.done (.opt (qH ZT 221 (.fslice 5 (qdO a c b)) (.i e))) (.fptr [.func (.func 115) [] [.fptr (kA a.Kind a.Day a.Lot a.Amount a.Yarn a.Dye a.Order) 0,.fptr (kH c.Day c.Lots c.Holds) 0],.func (.func 116) [] [.fptr (kA a.Kind a.Day a.Lot a.Amount a.Yarn a.Dye a.Order) 0,.fptr (.str b.lot.Name::(kB b.lot.Yarn b.lot.Dye b.lot.Stock b.known b.hold.Lot b.hold.Order b.hold.Reserved b.hold.Taken b.free)) 0],.func (.func 117) [] [.fptr [.func (.func 132) [] [],.func (.func 133) [] []] 0,.fptr (.str b.lot.Name::(kB b.lot.Yarn b.lot.Dye b.lot.Stock b.known b.hold.Lot b.hold.Order b.hold.Reserved b.hold.Taken b.free)) 0,.fptr (kA a.Kind a.Day a.Lot a.Amount a.Yarn a.Dye a.Order) 0],.func (.func 118) [] [.fptr [.func (.func 132) [] [],.func (.func 133) [] []] 0,.fptr (.str b.lot.Name::(kB b.lot.Yarn b.lot.Dye b.lot.Stock b.known b.hold.Lot b.hold.Order b.hold.Reserved b.hold.Taken b.free)) 0,.fptr (kA a.Kind a.Day a.Lot a.Amount a.Yarn a.Dye a.Order) 0],.func (.func 119) [] [.fptr (kH c.Day c.Lots c.Holds) 0,.fptr (kA a.Kind a.Day a.Lot a.Amount a.Yarn a.Dye a.Order) 0]] 2)) (ixA (ot D) (by kernel_rfl))) (ac (hs (.call 177 [.func (.func 117) [] [.fptr [.func (.func 132) [] [],.func (.func 133) [] []] 0,.fptr (.str b.lot.Name::(kB b.lot.Yarn b.lot.Dye b.lot.Stock b.known b.hold.Lot b.hold.Order b.hold.Reserved b.hold.Taken b.free)) 0,.fptr (kA a.Kind a.Day a.Lot a.Amount a.Yarn a.Dye a.Order) 0]] [] [] [.func (.func 117) [] [.fptr [.func (.func 132) [] [],.func (.func 133) [] []] 0,.fptr (.str b.lot.Name::(kB b.lot.Yarn b.lot.Dye b.lot.Stock b.known b.hold.Lot b.hold.Order b.hold.Reserved b.hold.Taken b.free)) 0,.fptr (kA a.Kind a.Day a.Lot a.Amount a.Yarn a.Dye a.Order) 0]] (.bool o)) (zn (FzL.cons (Fz.func FzL.nil (FzL.cons (Ua (Still.fptr (AllST.cons (Still.func AllST.nil AllST.nil) (AllST.cons (Still.func AllST.nil AllST.nil) AllST.nil)))) (FzL.cons (Ua (Still.fptr (AllST.cons tS (AllST.cons tS (AllST.cons tS (AllST.cons tI (AllST.cons tB (AllST.cons tS (AllST.cons tS (AllST.cons tI (AllST.cons tI (AllST.cons tI AllST.nil)))))))))))) (FzL.cons (Ua (Still.fptr (AllST.cons tS (AllST.cons tI (AllST.cons tS (AllST.cons tI (AllST.cons tS (AllST.cons tS (AllST.cons tS AllST.nil))))))))) FzL.nil)))) FzL.nil) (qgj b a f) tB)) az))
     rcases wyD d with⟨p,d⟩|⟨p,d⟩
     ·obtain⟨q,g,d⟩:=bnd d
      obtain rfl:=si d
      exact tr fol [3,5] ((0,.fslice 5 (qdO a c b))::(1,.func (.func 177) [] [])::(kM e q)) (ac (hs (.done (.opt (qH ZT 221 (.fslice 5 (qdO a c b)) (.i e))) (.fptr [.func (.func 115) [] [.fptr (kA a.Kind a.Day a.Lot a.Amount a.Yarn a.Dye a.Order) 0,.fptr (kH c.Day c.Lots c.Holds) 0],.func (.func 116) [] [.fptr (kA a.Kind a.Day a.Lot a.Amount a.Yarn a.Dye a.Order) 0,.fptr (.str b.lot.Name::(kB b.lot.Yarn b.lot.Dye b.lot.Stock b.known b.hold.Lot b.hold.Order b.hold.Reserved b.hold.Taken b.free)) 0],.func (.func 117) [] [.fptr [.func (.func 132) [] [],.func (.func 133) [] []] 0,.fptr (.str b.lot.Name::(kB b.lot.Yarn b.lot.Dye b.lot.Stock b.known b.hold.Lot b.hold.Order b.hold.Reserved b.hold.Taken b.free)) 0,.fptr (kA a.Kind a.Day a.Lot a.Amount a.Yarn a.Dye a.Order) 0],.func (.func 118) [] [.fptr [.func (.func 132) [] [],.func (.func 133) [] []] 0,.fptr (.str b.lot.Name::(kB b.lot.Yarn b.lot.Dye b.lot.Stock b.known b.hold.Lot b.hold.Order b.hold.Reserved b.hold.Taken b.free)) 0,.fptr (kA a.Kind a.Day a.Lot a.Amount a.Yarn a.Dye a.Order) 0],.func (.func 119) [] [.fptr (kH c.Day c.Lots c.Holds) 0,.fptr (kA a.Kind a.Day a.Lot a.Amount a.Yarn a.Dye a.Order) 0]] 3)) (ixA (ot p) (by kernel_rfl))) (ac (hs (.call 177 [.func (.func 118) [] [.fptr [.func (.func 132) [] [],.func (.func 133) [] []] 0,.fptr (.str b.lot.Name::(kB b.lot.Yarn b.lot.Dye b.lot.Stock b.known b.hold.Lot b.hold.Order b.hold.Reserved b.hold.Taken b.free)) 0,.fptr (kA a.Kind a.Day a.Lot a.Amount a.Yarn a.Dye a.Order) 0]] [] [] [.func (.func 118) [] [.fptr [.func (.func 132) [] [],.func (.func 133) [] []] 0,.fptr (.str b.lot.Name::(kB b.lot.Yarn b.lot.Dye b.lot.Stock b.known b.hold.Lot b.hold.Order b.hold.Reserved b.hold.Taken b.free)) 0,.fptr (kA a.Kind a.Day a.Lot a.Amount a.Yarn a.Dye a.Order) 0]] (.bool q)) (zn (FzL.cons (Fz.func FzL.nil (FzL.cons (Ua (Still.fptr (AllST.cons (Still.func AllST.nil AllST.nil) (AllST.cons (Still.func AllST.nil AllST.nil) AllST.nil)))) (FzL.cons (Ua (Still.fptr (AllST.cons tS (AllST.cons tS (AllST.cons tS (AllST.cons tI (AllST.cons tB (AllST.cons tS (AllST.cons tS (AllST.cons tI (AllST.cons tI (AllST.cons tI AllST.nil)))))))))))) (FzL.cons (Ua (Still.fptr (AllST.cons tS (AllST.cons tI (AllST.cons tS (AllST.cons tI (AllST.cons tS (AllST.cons tS (AllST.cons tS AllST.nil))))))))) FzL.nil)))) FzL.nil) (qgv b a g) tB)) az))
     rcases wyD d with⟨r,d⟩|⟨r,d⟩
     ·obtain⟨t,j,d⟩:=bnd d
      obtain rfl:=si d
      exact tr fol [3,5] ((0,.fslice 5 (qdO a c b))::(1,.func (.func 177) [] [])::(kM e t)) (ac (hs (.done (.opt (qH ZT 221 (.fslice 5 (qdO a c b)) (.i e))) (.fptr [.func (.func 115) [] [.fptr (kA a.Kind a.Day a.Lot a.Amount a.Yarn a.Dye a.Order) 0,.fptr (kH c.Day c.Lots c.Holds) 0],.func (.func 116) [] [.fptr (kA a.Kind a.Day a.Lot a.Amount a.Yarn a.Dye a.Order) 0,.fptr (.str b.lot.Name::(kB b.lot.Yarn b.lot.Dye b.lot.Stock b.known b.hold.Lot b.hold.Order b.hold.Reserved b.hold.Taken b.free)) 0],.func (.func 117) [] [.fptr [.func (.func 132) [] [],.func (.func 133) [] []] 0,.fptr (.str b.lot.Name::(kB b.lot.Yarn b.lot.Dye b.lot.Stock b.known b.hold.Lot b.hold.Order b.hold.Reserved b.hold.Taken b.free)) 0,.fptr (kA a.Kind a.Day a.Lot a.Amount a.Yarn a.Dye a.Order) 0],.func (.func 118) [] [.fptr [.func (.func 132) [] [],.func (.func 133) [] []] 0,.fptr (.str b.lot.Name::(kB b.lot.Yarn b.lot.Dye b.lot.Stock b.known b.hold.Lot b.hold.Order b.hold.Reserved b.hold.Taken b.free)) 0,.fptr (kA a.Kind a.Day a.Lot a.Amount a.Yarn a.Dye a.Order) 0],.func (.func 119) [] [.fptr (kH c.Day c.Lots c.Holds) 0,.fptr (kA a.Kind a.Day a.Lot a.Amount a.Yarn a.Dye a.Order) 0]] 4)) (ixA (ot r) (by kernel_rfl))) (ac (hs (.call 177 [.func (.func 119) [] [.fptr (kH c.Day c.Lots c.Holds) 0,.fptr (kA a.Kind a.Day a.Lot a.Amount a.Yarn a.Dye a.Order) 0]] [] [] [.func (.func 119) [] [.fptr (kH c.Day c.Lots c.Holds) 0,.fptr (kA a.Kind a.Day a.Lot a.Amount a.Yarn a.Dye a.Order) 0]] (.bool t)) (zn (FzL.cons (Fz.func FzL.nil (FzL.cons (Ua (Still.fptr (AllST.cons tI (AllST.cons (qw qo _ (nl rfl)) (AllST.cons (qw qg _ (nl rfl)) AllST.nil))))) (FzL.cons (Ua (Still.fptr (AllST.cons tS (AllST.cons tI (AllST.cons tS (AllST.cons tI (AllST.cons tS (AllST.cons tS (AllST.cons tS AllST.nil))))))))) FzL.nil))) FzL.nil) (xE N c a j) tB)) az))
     cases d
    refine ihB g2 (fun w g2=>?_) (fun w g2=>?_)
    ·refine sh fol (kA3 e) ?_
     refine Goes.ret ?_
     obtain rfl:=si g2
     exact Or.inr (⟨rfl,_,rfl,(gw2 [.i e] (Ub tI))⟩)
    refine Goes.skip ?_
    refine gh fol ((0,.fslice 5 (qdO a c b))::(1,.func (.func 177) [] [])::(kAM (w64 (e+1)))) ?_
    exact⟨M,(ofG 19 ((0,.fslice 5 (qdO a c b))::(1,.func (.func 177) [] [])::(kAM (w64 (e+1)))),[]),Nat.lt_succ_self _,(Sub.refl _),_,rfl,g2⟩
   refine Goes.exit ?_
   obtain rfl:=si g2
   exact Or.inl (⟨rfl,rfl,(Sub.keep [] rfl rfl)⟩)
 rintro x s' (⟨rfl,rfl,hsub⟩|⟨rfl,F,rfl,hret⟩)
 ·try dsimp only at h
  refine Goes.sub hsub ?_
  refine sh fol kA5 ?_
  refine Goes.ret ?_
  obtain rfl:=si h
  exact(gw2 [.i (-1)] (Ub tI))
 try dsimp only at h
 obtain rfl:=si h
 exact hret
def qdd (N:Nat) (a:qb) (b:StateT) (c:qa):Option Int:=
 (xq N a b c).bind fun d=>
 some (w64 (1+d))
theorem qiB (N:Nat) (a:qb) (b:StateT) (c:qa) {res:Int} (h:qdd N a b c=some res):qp ZT (.fn 114) [.fslice 5 (qdO a b c)] [] (.i res) []:=by
 unfold qdd at h
 refine Uc Tryz.func114 rfl rfl (m:=6) rfl (rs:=[.tmp 2]) rfl (l:=[(0,.fslice 5 (qdO a b c))]) rfl ?_
 refine sh fol [(0,.fslice 5 (qdO a b c))] ?_
 obtain⟨e,d,h⟩:=bnd h
 refine sq (gr fol [1] (kA4 (w64 (1+e))) (ac (hs (.call 176 [.fslice 5 (qdO a b c),.func (.func 177) [] []] [] [] [.fslice 5 (qdO a b c),.func (.func 177) [] []] (.i e)) (zn (FzL.cons (Ua (Still.fslice (AllST.cons (Still.func AllST.nil (AllST.cons (Still.fptr (AllST.cons tS (AllST.cons tI (AllST.cons tS (AllST.cons tI (AllST.cons tS (AllST.cons tS (AllST.cons tS AllST.nil)))))))) (AllST.cons (Still.fptr (AllST.cons tI (AllST.cons (qw qo _ (nl rfl)) (AllST.cons (qw qg _ (nl rfl)) AllST.nil)))) AllST.nil))) (AllST.cons (Still.func AllST.nil (AllST.cons (Still.fptr (AllST.cons tS (AllST.cons tI (AllST.cons tS (AllST.cons tI (AllST.cons tS (AllST.cons tS (AllST.cons tS AllST.nil)))))))) (AllST.cons (Still.fptr (AllST.cons tS (AllST.cons tS (AllST.cons tS (AllST.cons tI (AllST.cons tB (AllST.cons tS (AllST.cons tS (AllST.cons tI (AllST.cons tI (AllST.cons tI AllST.nil))))))))))) AllST.nil))) (AllST.cons (Still.func AllST.nil (AllST.cons (Still.fptr (AllST.cons (Still.func AllST.nil AllST.nil) (AllST.cons (Still.func AllST.nil AllST.nil) AllST.nil))) (AllST.cons (Still.fptr (AllST.cons tS (AllST.cons tS (AllST.cons tS (AllST.cons tI (AllST.cons tB (AllST.cons tS (AllST.cons tS (AllST.cons tI (AllST.cons tI (AllST.cons tI AllST.nil))))))))))) (AllST.cons (Still.fptr (AllST.cons tS (AllST.cons tI (AllST.cons tS (AllST.cons tI (AllST.cons tS (AllST.cons tS (AllST.cons tS AllST.nil)))))))) AllST.nil)))) (AllST.cons (Still.func AllST.nil (AllST.cons (Still.fptr (AllST.cons (Still.func AllST.nil AllST.nil) (AllST.cons (Still.func AllST.nil AllST.nil) AllST.nil))) (AllST.cons (Still.fptr (AllST.cons tS (AllST.cons tS (AllST.cons tS (AllST.cons tI (AllST.cons tB (AllST.cons tS (AllST.cons tS (AllST.cons tI (AllST.cons tI (AllST.cons tI AllST.nil))))))))))) (AllST.cons (Still.fptr (AllST.cons tS (AllST.cons tI (AllST.cons tS (AllST.cons tI (AllST.cons tS (AllST.cons tS (AllST.cons tS AllST.nil)))))))) AllST.nil)))) (AllST.cons (Still.func AllST.nil (AllST.cons (Still.fptr (AllST.cons tI (AllST.cons (qw qo _ (nl rfl)) (AllST.cons (qw qg _ (nl rfl)) AllST.nil)))) (AllST.cons (Still.fptr (AllST.cons tS (AllST.cons tI (AllST.cons tS (AllST.cons tI (AllST.cons tS (AllST.cons tS (AllST.cons tS AllST.nil)))))))) AllST.nil))) AllST.nil))))))) (FzL.cons (Fz.func FzL.nil FzL.nil) FzL.nil)) (qd8 N a b c d) tI)) az) ?_)
 refine Goes.ret ?_
 obtain rfl:=si h
 exact(gw2 [.i (w64 (1+e))] (Ub tI))
def qba (a:qa) (b:qb):Option Bool:=
 (qe8 a b.Amount).bind fun c=>
 some c
theorem qeG (a:qa) (b:qb) {res:Bool} (h:qba a b=some res):qp ZT (.fn 117) [.fptr [.func (.func 134) [] [],.func (.func 135) [] []] 0,.fptr (.str a.lot.Name::(kB a.lot.Yarn a.lot.Dye a.lot.Stock a.known a.hold.Lot a.hold.Order a.hold.Reserved a.hold.Taken a.free)) 0,.fptr (kA b.Kind b.Day b.Lot b.Amount b.Yarn b.Dye b.Order) 0] [] (.bool res) []:=by
 unfold qba at h
 refine Uc Tryz.func117 rfl rfl (m:=10) rfl (rs:=[.tmp 3]) rfl (l:=[(0,.fptr [.func (.func 134) [] [],.func (.func 135) [] []] 0),(1,.fptr (.str a.lot.Name::(kB a.lot.Yarn a.lot.Dye a.lot.Stock a.known a.hold.Lot a.hold.Order a.hold.Reserved a.hold.Taken a.free)) 0),(2,.fptr (kA b.Kind b.Day b.Lot b.Amount b.Yarn b.Dye b.Order) 0)]) rfl ?_
 refine sh fol [(0,.fptr [.func (.func 134) [] [],.func (.func 135) [] []] 0),(1,.fptr (.str a.lot.Name::(kB a.lot.Yarn a.lot.Dye a.lot.Stock a.known a.hold.Lot a.hold.Order a.hold.Reserved a.hold.Taken a.free)) 0),(2,.fptr (kA b.Kind b.Day b.Lot b.Amount b.Yarn b.Dye b.Order) 0)] ?_
 obtain⟨d,c,h⟩:=bnd h
 refine sq (gr fol [5] (kA7 d) (ac (cv (qjr a b.Amount c)) az) ?_)
 refine Goes.ret ?_
 obtain rfl:=si h
 exact(gw2 [.bool d] (Ub tB))
def qc0 (a:qa) (b:qb):Option Bool:=
 (qba a b).bind fun c=>
 some (!c)
theorem qgA (a:qa) (b:qb) {res:Bool} (h:qc0 a b=some res):qp ZT (.fn 177) [.func (.func 117) [] [.fptr [.func (.func 134) [] [],.func (.func 135) [] []] 0,.fptr (.str a.lot.Name::(kB a.lot.Yarn a.lot.Dye a.lot.Stock a.known a.hold.Lot a.hold.Order a.hold.Reserved a.hold.Taken a.free)) 0,.fptr (kA b.Kind b.Day b.Lot b.Amount b.Yarn b.Dye b.Order) 0]] [] (.bool res) []:=by
 unfold qc0 at h
 refine Uc Tryz.func177 rfl rfl (m:=6) rfl (rs:=[.tmp 2]) rfl (l:=[(0,.func (.func 117) [] [.fptr [.func (.func 134) [] [],.func (.func 135) [] []] 0,.fptr (.str a.lot.Name::(kB a.lot.Yarn a.lot.Dye a.lot.Stock a.known a.hold.Lot a.hold.Order a.hold.Reserved a.hold.Taken a.free)) 0,.fptr (kA b.Kind b.Day b.Lot b.Amount b.Yarn b.Dye b.Order) 0])]) rfl ?_
 refine sh fol [(0,.func (.func 117) [] [.fptr [.func (.func 134) [] [],.func (.func 135) [] []] 0,.fptr (.str a.lot.Name::(kB a.lot.Yarn a.lot.Dye a.lot.Stock a.known a.hold.Lot a.hold.Order a.hold.Reserved a.hold.Taken a.free)) 0,.fptr (kA b.Kind b.Day b.Lot b.Amount b.Yarn b.Dye b.Order) 0])] ?_
 obtain⟨d,c,h⟩:=bnd h
 refine sq (gr fol [1] (kAc (!d)) (ac (hs (.call 117 [.fptr [.func (.func 134) [] [],.func (.func 135) [] []] 0,.fptr (.str a.lot.Name::(kB a.lot.Yarn a.lot.Dye a.lot.Stock a.known a.hold.Lot a.hold.Order a.hold.Reserved a.hold.Taken a.free)) 0,.fptr (kA b.Kind b.Day b.Lot b.Amount b.Yarn b.Dye b.Order) 0] [] [] [.fptr [.func (.func 134) [] [],.func (.func 135) [] []] 0,.fptr (.str a.lot.Name::(kB a.lot.Yarn a.lot.Dye a.lot.Stock a.known a.hold.Lot a.hold.Order a.hold.Reserved a.hold.Taken a.free)) 0,.fptr (kA b.Kind b.Day b.Lot b.Amount b.Yarn b.Dye b.Order) 0] (.bool d)) (zn (FzL.cons (Ua (Still.fptr (AllST.cons (Still.func AllST.nil AllST.nil) (AllST.cons (Still.func AllST.nil AllST.nil) AllST.nil)))) (FzL.cons (Ua (Still.fptr (AllST.cons tS (AllST.cons tS (AllST.cons tS (AllST.cons tI (AllST.cons tB (AllST.cons tS (AllST.cons tS (AllST.cons tI (AllST.cons tI (AllST.cons tI AllST.nil)))))))))))) (FzL.cons (Ua (Still.fptr (AllST.cons tS (AllST.cons tI (AllST.cons tS (AllST.cons tI (AllST.cons tS (AllST.cons tS (AllST.cons tS AllST.nil))))))))) FzL.nil))) (qeG a b c) tB)) az) ?_)
 refine Goes.ret ?_
 obtain rfl:=si h
 exact(gw2 [.bool (!d)] (Ub tB))
def qbb (b:qa) (c:qb):Option Bool:=
 (qco b c.Amount).bind fun a=>
 some (decide ((if a.hold.Taken>a.lot.Stock then a.hold.Taken else a.lot.Stock)<=999999999))
theorem qeN (a:qa) (b:qb) {res:Bool} (h:qbb a b=some res):qp ZT (.fn 118) [.fptr [.func (.func 134) [] [],.func (.func 135) [] []] 0,.fptr (.str a.lot.Name::(kB a.lot.Yarn a.lot.Dye a.lot.Stock a.known a.hold.Lot a.hold.Order a.hold.Reserved a.hold.Taken a.free)) 0,.fptr (kA b.Kind b.Day b.Lot b.Amount b.Yarn b.Dye b.Order) 0] [] (.bool res) []:=by
 unfold qbb at h
 refine Uc Tryz.func118 rfl rfl (m:=19) rfl (rs:=[.tmp 3]) rfl (l:=[(0,.fptr [.func (.func 134) [] [],.func (.func 135) [] []] 0),(1,.fptr (.str a.lot.Name::(kB a.lot.Yarn a.lot.Dye a.lot.Stock a.known a.hold.Lot a.hold.Order a.hold.Reserved a.hold.Taken a.free)) 0),(2,.fptr (kA b.Kind b.Day b.Lot b.Amount b.Yarn b.Dye b.Order) 0)]) rfl ?_
 refine sh fol [(0,.fptr [.func (.func 134) [] [],.func (.func 135) [] []] 0),(1,.fptr (.str a.lot.Name::(kB a.lot.Yarn a.lot.Dye a.lot.Stock a.known a.hold.Lot a.hold.Order a.hold.Reserved a.hold.Taken a.free)) 0),(2,.fptr (kA b.Kind b.Day b.Lot b.Amount b.Yarn b.Dye b.Order) 0)] ?_
 obtain⟨c,d,h⟩:=bnd h
 refine sq (gq fol [5] kA6 (kC c.lot.Name c.lot.Yarn c.lot.Dye c.lot.Stock c.known c.hold.Lot c.hold.Order c.hold.Reserved c.hold.Taken c.free []) (ac (cv (qfC a b.Amount d)) az) ?_)
 refine sh fol (kA7 (decide ((if c.hold.Taken>c.lot.Stock then c.hold.Taken else c.lot.Stock)<=999999999))) ?_
 refine Goes.ret ?_
 obtain rfl:=si h
 exact(gw2 [.bool (decide ((if c.hold.Taken>c.lot.Stock then c.hold.Taken else c.lot.Stock)<=999999999))] (Ub tB))
def qc9 (a:qa) (b:qb):Option Bool:=
 (qbb a b).bind fun c=>
 some (!c)
theorem qgV (a:qa) (b:qb) {res:Bool} (h:qc9 a b=some res):qp ZT (.fn 177) [.func (.func 118) [] [.fptr [.func (.func 134) [] [],.func (.func 135) [] []] 0,.fptr (.str a.lot.Name::(kB a.lot.Yarn a.lot.Dye a.lot.Stock a.known a.hold.Lot a.hold.Order a.hold.Reserved a.hold.Taken a.free)) 0,.fptr (kA b.Kind b.Day b.Lot b.Amount b.Yarn b.Dye b.Order) 0]] [] (.bool res) []:=by
 unfold qc9 at h
 refine Uc Tryz.func177 rfl rfl (m:=6) rfl (rs:=[.tmp 2]) rfl (l:=[(0,.func (.func 118) [] [.fptr [.func (.func 134) [] [],.func (.func 135) [] []] 0,.fptr (.str a.lot.Name::(kB a.lot.Yarn a.lot.Dye a.lot.Stock a.known a.hold.Lot a.hold.Order a.hold.Reserved a.hold.Taken a.free)) 0,.fptr (kA b.Kind b.Day b.Lot b.Amount b.Yarn b.Dye b.Order) 0])]) rfl ?_
 refine sh fol [(0,.func (.func 118) [] [.fptr [.func (.func 134) [] [],.func (.func 135) [] []] 0,.fptr (.str a.lot.Name::(kB a.lot.Yarn a.lot.Dye a.lot.Stock a.known a.hold.Lot a.hold.Order a.hold.Reserved a.hold.Taken a.free)) 0,.fptr (kA b.Kind b.Day b.Lot b.Amount b.Yarn b.Dye b.Order) 0])] ?_
 obtain⟨d,c,h⟩:=bnd h
 refine sq (gr fol [1] (kAc (!d)) (ac (hs (.call 118 [.fptr [.func (.func 134) [] [],.func (.func 135) [] []] 0,.fptr (.str a.lot.Name::(kB a.lot.Yarn a.lot.Dye a.lot.Stock a.known a.hold.Lot a.hold.Order a.hold.Reserved a.hold.Taken a.free)) 0,.fptr (kA b.Kind b.Day b.Lot b.Amount b.Yarn b.Dye b.Order) 0] [] [] [.fptr [.func (.func 134) [] [],.func (.func 135) [] []] 0,.fptr (.str a.lot.Name::(kB a.lot.Yarn a.lot.Dye a.lot.Stock a.known a.hold.Lot a.hold.Order a.hold.Reserved a.hold.Taken a.free)) 0,.fptr (kA b.Kind b.Day b.Lot b.Amount b.Yarn b.Dye b.Order) 0] (.bool d)) (zn (FzL.cons (Ua (Still.fptr (AllST.cons (Still.func AllST.nil AllST.nil) (AllST.cons (Still.func AllST.nil AllST.nil) AllST.nil)))) (FzL.cons (Ua (Still.fptr (AllST.cons tS (AllST.cons tS (AllST.cons tS (AllST.cons tI (AllST.cons tB (AllST.cons tS (AllST.cons tS (AllST.cons tI (AllST.cons tI (AllST.cons tI AllST.nil)))))))))))) (FzL.cons (Ua (Still.fptr (AllST.cons tS (AllST.cons tI (AllST.cons tS (AllST.cons tI (AllST.cons tS (AllST.cons tS (AllST.cons tS AllST.nil))))))))) FzL.nil))) (qeN a b c) tB)) az) ?_)
 refine Goes.ret ?_
 obtain rfl:=si h
 exact(gw2 [.bool (!d)] (Ub tB))
def zQ (N:Nat) (a:qb) (d:StateT) (b:qa):Nat->Int->Option (Unit⊕Int)
 |0,_=>none
 |K+1,c=>
  if c<5 then
  (if c=0 then
  (jM a d).bind fun i=>
  some i
  else
  if c=1 then
  (zV a b).bind fun j=>
  some j
  else
  if c=2 then
  (qc0 b a).bind fun e=>
  some e
  else
  if c=3 then
  (qc9 b a).bind fun f=>
  some f
  else
  if c=4 then
  (jK N d a).bind fun g=>
  some g
  else
  none:Option Bool).bind fun h=>
  if h=true then
  some (.inr c)
  else
  zQ N a d b K (w64 (c+1))
  else
  some (.inl ())
def xc (N:Nat) (a:qb) (b:StateT) (c:qa):Option Int:=
 (zQ N a b c N 0).bind (fun
 |(.inl ())=>
 some (-1)
 |(.inr d)=>
 some d)
theorem qed (N:Nat) (a:qb) (c:StateT) (b:qa) {res:Int} (h:xc N a c b=some res):qp ZT (.fn 176) [.fslice 5 (qdQ a c b),.func (.func 177) [] []] [] (.i res) []:=by
 unfold xc at h
 refine Uc Tryz.func176 rfl rfl (m:=19) rfl (rs:=[.tmp 4]) rfl (l:=[(0,.fslice 5 (qdQ a c b)),(1,.func (.func 177) [] [])]) rfl ?_
 refine sh fol [(0,.fslice 5 (qdQ a c b)),(1,.func (.func 177) [] [])] ?_
 refine sq ?_
 refine sh fol ((0,.fslice 5 (qdQ a c b))::(1,.func (.func 177) [] [])::kA8) ?_
 refine Goes.block ?_
 obtain⟨u,g2,h⟩:=bnd h
 refine Goes.imp (Q:=fun x s'=>(x= .exit 0/\(.inl ())=u/\Sub s' (ofG 19 [],[]))\/(x= .ret/\ ∃y,(.inr y)=u/\jF ZT [.tmp 4] (.i y) .ret s')) ?_ ?_
 ·refine Ud (fun M s=> ∃(e:Int),s=(ofG 19 ((0,.fslice 5 (qdQ a c b))::(1,.func (.func 177) [] [])::(kAM e)),[])/\zQ N a c b M e=some u) ?_ (m:=N) ⟨_,rfl,g2⟩
  rintro M s ⟨e,rfl,g2⟩
  cases M with
  |zero=>simp only[zQ]at g2;cases g2
  |succ M=>
   rw[zQ]at g2
   refine sh fol ((0,.fslice 5 (qdQ a c b))::(1,.func (.func 177) [] [])::(7,.i 5)::(kAr e (decide (e<5)))) ?_
   refine sq ?_
   refine ihD g2 (fun E g2=>?_) (fun E g2=>?_)
   ·refine Goes.skip ?_
    refine sq (Goes.block ?_)
    refine sh fol ((0,.fslice 5 (qdQ a c b))::(1,.func (.func 177) [] [])::(5,.i e)::(kAM e)) ?_
    refine sq ?_
    obtain⟨v,d,g2⟩:=bnd g2
    refine Goes.cut (s':=(ofG 19 ((0,.fslice 5 (qdQ a c b))::(1,.func (.func 177) [] [])::(kM e v)),[])) ?_ ?_
    ·rcases wyD d with⟨z,d⟩|⟨z,d⟩
     ·obtain⟨A,k,d⟩:=bnd d
      obtain rfl:=si d
      exact tr fol [3,5] ((0,.fslice 5 (qdQ a c b))::(1,.func (.func 177) [] [])::(kM e A)) (ac (hs (.done (.opt (qH ZT 221 (.fslice 5 (qdQ a c b)) (.i e))) (.fptr [.func (.func 115) [] [.fptr (kA a.Kind a.Day a.Lot a.Amount a.Yarn a.Dye a.Order) 0,.fptr (kH c.Day c.Lots c.Holds) 0],.func (.func 116) [] [.fptr (kA a.Kind a.Day a.Lot a.Amount a.Yarn a.Dye a.Order) 0,.fptr (.str b.lot.Name::(kB b.lot.Yarn b.lot.Dye b.lot.Stock b.known b.hold.Lot b.hold.Order b.hold.Reserved b.hold.Taken b.free)) 0],.func (.func 117) [] [.fptr [.func (.func 134) [] [],.func (.func 135) [] []] 0,.fptr (.str b.lot.Name::(kB b.lot.Yarn b.lot.Dye b.lot.Stock b.known b.hold.Lot b.hold.Order b.hold.Reserved b.hold.Taken b.free)) 0,.fptr (kA a.Kind a.Day a.Lot a.Amount a.Yarn a.Dye a.Order) 0],.func (.func 118) [] [.fptr [.func (.func 134) [] [],.func (.func 135) [] []] 0,.fptr (.str b.lot.Name::(kB b.lot.Yarn b.lot.Dye b.lot.Stock b.known b.hold.Lot b.hold.Order b.hold.Reserved b.hold.Taken b.free)) 0,.fptr (kA a.Kind a.Day a.Lot a.Amount a.Yarn a.Dye a.Order) 0],.func (.func 119) [] [.fptr (kH c.Day c.Lots c.Holds) 0,.fptr (kA a.Kind a.Day a.Lot a.Amount a.Yarn a.Dye a.Order) 0]] 0)) (ixA (ot z) (by kernel_rfl))) (ac (hs (.call 177 [.func (.func 115) [] [.fptr (kA a.Kind a.Day a.Lot a.Amount a.Yarn a.Dye a.Order) 0,.fptr (kH c.Day c.Lots c.Holds) 0]] [] [] [.func (.func 115) [] [.fptr (kA a.Kind a.Day a.Lot a.Amount a.Yarn a.Dye a.Order) 0,.fptr (kH c.Day c.Lots c.Holds) 0]] (.bool A)) (zn (FzL.cons (Fz.func FzL.nil (FzL.cons (Ua (Still.fptr (AllST.cons tS (AllST.cons tI (AllST.cons tS (AllST.cons tI (AllST.cons tS (AllST.cons tS (AllST.cons tS AllST.nil))))))))) (FzL.cons (Ua (Still.fptr (AllST.cons tI (AllST.cons (qw qo _ (nl rfl)) (AllST.cons (qw qg _ (nl rfl)) AllST.nil))))) FzL.nil))) FzL.nil) (xw a c k) tB)) az))
     rcases wyD d with⟨B,d⟩|⟨B,d⟩
     ·obtain⟨C,n,d⟩:=bnd d
      obtain rfl:=si d
      exact tr fol [3,5] ((0,.fslice 5 (qdQ a c b))::(1,.func (.func 177) [] [])::(kM e C)) (ac (hs (.done (.opt (qH ZT 221 (.fslice 5 (qdQ a c b)) (.i e))) (.fptr [.func (.func 115) [] [.fptr (kA a.Kind a.Day a.Lot a.Amount a.Yarn a.Dye a.Order) 0,.fptr (kH c.Day c.Lots c.Holds) 0],.func (.func 116) [] [.fptr (kA a.Kind a.Day a.Lot a.Amount a.Yarn a.Dye a.Order) 0,.fptr (.str b.lot.Name::(kB b.lot.Yarn b.lot.Dye b.lot.Stock b.known b.hold.Lot b.hold.Order b.hold.Reserved b.hold.Taken b.free)) 0],.func (.func 117) [] [.fptr [.func (.func 134) [] [],.func (.func 135) [] []] 0,.fptr (.str b.lot.Name::(kB b.lot.Yarn b.lot.Dye b.lot.Stock b.known b.hold.Lot b.hold.Order b.hold.Reserved b.hold.Taken b.free)) 0,.fptr (kA a.Kind a.Day a.Lot a.Amount a.Yarn a.Dye a.Order) 0],.func (.func 118) [] [.fptr [.func (.func 134) [] [],.func (.func 135) [] []] 0,.fptr (.str b.lot.Name::(kB b.lot.Yarn b.lot.Dye b.lot.Stock b.known b.hold.Lot b.hold.Order b.hold.Reserved b.hold.Taken b.free)) 0,.fptr (kA a.Kind a.Day a.Lot a.Amount a.Yarn a.Dye a.Order) 0],.func (.func 119) [] [.fptr (kH c.Day c.Lots c.Holds) 0,.fptr (kA a.Kind a.Day a.Lot a.Amount a.Yarn a.Dye a.Order) 0]] 1)) (ixA (ot B) (by kernel_rfl))) (ac (hs (.call 177 [.func (.func 116) [] [.fptr (kA a.Kind a.Day a.Lot a.Amount a.Yarn a.Dye a.Order) 0,.fptr (.str b.lot.Name::(kB b.lot.Yarn b.lot.Dye b.lot.Stock b.known b.hold.Lot b.hold.Order b.hold.Reserved b.hold.Taken b.free)) 0]] [] [] [.func (.func 116) [] [.fptr (kA a.Kind a.Day a.Lot a.Amount a.Yarn a.Dye a.Order) 0,.fptr (.str b.lot.Name::(kB b.lot.Yarn b.lot.Dye b.lot.Stock b.known b.hold.Lot b.hold.Order b.hold.Reserved b.hold.Taken b.free)) 0]] (.bool C)) (zn (FzL.cons (Fz.func FzL.nil (FzL.cons (Ua (Still.fptr (AllST.cons tS (AllST.cons tI (AllST.cons tS (AllST.cons tI (AllST.cons tS (AllST.cons tS (AllST.cons tS AllST.nil))))))))) (FzL.cons (Ua (Still.fptr (AllST.cons tS (AllST.cons tS (AllST.cons tS (AllST.cons tI (AllST.cons tB (AllST.cons tS (AllST.cons tS (AllST.cons tI (AllST.cons tI (AllST.cons tI AllST.nil)))))))))))) FzL.nil))) FzL.nil) (xG a b n) tB)) az))
     rcases wyD d with⟨D,d⟩|⟨D,d⟩
     ·obtain⟨o,f,d⟩:=bnd d
      obtain rfl:=si d
      exact tr fol [3,5] ((0,.fslice 5 (qdQ a c b))::(1,.func (.func 177) [] [])::(kM e o)) (ac (hs (.done (.opt (qH ZT 221 (.fslice 5 (qdQ a c b)) (.i e))) (.fptr [.func (.func 115) [] [.fptr (kA a.Kind a.Day a.Lot a.Amount a.Yarn a.Dye a.Order) 0,.fptr (kH c.Day c.Lots c.Holds) 0],.func (.func 116) [] [.fptr (kA a.Kind a.Day a.Lot a.Amount a.Yarn a.Dye a.Order) 0,.fptr (.str b.lot.Name::(kB b.lot.Yarn b.lot.Dye b.lot.Stock b.known b.hold.Lot b.hold.Order b.hold.Reserved b.hold.Taken b.free)) 0],.func (.func 117) [] [.fptr [.func (.func 134) [] [],.func (.func 135) [] []] 0,.fptr (.str b.lot.Name::(kB b.lot.Yarn b.lot.Dye b.lot.Stock b.known b.hold.Lot b.hold.Order b.hold.Reserved b.hold.Taken b.free)) 0,.fptr (kA a.Kind a.Day a.Lot a.Amount a.Yarn a.Dye a.Order) 0],.func (.func 118) [] [.fptr [.func (.func 134) [] [],.func (.func 135) [] []] 0,.fptr (.str b.lot.Name::(kB b.lot.Yarn b.lot.Dye b.lot.Stock b.known b.hold.Lot b.hold.Order b.hold.Reserved b.hold.Taken b.free)) 0,.fptr (kA a.Kind a.Day a.Lot a.Amount a.Yarn a.Dye a.Order) 0],.func (.func 119) [] [.fptr (kH c.Day c.Lots c.Holds) 0,.fptr (kA a.Kind a.Day a.Lot a.Amount a.Yarn a.Dye a.Order) 0]] 2)) (ixA (ot D) (by kernel_rfl))) (ac (hs (.call 177 [.func (.func 117) [] [.fptr [.func (.func 134) [] [],.func (.func 135) [] []] 0,.fptr (.str b.lot.Name::(kB b.lot.Yarn b.lot.Dye b.lot.Stock b.known b.hold.Lot b.hold.Order b.hold.Reserved b.hold.Taken b.free)) 0,.fptr (kA a.Kind a.Day a.Lot a.Amount a.Yarn a.Dye a.Order) 0]] [] [] [.func (.func 117) [] [.fptr [.func (.func 134) [] [],.func (.func 135) [] []] 0,.fptr (.str b.lot.Name::(kB b.lot.Yarn b.lot.Dye b.lot.Stock b.known b.hold.Lot b.hold.Order b.hold.Reserved b.hold.Taken b.free)) 0,.fptr (kA a.Kind a.Day a.Lot a.Amount a.Yarn a.Dye a.Order) 0]] (.bool o)) (zn (FzL.cons (Fz.func FzL.nil (FzL.cons (Ua (Still.fptr (AllST.cons (Still.func AllST.nil AllST.nil) (AllST.cons (Still.func AllST.nil AllST.nil) AllST.nil)))) (FzL.cons (Ua (Still.fptr (AllST.cons tS (AllST.cons tS (AllST.cons tS (AllST.cons tI (AllST.cons tB (AllST.cons tS (AllST.cons tS (AllST.cons tI (AllST.cons tI (AllST.cons tI AllST.nil)))))))))))) (FzL.cons (Ua (Still.fptr (AllST.cons tS (AllST.cons tI (AllST.cons tS (AllST.cons tI (AllST.cons tS (AllST.cons tS (AllST.cons tS AllST.nil))))))))) FzL.nil)))) FzL.nil) (qgA b a f) tB)) az))
     rcases wyD d with⟨p,d⟩|⟨p,d⟩
     ·obtain⟨q,g,d⟩:=bnd d
      obtain rfl:=si d
      exact tr fol [3,5] ((0,.fslice 5 (qdQ a c b))::(1,.func (.func 177) [] [])::(kM e q)) (ac (hs (.done (.opt (qH ZT 221 (.fslice 5 (qdQ a c b)) (.i e))) (.fptr [.func (.func 115) [] [.fptr (kA a.Kind a.Day a.Lot a.Amount a.Yarn a.Dye a.Order) 0,.fptr (kH c.Day c.Lots c.Holds) 0],.func (.func 116) [] [.fptr (kA a.Kind a.Day a.Lot a.Amount a.Yarn a.Dye a.Order) 0,.fptr (.str b.lot.Name::(kB b.lot.Yarn b.lot.Dye b.lot.Stock b.known b.hold.Lot b.hold.Order b.hold.Reserved b.hold.Taken b.free)) 0],.func (.func 117) [] [.fptr [.func (.func 134) [] [],.func (.func 135) [] []] 0,.fptr (.str b.lot.Name::(kB b.lot.Yarn b.lot.Dye b.lot.Stock b.known b.hold.Lot b.hold.Order b.hold.Reserved b.hold.Taken b.free)) 0,.fptr (kA a.Kind a.Day a.Lot a.Amount a.Yarn a.Dye a.Order) 0],.func (.func 118) [] [.fptr [.func (.func 134) [] [],.func (.func 135) [] []] 0,.fptr (.str b.lot.Name::(kB b.lot.Yarn b.lot.Dye b.lot.Stock b.known b.hold.Lot b.hold.Order b.hold.Reserved b.hold.Taken b.free)) 0,.fptr (kA a.Kind a.Day a.Lot a.Amount a.Yarn a.Dye a.Order) 0],.func (.func 119) [] [.fptr (kH c.Day c.Lots c.Holds) 0,.fptr (kA a.Kind a.Day a.Lot a.Amount a.Yarn a.Dye a.Order) 0]] 3)) (ixA (ot p) (by kernel_rfl))) (ac (hs (.call 177 [.func (.func 118) [] [.fptr [.func (.func 134) [] [],.func (.func 135) [] []] 0,.fptr (.str b.lot.Name::(kB b.lot.Yarn b.lot.Dye b.lot.Stock b.known b.hold.Lot b.hold.Order b.hold.Reserved b.hold.Taken b.free)) 0,.fptr (kA a.Kind a.Day a.Lot a.Amount a.Yarn a.Dye a.Order) 0]] [] [] [.func (.func 118) [] [.fptr [.func (.func 134) [] [],.func (.func 135) [] []] 0,.fptr (.str b.lot.Name::(kB b.lot.Yarn b.lot.Dye b.lot.Stock b.known b.hold.Lot b.hold.Order b.hold.Reserved b.hold.Taken b.free)) 0,.fptr (kA a.Kind a.Day a.Lot a.Amount a.Yarn a.Dye a.Order) 0]] (.bool q)) (zn (FzL.cons (Fz.func FzL.nil (FzL.cons (Ua (Still.fptr (AllST.cons (Still.func AllST.nil AllST.nil) (AllST.cons (Still.func AllST.nil AllST.nil) AllST.nil)))) (FzL.cons (Ua (Still.fptr (AllST.cons tS (AllST.cons tS (AllST.cons tS (AllST.cons tI (AllST.cons tB (AllST.cons tS (AllST.cons tS (AllST.cons tI (AllST.cons tI (AllST.cons tI AllST.nil)))))))))))) (FzL.cons (Ua (Still.fptr (AllST.cons tS (AllST.cons tI (AllST.cons tS (AllST.cons tI (AllST.cons tS (AllST.cons tS (AllST.cons tS AllST.nil))))))))) FzL.nil)))) FzL.nil) (qgV b a g) tB)) az))
     rcases wyD d with⟨r,d⟩|⟨r,d⟩
     ·obtain⟨t,j,d⟩:=bnd d
      obtain rfl:=si d
      exact tr fol [3,5] ((0,.fslice 5 (qdQ a c b))::(1,.func (.func 177) [] [])::(kM e t)) (ac (hs (.done (.opt (qH ZT 221 (.fslice 5 (qdQ a c b)) (.i e))) (.fptr [.func (.func 115) [] [.fptr (kA a.Kind a.Day a.Lot a.Amount a.Yarn a.Dye a.Order) 0,.fptr (kH c.Day c.Lots c.Holds) 0],.func (.func 116) [] [.fptr (kA a.Kind a.Day a.Lot a.Amount a.Yarn a.Dye a.Order) 0,.fptr (.str b.lot.Name::(kB b.lot.Yarn b.lot.Dye b.lot.Stock b.known b.hold.Lot b.hold.Order b.hold.Reserved b.hold.Taken b.free)) 0],.func (.func 117) [] [.fptr [.func (.func 134) [] [],.func (.func 135) [] []] 0,.fptr (.str b.lot.Name::(kB b.lot.Yarn b.lot.Dye b.lot.Stock b.known b.hold.Lot b.hold.Order b.hold.Reserved b.hold.Taken b.free)) 0,.fptr (kA a.Kind a.Day a.Lot a.Amount a.Yarn a.Dye a.Order) 0],.func (.func 118) [] [.fptr [.func (.func 134) [] [],.func (.func 135) [] []] 0,.fptr (.str b.lot.Name::(kB b.lot.Yarn b.lot.Dye b.lot.Stock b.known b.hold.Lot b.hold.Order b.hold.Reserved b.hold.Taken b.free)) 0,.fptr (kA a.Kind a.Day a.Lot a.Amount a.Yarn a.Dye a.Order) 0],.func (.func 119) [] [.fptr (kH c.Day c.Lots c.Holds) 0,.fptr (kA a.Kind a.Day a.Lot a.Amount a.Yarn a.Dye a.Order) 0]] 4)) (ixA (ot r) (by kernel_rfl))) (ac (hs (.call 177 [.func (.func 119) [] [.fptr (kH c.Day c.Lots c.Holds) 0,.fptr (kA a.Kind a.Day a.Lot a.Amount a.Yarn a.Dye a.Order) 0]] [] [] [.func (.func 119) [] [.fptr (kH c.Day c.Lots c.Holds) 0,.fptr (kA a.Kind a.Day a.Lot a.Amount a.Yarn a.Dye a.Order) 0]] (.bool t)) (zn (FzL.cons (Fz.func FzL.nil (FzL.cons (Ua (Still.fptr (AllST.cons tI (AllST.cons (qw qo _ (nl rfl)) (AllST.cons (qw qg _ (nl rfl)) AllST.nil))))) (FzL.cons (Ua (Still.fptr (AllST.cons tS (AllST.cons tI (AllST.cons tS (AllST.cons tI (AllST.cons tS (AllST.cons tS (AllST.cons tS AllST.nil))))))))) FzL.nil))) FzL.nil) (xE N c a j) tB)) az))
     cases d
    refine ihB g2 (fun w g2=>?_) (fun w g2=>?_)
    ·refine sh fol (kA3 e) ?_
     refine Goes.ret ?_
     obtain rfl:=si g2
     exact Or.inr (⟨rfl,_,rfl,(gw2 [.i e] (Ub tI))⟩)
    refine Goes.skip ?_
    refine gh fol ((0,.fslice 5 (qdQ a c b))::(1,.func (.func 177) [] [])::(kAM (w64 (e+1)))) ?_
    exact⟨M,(ofG 19 ((0,.fslice 5 (qdQ a c b))::(1,.func (.func 177) [] [])::(kAM (w64 (e+1)))),[]),Nat.lt_succ_self _,(Sub.refl _),_,rfl,g2⟩
   refine Goes.exit ?_
   obtain rfl:=si g2
   exact Or.inl (⟨rfl,rfl,(Sub.keep [] rfl rfl)⟩)
 rintro x s' (⟨rfl,rfl,hsub⟩|⟨rfl,F,rfl,hret⟩)
 ·try dsimp only at h
  refine Goes.sub hsub ?_
  refine sh fol kA5 ?_
  refine Goes.ret ?_
  obtain rfl:=si h
  exact(gw2 [.i (-1)] (Ub tI))
 try dsimp only at h
 obtain rfl:=si h
 exact hret
def qcY (N:Nat) (a:qb) (b:StateT) (c:qa):Option Int:=
 (xc N a b c).bind fun d=>
 some (w64 (1+d))
theorem qix (N:Nat) (a:qb) (b:StateT) (c:qa) {res:Int} (h:qcY N a b c=some res):qp ZT (.fn 114) [.fslice 5 (qdQ a b c)] [] (.i res) []:=by
 unfold qcY at h
 refine Uc Tryz.func114 rfl rfl (m:=6) rfl (rs:=[.tmp 2]) rfl (l:=[(0,.fslice 5 (qdQ a b c))]) rfl ?_
 refine sh fol [(0,.fslice 5 (qdQ a b c))] ?_
 obtain⟨e,d,h⟩:=bnd h
 refine sq (gr fol [1] (kA4 (w64 (1+e))) (ac (hs (.call 176 [.fslice 5 (qdQ a b c),.func (.func 177) [] []] [] [] [.fslice 5 (qdQ a b c),.func (.func 177) [] []] (.i e)) (zn (FzL.cons (Ua (Still.fslice (AllST.cons (Still.func AllST.nil (AllST.cons (Still.fptr (AllST.cons tS (AllST.cons tI (AllST.cons tS (AllST.cons tI (AllST.cons tS (AllST.cons tS (AllST.cons tS AllST.nil)))))))) (AllST.cons (Still.fptr (AllST.cons tI (AllST.cons (qw qo _ (nl rfl)) (AllST.cons (qw qg _ (nl rfl)) AllST.nil)))) AllST.nil))) (AllST.cons (Still.func AllST.nil (AllST.cons (Still.fptr (AllST.cons tS (AllST.cons tI (AllST.cons tS (AllST.cons tI (AllST.cons tS (AllST.cons tS (AllST.cons tS AllST.nil)))))))) (AllST.cons (Still.fptr (AllST.cons tS (AllST.cons tS (AllST.cons tS (AllST.cons tI (AllST.cons tB (AllST.cons tS (AllST.cons tS (AllST.cons tI (AllST.cons tI (AllST.cons tI AllST.nil))))))))))) AllST.nil))) (AllST.cons (Still.func AllST.nil (AllST.cons (Still.fptr (AllST.cons (Still.func AllST.nil AllST.nil) (AllST.cons (Still.func AllST.nil AllST.nil) AllST.nil))) (AllST.cons (Still.fptr (AllST.cons tS (AllST.cons tS (AllST.cons tS (AllST.cons tI (AllST.cons tB (AllST.cons tS (AllST.cons tS (AllST.cons tI (AllST.cons tI (AllST.cons tI AllST.nil))))))))))) (AllST.cons (Still.fptr (AllST.cons tS (AllST.cons tI (AllST.cons tS (AllST.cons tI (AllST.cons tS (AllST.cons tS (AllST.cons tS AllST.nil)))))))) AllST.nil)))) (AllST.cons (Still.func AllST.nil (AllST.cons (Still.fptr (AllST.cons (Still.func AllST.nil AllST.nil) (AllST.cons (Still.func AllST.nil AllST.nil) AllST.nil))) (AllST.cons (Still.fptr (AllST.cons tS (AllST.cons tS (AllST.cons tS (AllST.cons tI (AllST.cons tB (AllST.cons tS (AllST.cons tS (AllST.cons tI (AllST.cons tI (AllST.cons tI AllST.nil))))))))))) (AllST.cons (Still.fptr (AllST.cons tS (AllST.cons tI (AllST.cons tS (AllST.cons tI (AllST.cons tS (AllST.cons tS (AllST.cons tS AllST.nil)))))))) AllST.nil)))) (AllST.cons (Still.func AllST.nil (AllST.cons (Still.fptr (AllST.cons tI (AllST.cons (qw qo _ (nl rfl)) (AllST.cons (qw qg _ (nl rfl)) AllST.nil)))) (AllST.cons (Still.fptr (AllST.cons tS (AllST.cons tI (AllST.cons tS (AllST.cons tI (AllST.cons tS (AllST.cons tS (AllST.cons tS AllST.nil)))))))) AllST.nil))) AllST.nil))))))) (FzL.cons (Fz.func FzL.nil FzL.nil) FzL.nil)) (qed N a b c d) tI)) az) ?_)
 refine Goes.ret ?_
 obtain rfl:=si h
 exact(gw2 [.i (w64 (1+e))] (Ub tI))
def qa7 (a:qa) (b:qb):Option Bool:=
 (qfd a b.Amount).bind fun c=>
 some c
theorem qeF (a:qa) (b:qb) {res:Bool} (h:qa7 a b=some res):qp ZT (.fn 117) [.fptr [.func (.func 137) [] [],.func (.func 138) [] []] 0,.fptr (.str a.lot.Name::(kB a.lot.Yarn a.lot.Dye a.lot.Stock a.known a.hold.Lot a.hold.Order a.hold.Reserved a.hold.Taken a.free)) 0,.fptr (kA b.Kind b.Day b.Lot b.Amount b.Yarn b.Dye b.Order) 0] [] (.bool res) []:=by
 unfold qa7 at h
 refine Uc Tryz.func117 rfl rfl (m:=10) rfl (rs:=[.tmp 3]) rfl (l:=[(0,.fptr [.func (.func 137) [] [],.func (.func 138) [] []] 0),(1,.fptr (.str a.lot.Name::(kB a.lot.Yarn a.lot.Dye a.lot.Stock a.known a.hold.Lot a.hold.Order a.hold.Reserved a.hold.Taken a.free)) 0),(2,.fptr (kA b.Kind b.Day b.Lot b.Amount b.Yarn b.Dye b.Order) 0)]) rfl ?_
 refine sh fol [(0,.fptr [.func (.func 137) [] [],.func (.func 138) [] []] 0),(1,.fptr (.str a.lot.Name::(kB a.lot.Yarn a.lot.Dye a.lot.Stock a.known a.hold.Lot a.hold.Order a.hold.Reserved a.hold.Taken a.free)) 0),(2,.fptr (kA b.Kind b.Day b.Lot b.Amount b.Yarn b.Dye b.Order) 0)] ?_
 obtain⟨d,c,h⟩:=bnd h
 refine sq (gr fol [5] (kA7 d) (ac (cv (qja a b.Amount c)) az) ?_)
 refine Goes.ret ?_
 obtain rfl:=si h
 exact(gw2 [.bool d] (Ub tB))
def qcT (a:qa) (b:qb):Option Bool:=
 (qa7 a b).bind fun c=>
 some (!c)
theorem qgH (a:qa) (b:qb) {res:Bool} (h:qcT a b=some res):qp ZT (.fn 177) [.func (.func 117) [] [.fptr [.func (.func 137) [] [],.func (.func 138) [] []] 0,.fptr (.str a.lot.Name::(kB a.lot.Yarn a.lot.Dye a.lot.Stock a.known a.hold.Lot a.hold.Order a.hold.Reserved a.hold.Taken a.free)) 0,.fptr (kA b.Kind b.Day b.Lot b.Amount b.Yarn b.Dye b.Order) 0]] [] (.bool res) []:=by
 unfold qcT at h
 refine Uc Tryz.func177 rfl rfl (m:=6) rfl (rs:=[.tmp 2]) rfl (l:=[(0,.func (.func 117) [] [.fptr [.func (.func 137) [] [],.func (.func 138) [] []] 0,.fptr (.str a.lot.Name::(kB a.lot.Yarn a.lot.Dye a.lot.Stock a.known a.hold.Lot a.hold.Order a.hold.Reserved a.hold.Taken a.free)) 0,.fptr (kA b.Kind b.Day b.Lot b.Amount b.Yarn b.Dye b.Order) 0])]) rfl ?_
 refine sh fol [(0,.func (.func 117) [] [.fptr [.func (.func 137) [] [],.func (.func 138) [] []] 0,.fptr (.str a.lot.Name::(kB a.lot.Yarn a.lot.Dye a.lot.Stock a.known a.hold.Lot a.hold.Order a.hold.Reserved a.hold.Taken a.free)) 0,.fptr (kA b.Kind b.Day b.Lot b.Amount b.Yarn b.Dye b.Order) 0])] ?_
 obtain⟨d,c,h⟩:=bnd h
 refine sq (gr fol [1] (kAc (!d)) (ac (hs (.call 117 [.fptr [.func (.func 137) [] [],.func (.func 138) [] []] 0,.fptr (.str a.lot.Name::(kB a.lot.Yarn a.lot.Dye a.lot.Stock a.known a.hold.Lot a.hold.Order a.hold.Reserved a.hold.Taken a.free)) 0,.fptr (kA b.Kind b.Day b.Lot b.Amount b.Yarn b.Dye b.Order) 0] [] [] [.fptr [.func (.func 137) [] [],.func (.func 138) [] []] 0,.fptr (.str a.lot.Name::(kB a.lot.Yarn a.lot.Dye a.lot.Stock a.known a.hold.Lot a.hold.Order a.hold.Reserved a.hold.Taken a.free)) 0,.fptr (kA b.Kind b.Day b.Lot b.Amount b.Yarn b.Dye b.Order) 0] (.bool d)) (zn (FzL.cons (Ua (Still.fptr (AllST.cons (Still.func AllST.nil AllST.nil) (AllST.cons (Still.func AllST.nil AllST.nil) AllST.nil)))) (FzL.cons (Ua (Still.fptr (AllST.cons tS (AllST.cons tS (AllST.cons tS (AllST.cons tI (AllST.cons tB (AllST.cons tS (AllST.cons tS (AllST.cons tI (AllST.cons tI (AllST.cons tI AllST.nil)))))))))))) (FzL.cons (Ua (Still.fptr (AllST.cons tS (AllST.cons tI (AllST.cons tS (AllST.cons tI (AllST.cons tS (AllST.cons tS (AllST.cons tS AllST.nil))))))))) FzL.nil))) (qeF a b c) tB)) az) ?_)
 refine Goes.ret ?_
 obtain rfl:=si h
 exact(gw2 [.bool (!d)] (Ub tB))
def qa6 (b:qa) (c:qb):Option Bool:=
 (qcn b c.Amount).bind fun a=>
 some (decide ((if a.hold.Taken>a.lot.Stock then a.hold.Taken else a.lot.Stock)<=999999999))
theorem qeS (a:qa) (b:qb) {res:Bool} (h:qa6 a b=some res):qp ZT (.fn 118) [.fptr [.func (.func 137) [] [],.func (.func 138) [] []] 0,.fptr (.str a.lot.Name::(kB a.lot.Yarn a.lot.Dye a.lot.Stock a.known a.hold.Lot a.hold.Order a.hold.Reserved a.hold.Taken a.free)) 0,.fptr (kA b.Kind b.Day b.Lot b.Amount b.Yarn b.Dye b.Order) 0] [] (.bool res) []:=by
 unfold qa6 at h
 refine Uc Tryz.func118 rfl rfl (m:=19) rfl (rs:=[.tmp 3]) rfl (l:=[(0,.fptr [.func (.func 137) [] [],.func (.func 138) [] []] 0),(1,.fptr (.str a.lot.Name::(kB a.lot.Yarn a.lot.Dye a.lot.Stock a.known a.hold.Lot a.hold.Order a.hold.Reserved a.hold.Taken a.free)) 0),(2,.fptr (kA b.Kind b.Day b.Lot b.Amount b.Yarn b.Dye b.Order) 0)]) rfl ?_
 refine sh fol [(0,.fptr [.func (.func 137) [] [],.func (.func 138) [] []] 0),(1,.fptr (.str a.lot.Name::(kB a.lot.Yarn a.lot.Dye a.lot.Stock a.known a.hold.Lot a.hold.Order a.hold.Reserved a.hold.Taken a.free)) 0),(2,.fptr (kA b.Kind b.Day b.Lot b.Amount b.Yarn b.Dye b.Order) 0)] ?_
 obtain⟨c,d,h⟩:=bnd h
 refine sq (gq fol [5] kA6 (kC c.lot.Name c.lot.Yarn c.lot.Dye c.lot.Stock c.known c.hold.Lot c.hold.Order c.hold.Reserved c.hold.Taken c.free []) (ac (cv (qfk a b.Amount d)) az) ?_)
 refine sh fol (kA7 (decide ((if c.hold.Taken>c.lot.Stock then c.hold.Taken else c.lot.Stock)<=999999999))) ?_
 refine Goes.ret ?_
 obtain rfl:=si h
 exact(gw2 [.bool (decide ((if c.hold.Taken>c.lot.Stock then c.hold.Taken else c.lot.Stock)<=999999999))] (Ub tB))
def qcV (a:qa) (b:qb):Option Bool:=
 (qa6 a b).bind fun c=>
 some (!c)
theorem qgN (a:qa) (b:qb) {res:Bool} (h:qcV a b=some res):qp ZT (.fn 177) [.func (.func 118) [] [.fptr [.func (.func 137) [] [],.func (.func 138) [] []] 0,.fptr (.str a.lot.Name::(kB a.lot.Yarn a.lot.Dye a.lot.Stock a.known a.hold.Lot a.hold.Order a.hold.Reserved a.hold.Taken a.free)) 0,.fptr (kA b.Kind b.Day b.Lot b.Amount b.Yarn b.Dye b.Order) 0]] [] (.bool res) []:=by
 unfold qcV at h
 refine Uc Tryz.func177 rfl rfl (m:=6) rfl (rs:=[.tmp 2]) rfl (l:=[(0,.func (.func 118) [] [.fptr [.func (.func 137) [] [],.func (.func 138) [] []] 0,.fptr (.str a.lot.Name::(kB a.lot.Yarn a.lot.Dye a.lot.Stock a.known a.hold.Lot a.hold.Order a.hold.Reserved a.hold.Taken a.free)) 0,.fptr (kA b.Kind b.Day b.Lot b.Amount b.Yarn b.Dye b.Order) 0])]) rfl ?_
 refine sh fol [(0,.func (.func 118) [] [.fptr [.func (.func 137) [] [],.func (.func 138) [] []] 0,.fptr (.str a.lot.Name::(kB a.lot.Yarn a.lot.Dye a.lot.Stock a.known a.hold.Lot a.hold.Order a.hold.Reserved a.hold.Taken a.free)) 0,.fptr (kA b.Kind b.Day b.Lot b.Amount b.Yarn b.Dye b.Order) 0])] ?_
 obtain⟨d,c,h⟩:=bnd h
 refine sq (gr fol [1] (kAc (!d)) (ac (hs (.call 118 [.fptr [.func (.func 137) [] [],.func (.func 138) [] []] 0,.fptr (.str a.lot.Name::(kB a.lot.Yarn a.lot.Dye a.lot.Stock a.known a.hold.Lot a.hold.Order a.hold.Reserved a.hold.Taken a.free)) 0,.fptr (kA b.Kind b.Day b.Lot b.Amount b.Yarn b.Dye b.Order) 0] [] [] [.fptr [.func (.func 137) [] [],.func (.func 138) [] []] 0,.fptr (.str a.lot.Name::(kB a.lot.Yarn a.lot.Dye a.lot.Stock a.known a.hold.Lot a.hold.Order a.hold.Reserved a.hold.Taken a.free)) 0,.fptr (kA b.Kind b.Day b.Lot b.Amount b.Yarn b.Dye b.Order) 0] (.bool d)) (zn (FzL.cons (Ua (Still.fptr (AllST.cons (Still.func AllST.nil AllST.nil) (AllST.cons (Still.func AllST.nil AllST.nil) AllST.nil)))) (FzL.cons (Ua (Still.fptr (AllST.cons tS (AllST.cons tS (AllST.cons tS (AllST.cons tI (AllST.cons tB (AllST.cons tS (AllST.cons tS (AllST.cons tI (AllST.cons tI (AllST.cons tI AllST.nil)))))))))))) (FzL.cons (Ua (Still.fptr (AllST.cons tS (AllST.cons tI (AllST.cons tS (AllST.cons tI (AllST.cons tS (AllST.cons tS (AllST.cons tS AllST.nil))))))))) FzL.nil))) (qeS a b c) tB)) az) ?_)
 refine Goes.ret ?_
 obtain rfl:=si h
 exact(gw2 [.bool (!d)] (Ub tB))
def zK (N:Nat) (a:qb) (d:StateT) (b:qa):Nat->Int->Option (Unit⊕Int)
 |0,_=>none
 |K+1,c=>
  if c<5 then
  (if c=0 then
  (jM a d).bind fun i=>
  some i
  else
  if c=1 then
  (zV a b).bind fun j=>
  some j
  else
  if c=2 then
  (qcT b a).bind fun e=>
  some e
  else
  if c=3 then
  (qcV b a).bind fun f=>
  some f
  else
  if c=4 then
  (jK N d a).bind fun g=>
  some g
  else
  none:Option Bool).bind fun h=>
  if h=true then
  some (.inr c)
  else
  zK N a d b K (w64 (c+1))
  else
  some (.inl ())
def y9 (N:Nat) (a:qb) (b:StateT) (c:qa):Option Int:=
 (zK N a b c N 0).bind (fun
 |(.inl ())=>
 some (-1)
 |(.inr d)=>
 some d)
theorem qee (N:Nat) (a:qb) (c:StateT) (b:qa) {res:Int} (h:y9 N a c b=some res):qp ZT (.fn 176) [.fslice 5 (qdK a c b),.func (.func 177) [] []] [] (.i res) []:=by
 unfold y9 at h
 refine Uc Tryz.func176 rfl rfl (m:=19) rfl (rs:=[.tmp 4]) rfl (l:=[(0,.fslice 5 (qdK a c b)),(1,.func (.func 177) [] [])]) rfl ?_
 refine sh fol [(0,.fslice 5 (qdK a c b)),(1,.func (.func 177) [] [])] ?_
 refine sq ?_
 refine sh fol ((0,.fslice 5 (qdK a c b))::(1,.func (.func 177) [] [])::kA8) ?_
 refine Goes.block ?_
 obtain⟨u,g2,h⟩:=bnd h
 refine Goes.imp (Q:=fun x s'=>(x= .exit 0/\(.inl ())=u/\Sub s' (ofG 19 [],[]))\/(x= .ret/\ ∃y,(.inr y)=u/\jF ZT [.tmp 4] (.i y) .ret s')) ?_ ?_
 ·refine Ud (fun M s=> ∃(e:Int),s=(ofG 19 ((0,.fslice 5 (qdK a c b))::(1,.func (.func 177) [] [])::(kAM e)),[])/\zK N a c b M e=some u) ?_ (m:=N) ⟨_,rfl,g2⟩
  rintro M s ⟨e,rfl,g2⟩
  cases M with
  |zero=>simp only[zK]at g2;cases g2
  |succ M=>
   rw[zK]at g2
   refine sh fol ((0,.fslice 5 (qdK a c b))::(1,.func (.func 177) [] [])::(7,.i 5)::(kAr e (decide (e<5)))) ?_
   refine sq ?_
   refine ihD g2 (fun E g2=>?_) (fun E g2=>?_)
   ·refine Goes.skip ?_
    refine sq (Goes.block ?_)
    refine sh fol ((0,.fslice 5 (qdK a c b))::(1,.func (.func 177) [] [])::(5,.i e)::(kAM e)) ?_
    refine sq ?_
    obtain⟨v,d,g2⟩:=bnd g2
    refine Goes.cut (s':=(ofG 19 ((0,.fslice 5 (qdK a c b))::(1,.func (.func 177) [] [])::(kM e v)),[])) ?_ ?_
    ·rcases wyD d with⟨z,d⟩|⟨z,d⟩
     ·obtain⟨A,k,d⟩:=bnd d
      obtain rfl:=si d
      exact tr fol [3,5] ((0,.fslice 5 (qdK a c b))::(1,.func (.func 177) [] [])::(kM e A)) (ac (hs (.done (.opt (qH ZT 221 (.fslice 5 (qdK a c b)) (.i e))) (.fptr [.func (.func 115) [] [.fptr (kA a.Kind a.Day a.Lot a.Amount a.Yarn a.Dye a.Order) 0,.fptr (kH c.Day c.Lots c.Holds) 0],.func (.func 116) [] [.fptr (kA a.Kind a.Day a.Lot a.Amount a.Yarn a.Dye a.Order) 0,.fptr (.str b.lot.Name::(kB b.lot.Yarn b.lot.Dye b.lot.Stock b.known b.hold.Lot b.hold.Order b.hold.Reserved b.hold.Taken b.free)) 0],.func (.func 117) [] [.fptr [.func (.func 137) [] [],.func (.func 138) [] []] 0,.fptr (.str b.lot.Name::(kB b.lot.Yarn b.lot.Dye b.lot.Stock b.known b.hold.Lot b.hold.Order b.hold.Reserved b.hold.Taken b.free)) 0,.fptr (kA a.Kind a.Day a.Lot a.Amount a.Yarn a.Dye a.Order) 0],.func (.func 118) [] [.fptr [.func (.func 137) [] [],.func (.func 138) [] []] 0,.fptr (.str b.lot.Name::(kB b.lot.Yarn b.lot.Dye b.lot.Stock b.known b.hold.Lot b.hold.Order b.hold.Reserved b.hold.Taken b.free)) 0,.fptr (kA a.Kind a.Day a.Lot a.Amount a.Yarn a.Dye a.Order) 0],.func (.func 119) [] [.fptr (kH c.Day c.Lots c.Holds) 0,.fptr (kA a.Kind a.Day a.Lot a.Amount a.Yarn a.Dye a.Order) 0]] 0)) (ixA (ot z) (by kernel_rfl))) (ac (hs (.call 177 [.func (.func 115) [] [.fptr (kA a.Kind a.Day a.Lot a.Amount a.Yarn a.Dye a.Order) 0,.fptr (kH c.Day c.Lots c.Holds) 0]] [] [] [.func (.func 115) [] [.fptr (kA a.Kind a.Day a.Lot a.Amount a.Yarn a.Dye a.Order) 0,.fptr (kH c.Day c.Lots c.Holds) 0]] (.bool A)) (zn (FzL.cons (Fz.func FzL.nil (FzL.cons (Ua (Still.fptr (AllST.cons tS (AllST.cons tI (AllST.cons tS (AllST.cons tI (AllST.cons tS (AllST.cons tS (AllST.cons tS AllST.nil))))))))) (FzL.cons (Ua (Still.fptr (AllST.cons tI (AllST.cons (qw qo _ (nl rfl)) (AllST.cons (qw qg _ (nl rfl)) AllST.nil))))) FzL.nil))) FzL.nil) (xw a c k) tB)) az))
     rcases wyD d with⟨B,d⟩|⟨B,d⟩
     ·obtain⟨C,n,d⟩:=bnd d
      obtain rfl:=si d
      exact tr fol [3,5] ((0,.fslice 5 (qdK a c b))::(1,.func (.func 177) [] [])::(kM e C)) (ac (hs (.done (.opt (qH ZT 221 (.fslice 5 (qdK a c b)) (.i e))) (.fptr [.func (.func 115) [] [.fptr (kA a.Kind a.Day a.Lot a.Amount a.Yarn a.Dye a.Order) 0,.fptr (kH c.Day c.Lots c.Holds) 0],.func (.func 116) [] [.fptr (kA a.Kind a.Day a.Lot a.Amount a.Yarn a.Dye a.Order) 0,.fptr (.str b.lot.Name::(kB b.lot.Yarn b.lot.Dye b.lot.Stock b.known b.hold.Lot b.hold.Order b.hold.Reserved b.hold.Taken b.free)) 0],.func (.func 117) [] [.fptr [.func (.func 137) [] [],.func (.func 138) [] []] 0,.fptr (.str b.lot.Name::(kB b.lot.Yarn b.lot.Dye b.lot.Stock b.known b.hold.Lot b.hold.Order b.hold.Reserved b.hold.Taken b.free)) 0,.fptr (kA a.Kind a.Day a.Lot a.Amount a.Yarn a.Dye a.Order) 0],.func (.func 118) [] [.fptr [.func (.func 137) [] [],.func (.func 138) [] []] 0,.fptr (.str b.lot.Name::(kB b.lot.Yarn b.lot.Dye b.lot.Stock b.known b.hold.Lot b.hold.Order b.hold.Reserved b.hold.Taken b.free)) 0,.fptr (kA a.Kind a.Day a.Lot a.Amount a.Yarn a.Dye a.Order) 0],.func (.func 119) [] [.fptr (kH c.Day c.Lots c.Holds) 0,.fptr (kA a.Kind a.Day a.Lot a.Amount a.Yarn a.Dye a.Order) 0]] 1)) (ixA (ot B) (by kernel_rfl))) (ac (hs (.call 177 [.func (.func 116) [] [.fptr (kA a.Kind a.Day a.Lot a.Amount a.Yarn a.Dye a.Order) 0,.fptr (.str b.lot.Name::(kB b.lot.Yarn b.lot.Dye b.lot.Stock b.known b.hold.Lot b.hold.Order b.hold.Reserved b.hold.Taken b.free)) 0]] [] [] [.func (.func 116) [] [.fptr (kA a.Kind a.Day a.Lot a.Amount a.Yarn a.Dye a.Order) 0,.fptr (.str b.lot.Name::(kB b.lot.Yarn b.lot.Dye b.lot.Stock b.known b.hold.Lot b.hold.Order b.hold.Reserved b.hold.Taken b.free)) 0]] (.bool C)) (zn (FzL.cons (Fz.func FzL.nil (FzL.cons (Ua (Still.fptr (AllST.cons tS (AllST.cons tI (AllST.cons tS (AllST.cons tI (AllST.cons tS (AllST.cons tS (AllST.cons tS AllST.nil))))))))) (FzL.cons (Ua (Still.fptr (AllST.cons tS (AllST.cons tS (AllST.cons tS (AllST.cons tI (AllST.cons tB (AllST.cons tS (AllST.cons tS (AllST.cons tI (AllST.cons tI (AllST.cons tI AllST.nil)))))))))))) FzL.nil))) FzL.nil) (xG a b n) tB)) az))
     rcases wyD d with⟨D,d⟩|⟨D,d⟩
     ·obtain⟨o,f,d⟩:=bnd d
      obtain rfl:=si d
      exact tr fol [3,5] ((0,.fslice 5 (qdK a c b))::(1,.func (.func 177) [] [])::(kM e o)) (ac (hs (.done (.opt (qH ZT 221 (.fslice 5 (qdK a c b)) (.i e))) (.fptr [.func (.func 115) [] [.fptr (kA a.Kind a.Day a.Lot a.Amount a.Yarn a.Dye a.Order) 0,.fptr (kH c.Day c.Lots c.Holds) 0],.func (.func 116) [] [.fptr (kA a.Kind a.Day a.Lot a.Amount a.Yarn a.Dye a.Order) 0,.fptr (.str b.lot.Name::(kB b.lot.Yarn b.lot.Dye b.lot.Stock b.known b.hold.Lot b.hold.Order b.hold.Reserved b.hold.Taken b.free)) 0],.func (.func 117) [] [.fptr [.func (.func 137) [] [],.func (.func 138) [] []] 0,.fptr (.str b.lot.Name::(kB b.lot.Yarn b.lot.Dye b.lot.Stock b.known b.hold.Lot b.hold.Order b.hold.Reserved b.hold.Taken b.free)) 0,.fptr (kA a.Kind a.Day a.Lot a.Amount a.Yarn a.Dye a.Order) 0],.func (.func 118) [] [.fptr [.func (.func 137) [] [],.func (.func 138) [] []] 0,.fptr (.str b.lot.Name::(kB b.lot.Yarn b.lot.Dye b.lot.Stock b.known b.hold.Lot b.hold.Order b.hold.Reserved b.hold.Taken b.free)) 0,.fptr (kA a.Kind a.Day a.Lot a.Amount a.Yarn a.Dye a.Order) 0],.func (.func 119) [] [.fptr (kH c.Day c.Lots c.Holds) 0,.fptr (kA a.Kind a.Day a.Lot a.Amount a.Yarn a.Dye a.Order) 0]] 2)) (ixA (ot D) (by kernel_rfl))) (ac (hs (.call 177 [.func (.func 117) [] [.fptr [.func (.func 137) [] [],.func (.func 138) [] []] 0,.fptr (.str b.lot.Name::(kB b.lot.Yarn b.lot.Dye b.lot.Stock b.known b.hold.Lot b.hold.Order b.hold.Reserved b.hold.Taken b.free)) 0,.fptr (kA a.Kind a.Day a.Lot a.Amount a.Yarn a.Dye a.Order) 0]] [] [] [.func (.func 117) [] [.fptr [.func (.func 137) [] [],.func (.func 138) [] []] 0,.fptr (.str b.lot.Name::(kB b.lot.Yarn b.lot.Dye b.lot.Stock b.known b.hold.Lot b.hold.Order b.hold.Reserved b.hold.Taken b.free)) 0,.fptr (kA a.Kind a.Day a.Lot a.Amount a.Yarn a.Dye a.Order) 0]] (.bool o)) (zn (FzL.cons (Fz.func FzL.nil (FzL.cons (Ua (Still.fptr (AllST.cons (Still.func AllST.nil AllST.nil) (AllST.cons (Still.func AllST.nil AllST.nil) AllST.nil)))) (FzL.cons (Ua (Still.fptr (AllST.cons tS (AllST.cons tS (AllST.cons tS (AllST.cons tI (AllST.cons tB (AllST.cons tS (AllST.cons tS (AllST.cons tI (AllST.cons tI (AllST.cons tI AllST.nil)))))))))))) (FzL.cons (Ua (Still.fptr (AllST.cons tS (AllST.cons tI (AllST.cons tS (AllST.cons tI (AllST.cons tS (AllST.cons tS (AllST.cons tS AllST.nil))))))))) FzL.nil)))) FzL.nil) (qgH b a f) tB)) az))
     rcases wyD d with⟨p,d⟩|⟨p,d⟩
     ·obtain⟨q,g,d⟩:=bnd d
      obtain rfl:=si d
      exact tr fol [3,5] ((0,.fslice 5 (qdK a c b))::(1,.func (.func 177) [] [])::(kM e q)) (ac (hs (.done (.opt (qH ZT 221 (.fslice 5 (qdK a c b)) (.i e))) (.fptr [.func (.func 115) [] [.fptr (kA a.Kind a.Day a.Lot a.Amount a.Yarn a.Dye a.Order) 0,.fptr (kH c.Day c.Lots c.Holds) 0],.func (.func 116) [] [.fptr (kA a.Kind a.Day a.Lot a.Amount a.Yarn a.Dye a.Order) 0,.fptr (.str b.lot.Name::(kB b.lot.Yarn b.lot.Dye b.lot.Stock b.known b.hold.Lot b.hold.Order b.hold.Reserved b.hold.Taken b.free)) 0],.func (.func 117) [] [.fptr [.func (.func 137) [] [],.func (.func 138) [] []] 0,.fptr (.str b.lot.Name::(kB b.lot.Yarn b.lot.Dye b.lot.Stock b.known b.hold.Lot b.hold.Order b.hold.Reserved b.hold.Taken b.free)) 0,.fptr (kA a.Kind a.Day a.Lot a.Amount a.Yarn a.Dye a.Order) 0],.func (.func 118) [] [.fptr [.func (.func 137) [] [],.func (.func 138) [] []] 0,.fptr (.str b.lot.Name::(kB b.lot.Yarn b.lot.Dye b.lot.Stock b.known b.hold.Lot b.hold.Order b.hold.Reserved b.hold.Taken b.free)) 0,.fptr (kA a.Kind a.Day a.Lot a.Amount a.Yarn a.Dye a.Order) 0],.func (.func 119) [] [.fptr (kH c.Day c.Lots c.Holds) 0,.fptr (kA a.Kind a.Day a.Lot a.Amount a.Yarn a.Dye a.Order) 0]] 3)) (ixA (ot p) (by kernel_rfl))) (ac (hs (.call 177 [.func (.func 118) [] [.fptr [.func (.func 137) [] [],.func (.func 138) [] []] 0,.fptr (.str b.lot.Name::(kB b.lot.Yarn b.lot.Dye b.lot.Stock b.known b.hold.Lot b.hold.Order b.hold.Reserved b.hold.Taken b.free)) 0,.fptr (kA a.Kind a.Day a.Lot a.Amount a.Yarn a.Dye a.Order) 0]] [] [] [.func (.func 118) [] [.fptr [.func (.func 137) [] [],.func (.func 138) [] []] 0,.fptr (.str b.lot.Name::(kB b.lot.Yarn b.lot.Dye b.lot.Stock b.known b.hold.Lot b.hold.Order b.hold.Reserved b.hold.Taken b.free)) 0,.fptr (kA a.Kind a.Day a.Lot a.Amount a.Yarn a.Dye a.Order) 0]] (.bool q)) (zn (FzL.cons (Fz.func FzL.nil (FzL.cons (Ua (Still.fptr (AllST.cons (Still.func AllST.nil AllST.nil) (AllST.cons (Still.func AllST.nil AllST.nil) AllST.nil)))) (FzL.cons (Ua (Still.fptr (AllST.cons tS (AllST.cons tS (AllST.cons tS (AllST.cons tI (AllST.cons tB (AllST.cons tS (AllST.cons tS (AllST.cons tI (AllST.cons tI (AllST.cons tI AllST.nil)))))))))))) (FzL.cons (Ua (Still.fptr (AllST.cons tS (AllST.cons tI (AllST.cons tS (AllST.cons tI (AllST.cons tS (AllST.cons tS (AllST.cons tS AllST.nil))))))))) FzL.nil)))) FzL.nil) (qgN b a g) tB)) az))
     rcases wyD d with⟨r,d⟩|⟨r,d⟩
     ·obtain⟨t,j,d⟩:=bnd d
      obtain rfl:=si d
      exact tr fol [3,5] ((0,.fslice 5 (qdK a c b))::(1,.func (.func 177) [] [])::(kM e t)) (ac (hs (.done (.opt (qH ZT 221 (.fslice 5 (qdK a c b)) (.i e))) (.fptr [.func (.func 115) [] [.fptr (kA a.Kind a.Day a.Lot a.Amount a.Yarn a.Dye a.Order) 0,.fptr (kH c.Day c.Lots c.Holds) 0],.func (.func 116) [] [.fptr (kA a.Kind a.Day a.Lot a.Amount a.Yarn a.Dye a.Order) 0,.fptr (.str b.lot.Name::(kB b.lot.Yarn b.lot.Dye b.lot.Stock b.known b.hold.Lot b.hold.Order b.hold.Reserved b.hold.Taken b.free)) 0],.func (.func 117) [] [.fptr [.func (.func 137) [] [],.func (.func 138) [] []] 0,.fptr (.str b.lot.Name::(kB b.lot.Yarn b.lot.Dye b.lot.Stock b.known b.hold.Lot b.hold.Order b.hold.Reserved b.hold.Taken b.free)) 0,.fptr (kA a.Kind a.Day a.Lot a.Amount a.Yarn a.Dye a.Order) 0],.func (.func 118) [] [.fptr [.func (.func 137) [] [],.func (.func 138) [] []] 0,.fptr (.str b.lot.Name::(kB b.lot.Yarn b.lot.Dye b.lot.Stock b.known b.hold.Lot b.hold.Order b.hold.Reserved b.hold.Taken b.free)) 0,.fptr (kA a.Kind a.Day a.Lot a.Amount a.Yarn a.Dye a.Order) 0],.func (.func 119) [] [.fptr (kH c.Day c.Lots c.Holds) 0,.fptr (kA a.Kind a.Day a.Lot a.Amount a.Yarn a.Dye a.Order) 0]] 4)) (ixA (ot r) (by kernel_rfl))) (ac (hs (.call 177 [.func (.func 119) [] [.fptr (kH c.Day c.Lots c.Holds) 0,.fptr (kA a.Kind a.Day a.Lot a.Amount a.Yarn a.Dye a.Order) 0]] [] [] [.func (.func 119) [] [.fptr (kH c.Day c.Lots c.Holds) 0,.fptr (kA a.Kind a.Day a.Lot a.Amount a.Yarn a.Dye a.Order) 0]] (.bool t)) (zn (FzL.cons (Fz.func FzL.nil (FzL.cons (Ua (Still.fptr (AllST.cons tI (AllST.cons (qw qo _ (nl rfl)) (AllST.cons (qw qg _ (nl rfl)) AllST.nil))))) (FzL.cons (Ua (Still.fptr (AllST.cons tS (AllST.cons tI (AllST.cons tS (AllST.cons tI (AllST.cons tS (AllST.cons tS (AllST.cons tS AllST.nil))))))))) FzL.nil))) FzL.nil) (xE N c a j) tB)) az))
     cases d
    refine ihB g2 (fun w g2=>?_) (fun w g2=>?_)
    ·refine sh fol (kA3 e) ?_
     refine Goes.ret ?_
     obtain rfl:=si g2
     exact Or.inr (⟨rfl,_,rfl,(gw2 [.i e] (Ub tI))⟩)
    refine Goes.skip ?_
    refine gh fol ((0,.fslice 5 (qdK a c b))::(1,.func (.func 177) [] [])::(kAM (w64 (e+1)))) ?_
    exact⟨M,(ofG 19 ((0,.fslice 5 (qdK a c b))::(1,.func (.func 177) [] [])::(kAM (w64 (e+1)))),[]),Nat.lt_succ_self _,(Sub.refl _),_,rfl,g2⟩
   refine Goes.exit ?_
   obtain rfl:=si g2
   exact Or.inl (⟨rfl,rfl,(Sub.keep [] rfl rfl)⟩)
 rintro x s' (⟨rfl,rfl,hsub⟩|⟨rfl,F,rfl,hret⟩)
 ·try dsimp only at h
  refine Goes.sub hsub ?_
  refine sh fol kA5 ?_
  refine Goes.ret ?_
  obtain rfl:=si h
  exact(gw2 [.i (-1)] (Ub tI))
 try dsimp only at h
 obtain rfl:=si h
 exact hret
def qcQ (N:Nat) (a:qb) (b:StateT) (c:qa):Option Int:=
 (y9 N a b c).bind fun d=>
 some (w64 (1+d))
theorem qig (N:Nat) (a:qb) (b:StateT) (c:qa) {res:Int} (h:qcQ N a b c=some res):qp ZT (.fn 114) [.fslice 5 (qdK a b c)] [] (.i res) []:=by
 unfold qcQ at h
 refine Uc Tryz.func114 rfl rfl (m:=6) rfl (rs:=[.tmp 2]) rfl (l:=[(0,.fslice 5 (qdK a b c))]) rfl ?_
 refine sh fol [(0,.fslice 5 (qdK a b c))] ?_
 obtain⟨e,d,h⟩:=bnd h
 refine sq (gr fol [1] (kA4 (w64 (1+e))) (ac (hs (.call 176 [.fslice 5 (qdK a b c),.func (.func 177) [] []] [] [] [.fslice 5 (qdK a b c),.func (.func 177) [] []] (.i e)) (zn (FzL.cons (Ua (Still.fslice (AllST.cons (Still.func AllST.nil (AllST.cons (Still.fptr (AllST.cons tS (AllST.cons tI (AllST.cons tS (AllST.cons tI (AllST.cons tS (AllST.cons tS (AllST.cons tS AllST.nil)))))))) (AllST.cons (Still.fptr (AllST.cons tI (AllST.cons (qw qo _ (nl rfl)) (AllST.cons (qw qg _ (nl rfl)) AllST.nil)))) AllST.nil))) (AllST.cons (Still.func AllST.nil (AllST.cons (Still.fptr (AllST.cons tS (AllST.cons tI (AllST.cons tS (AllST.cons tI (AllST.cons tS (AllST.cons tS (AllST.cons tS AllST.nil)))))))) (AllST.cons (Still.fptr (AllST.cons tS (AllST.cons tS (AllST.cons tS (AllST.cons tI (AllST.cons tB (AllST.cons tS (AllST.cons tS (AllST.cons tI (AllST.cons tI (AllST.cons tI AllST.nil))))))))))) AllST.nil))) (AllST.cons (Still.func AllST.nil (AllST.cons (Still.fptr (AllST.cons (Still.func AllST.nil AllST.nil) (AllST.cons (Still.func AllST.nil AllST.nil) AllST.nil))) (AllST.cons (Still.fptr (AllST.cons tS (AllST.cons tS (AllST.cons tS (AllST.cons tI (AllST.cons tB (AllST.cons tS (AllST.cons tS (AllST.cons tI (AllST.cons tI (AllST.cons tI AllST.nil))))))))))) (AllST.cons (Still.fptr (AllST.cons tS (AllST.cons tI (AllST.cons tS (AllST.cons tI (AllST.cons tS (AllST.cons tS (AllST.cons tS AllST.nil)))))))) AllST.nil)))) (AllST.cons (Still.func AllST.nil (AllST.cons (Still.fptr (AllST.cons (Still.func AllST.nil AllST.nil) (AllST.cons (Still.func AllST.nil AllST.nil) AllST.nil))) (AllST.cons (Still.fptr (AllST.cons tS (AllST.cons tS (AllST.cons tS (AllST.cons tI (AllST.cons tB (AllST.cons tS (AllST.cons tS (AllST.cons tI (AllST.cons tI (AllST.cons tI AllST.nil))))))))))) (AllST.cons (Still.fptr (AllST.cons tS (AllST.cons tI (AllST.cons tS (AllST.cons tI (AllST.cons tS (AllST.cons tS (AllST.cons tS AllST.nil)))))))) AllST.nil)))) (AllST.cons (Still.func AllST.nil (AllST.cons (Still.fptr (AllST.cons tI (AllST.cons (qw qo _ (nl rfl)) (AllST.cons (qw qg _ (nl rfl)) AllST.nil)))) (AllST.cons (Still.fptr (AllST.cons tS (AllST.cons tI (AllST.cons tS (AllST.cons tI (AllST.cons tS (AllST.cons tS (AllST.cons tS AllST.nil)))))))) AllST.nil))) AllST.nil))))))) (FzL.cons (Fz.func FzL.nil FzL.nil) FzL.nil)) (qee N a b c d) tI)) az) ?_)
 refine Goes.ret ?_
 obtain rfl:=si h
 exact(gw2 [.i (w64 (1+e))] (Ub tI))
def qa5 (a:qa) (b:qb):Option Bool:=
 (qfc a b.Amount).bind fun c=>
 some c
theorem qeU (a:qa) (b:qb) {res:Bool} (h:qa5 a b=some res):qp ZT (.fn 117) [.fptr [.func (.func 139) [] [],.func (.func 140) [] []] 0,.fptr (.str a.lot.Name::(kB a.lot.Yarn a.lot.Dye a.lot.Stock a.known a.hold.Lot a.hold.Order a.hold.Reserved a.hold.Taken a.free)) 0,.fptr (kA b.Kind b.Day b.Lot b.Amount b.Yarn b.Dye b.Order) 0] [] (.bool res) []:=by
 unfold qa5 at h
 refine Uc Tryz.func117 rfl rfl (m:=10) rfl (rs:=[.tmp 3]) rfl (l:=[(0,.fptr [.func (.func 139) [] [],.func (.func 140) [] []] 0),(1,.fptr (.str a.lot.Name::(kB a.lot.Yarn a.lot.Dye a.lot.Stock a.known a.hold.Lot a.hold.Order a.hold.Reserved a.hold.Taken a.free)) 0),(2,.fptr (kA b.Kind b.Day b.Lot b.Amount b.Yarn b.Dye b.Order) 0)]) rfl ?_
 refine sh fol [(0,.fptr [.func (.func 139) [] [],.func (.func 140) [] []] 0),(1,.fptr (.str a.lot.Name::(kB a.lot.Yarn a.lot.Dye a.lot.Stock a.known a.hold.Lot a.hold.Order a.hold.Reserved a.hold.Taken a.free)) 0),(2,.fptr (kA b.Kind b.Day b.Lot b.Amount b.Yarn b.Dye b.Order) 0)] ?_
 obtain⟨d,c,h⟩:=bnd h
 refine sq (gr fol [5] (kA7 d) (ac (cv (qi3 a b.Amount c)) az) ?_)
 refine Goes.ret ?_
 obtain rfl:=si h
 exact(gw2 [.bool d] (Ub tB))
def qcC (a:qa) (b:qb):Option Bool:=
 (qa5 a b).bind fun c=>
 some (!c)
theorem qgf (a:qa) (b:qb) {res:Bool} (h:qcC a b=some res):qp ZT (.fn 177) [.func (.func 117) [] [.fptr [.func (.func 139) [] [],.func (.func 140) [] []] 0,.fptr (.str a.lot.Name::(kB a.lot.Yarn a.lot.Dye a.lot.Stock a.known a.hold.Lot a.hold.Order a.hold.Reserved a.hold.Taken a.free)) 0,.fptr (kA b.Kind b.Day b.Lot b.Amount b.Yarn b.Dye b.Order) 0]] [] (.bool res) []:=by
 unfold qcC at h
 refine Uc Tryz.func177 rfl rfl (m:=6) rfl (rs:=[.tmp 2]) rfl (l:=[(0,.func (.func 117) [] [.fptr [.func (.func 139) [] [],.func (.func 140) [] []] 0,.fptr (.str a.lot.Name::(kB a.lot.Yarn a.lot.Dye a.lot.Stock a.known a.hold.Lot a.hold.Order a.hold.Reserved a.hold.Taken a.free)) 0,.fptr (kA b.Kind b.Day b.Lot b.Amount b.Yarn b.Dye b.Order) 0])]) rfl ?_
 refine sh fol [(0,.func (.func 117) [] [.fptr [.func (.func 139) [] [],.func (.func 140) [] []] 0,.fptr (.str a.lot.Name::(kB a.lot.Yarn a.lot.Dye a.lot.Stock a.known a.hold.Lot a.hold.Order a.hold.Reserved a.hold.Taken a.free)) 0,.fptr (kA b.Kind b.Day b.Lot b.Amount b.Yarn b.Dye b.Order) 0])] ?_
 obtain⟨d,c,h⟩:=bnd h
 refine sq (gr fol [1] (kAc (!d)) (ac (hs (.call 117 [.fptr [.func (.func 139) [] [],.func (.func 140) [] []] 0,.fptr (.str a.lot.Name::(kB a.lot.Yarn a.lot.Dye a.lot.Stock a.known a.hold.Lot a.hold.Order a.hold.Reserved a.hold.Taken a.free)) 0,.fptr (kA b.Kind b.Day b.Lot b.Amount b.Yarn b.Dye b.Order) 0] [] [] [.fptr [.func (.func 139) [] [],.func (.func 140) [] []] 0,.fptr (.str a.lot.Name::(kB a.lot.Yarn a.lot.Dye a.lot.Stock a.known a.hold.Lot a.hold.Order a.hold.Reserved a.hold.Taken a.free)) 0,.fptr (kA b.Kind b.Day b.Lot b.Amount b.Yarn b.Dye b.Order) 0] (.bool d)) (zn (FzL.cons (Ua (Still.fptr (AllST.cons (Still.func AllST.nil AllST.nil) (AllST.cons (Still.func AllST.nil AllST.nil) AllST.nil)))) (FzL.cons (Ua (Still.fptr (AllST.cons tS (AllST.cons tS (AllST.cons tS (AllST.cons tI (AllST.cons tB (AllST.cons tS (AllST.cons tS (AllST.cons tI (AllST.cons tI (AllST.cons tI AllST.nil)))))))))))) (FzL.cons (Ua (Still.fptr (AllST.cons tS (AllST.cons tI (AllST.cons tS (AllST.cons tI (AllST.cons tS (AllST.cons tS (AllST.cons tS AllST.nil))))))))) FzL.nil))) (qeU a b c) tB)) az) ?_)
 refine Goes.ret ?_
 obtain rfl:=si h
 exact(gw2 [.bool (!d)] (Ub tB))
def qbd (b:qa) (c:qb):Option Bool:=
 (qem b c.Amount).bind fun a=>
 some (decide ((if a.hold.Taken>a.lot.Stock then a.hold.Taken else a.lot.Stock)<=999999999))
theorem qeR (a:qa) (b:qb) {res:Bool} (h:qbd a b=some res):qp ZT (.fn 118) [.fptr [.func (.func 139) [] [],.func (.func 140) [] []] 0,.fptr (.str a.lot.Name::(kB a.lot.Yarn a.lot.Dye a.lot.Stock a.known a.hold.Lot a.hold.Order a.hold.Reserved a.hold.Taken a.free)) 0,.fptr (kA b.Kind b.Day b.Lot b.Amount b.Yarn b.Dye b.Order) 0] [] (.bool res) []:=by
 unfold qbd at h
 refine Uc Tryz.func118 rfl rfl (m:=19) rfl (rs:=[.tmp 3]) rfl (l:=[(0,.fptr [.func (.func 139) [] [],.func (.func 140) [] []] 0),(1,.fptr (.str a.lot.Name::(kB a.lot.Yarn a.lot.Dye a.lot.Stock a.known a.hold.Lot a.hold.Order a.hold.Reserved a.hold.Taken a.free)) 0),(2,.fptr (kA b.Kind b.Day b.Lot b.Amount b.Yarn b.Dye b.Order) 0)]) rfl ?_
 refine sh fol [(0,.fptr [.func (.func 139) [] [],.func (.func 140) [] []] 0),(1,.fptr (.str a.lot.Name::(kB a.lot.Yarn a.lot.Dye a.lot.Stock a.known a.hold.Lot a.hold.Order a.hold.Reserved a.hold.Taken a.free)) 0),(2,.fptr (kA b.Kind b.Day b.Lot b.Amount b.Yarn b.Dye b.Order) 0)] ?_
 obtain⟨c,d,h⟩:=bnd h
 refine sq (gq fol [5] kA6 (kC c.lot.Name c.lot.Yarn c.lot.Dye c.lot.Stock c.known c.hold.Lot c.hold.Order c.hold.Reserved c.hold.Taken c.free []) (ac (cv (qhv a b.Amount d)) az) ?_)
 refine sh fol (kA7 (decide ((if c.hold.Taken>c.lot.Stock then c.hold.Taken else c.lot.Stock)<=999999999))) ?_
 refine Goes.ret ?_
 obtain rfl:=si h
 exact(gw2 [.bool (decide ((if c.hold.Taken>c.lot.Stock then c.hold.Taken else c.lot.Stock)<=999999999))] (Ub tB))
def qcw (a:qa) (b:qb):Option Bool:=
 (qbd a b).bind fun c=>
 some (!c)
theorem qgg (a:qa) (b:qb) {res:Bool} (h:qcw a b=some res):qp ZT (.fn 177) [.func (.func 118) [] [.fptr [.func (.func 139) [] [],.func (.func 140) [] []] 0,.fptr (.str a.lot.Name::(kB a.lot.Yarn a.lot.Dye a.lot.Stock a.known a.hold.Lot a.hold.Order a.hold.Reserved a.hold.Taken a.free)) 0,.fptr (kA b.Kind b.Day b.Lot b.Amount b.Yarn b.Dye b.Order) 0]] [] (.bool res) []:=by
 unfold qcw at h
 refine Uc Tryz.func177 rfl rfl (m:=6) rfl (rs:=[.tmp 2]) rfl (l:=[(0,.func (.func 118) [] [.fptr [.func (.func 139) [] [],.func (.func 140) [] []] 0,.fptr (.str a.lot.Name::(kB a.lot.Yarn a.lot.Dye a.lot.Stock a.known a.hold.Lot a.hold.Order a.hold.Reserved a.hold.Taken a.free)) 0,.fptr (kA b.Kind b.Day b.Lot b.Amount b.Yarn b.Dye b.Order) 0])]) rfl ?_
 refine sh fol [(0,.func (.func 118) [] [.fptr [.func (.func 139) [] [],.func (.func 140) [] []] 0,.fptr (.str a.lot.Name::(kB a.lot.Yarn a.lot.Dye a.lot.Stock a.known a.hold.Lot a.hold.Order a.hold.Reserved a.hold.Taken a.free)) 0,.fptr (kA b.Kind b.Day b.Lot b.Amount b.Yarn b.Dye b.Order) 0])] ?_
 obtain⟨d,c,h⟩:=bnd h
 refine sq (gr fol [1] (kAc (!d)) (ac (hs (.call 118 [.fptr [.func (.func 139) [] [],.func (.func 140) [] []] 0,.fptr (.str a.lot.Name::(kB a.lot.Yarn a.lot.Dye a.lot.Stock a.known a.hold.Lot a.hold.Order a.hold.Reserved a.hold.Taken a.free)) 0,.fptr (kA b.Kind b.Day b.Lot b.Amount b.Yarn b.Dye b.Order) 0] [] [] [.fptr [.func (.func 139) [] [],.func (.func 140) [] []] 0,.fptr (.str a.lot.Name::(kB a.lot.Yarn a.lot.Dye a.lot.Stock a.known a.hold.Lot a.hold.Order a.hold.Reserved a.hold.Taken a.free)) 0,.fptr (kA b.Kind b.Day b.Lot b.Amount b.Yarn b.Dye b.Order) 0] (.bool d)) (zn (FzL.cons (Ua (Still.fptr (AllST.cons (Still.func AllST.nil AllST.nil) (AllST.cons (Still.func AllST.nil AllST.nil) AllST.nil)))) (FzL.cons (Ua (Still.fptr (AllST.cons tS (AllST.cons tS (AllST.cons tS (AllST.cons tI (AllST.cons tB (AllST.cons tS (AllST.cons tS (AllST.cons tI (AllST.cons tI (AllST.cons tI AllST.nil)))))))))))) (FzL.cons (Ua (Still.fptr (AllST.cons tS (AllST.cons tI (AllST.cons tS (AllST.cons tI (AllST.cons tS (AllST.cons tS (AllST.cons tS AllST.nil))))))))) FzL.nil))) (qeR a b c) tB)) az) ?_)
 refine Goes.ret ?_
 obtain rfl:=si h
 exact(gw2 [.bool (!d)] (Ub tB))
def zM (N:Nat) (a:qb) (d:StateT) (b:qa):Nat->Int->Option (Unit⊕Int)
 |0,_=>none
 |K+1,c=>
  if c<5 then
  (if c=0 then
  (jM a d).bind fun i=>
  some i
  else
  if c=1 then
  (zV a b).bind fun j=>
  some j
  else
  if c=2 then
  (qcC b a).bind fun e=>
  some e
  else
  if c=3 then
  (qcw b a).bind fun f=>
  some f
  else
  if c=4 then
  (jK N d a).bind fun g=>
  some g
  else
  none:Option Bool).bind fun h=>
  if h=true then
  some (.inr c)
  else
  zM N a d b K (w64 (c+1))
  else
  some (.inl ())
def xn (N:Nat) (a:qb) (b:StateT) (c:qa):Option Int:=
 (zM N a b c N 0).bind (fun
 |(.inl ())=>
 some (-1)
 |(.inr d)=>
 some d)
theorem qd2 (N:Nat) (a:qb) (c:StateT) (b:qa) {res:Int} (h:xn N a c b=some res):qp ZT (.fn 176) [.fslice 5 (qdI a c b),.func (.func 177) [] []] [] (.i res) []:=by
 unfold xn at h
 refine Uc Tryz.func176 rfl rfl (m:=19) rfl (rs:=[.tmp 4]) rfl (l:=[(0,.fslice 5 (qdI a c b)),(1,.func (.func 177) [] [])]) rfl ?_
 refine sh fol [(0,.fslice 5 (qdI a c b)),(1,.func (.func 177) [] [])] ?_
 refine sq ?_
 refine sh fol ((0,.fslice 5 (qdI a c b))::(1,.func (.func 177) [] [])::kA8) ?_
 refine Goes.block ?_
 obtain⟨u,g2,h⟩:=bnd h
 refine Goes.imp (Q:=fun x s'=>(x= .exit 0/\(.inl ())=u/\Sub s' (ofG 19 [],[]))\/(x= .ret/\ ∃y,(.inr y)=u/\jF ZT [.tmp 4] (.i y) .ret s')) ?_ ?_
 ·refine Ud (fun M s=> ∃(e:Int),s=(ofG 19 ((0,.fslice 5 (qdI a c b))::(1,.func (.func 177) [] [])::(kAM e)),[])/\zM N a c b M e=some u) ?_ (m:=N) ⟨_,rfl,g2⟩
  rintro M s ⟨e,rfl,g2⟩
  cases M with
  |zero=>simp only[zM]at g2;cases g2
  |succ M=>
   rw[zM]at g2
   refine sh fol ((0,.fslice 5 (qdI a c b))::(1,.func (.func 177) [] [])::(7,.i 5)::(kAr e (decide (e<5)))) ?_
   refine sq ?_
   refine ihD g2 (fun E g2=>?_) (fun E g2=>?_)
   ·refine Goes.skip ?_
    refine sq (Goes.block ?_)
    refine sh fol ((0,.fslice 5 (qdI a c b))::(1,.func (.func 177) [] [])::(5,.i e)::(kAM e)) ?_
    refine sq ?_
    obtain⟨v,d,g2⟩:=bnd g2
    refine Goes.cut (s':=(ofG 19 ((0,.fslice 5 (qdI a c b))::(1,.func (.func 177) [] [])::(kM e v)),[])) ?_ ?_
    ·rcases wyD d with⟨z,d⟩|⟨z,d⟩
     ·obtain⟨A,k,d⟩:=bnd d
      obtain rfl:=si d
      exact tr fol [3,5] ((0,.fslice 5 (qdI a c b))::(1,.func (.func 177) [] [])::(kM e A)) (ac (hs (.done (.opt (qH ZT 221 (.fslice 5 (qdI a c b)) (.i e))) (.fptr [.func (.func 115) [] [.fptr (kA a.Kind a.Day a.Lot a.Amount a.Yarn a.Dye a.Order) 0,.fptr (kH c.Day c.Lots c.Holds) 0],.func (.func 116) [] [.fptr (kA a.Kind a.Day a.Lot a.Amount a.Yarn a.Dye a.Order) 0,.fptr (.str b.lot.Name::(kB b.lot.Yarn b.lot.Dye b.lot.Stock b.known b.hold.Lot b.hold.Order b.hold.Reserved b.hold.Taken b.free)) 0],.func (.func 117) [] [.fptr [.func (.func 139) [] [],.func (.func 140) [] []] 0,.fptr (.str b.lot.Name::(kB b.lot.Yarn b.lot.Dye b.lot.Stock b.known b.hold.Lot b.hold.Order b.hold.Reserved b.hold.Taken b.free)) 0,.fptr (kA a.Kind a.Day a.Lot a.Amount a.Yarn a.Dye a.Order) 0],.func (.func 118) [] [.fptr [.func (.func 139) [] [],.func (.func 140) [] []] 0,.fptr (.str b.lot.Name::(kB b.lot.Yarn b.lot.Dye b.lot.Stock b.known b.hold.Lot b.hold.Order b.hold.Reserved b.hold.Taken b.free)) 0,.fptr (kA a.Kind a.Day a.Lot a.Amount a.Yarn a.Dye a.Order) 0],.func (.func 119) [] [.fptr (kH c.Day c.Lots c.Holds) 0,.fptr (kA a.Kind a.Day a.Lot a.Amount a.Yarn a.Dye a.Order) 0]] 0)) (ixA (ot z) (by kernel_rfl))) (ac (hs (.call 177 [.func (.func 115) [] [.fptr (kA a.Kind a.Day a.Lot a.Amount a.Yarn a.Dye a.Order) 0,.fptr (kH c.Day c.Lots c.Holds) 0]] [] [] [.func (.func 115) [] [.fptr (kA a.Kind a.Day a.Lot a.Amount a.Yarn a.Dye a.Order) 0,.fptr (kH c.Day c.Lots c.Holds) 0]] (.bool A)) (zn (FzL.cons (Fz.func FzL.nil (FzL.cons (Ua (Still.fptr (AllST.cons tS (AllST.cons tI (AllST.cons tS (AllST.cons tI (AllST.cons tS (AllST.cons tS (AllST.cons tS AllST.nil))))))))) (FzL.cons (Ua (Still.fptr (AllST.cons tI (AllST.cons (qw qo _ (nl rfl)) (AllST.cons (qw qg _ (nl rfl)) AllST.nil))))) FzL.nil))) FzL.nil) (xw a c k) tB)) az))
     rcases wyD d with⟨B,d⟩|⟨B,d⟩
     ·obtain⟨C,n,d⟩:=bnd d
      obtain rfl:=si d
      exact tr fol [3,5] ((0,.fslice 5 (qdI a c b))::(1,.func (.func 177) [] [])::(kM e C)) (ac (hs (.done (.opt (qH ZT 221 (.fslice 5 (qdI a c b)) (.i e))) (.fptr [.func (.func 115) [] [.fptr (kA a.Kind a.Day a.Lot a.Amount a.Yarn a.Dye a.Order) 0,.fptr (kH c.Day c.Lots c.Holds) 0],.func (.func 116) [] [.fptr (kA a.Kind a.Day a.Lot a.Amount a.Yarn a.Dye a.Order) 0,.fptr (.str b.lot.Name::(kB b.lot.Yarn b.lot.Dye b.lot.Stock b.known b.hold.Lot b.hold.Order b.hold.Reserved b.hold.Taken b.free)) 0],.func (.func 117) [] [.fptr [.func (.func 139) [] [],.func (.func 140) [] []] 0,.fptr (.str b.lot.Name::(kB b.lot.Yarn b.lot.Dye b.lot.Stock b.known b.hold.Lot b.hold.Order b.hold.Reserved b.hold.Taken b.free)) 0,.fptr (kA a.Kind a.Day a.Lot a.Amount a.Yarn a.Dye a.Order) 0],.func (.func 118) [] [.fptr [.func (.func 139) [] [],.func (.func 140) [] []] 0,.fptr (.str b.lot.Name::(kB b.lot.Yarn b.lot.Dye b.lot.Stock b.known b.hold.Lot b.hold.Order b.hold.Reserved b.hold.Taken b.free)) 0,.fptr (kA a.Kind a.Day a.Lot a.Amount a.Yarn a.Dye a.Order) 0],.func (.func 119) [] [.fptr (kH c.Day c.Lots c.Holds) 0,.fptr (kA a.Kind a.Day a.Lot a.Amount a.Yarn a.Dye a.Order) 0]] 1)) (ixA (ot B) (by kernel_rfl))) (ac (hs (.call 177 [.func (.func 116) [] [.fptr (kA a.Kind a.Day a.Lot a.Amount a.Yarn a.Dye a.Order) 0,.fptr (.str b.lot.Name::(kB b.lot.Yarn b.lot.Dye b.lot.Stock b.known b.hold.Lot b.hold.Order b.hold.Reserved b.hold.Taken b.free)) 0]] [] [] [.func (.func 116) [] [.fptr (kA a.Kind a.Day a.Lot a.Amount a.Yarn a.Dye a.Order) 0,.fptr (.str b.lot.Name::(kB b.lot.Yarn b.lot.Dye b.lot.Stock b.known b.hold.Lot b.hold.Order b.hold.Reserved b.hold.Taken b.free)) 0]] (.bool C)) (zn (FzL.cons (Fz.func FzL.nil (FzL.cons (Ua (Still.fptr (AllST.cons tS (AllST.cons tI (AllST.cons tS (AllST.cons tI (AllST.cons tS (AllST.cons tS (AllST.cons tS AllST.nil))))))))) (FzL.cons (Ua (Still.fptr (AllST.cons tS (AllST.cons tS (AllST.cons tS (AllST.cons tI (AllST.cons tB (AllST.cons tS (AllST.cons tS (AllST.cons tI (AllST.cons tI (AllST.cons tI AllST.nil)))))))))))) FzL.nil))) FzL.nil) (xG a b n) tB)) az))
     rcases wyD d with⟨D,d⟩|⟨D,d⟩
     ·obtain⟨o,f,d⟩:=bnd d
      obtain rfl:=si d
      exact tr fol [3,5] ((0,.fslice 5 (qdI a c b))::(1,.func (.func 177) [] [])::(kM e o)) (ac (hs (.done (.opt (qH ZT 221 (.fslice 5 (qdI a c b)) (.i e))) (.fptr [.func (.func 115) [] [.fptr (kA a.Kind a.Day a.Lot a.Amount a.Yarn a.Dye a.Order) 0,.fptr (kH c.Day c.Lots c.Holds) 0],.func (.func 116) [] [.fptr (kA a.Kind a.Day a.Lot a.Amount a.Yarn a.Dye a.Order) 0,.fptr (.str b.lot.Name::(kB b.lot.Yarn b.lot.Dye b.lot.Stock b.known b.hold.Lot b.hold.Order b.hold.Reserved b.hold.Taken b.free)) 0],.func (.func 117) [] [.fptr [.func (.func 139) [] [],.func (.func 140) [] []] 0,.fptr (.str b.lot.Name::(kB b.lot.Yarn b.lot.Dye b.lot.Stock b.known b.hold.Lot b.hold.Order b.hold.Reserved b.hold.Taken b.free)) 0,.fptr (kA a.Kind a.Day a.Lot a.Amount a.Yarn a.Dye a.Order) 0],.func (.func 118) [] [.fptr [.func (.func 139) [] [],.func (.func 140) [] []] 0,.fptr (.str b.lot.Name::(kB b.lot.Yarn b.lot.Dye b.lot.Stock b.known b.hold.Lot b.hold.Order b.hold.Reserved b.hold.Taken b.free)) 0,.fptr (kA a.Kind a.Day a.Lot a.Amount a.Yarn a.Dye a.Order) 0],.func (.func 119) [] [.fptr (kH c.Day c.Lots c.Holds) 0,.fptr (kA a.Kind a.Day a.Lot a.Amount a.Yarn a.Dye a.Order) 0]] 2)) (ixA (ot D) (by kernel_rfl))) (ac (hs (.call 177 [.func (.func 117) [] [.fptr [.func (.func 139) [] [],.func (.func 140) [] []] 0,.fptr (.str b.lot.Name::(kB b.lot.Yarn b.lot.Dye b.lot.Stock b.known b.hold.Lot b.hold.Order b.hold.Reserved b.hold.Taken b.free)) 0,.fptr (kA a.Kind a.Day a.Lot a.Amount a.Yarn a.Dye a.Order) 0]] [] [] [.func (.func 117) [] [.fptr [.func (.func 139) [] [],.func (.func 140) [] []] 0,.fptr (.str b.lot.Name::(kB b.lot.Yarn b.lot.Dye b.lot.Stock b.known b.hold.Lot b.hold.Order b.hold.Reserved b.hold.Taken b.free)) 0,.fptr (kA a.Kind a.Day a.Lot a.Amount a.Yarn a.Dye a.Order) 0]] (.bool o)) (zn (FzL.cons (Fz.func FzL.nil (FzL.cons (Ua (Still.fptr (AllST.cons (Still.func AllST.nil AllST.nil) (AllST.cons (Still.func AllST.nil AllST.nil) AllST.nil)))) (FzL.cons (Ua (Still.fptr (AllST.cons tS (AllST.cons tS (AllST.cons tS (AllST.cons tI (AllST.cons tB (AllST.cons tS (AllST.cons tS (AllST.cons tI (AllST.cons tI (AllST.cons tI AllST.nil)))))))))))) (FzL.cons (Ua (Still.fptr (AllST.cons tS (AllST.cons tI (AllST.cons tS (AllST.cons tI (AllST.cons tS (AllST.cons tS (AllST.cons tS AllST.nil))))))))) FzL.nil)))) FzL.nil) (qgf b a f) tB)) az))
     rcases wyD d with⟨p,d⟩|⟨p,d⟩
     ·obtain⟨q,g,d⟩:=bnd d
      obtain rfl:=si d
      exact tr fol [3,5] ((0,.fslice 5 (qdI a c b))::(1,.func (.func 177) [] [])::(kM e q)) (ac (hs (.done (.opt (qH ZT 221 (.fslice 5 (qdI a c b)) (.i e))) (.fptr [.func (.func 115) [] [.fptr (kA a.Kind a.Day a.Lot a.Amount a.Yarn a.Dye a.Order) 0,.fptr (kH c.Day c.Lots c.Holds) 0],.func (.func 116) [] [.fptr (kA a.Kind a.Day a.Lot a.Amount a.Yarn a.Dye a.Order) 0,.fptr (.str b.lot.Name::(kB b.lot.Yarn b.lot.Dye b.lot.Stock b.known b.hold.Lot b.hold.Order b.hold.Reserved b.hold.Taken b.free)) 0],.func (.func 117) [] [.fptr [.func (.func 139) [] [],.func (.func 140) [] []] 0,.fptr (.str b.lot.Name::(kB b.lot.Yarn b.lot.Dye b.lot.Stock b.known b.hold.Lot b.hold.Order b.hold.Reserved b.hold.Taken b.free)) 0,.fptr (kA a.Kind a.Day a.Lot a.Amount a.Yarn a.Dye a.Order) 0],.func (.func 118) [] [.fptr [.func (.func 139) [] [],.func (.func 140) [] []] 0,.fptr (.str b.lot.Name::(kB b.lot.Yarn b.lot.Dye b.lot.Stock b.known b.hold.Lot b.hold.Order b.hold.Reserved b.hold.Taken b.free)) 0,.fptr (kA a.Kind a.Day a.Lot a.Amount a.Yarn a.Dye a.Order) 0],.func (.func 119) [] [.fptr (kH c.Day c.Lots c.Holds) 0,.fptr (kA a.Kind a.Day a.Lot a.Amount a.Yarn a.Dye a.Order) 0]] 3)) (ixA (ot p) (by kernel_rfl))) (ac (hs (.call 177 [.func (.func 118) [] [.fptr [.func (.func 139) [] [],.func (.func 140) [] []] 0,.fptr (.str b.lot.Name::(kB b.lot.Yarn b.lot.Dye b.lot.Stock b.known b.hold.Lot b.hold.Order b.hold.Reserved b.hold.Taken b.free)) 0,.fptr (kA a.Kind a.Day a.Lot a.Amount a.Yarn a.Dye a.Order) 0]] [] [] [.func (.func 118) [] [.fptr [.func (.func 139) [] [],.func (.func 140) [] []] 0,.fptr (.str b.lot.Name::(kB b.lot.Yarn b.lot.Dye b.lot.Stock b.known b.hold.Lot b.hold.Order b.hold.Reserved b.hold.Taken b.free)) 0,.fptr (kA a.Kind a.Day a.Lot a.Amount a.Yarn a.Dye a.Order) 0]] (.bool q)) (zn (FzL.cons (Fz.func FzL.nil (FzL.cons (Ua (Still.fptr (AllST.cons (Still.func AllST.nil AllST.nil) (AllST.cons (Still.func AllST.nil AllST.nil) AllST.nil)))) (FzL.cons (Ua (Still.fptr (AllST.cons tS (AllST.cons tS (AllST.cons tS (AllST.cons tI (AllST.cons tB (AllST.cons tS (AllST.cons tS (AllST.cons tI (AllST.cons tI (AllST.cons tI AllST.nil)))))))))))) (FzL.cons (Ua (Still.fptr (AllST.cons tS (AllST.cons tI (AllST.cons tS (AllST.cons tI (AllST.cons tS (AllST.cons tS (AllST.cons tS AllST.nil))))))))) FzL.nil)))) FzL.nil) (qgg b a g) tB)) az))
     rcases wyD d with⟨r,d⟩|⟨r,d⟩
     ·obtain⟨t,j,d⟩:=bnd d
      obtain rfl:=si d
      exact tr fol [3,5] ((0,.fslice 5 (qdI a c b))::(1,.func (.func 177) [] [])::(kM e t)) (ac (hs (.done (.opt (qH ZT 221 (.fslice 5 (qdI a c b)) (.i e))) (.fptr [.func (.func 115) [] [.fptr (kA a.Kind a.Day a.Lot a.Amount a.Yarn a.Dye a.Order) 0,.fptr (kH c.Day c.Lots c.Holds) 0],.func (.func 116) [] [.fptr (kA a.Kind a.Day a.Lot a.Amount a.Yarn a.Dye a.Order) 0,.fptr (.str b.lot.Name::(kB b.lot.Yarn b.lot.Dye b.lot.Stock b.known b.hold.Lot b.hold.Order b.hold.Reserved b.hold.Taken b.free)) 0],.func (.func 117) [] [.fptr [.func (.func 139) [] [],.func (.func 140) [] []] 0,.fptr (.str b.lot.Name::(kB b.lot.Yarn b.lot.Dye b.lot.Stock b.known b.hold.Lot b.hold.Order b.hold.Reserved b.hold.Taken b.free)) 0,.fptr (kA a.Kind a.Day a.Lot a.Amount a.Yarn a.Dye a.Order) 0],.func (.func 118) [] [.fptr [.func (.func 139) [] [],.func (.func 140) [] []] 0,.fptr (.str b.lot.Name::(kB b.lot.Yarn b.lot.Dye b.lot.Stock b.known b.hold.Lot b.hold.Order b.hold.Reserved b.hold.Taken b.free)) 0,.fptr (kA a.Kind a.Day a.Lot a.Amount a.Yarn a.Dye a.Order) 0],.func (.func 119) [] [.fptr (kH c.Day c.Lots c.Holds) 0,.fptr (kA a.Kind a.Day a.Lot a.Amount a.Yarn a.Dye a.Order) 0]] 4)) (ixA (ot r) (by kernel_rfl))) (ac (hs (.call 177 [.func (.func 119) [] [.fptr (kH c.Day c.Lots c.Holds) 0,.fptr (kA a.Kind a.Day a.Lot a.Amount a.Yarn a.Dye a.Order) 0]] [] [] [.func (.func 119) [] [.fptr (kH c.Day c.Lots c.Holds) 0,.fptr (kA a.Kind a.Day a.Lot a.Amount a.Yarn a.Dye a.Order) 0]] (.bool t)) (zn (FzL.cons (Fz.func FzL.nil (FzL.cons (Ua (Still.fptr (AllST.cons tI (AllST.cons (qw qo _ (nl rfl)) (AllST.cons (qw qg _ (nl rfl)) AllST.nil))))) (FzL.cons (Ua (Still.fptr (AllST.cons tS (AllST.cons tI (AllST.cons tS (AllST.cons tI (AllST.cons tS (AllST.cons tS (AllST.cons tS AllST.nil))))))))) FzL.nil))) FzL.nil) (xE N c a j) tB)) az))
     cases d
    refine ihB g2 (fun w g2=>?_) (fun w g2=>?_)
    ·refine sh fol (kA3 e) ?_
     refine Goes.ret ?_
     obtain rfl:=si g2
     exact Or.inr (⟨rfl,_,rfl,(gw2 [.i e] (Ub tI))⟩)
    refine Goes.skip ?_
    refine gh fol ((0,.fslice 5 (qdI a c b))::(1,.func (.func 177) [] [])::(kAM (w64 (e+1)))) ?_
    exact⟨M,(ofG 19 ((0,.fslice 5 (qdI a c b))::(1,.func (.func 177) [] [])::(kAM (w64 (e+1)))),[]),Nat.lt_succ_self _,(Sub.refl _),_,rfl,g2⟩
   refine Goes.exit ?_
   obtain rfl:=si g2
   exact Or.inl (⟨rfl,rfl,(Sub.keep [] rfl rfl)⟩)
 rintro x s' (⟨rfl,rfl,hsub⟩|⟨rfl,F,rfl,hret⟩)
 ·try dsimp only at h
  refine Goes.sub hsub ?_
  refine sh fol kA5 ?_
  refine Goes.ret ?_
  obtain rfl:=si h
  exact(gw2 [.i (-1)] (Ub tI))
 try dsimp only at h
 obtain rfl:=si h
 exact hret
def qcP (N:Nat) (a:qb) (b:StateT) (c:qa):Option Int:=
 (xn N a b c).bind fun d=>
 some (w64 (1+d))
theorem qiM (N:Nat) (a:qb) (b:StateT) (c:qa) {res:Int} (h:qcP N a b c=some res):qp ZT (.fn 114) [.fslice 5 (qdI a b c)] [] (.i res) []:=by
 unfold qcP at h
 refine Uc Tryz.func114 rfl rfl (m:=6) rfl (rs:=[.tmp 2]) rfl (l:=[(0,.fslice 5 (qdI a b c))]) rfl ?_
 refine sh fol [(0,.fslice 5 (qdI a b c))] ?_
 obtain⟨e,d,h⟩:=bnd h
 refine sq (gr fol [1] (kA4 (w64 (1+e))) (ac (hs (.call 176 [.fslice 5 (qdI a b c),.func (.func 177) [] []] [] [] [.fslice 5 (qdI a b c),.func (.func 177) [] []] (.i e)) (zn (FzL.cons (Ua (Still.fslice (AllST.cons (Still.func AllST.nil (AllST.cons (Still.fptr (AllST.cons tS (AllST.cons tI (AllST.cons tS (AllST.cons tI (AllST.cons tS (AllST.cons tS (AllST.cons tS AllST.nil)))))))) (AllST.cons (Still.fptr (AllST.cons tI (AllST.cons (qw qo _ (nl rfl)) (AllST.cons (qw qg _ (nl rfl)) AllST.nil)))) AllST.nil))) (AllST.cons (Still.func AllST.nil (AllST.cons (Still.fptr (AllST.cons tS (AllST.cons tI (AllST.cons tS (AllST.cons tI (AllST.cons tS (AllST.cons tS (AllST.cons tS AllST.nil)))))))) (AllST.cons (Still.fptr (AllST.cons tS (AllST.cons tS (AllST.cons tS (AllST.cons tI (AllST.cons tB (AllST.cons tS (AllST.cons tS (AllST.cons tI (AllST.cons tI (AllST.cons tI AllST.nil))))))))))) AllST.nil))) (AllST.cons (Still.func AllST.nil (AllST.cons (Still.fptr (AllST.cons (Still.func AllST.nil AllST.nil) (AllST.cons (Still.func AllST.nil AllST.nil) AllST.nil))) (AllST.cons (Still.fptr (AllST.cons tS (AllST.cons tS (AllST.cons tS (AllST.cons tI (AllST.cons tB (AllST.cons tS (AllST.cons tS (AllST.cons tI (AllST.cons tI (AllST.cons tI AllST.nil))))))))))) (AllST.cons (Still.fptr (AllST.cons tS (AllST.cons tI (AllST.cons tS (AllST.cons tI (AllST.cons tS (AllST.cons tS (AllST.cons tS AllST.nil)))))))) AllST.nil)))) (AllST.cons (Still.func AllST.nil (AllST.cons (Still.fptr (AllST.cons (Still.func AllST.nil AllST.nil) (AllST.cons (Still.func AllST.nil AllST.nil) AllST.nil))) (AllST.cons (Still.fptr (AllST.cons tS (AllST.cons tS (AllST.cons tS (AllST.cons tI (AllST.cons tB (AllST.cons tS (AllST.cons tS (AllST.cons tI (AllST.cons tI (AllST.cons tI AllST.nil))))))))))) (AllST.cons (Still.fptr (AllST.cons tS (AllST.cons tI (AllST.cons tS (AllST.cons tI (AllST.cons tS (AllST.cons tS (AllST.cons tS AllST.nil)))))))) AllST.nil)))) (AllST.cons (Still.func AllST.nil (AllST.cons (Still.fptr (AllST.cons tI (AllST.cons (qw qo _ (nl rfl)) (AllST.cons (qw qg _ (nl rfl)) AllST.nil)))) (AllST.cons (Still.fptr (AllST.cons tS (AllST.cons tI (AllST.cons tS (AllST.cons tI (AllST.cons tS (AllST.cons tS (AllST.cons tS AllST.nil)))))))) AllST.nil))) AllST.nil))))))) (FzL.cons (Fz.func FzL.nil FzL.nil) FzL.nil)) (qd2 N a b c d) tI)) az) ?_)
 refine Goes.ret ?_
 obtain rfl:=si h
 exact(gw2 [.i (w64 (1+e))] (Ub tI))
def qbp (a:qa) (b:qb):Option Bool:=
 (qfb a b.Amount).bind fun c=>
 some c
theorem qeI (a:qa) (b:qb) {res:Bool} (h:qbp a b=some res):qp ZT (.fn 117) [.fptr [.func (.func 141) [] [],.func (.func 142) [] []] 0,.fptr (.str a.lot.Name::(kB a.lot.Yarn a.lot.Dye a.lot.Stock a.known a.hold.Lot a.hold.Order a.hold.Reserved a.hold.Taken a.free)) 0,.fptr (kA b.Kind b.Day b.Lot b.Amount b.Yarn b.Dye b.Order) 0] [] (.bool res) []:=by
 unfold qbp at h
 refine Uc Tryz.func117 rfl rfl (m:=10) rfl (rs:=[.tmp 3]) rfl (l:=[(0,.fptr [.func (.func 141) [] [],.func (.func 142) [] []] 0),(1,.fptr (.str a.lot.Name::(kB a.lot.Yarn a.lot.Dye a.lot.Stock a.known a.hold.Lot a.hold.Order a.hold.Reserved a.hold.Taken a.free)) 0),(2,.fptr (kA b.Kind b.Day b.Lot b.Amount b.Yarn b.Dye b.Order) 0)]) rfl ?_
 refine sh fol [(0,.fptr [.func (.func 141) [] [],.func (.func 142) [] []] 0),(1,.fptr (.str a.lot.Name::(kB a.lot.Yarn a.lot.Dye a.lot.Stock a.known a.hold.Lot a.hold.Order a.hold.Reserved a.hold.Taken a.free)) 0),(2,.fptr (kA b.Kind b.Day b.Lot b.Amount b.Yarn b.Dye b.Order) 0)] ?_
 obtain⟨d,c,h⟩:=bnd h
 refine sq (gr fol [5] (kA7 d) (ac (cv (qi8 a b.Amount c)) az) ?_)
 refine Goes.ret ?_
 obtain rfl:=si h
 exact(gw2 [.bool d] (Ub tB))
def qcA (a:qa) (b:qb):Option Bool:=
 (qbp a b).bind fun c=>
 some (!c)
theorem qge (a:qa) (b:qb) {res:Bool} (h:qcA a b=some res):qp ZT (.fn 177) [.func (.func 117) [] [.fptr [.func (.func 141) [] [],.func (.func 142) [] []] 0,.fptr (.str a.lot.Name::(kB a.lot.Yarn a.lot.Dye a.lot.Stock a.known a.hold.Lot a.hold.Order a.hold.Reserved a.hold.Taken a.free)) 0,.fptr (kA b.Kind b.Day b.Lot b.Amount b.Yarn b.Dye b.Order) 0]] [] (.bool res) []:=by
 unfold qcA at h
 refine Uc Tryz.func177 rfl rfl (m:=6) rfl (rs:=[.tmp 2]) rfl (l:=[(0,.func (.func 117) [] [.fptr [.func (.func 141) [] [],.func (.func 142) [] []] 0,.fptr (.str a.lot.Name::(kB a.lot.Yarn a.lot.Dye a.lot.Stock a.known a.hold.Lot a.hold.Order a.hold.Reserved a.hold.Taken a.free)) 0,.fptr (kA b.Kind b.Day b.Lot b.Amount b.Yarn b.Dye b.Order) 0])]) rfl ?_
 refine sh fol [(0,.func (.func 117) [] [.fptr [.func (.func 141) [] [],.func (.func 142) [] []] 0,.fptr (.str a.lot.Name::(kB a.lot.Yarn a.lot.Dye a.lot.Stock a.known a.hold.Lot a.hold.Order a.hold.Reserved a.hold.Taken a.free)) 0,.fptr (kA b.Kind b.Day b.Lot b.Amount b.Yarn b.Dye b.Order) 0])] ?_
 obtain⟨d,c,h⟩:=bnd h
 refine sq (gr fol [1] (kAc (!d)) (ac (hs (.call 117 [.fptr [.func (.func 141) [] [],.func (.func 142) [] []] 0,.fptr (.str a.lot.Name::(kB a.lot.Yarn a.lot.Dye a.lot.Stock a.known a.hold.Lot a.hold.Order a.hold.Reserved a.hold.Taken a.free)) 0,.fptr (kA b.Kind b.Day b.Lot b.Amount b.Yarn b.Dye b.Order) 0] [] [] [.fptr [.func (.func 141) [] [],.func (.func 142) [] []] 0,.fptr (.str a.lot.Name::(kB a.lot.Yarn a.lot.Dye a.lot.Stock a.known a.hold.Lot a.hold.Order a.hold.Reserved a.hold.Taken a.free)) 0,.fptr (kA b.Kind b.Day b.Lot b.Amount b.Yarn b.Dye b.Order) 0] (.bool d)) (zn (FzL.cons (Ua (Still.fptr (AllST.cons (Still.func AllST.nil AllST.nil) (AllST.cons (Still.func AllST.nil AllST.nil) AllST.nil)))) (FzL.cons (Ua (Still.fptr (AllST.cons tS (AllST.cons tS (AllST.cons tS (AllST.cons tI (AllST.cons tB (AllST.cons tS (AllST.cons tS (AllST.cons tI (AllST.cons tI (AllST.cons tI AllST.nil)))))))))))) (FzL.cons (Ua (Still.fptr (AllST.cons tS (AllST.cons tI (AllST.cons tS (AllST.cons tI (AllST.cons tS (AllST.cons tS (AllST.cons tS AllST.nil))))))))) FzL.nil))) (qeI a b c) tB)) az) ?_)
 refine Goes.ret ?_
 obtain rfl:=si h
 exact(gw2 [.bool (!d)] (Ub tB))
def qbo (b:qa) (c:qb):Option Bool:=
 (qcp b c.Amount).bind fun a=>
 some (decide ((if a.hold.Taken>a.lot.Stock then a.hold.Taken else a.lot.Stock)<=999999999))
theorem qeM (a:qa) (b:qb) {res:Bool} (h:qbo a b=some res):qp ZT (.fn 118) [.fptr [.func (.func 141) [] [],.func (.func 142) [] []] 0,.fptr (.str a.lot.Name::(kB a.lot.Yarn a.lot.Dye a.lot.Stock a.known a.hold.Lot a.hold.Order a.hold.Reserved a.hold.Taken a.free)) 0,.fptr (kA b.Kind b.Day b.Lot b.Amount b.Yarn b.Dye b.Order) 0] [] (.bool res) []:=by
 unfold qbo at h
 refine Uc Tryz.func118 rfl rfl (m:=19) rfl (rs:=[.tmp 3]) rfl (l:=[(0,.fptr [.func (.func 141) [] [],.func (.func 142) [] []] 0),(1,.fptr (.str a.lot.Name::(kB a.lot.Yarn a.lot.Dye a.lot.Stock a.known a.hold.Lot a.hold.Order a.hold.Reserved a.hold.Taken a.free)) 0),(2,.fptr (kA b.Kind b.Day b.Lot b.Amount b.Yarn b.Dye b.Order) 0)]) rfl ?_
 refine sh fol [(0,.fptr [.func (.func 141) [] [],.func (.func 142) [] []] 0),(1,.fptr (.str a.lot.Name::(kB a.lot.Yarn a.lot.Dye a.lot.Stock a.known a.hold.Lot a.hold.Order a.hold.Reserved a.hold.Taken a.free)) 0),(2,.fptr (kA b.Kind b.Day b.Lot b.Amount b.Yarn b.Dye b.Order) 0)] ?_
 obtain⟨c,d,h⟩:=bnd h
 refine sq (gq fol [5] kA6 (kC c.lot.Name c.lot.Yarn c.lot.Dye c.lot.Stock c.known c.hold.Lot c.hold.Order c.hold.Reserved c.hold.Taken c.free []) (ac (cv (qfg a b.Amount d)) az) ?_)
 refine sh fol (kA7 (decide ((if c.hold.Taken>c.lot.Stock then c.hold.Taken else c.lot.Stock)<=999999999))) ?_
 refine Goes.ret ?_
 obtain rfl:=si h
 exact(gw2 [.bool (decide ((if c.hold.Taken>c.lot.Stock then c.hold.Taken else c.lot.Stock)<=999999999))] (Ub tB))
def qcv (a:qa) (b:qb):Option Bool:=
 (qbo a b).bind fun c=>
 some (!c)
theorem qgi (a:qa) (b:qb) {res:Bool} (h:qcv a b=some res):qp ZT (.fn 177) [.func (.func 118) [] [.fptr [.func (.func 141) [] [],.func (.func 142) [] []] 0,.fptr (.str a.lot.Name::(kB a.lot.Yarn a.lot.Dye a.lot.Stock a.known a.hold.Lot a.hold.Order a.hold.Reserved a.hold.Taken a.free)) 0,.fptr (kA b.Kind b.Day b.Lot b.Amount b.Yarn b.Dye b.Order) 0]] [] (.bool res) []:=by
 unfold qcv at h
 refine Uc Tryz.func177 rfl rfl (m:=6) rfl (rs:=[.tmp 2]) rfl (l:=[(0,.func (.func 118) [] [.fptr [.func (.func 141) [] [],.func (.func 142) [] []] 0,.fptr (.str a.lot.Name::(kB a.lot.Yarn a.lot.Dye a.lot.Stock a.known a.hold.Lot a.hold.Order a.hold.Reserved a.hold.Taken a.free)) 0,.fptr (kA b.Kind b.Day b.Lot b.Amount b.Yarn b.Dye b.Order) 0])]) rfl ?_
 refine sh fol [(0,.func (.func 118) [] [.fptr [.func (.func 141) [] [],.func (.func 142) [] []] 0,.fptr (.str a.lot.Name::(kB a.lot.Yarn a.lot.Dye a.lot.Stock a.known a.hold.Lot a.hold.Order a.hold.Reserved a.hold.Taken a.free)) 0,.fptr (kA b.Kind b.Day b.Lot b.Amount b.Yarn b.Dye b.Order) 0])] ?_
 obtain⟨d,c,h⟩:=bnd h
 refine sq (gr fol [1] (kAc (!d)) (ac (hs (.call 118 [.fptr [.func (.func 141) [] [],.func (.func 142) [] []] 0,.fptr (.str a.lot.Name::(kB a.lot.Yarn a.lot.Dye a.lot.Stock a.known a.hold.Lot a.hold.Order a.hold.Reserved a.hold.Taken a.free)) 0,.fptr (kA b.Kind b.Day b.Lot b.Amount b.Yarn b.Dye b.Order) 0] [] [] [.fptr [.func (.func 141) [] [],.func (.func 142) [] []] 0,.fptr (.str a.lot.Name::(kB a.lot.Yarn a.lot.Dye a.lot.Stock a.known a.hold.Lot a.hold.Order a.hold.Reserved a.hold.Taken a.free)) 0,.fptr (kA b.Kind b.Day b.Lot b.Amount b.Yarn b.Dye b.Order) 0] (.bool d)) (zn (FzL.cons (Ua (Still.fptr (AllST.cons (Still.func AllST.nil AllST.nil) (AllST.cons (Still.func AllST.nil AllST.nil) AllST.nil)))) (FzL.cons (Ua (Still.fptr (AllST.cons tS (AllST.cons tS (AllST.cons tS (AllST.cons tI (AllST.cons tB (AllST.cons tS (AllST.cons tS (AllST.cons tI (AllST.cons tI (AllST.cons tI AllST.nil)))))))))))) (FzL.cons (Ua (Still.fptr (AllST.cons tS (AllST.cons tI (AllST.cons tS (AllST.cons tI (AllST.cons tS (AllST.cons tS (AllST.cons tS AllST.nil))))))))) FzL.nil))) (qeM a b c) tB)) az) ?_)
 refine Goes.ret ?_
 obtain rfl:=si h
 exact(gw2 [.bool (!d)] (Ub tB))
def zN (N:Nat) (a:qb) (d:StateT) (b:qa):Nat->Int->Option (Unit⊕Int)
 |0,_=>none
 |K+1,c=>
  if c<5 then
  (if c=0 then
  (jM a d).bind fun i=>
  some i
  else
  if c=1 then
  (zV a b).bind fun j=>
  some j
  else
  if c=2 then
  (qcA b a).bind fun e=>
  some e
  else
  if c=3 then
  (qcv b a).bind fun f=>
  some f
  else
  if c=4 then
  (jK N d a).bind fun g=>
  some g
  else
  none:Option Bool).bind fun h=>
  if h=true then
  some (.inr c)
  else
  zN N a d b K (w64 (c+1))
  else
  some (.inl ())
def xe (N:Nat) (a:qb) (b:StateT) (c:qa):Option Int:=
 (zN N a b c N 0).bind (fun
 |(.inl ())=>
 some (-1)
 |(.inr d)=>
 some d)
theorem qd4 (N:Nat) (a:qb) (c:StateT) (b:qa) {res:Int} (h:xe N a c b=some res):qp ZT (.fn 176) [.fslice 5 (qdJ a c b),.func (.func 177) [] []] [] (.i res) []:=by
 unfold xe at h
 refine Uc Tryz.func176 rfl rfl (m:=19) rfl (rs:=[.tmp 4]) rfl (l:=[(0,.fslice 5 (qdJ a c b)),(1,.func (.func 177) [] [])]) rfl ?_
 refine sh fol [(0,.fslice 5 (qdJ a c b)),(1,.func (.func 177) [] [])] ?_
 refine sq ?_
 refine sh fol ((0,.fslice 5 (qdJ a c b))::(1,.func (.func 177) [] [])::kA8) ?_
 refine Goes.block ?_
 obtain⟨u,g2,h⟩:=bnd h
 refine Goes.imp (Q:=fun x s'=>(x= .exit 0/\(.inl ())=u/\Sub s' (ofG 19 [],[]))\/(x= .ret/\ ∃y,(.inr y)=u/\jF ZT [.tmp 4] (.i y) .ret s')) ?_ ?_
 ·refine Ud (fun M s=> ∃(e:Int),s=(ofG 19 ((0,.fslice 5 (qdJ a c b))::(1,.func (.func 177) [] [])::(kAM e)),[])/\zN N a c b M e=some u) ?_ (m:=N) ⟨_,rfl,g2⟩
  rintro M s ⟨e,rfl,g2⟩
  cases M with
  |zero=>simp only[zN]at g2;cases g2
  |succ M=>
   rw[zN]at g2
   refine sh fol ((0,.fslice 5 (qdJ a c b))::(1,.func (.func 177) [] [])::(7,.i 5)::(kAr e (decide (e<5)))) ?_
   refine sq ?_
   refine ihD g2 (fun E g2=>?_) (fun E g2=>?_)
   ·refine Goes.skip ?_
    refine sq (Goes.block ?_)
    refine sh fol ((0,.fslice 5 (qdJ a c b))::(1,.func (.func 177) [] [])::(5,.i e)::(kAM e)) ?_
    refine sq ?_
    obtain⟨v,d,g2⟩:=bnd g2
    refine Goes.cut (s':=(ofG 19 ((0,.fslice 5 (qdJ a c b))::(1,.func (.func 177) [] [])::(kM e v)),[])) ?_ ?_
    ·rcases wyD d with⟨z,d⟩|⟨z,d⟩
     ·obtain⟨A,k,d⟩:=bnd d
      obtain rfl:=si d
      exact tr fol [3,5] ((0,.fslice 5 (qdJ a c b))::(1,.func (.func 177) [] [])::(kM e A)) (ac (hs (.done (.opt (qH ZT 221 (.fslice 5 (qdJ a c b)) (.i e))) (.fptr [.func (.func 115) [] [.fptr (kA a.Kind a.Day a.Lot a.Amount a.Yarn a.Dye a.Order) 0,.fptr (kH c.Day c.Lots c.Holds) 0],.func (.func 116) [] [.fptr (kA a.Kind a.Day a.Lot a.Amount a.Yarn a.Dye a.Order) 0,.fptr (.str b.lot.Name::(kB b.lot.Yarn b.lot.Dye b.lot.Stock b.known b.hold.Lot b.hold.Order b.hold.Reserved b.hold.Taken b.free)) 0],.func (.func 117) [] [.fptr [.func (.func 141) [] [],.func (.func 142) [] []] 0,.fptr (.str b.lot.Name::(kB b.lot.Yarn b.lot.Dye b.lot.Stock b.known b.hold.Lot b.hold.Order b.hold.Reserved b.hold.Taken b.free)) 0,.fptr (kA a.Kind a.Day a.Lot a.Amount a.Yarn a.Dye a.Order) 0],.func (.func 118) [] [.fptr [.func (.func 141) [] [],.func (.func 142) [] []] 0,.fptr (.str b.lot.Name::(kB b.lot.Yarn b.lot.Dye b.lot.Stock b.known b.hold.Lot b.hold.Order b.hold.Reserved b.hold.Taken b.free)) 0,.fptr (kA a.Kind a.Day a.Lot a.Amount a.Yarn a.Dye a.Order) 0],.func (.func 119) [] [.fptr (kH c.Day c.Lots c.Holds) 0,.fptr (kA a.Kind a.Day a.Lot a.Amount a.Yarn a.Dye a.Order) 0]] 0)) (ixA (ot z) (by kernel_rfl))) (ac (hs (.call 177 [.func (.func 115) [] [.fptr (kA a.Kind a.Day a.Lot a.Amount a.Yarn a.Dye a.Order) 0,.fptr (kH c.Day c.Lots c.Holds) 0]] [] [] [.func (.func 115) [] [.fptr (kA a.Kind a.Day a.Lot a.Amount a.Yarn a.Dye a.Order) 0,.fptr (kH c.Day c.Lots c.Holds) 0]] (.bool A)) (zn (FzL.cons (Fz.func FzL.nil (FzL.cons (Ua (Still.fptr (AllST.cons tS (AllST.cons tI (AllST.cons tS (AllST.cons tI (AllST.cons tS (AllST.cons tS (AllST.cons tS AllST.nil))))))))) (FzL.cons (Ua (Still.fptr (AllST.cons tI (AllST.cons (qw qo _ (nl rfl)) (AllST.cons (qw qg _ (nl rfl)) AllST.nil))))) FzL.nil))) FzL.nil) (xw a c k) tB)) az))
     rcases wyD d with⟨B,d⟩|⟨B,d⟩
     ·obtain⟨C,n,d⟩:=bnd d
      obtain rfl:=si d
      exact tr fol [3,5] ((0,.fslice 5 (qdJ a c b))::(1,.func (.func 177) [] [])::(kM e C)) (ac (hs (.done (.opt (qH ZT 221 (.fslice 5 (qdJ a c b)) (.i e))) (.fptr [.func (.func 115) [] [.fptr (kA a.Kind a.Day a.Lot a.Amount a.Yarn a.Dye a.Order) 0,.fptr (kH c.Day c.Lots c.Holds) 0],.func (.func 116) [] [.fptr (kA a.Kind a.Day a.Lot a.Amount a.Yarn a.Dye a.Order) 0,.fptr (.str b.lot.Name::(kB b.lot.Yarn b.lot.Dye b.lot.Stock b.known b.hold.Lot b.hold.Order b.hold.Reserved b.hold.Taken b.free)) 0],.func (.func 117) [] [.fptr [.func (.func 141) [] [],.func (.func 142) [] []] 0,.fptr (.str b.lot.Name::(kB b.lot.Yarn b.lot.Dye b.lot.Stock b.known b.hold.Lot b.hold.Order b.hold.Reserved b.hold.Taken b.free)) 0,.fptr (kA a.Kind a.Day a.Lot a.Amount a.Yarn a.Dye a.Order) 0],.func (.func 118) [] [.fptr [.func (.func 141) [] [],.func (.func 142) [] []] 0,.fptr (.str b.lot.Name::(kB b.lot.Yarn b.lot.Dye b.lot.Stock b.known b.hold.Lot b.hold.Order b.hold.Reserved b.hold.Taken b.free)) 0,.fptr (kA a.Kind a.Day a.Lot a.Amount a.Yarn a.Dye a.Order) 0],.func (.func 119) [] [.fptr (kH c.Day c.Lots c.Holds) 0,.fptr (kA a.Kind a.Day a.Lot a.Amount a.Yarn a.Dye a.Order) 0]] 1)) (ixA (ot B) (by kernel_rfl))) (ac (hs (.call 177 [.func (.func 116) [] [.fptr (kA a.Kind a.Day a.Lot a.Amount a.Yarn a.Dye a.Order) 0,.fptr (.str b.lot.Name::(kB b.lot.Yarn b.lot.Dye b.lot.Stock b.known b.hold.Lot b.hold.Order b.hold.Reserved b.hold.Taken b.free)) 0]] [] [] [.func (.func 116) [] [.fptr (kA a.Kind a.Day a.Lot a.Amount a.Yarn a.Dye a.Order) 0,.fptr (.str b.lot.Name::(kB b.lot.Yarn b.lot.Dye b.lot.Stock b.known b.hold.Lot b.hold.Order b.hold.Reserved b.hold.Taken b.free)) 0]] (.bool C)) (zn (FzL.cons (Fz.func FzL.nil (FzL.cons (Ua (Still.fptr (AllST.cons tS (AllST.cons tI (AllST.cons tS (AllST.cons tI (AllST.cons tS (AllST.cons tS (AllST.cons tS AllST.nil))))))))) (FzL.cons (Ua (Still.fptr (AllST.cons tS (AllST.cons tS (AllST.cons tS (AllST.cons tI (AllST.cons tB (AllST.cons tS (AllST.cons tS (AllST.cons tI (AllST.cons tI (AllST.cons tI AllST.nil)))))))))))) FzL.nil))) FzL.nil) (xG a b n) tB)) az))
     rcases wyD d with⟨D,d⟩|⟨D,d⟩
     ·obtain⟨o,f,d⟩:=bnd d
      obtain rfl:=si d
      exact tr fol [3,5] ((0,.fslice 5 (qdJ a c b))::(1,.func (.func 177) [] [])::(kM e o)) (ac (hs (.done (.opt (qH ZT 221 (.fslice 5 (qdJ a c b)) (.i e))) (.fptr [.func (.func 115) [] [.fptr (kA a.Kind a.Day a.Lot a.Amount a.Yarn a.Dye a.Order) 0,.fptr (kH c.Day c.Lots c.Holds) 0],.func (.func 116) [] [.fptr (kA a.Kind a.Day a.Lot a.Amount a.Yarn a.Dye a.Order) 0,.fptr (.str b.lot.Name::(kB b.lot.Yarn b.lot.Dye b.lot.Stock b.known b.hold.Lot b.hold.Order b.hold.Reserved b.hold.Taken b.free)) 0],.func (.func 117) [] [.fptr [.func (.func 141) [] [],.func (.func 142) [] []] 0,.fptr (.str b.lot.Name::(kB b.lot.Yarn b.lot.Dye b.lot.Stock b.known b.hold.Lot b.hold.Order b.hold.Reserved b.hold.Taken b.free)) 0,.fptr (kA a.Kind a.Day a.Lot a.Amount a.Yarn a.Dye a.Order) 0],.func (.func 118) [] [.fptr [.func (.func 141) [] [],.func (.func 142) [] []] 0,.fptr (.str b.lot.Name::(kB b.lot.Yarn b.lot.Dye b.lot.Stock b.known b.hold.Lot b.hold.Order b.hold.Reserved b.hold.Taken b.free)) 0,.fptr (kA a.Kind a.Day a.Lot a.Amount a.Yarn a.Dye a.Order) 0],.func (.func 119) [] [.fptr (kH c.Day c.Lots c.Holds) 0,.fptr (kA a.Kind a.Day a.Lot a.Amount a.Yarn a.Dye a.Order) 0]] 2)) (ixA (ot D) (by kernel_rfl))) (ac (hs (.call 177 [.func (.func 117) [] [.fptr [.func (.func 141) [] [],.func (.func 142) [] []] 0,.fptr (.str b.lot.Name::(kB b.lot.Yarn b.lot.Dye b.lot.Stock b.known b.hold.Lot b.hold.Order b.hold.Reserved b.hold.Taken b.free)) 0,.fptr (kA a.Kind a.Day a.Lot a.Amount a.Yarn a.Dye a.Order) 0]] [] [] [.func (.func 117) [] [.fptr [.func (.func 141) [] [],.func (.func 142) [] []] 0,.fptr (.str b.lot.Name::(kB b.lot.Yarn b.lot.Dye b.lot.Stock b.known b.hold.Lot b.hold.Order b.hold.Reserved b.hold.Taken b.free)) 0,.fptr (kA a.Kind a.Day a.Lot a.Amount a.Yarn a.Dye a.Order) 0]] (.bool o)) (zn (FzL.cons (Fz.func FzL.nil (FzL.cons (Ua (Still.fptr (AllST.cons (Still.func AllST.nil AllST.nil) (AllST.cons (Still.func AllST.nil AllST.nil) AllST.nil)))) (FzL.cons (Ua (Still.fptr (AllST.cons tS (AllST.cons tS (AllST.cons tS (AllST.cons tI (AllST.cons tB (AllST.cons tS (AllST.cons tS (AllST.cons tI (AllST.cons tI (AllST.cons tI AllST.nil)))))))))))) (FzL.cons (Ua (Still.fptr (AllST.cons tS (AllST.cons tI (AllST.cons tS (AllST.cons tI (AllST.cons tS (AllST.cons tS (AllST.cons tS AllST.nil))))))))) FzL.nil)))) FzL.nil) (qge b a f) tB)) az))
     rcases wyD d with⟨p,d⟩|⟨p,d⟩
     ·obtain⟨q,g,d⟩:=bnd d
      obtain rfl:=si d
      exact tr fol [3,5] ((0,.fslice 5 (qdJ a c b))::(1,.func (.func 177) [] [])::(kM e q)) (ac (hs (.done (.opt (qH ZT 221 (.fslice 5 (qdJ a c b)) (.i e))) (.fptr [.func (.func 115) [] [.fptr (kA a.Kind a.Day a.Lot a.Amount a.Yarn a.Dye a.Order) 0,.fptr (kH c.Day c.Lots c.Holds) 0],.func (.func 116) [] [.fptr (kA a.Kind a.Day a.Lot a.Amount a.Yarn a.Dye a.Order) 0,.fptr (.str b.lot.Name::(kB b.lot.Yarn b.lot.Dye b.lot.Stock b.known b.hold.Lot b.hold.Order b.hold.Reserved b.hold.Taken b.free)) 0],.func (.func 117) [] [.fptr [.func (.func 141) [] [],.func (.func 142) [] []] 0,.fptr (.str b.lot.Name::(kB b.lot.Yarn b.lot.Dye b.lot.Stock b.known b.hold.Lot b.hold.Order b.hold.Reserved b.hold.Taken b.free)) 0,.fptr (kA a.Kind a.Day a.Lot a.Amount a.Yarn a.Dye a.Order) 0],.func (.func 118) [] [.fptr [.func (.func 141) [] [],.func (.func 142) [] []] 0,.fptr (.str b.lot.Name::(kB b.lot.Yarn b.lot.Dye b.lot.Stock b.known b.hold.Lot b.hold.Order b.hold.Reserved b.hold.Taken b.free)) 0,.fptr (kA a.Kind a.Day a.Lot a.Amount a.Yarn a.Dye a.Order) 0],.func (.func 119) [] [.fptr (kH c.Day c.Lots c.Holds) 0,.fptr (kA a.Kind a.Day a.Lot a.Amount a.Yarn a.Dye a.Order) 0]] 3)) (ixA (ot p) (by kernel_rfl))) (ac (hs (.call 177 [.func (.func 118) [] [.fptr [.func (.func 141) [] [],.func (.func 142) [] []] 0,.fptr (.str b.lot.Name::(kB b.lot.Yarn b.lot.Dye b.lot.Stock b.known b.hold.Lot b.hold.Order b.hold.Reserved b.hold.Taken b.free)) 0,.fptr (kA a.Kind a.Day a.Lot a.Amount a.Yarn a.Dye a.Order) 0]] [] [] [.func (.func 118) [] [.fptr [.func (.func 141) [] [],.func (.func 142) [] []] 0,.fptr (.str b.lot.Name::(kB b.lot.Yarn b.lot.Dye b.lot.Stock b.known b.hold.Lot b.hold.Order b.hold.Reserved b.hold.Taken b.free)) 0,.fptr (kA a.Kind a.Day a.Lot a.Amount a.Yarn a.Dye a.Order) 0]] (.bool q)) (zn (FzL.cons (Fz.func FzL.nil (FzL.cons (Ua (Still.fptr (AllST.cons (Still.func AllST.nil AllST.nil) (AllST.cons (Still.func AllST.nil AllST.nil) AllST.nil)))) (FzL.cons (Ua (Still.fptr (AllST.cons tS (AllST.cons tS (AllST.cons tS (AllST.cons tI (AllST.cons tB (AllST.cons tS (AllST.cons tS (AllST.cons tI (AllST.cons tI (AllST.cons tI AllST.nil)))))))))))) (FzL.cons (Ua (Still.fptr (AllST.cons tS (AllST.cons tI (AllST.cons tS (AllST.cons tI (AllST.cons tS (AllST.cons tS (AllST.cons tS AllST.nil))))))))) FzL.nil)))) FzL.nil) (qgi b a g) tB)) az))
     rcases wyD d with⟨r,d⟩|⟨r,d⟩
     ·obtain⟨t,j,d⟩:=bnd d
      obtain rfl:=si d
      exact tr fol [3,5] ((0,.fslice 5 (qdJ a c b))::(1,.func (.func 177) [] [])::(kM e t)) (ac (hs (.done (.opt (qH ZT 221 (.fslice 5 (qdJ a c b)) (.i e))) (.fptr [.func (.func 115) [] [.fptr (kA a.Kind a.Day a.Lot a.Amount a.Yarn a.Dye a.Order) 0,.fptr (kH c.Day c.Lots c.Holds) 0],.func (.func 116) [] [.fptr (kA a.Kind a.Day a.Lot a.Amount a.Yarn a.Dye a.Order) 0,.fptr (.str b.lot.Name::(kB b.lot.Yarn b.lot.Dye b.lot.Stock b.known b.hold.Lot b.hold.Order b.hold.Reserved b.hold.Taken b.free)) 0],.func (.func 117) [] [.fptr [.func (.func 141) [] [],.func (.func 142) [] []] 0,.fptr (.str b.lot.Name::(kB b.lot.Yarn b.lot.Dye b.lot.Stock b.known b.hold.Lot b.hold.Order b.hold.Reserved b.hold.Taken b.free)) 0,.fptr (kA a.Kind a.Day a.Lot a.Amount a.Yarn a.Dye a.Order) 0],.func (.func 118) [] [.fptr [.func (.func 141) [] [],.func (.func 142) [] []] 0,.fptr (.str b.lot.Name::(kB b.lot.Yarn b.lot.Dye b.lot.Stock b.known b.hold.Lot b.hold.Order b.hold.Reserved b.hold.Taken b.free)) 0,.fptr (kA a.Kind a.Day a.Lot a.Amount a.Yarn a.Dye a.Order) 0],.func (.func 119) [] [.fptr (kH c.Day c.Lots c.Holds) 0,.fptr (kA a.Kind a.Day a.Lot a.Amount a.Yarn a.Dye a.Order) 0]] 4)) (ixA (ot r) (by kernel_rfl))) (ac (hs (.call 177 [.func (.func 119) [] [.fptr (kH c.Day c.Lots c.Holds) 0,.fptr (kA a.Kind a.Day a.Lot a.Amount a.Yarn a.Dye a.Order) 0]] [] [] [.func (.func 119) [] [.fptr (kH c.Day c.Lots c.Holds) 0,.fptr (kA a.Kind a.Day a.Lot a.Amount a.Yarn a.Dye a.Order) 0]] (.bool t)) (zn (FzL.cons (Fz.func FzL.nil (FzL.cons (Ua (Still.fptr (AllST.cons tI (AllST.cons (qw qo _ (nl rfl)) (AllST.cons (qw qg _ (nl rfl)) AllST.nil))))) (FzL.cons (Ua (Still.fptr (AllST.cons tS (AllST.cons tI (AllST.cons tS (AllST.cons tI (AllST.cons tS (AllST.cons tS (AllST.cons tS AllST.nil))))))))) FzL.nil))) FzL.nil) (xE N c a j) tB)) az))
     cases d
    refine ihB g2 (fun w g2=>?_) (fun w g2=>?_)
    ·refine sh fol (kA3 e) ?_
     refine Goes.ret ?_
     obtain rfl:=si g2
     exact Or.inr (⟨rfl,_,rfl,(gw2 [.i e] (Ub tI))⟩)
    refine Goes.skip ?_
    refine gh fol ((0,.fslice 5 (qdJ a c b))::(1,.func (.func 177) [] [])::(kAM (w64 (e+1)))) ?_
    exact⟨M,(ofG 19 ((0,.fslice 5 (qdJ a c b))::(1,.func (.func 177) [] [])::(kAM (w64 (e+1)))),[]),Nat.lt_succ_self _,(Sub.refl _),_,rfl,g2⟩
   refine Goes.exit ?_
   obtain rfl:=si g2
   exact Or.inl (⟨rfl,rfl,(Sub.keep [] rfl rfl)⟩)
 rintro x s' (⟨rfl,rfl,hsub⟩|⟨rfl,F,rfl,hret⟩)
 ·try dsimp only at h
  refine Goes.sub hsub ?_
  refine sh fol kA5 ?_
  refine Goes.ret ?_
  obtain rfl:=si h
  exact(gw2 [.i (-1)] (Ub tI))
 try dsimp only at h
 obtain rfl:=si h
 exact hret
def qcO (N:Nat) (a:qb) (b:StateT) (c:qa):Option Int:=
 (xe N a b c).bind fun d=>
 some (w64 (1+d))
theorem qiu (N:Nat) (a:qb) (b:StateT) (c:qa) {res:Int} (h:qcO N a b c=some res):qp ZT (.fn 114) [.fslice 5 (qdJ a b c)] [] (.i res) []:=by
 unfold qcO at h
 refine Uc Tryz.func114 rfl rfl (m:=6) rfl (rs:=[.tmp 2]) rfl (l:=[(0,.fslice 5 (qdJ a b c))]) rfl ?_
 refine sh fol [(0,.fslice 5 (qdJ a b c))] ?_
 obtain⟨e,d,h⟩:=bnd h
 refine sq (gr fol [1] (kA4 (w64 (1+e))) (ac (hs (.call 176 [.fslice 5 (qdJ a b c),.func (.func 177) [] []] [] [] [.fslice 5 (qdJ a b c),.func (.func 177) [] []] (.i e)) (zn (FzL.cons (Ua (Still.fslice (AllST.cons (Still.func AllST.nil (AllST.cons (Still.fptr (AllST.cons tS (AllST.cons tI (AllST.cons tS (AllST.cons tI (AllST.cons tS (AllST.cons tS (AllST.cons tS AllST.nil)))))))) (AllST.cons (Still.fptr (AllST.cons tI (AllST.cons (qw qo _ (nl rfl)) (AllST.cons (qw qg _ (nl rfl)) AllST.nil)))) AllST.nil))) (AllST.cons (Still.func AllST.nil (AllST.cons (Still.fptr (AllST.cons tS (AllST.cons tI (AllST.cons tS (AllST.cons tI (AllST.cons tS (AllST.cons tS (AllST.cons tS AllST.nil)))))))) (AllST.cons (Still.fptr (AllST.cons tS (AllST.cons tS (AllST.cons tS (AllST.cons tI (AllST.cons tB (AllST.cons tS (AllST.cons tS (AllST.cons tI (AllST.cons tI (AllST.cons tI AllST.nil))))))))))) AllST.nil))) (AllST.cons (Still.func AllST.nil (AllST.cons (Still.fptr (AllST.cons (Still.func AllST.nil AllST.nil) (AllST.cons (Still.func AllST.nil AllST.nil) AllST.nil))) (AllST.cons (Still.fptr (AllST.cons tS (AllST.cons tS (AllST.cons tS (AllST.cons tI (AllST.cons tB (AllST.cons tS (AllST.cons tS (AllST.cons tI (AllST.cons tI (AllST.cons tI AllST.nil))))))))))) (AllST.cons (Still.fptr (AllST.cons tS (AllST.cons tI (AllST.cons tS (AllST.cons tI (AllST.cons tS (AllST.cons tS (AllST.cons tS AllST.nil)))))))) AllST.nil)))) (AllST.cons (Still.func AllST.nil (AllST.cons (Still.fptr (AllST.cons (Still.func AllST.nil AllST.nil) (AllST.cons (Still.func AllST.nil AllST.nil) AllST.nil))) (AllST.cons (Still.fptr (AllST.cons tS (AllST.cons tS (AllST.cons tS (AllST.cons tI (AllST.cons tB (AllST.cons tS (AllST.cons tS (AllST.cons tI (AllST.cons tI (AllST.cons tI AllST.nil))))))))))) (AllST.cons (Still.fptr (AllST.cons tS (AllST.cons tI (AllST.cons tS (AllST.cons tI (AllST.cons tS (AllST.cons tS (AllST.cons tS AllST.nil)))))))) AllST.nil)))) (AllST.cons (Still.func AllST.nil (AllST.cons (Still.fptr (AllST.cons tI (AllST.cons (qw qo _ (nl rfl)) (AllST.cons (qw qg _ (nl rfl)) AllST.nil)))) (AllST.cons (Still.fptr (AllST.cons tS (AllST.cons tI (AllST.cons tS (AllST.cons tI (AllST.cons tS (AllST.cons tS (AllST.cons tS AllST.nil)))))))) AllST.nil))) AllST.nil))))))) (FzL.cons (Fz.func FzL.nil FzL.nil) FzL.nil)) (qd4 N a b c d) tI)) az) ?_)
 refine Goes.ret ?_
 obtain rfl:=si h
 exact(gw2 [.i (w64 (1+e))] (Ub tI))
def qa2 (N:Nat) (a:StateT) (e:qb):Option Int:=
 (kw N a e).bind fun b=>
 (qaO).bind fun i=>
 if(e.Kind==[114,101,99,101,105,118,101])=true then
 (qdd N e a b).bind fun g=>
 some g
 else
 if(e.Kind==[114,101,115,101,114,118,101])=true then
 (qcY N e a b).bind fun h=>
 some h
 else
 if(e.Kind==[114,101,108,101,97,115,101])=true then
 (qcQ N e a b).bind fun c=>
 some c
 else
 if(e.Kind==[116,97,107,101])=true then
 (qcP N e a b).bind fun d=>
 some d
 else
 if(e.Kind==[114,101,116,117,114,110])=true then
 (qcO N e a b).bind fun f=>
 some f
 else
 none
theorem qhj (N:Nat) (b:StateT) (e:qb) {res:Int} (h:qa2 N b e=some res):qp ZT (.fn 57) (kV b.Day b.Lots b.Holds (kAF e.Kind e.Day e.Lot e.Amount e.Yarn e.Dye e.Order [])) [] (.i res) []:=by
 unfold qa2 at h
 refine Uc Tryz.func57 rfl rfl (m:=21) rfl (rs:=[.tmp 4]) rfl (l:=(kAD b.Day b.Lots b.Holds (kAx e.Kind e.Day e.Lot e.Amount e.Yarn e.Dye e.Order []))) rfl ?_
 refine sg fol (kG []) (kD b.Day b.Lots b.Holds (kE e.Kind e.Day e.Lot e.Amount e.Yarn e.Dye e.Order [])) ?_
 obtain⟨a,p,h⟩:=bnd h
 refine sq (gq fol [2] (kG [(5,.ptr 2 0)]) (kD b.Day b.Lots b.Holds (kE e.Kind e.Day e.Lot e.Amount e.Yarn e.Dye e.Order (kC a.lot.Name a.lot.Yarn a.lot.Dye a.lot.Stock a.known a.hold.Lot a.hold.Order a.hold.Reserved a.hold.Taken a.free []))) (ac (cv (vK N b e p)) az) ?_)
 refine sq ?_
 obtain⟨y,c,h⟩:=bnd h
 rcases wyB h with⟨o,h⟩|⟨o,h⟩
 ·refine gq fol [0,3] (kG (kAL [])) (kD b.Day b.Lots b.Holds (kE e.Kind e.Day e.Lot e.Amount e.Yarn e.Dye e.Order (kC a.lot.Name a.lot.Yarn a.lot.Dye a.lot.Stock a.known a.hold.Lot a.hold.Order a.hold.Reserved a.hold.Taken a.free [.cells [.func (.func 132) [] [],.func (.func 133) [] []]]))) (ac (cv (zA c)) (ac (hs (.done (yu ZT 143 (fm1) (.str e.Kind) false) (.agg [.func (.func 132) [] [],.func (.func 133) [] []])) (qdC qdW [[114,101,99,101,105,118,101],[114,101,115,101,114,118,101],[114,101,108,101,97,115,101],[116,97,107,101],[114,101,116,117,114,110]] (yQ o) rfl)) az)) ?_
  obtain⟨u,q,h⟩:=bnd h
  refine sq (gq fol [6] (kA3 u) (kD b.Day b.Lots b.Holds (kE e.Kind e.Day e.Lot e.Amount e.Yarn e.Dye e.Order (kC a.lot.Name a.lot.Yarn a.lot.Dye a.lot.Stock a.known a.hold.Lot a.hold.Order a.hold.Reserved a.hold.Taken a.free [.cells [.func (.func 132) [] [],.func (.func 133) [] []],.cells [.func (.func 115) [] [.ptr 1 0,.ptr 0 0],.func (.func 116) [] [.ptr 1 0,.ptr 2 0],.func (.func 117) [] [.ptr 3 0,.ptr 2 0,.ptr 1 0],.func (.func 118) [] [.ptr 3 0,.ptr 2 0,.ptr 1 0],.func (.func 119) [] [.ptr 0 0,.ptr 1 0]]]))) (ac (hs (.call 114 [.slice 4 0 5 5 1] (kD b.Day b.Lots b.Holds (kE e.Kind e.Day e.Lot e.Amount e.Yarn e.Dye e.Order (kC a.lot.Name a.lot.Yarn a.lot.Dye a.lot.Stock a.known a.hold.Lot a.hold.Order a.hold.Reserved a.hold.Taken a.free [.cells [.func (.func 132) [] [],.func (.func 133) [] []],.cells [.func (.func 115) [] [.ptr 1 0,.ptr 0 0],.func (.func 116) [] [.ptr 1 0,.ptr 2 0],.func (.func 117) [] [.ptr 3 0,.ptr 2 0,.ptr 1 0],.func (.func 118) [] [.ptr 3 0,.ptr 2 0,.ptr 1 0],.func (.func 119) [] [.ptr 0 0,.ptr 1 0]]]))) [0,1,2,3,4] [.fslice 5 (qdO e b a)] (.i u)) (qaD (FzL.cons (Fz.lit rfl rfl (FzL.cons (Fz.func FzL.nil (FzL.cons (Fz.ptr rfl rfl (FzL.cons (Ua tS) (FzL.cons (Ua tI) (FzL.cons (Ua tS) (FzL.cons (Ua tI) (FzL.cons (Ua tS) (FzL.cons (Ua tS) (FzL.cons (Ua tS) FzL.nil)))))))) (FzL.cons (Fz.ptr rfl rfl (FzL.cons (Ua tI) (FzL.cons (Ua (qw qo _ (nl rfl))) (FzL.cons (Ua (qw qg _ (nl rfl))) FzL.nil)))) FzL.nil))) (FzL.cons (Fz.func FzL.nil (FzL.cons (Fz.ptr rfl rfl (FzL.cons (Ua tS) (FzL.cons (Ua tI) (FzL.cons (Ua tS) (FzL.cons (Ua tI) (FzL.cons (Ua tS) (FzL.cons (Ua tS) (FzL.cons (Ua tS) FzL.nil)))))))) (FzL.cons (Fz.ptr rfl rfl (FzL.cons (Ua tS) (FzL.cons (Ua tS) (FzL.cons (Ua tS) (FzL.cons (Ua tI) (FzL.cons (Ua tB) (FzL.cons (Ua tS) (FzL.cons (Ua tS) (FzL.cons (Ua tI) (FzL.cons (Ua tI) (FzL.cons (Ua tI) FzL.nil))))))))))) FzL.nil))) (FzL.cons (Fz.func FzL.nil (FzL.cons (Fz.ptr rfl rfl (FzL.cons (Fz.func FzL.nil FzL.nil) (FzL.cons (Fz.func FzL.nil FzL.nil) FzL.nil))) (FzL.cons (Fz.ptr rfl rfl (FzL.cons (Ua tS) (FzL.cons (Ua tS) (FzL.cons (Ua tS) (FzL.cons (Ua tI) (FzL.cons (Ua tB) (FzL.cons (Ua tS) (FzL.cons (Ua tS) (FzL.cons (Ua tI) (FzL.cons (Ua tI) (FzL.cons (Ua tI) FzL.nil))))))))))) (FzL.cons (Fz.ptr rfl rfl (FzL.cons (Ua tS) (FzL.cons (Ua tI) (FzL.cons (Ua tS) (FzL.cons (Ua tI) (FzL.cons (Ua tS) (FzL.cons (Ua tS) (FzL.cons (Ua tS) FzL.nil)))))))) FzL.nil)))) (FzL.cons (Fz.func FzL.nil (FzL.cons (Fz.ptr rfl rfl (FzL.cons (Fz.func FzL.nil FzL.nil) (FzL.cons (Fz.func FzL.nil FzL.nil) FzL.nil))) (FzL.cons (Fz.ptr rfl rfl (FzL.cons (Ua tS) (FzL.cons (Ua tS) (FzL.cons (Ua tS) (FzL.cons (Ua tI) (FzL.cons (Ua tB) (FzL.cons (Ua tS) (FzL.cons (Ua tS) (FzL.cons (Ua tI) (FzL.cons (Ua tI) (FzL.cons (Ua tI) FzL.nil))))))))))) (FzL.cons (Fz.ptr rfl rfl (FzL.cons (Ua tS) (FzL.cons (Ua tI) (FzL.cons (Ua tS) (FzL.cons (Ua tI) (FzL.cons (Ua tS) (FzL.cons (Ua tS) (FzL.cons (Ua tS) FzL.nil)))))))) FzL.nil)))) (FzL.cons (Fz.func FzL.nil (FzL.cons (Fz.ptr rfl rfl (FzL.cons (Ua tI) (FzL.cons (Ua (qw qo _ (nl rfl))) (FzL.cons (Ua (qw qg _ (nl rfl))) FzL.nil)))) (FzL.cons (Fz.ptr rfl rfl (FzL.cons (Ua tS) (FzL.cons (Ua tI) (FzL.cons (Ua tS) (FzL.cons (Ua tI) (FzL.cons (Ua tS) (FzL.cons (Ua tS) (FzL.cons (Ua tS) FzL.nil)))))))) FzL.nil))) FzL.nil)))))) FzL.nil) (qiB N e b a q) tI rfl)) az) ?_)
  refine Goes.ret ?_
  obtain rfl:=si h
  exact(gw2 [.i u] (Ub tI))
 rcases wyB h with⟨r,h⟩|⟨r,h⟩
 ·refine gq fol [0,3] (kG (kAL [])) (kD b.Day b.Lots b.Holds (kE e.Kind e.Day e.Lot e.Amount e.Yarn e.Dye e.Order (kC a.lot.Name a.lot.Yarn a.lot.Dye a.lot.Stock a.known a.hold.Lot a.hold.Order a.hold.Reserved a.hold.Taken a.free [.cells [.func (.func 134) [] [],.func (.func 135) [] []]]))) (ac (cv (zA c)) (ac (hs (.done (yu ZT 143 (fm1) (.str e.Kind) false) (.agg [.func (.func 134) [] [],.func (.func 135) [] []])) (qdC qdW [[114,101,99,101,105,118,101],[114,101,115,101,114,118,101],[114,101,108,101,97,115,101],[116,97,107,101],[114,101,116,117,114,110]] (qP o (yQ r)) rfl)) az)) ?_
  obtain⟨v,s,h⟩:=bnd h
  refine sq (gq fol [6] (kA3 v) (kD b.Day b.Lots b.Holds (kE e.Kind e.Day e.Lot e.Amount e.Yarn e.Dye e.Order (kC a.lot.Name a.lot.Yarn a.lot.Dye a.lot.Stock a.known a.hold.Lot a.hold.Order a.hold.Reserved a.hold.Taken a.free [.cells [.func (.func 134) [] [],.func (.func 135) [] []],.cells [.func (.func 115) [] [.ptr 1 0,.ptr 0 0],.func (.func 116) [] [.ptr 1 0,.ptr 2 0],.func (.func 117) [] [.ptr 3 0,.ptr 2 0,.ptr 1 0],.func (.func 118) [] [.ptr 3 0,.ptr 2 0,.ptr 1 0],.func (.func 119) [] [.ptr 0 0,.ptr 1 0]]]))) (ac (hs (.call 114 [.slice 4 0 5 5 1] (kD b.Day b.Lots b.Holds (kE e.Kind e.Day e.Lot e.Amount e.Yarn e.Dye e.Order (kC a.lot.Name a.lot.Yarn a.lot.Dye a.lot.Stock a.known a.hold.Lot a.hold.Order a.hold.Reserved a.hold.Taken a.free [.cells [.func (.func 134) [] [],.func (.func 135) [] []],.cells [.func (.func 115) [] [.ptr 1 0,.ptr 0 0],.func (.func 116) [] [.ptr 1 0,.ptr 2 0],.func (.func 117) [] [.ptr 3 0,.ptr 2 0,.ptr 1 0],.func (.func 118) [] [.ptr 3 0,.ptr 2 0,.ptr 1 0],.func (.func 119) [] [.ptr 0 0,.ptr 1 0]]]))) [0,1,2,3,4] [.fslice 5 (qdQ e b a)] (.i v)) (qaD (FzL.cons (Fz.lit rfl rfl (FzL.cons (Fz.func FzL.nil (FzL.cons (Fz.ptr rfl rfl (FzL.cons (Ua tS) (FzL.cons (Ua tI) (FzL.cons (Ua tS) (FzL.cons (Ua tI) (FzL.cons (Ua tS) (FzL.cons (Ua tS) (FzL.cons (Ua tS) FzL.nil)))))))) (FzL.cons (Fz.ptr rfl rfl (FzL.cons (Ua tI) (FzL.cons (Ua (qw qo _ (nl rfl))) (FzL.cons (Ua (qw qg _ (nl rfl))) FzL.nil)))) FzL.nil))) (FzL.cons (Fz.func FzL.nil (FzL.cons (Fz.ptr rfl rfl (FzL.cons (Ua tS) (FzL.cons (Ua tI) (FzL.cons (Ua tS) (FzL.cons (Ua tI) (FzL.cons (Ua tS) (FzL.cons (Ua tS) (FzL.cons (Ua tS) FzL.nil)))))))) (FzL.cons (Fz.ptr rfl rfl (FzL.cons (Ua tS) (FzL.cons (Ua tS) (FzL.cons (Ua tS) (FzL.cons (Ua tI) (FzL.cons (Ua tB) (FzL.cons (Ua tS) (FzL.cons (Ua tS) (FzL.cons (Ua tI) (FzL.cons (Ua tI) (FzL.cons (Ua tI) FzL.nil))))))))))) FzL.nil))) (FzL.cons (Fz.func FzL.nil (FzL.cons (Fz.ptr rfl rfl (FzL.cons (Fz.func FzL.nil FzL.nil) (FzL.cons (Fz.func FzL.nil FzL.nil) FzL.nil))) (FzL.cons (Fz.ptr rfl rfl (FzL.cons (Ua tS) (FzL.cons (Ua tS) (FzL.cons (Ua tS) (FzL.cons (Ua tI) (FzL.cons (Ua tB) (FzL.cons (Ua tS) (FzL.cons (Ua tS) (FzL.cons (Ua tI) (FzL.cons (Ua tI) (FzL.cons (Ua tI) FzL.nil))))))))))) (FzL.cons (Fz.ptr rfl rfl (FzL.cons (Ua tS) (FzL.cons (Ua tI) (FzL.cons (Ua tS) (FzL.cons (Ua tI) (FzL.cons (Ua tS) (FzL.cons (Ua tS) (FzL.cons (Ua tS) FzL.nil)))))))) FzL.nil)))) (FzL.cons (Fz.func FzL.nil (FzL.cons (Fz.ptr rfl rfl (FzL.cons (Fz.func FzL.nil FzL.nil) (FzL.cons (Fz.func FzL.nil FzL.nil) FzL.nil))) (FzL.cons (Fz.ptr rfl rfl (FzL.cons (Ua tS) (FzL.cons (Ua tS) (FzL.cons (Ua tS) (FzL.cons (Ua tI) (FzL.cons (Ua tB) (FzL.cons (Ua tS) (FzL.cons (Ua tS) (FzL.cons (Ua tI) (FzL.cons (Ua tI) (FzL.cons (Ua tI) FzL.nil))))))))))) (FzL.cons (Fz.ptr rfl rfl (FzL.cons (Ua tS) (FzL.cons (Ua tI) (FzL.cons (Ua tS) (FzL.cons (Ua tI) (FzL.cons (Ua tS) (FzL.cons (Ua tS) (FzL.cons (Ua tS) FzL.nil)))))))) FzL.nil)))) (FzL.cons (Fz.func FzL.nil (FzL.cons (Fz.ptr rfl rfl (FzL.cons (Ua tI) (FzL.cons (Ua (qw qo _ (nl rfl))) (FzL.cons (Ua (qw qg _ (nl rfl))) FzL.nil)))) (FzL.cons (Fz.ptr rfl rfl (FzL.cons (Ua tS) (FzL.cons (Ua tI) (FzL.cons (Ua tS) (FzL.cons (Ua tI) (FzL.cons (Ua tS) (FzL.cons (Ua tS) (FzL.cons (Ua tS) FzL.nil)))))))) FzL.nil))) FzL.nil)))))) FzL.nil) (qix N e b a s) tI rfl)) az) ?_)
  refine Goes.ret ?_
  obtain rfl:=si h
  exact(gw2 [.i v] (Ub tI))
 rcases wyB h with⟨t,h⟩|⟨t,h⟩
 ·refine gq fol [0,3] (kG (kAL [])) (kD b.Day b.Lots b.Holds (kE e.Kind e.Day e.Lot e.Amount e.Yarn e.Dye e.Order (kC a.lot.Name a.lot.Yarn a.lot.Dye a.lot.Stock a.known a.hold.Lot a.hold.Order a.hold.Reserved a.hold.Taken a.free [.cells [.func (.func 137) [] [],.func (.func 138) [] []]]))) (ac (cv (zA c)) (ac (hs (.done (yu ZT 143 (fm1) (.str e.Kind) false) (.agg [.func (.func 137) [] [],.func (.func 138) [] []])) (qdC qdW [[114,101,99,101,105,118,101],[114,101,115,101,114,118,101],[114,101,108,101,97,115,101],[116,97,107,101],[114,101,116,117,114,110]] (qP o (qP r (yQ t))) rfl)) az)) ?_
  obtain⟨d,f,h⟩:=bnd h
  refine sq (gq fol [6] (kA3 d) (kD b.Day b.Lots b.Holds (kE e.Kind e.Day e.Lot e.Amount e.Yarn e.Dye e.Order (kC a.lot.Name a.lot.Yarn a.lot.Dye a.lot.Stock a.known a.hold.Lot a.hold.Order a.hold.Reserved a.hold.Taken a.free [.cells [.func (.func 137) [] [],.func (.func 138) [] []],.cells [.func (.func 115) [] [.ptr 1 0,.ptr 0 0],.func (.func 116) [] [.ptr 1 0,.ptr 2 0],.func (.func 117) [] [.ptr 3 0,.ptr 2 0,.ptr 1 0],.func (.func 118) [] [.ptr 3 0,.ptr 2 0,.ptr 1 0],.func (.func 119) [] [.ptr 0 0,.ptr 1 0]]]))) (ac (hs (.call 114 [.slice 4 0 5 5 1] (kD b.Day b.Lots b.Holds (kE e.Kind e.Day e.Lot e.Amount e.Yarn e.Dye e.Order (kC a.lot.Name a.lot.Yarn a.lot.Dye a.lot.Stock a.known a.hold.Lot a.hold.Order a.hold.Reserved a.hold.Taken a.free [.cells [.func (.func 137) [] [],.func (.func 138) [] []],.cells [.func (.func 115) [] [.ptr 1 0,.ptr 0 0],.func (.func 116) [] [.ptr 1 0,.ptr 2 0],.func (.func 117) [] [.ptr 3 0,.ptr 2 0,.ptr 1 0],.func (.func 118) [] [.ptr 3 0,.ptr 2 0,.ptr 1 0],.func (.func 119) [] [.ptr 0 0,.ptr 1 0]]]))) [0,1,2,3,4] [.fslice 5 (qdK e b a)] (.i d)) (qaD (FzL.cons (Fz.lit rfl rfl (FzL.cons (Fz.func FzL.nil (FzL.cons (Fz.ptr rfl rfl (FzL.cons (Ua tS) (FzL.cons (Ua tI) (FzL.cons (Ua tS) (FzL.cons (Ua tI) (FzL.cons (Ua tS) (FzL.cons (Ua tS) (FzL.cons (Ua tS) FzL.nil)))))))) (FzL.cons (Fz.ptr rfl rfl (FzL.cons (Ua tI) (FzL.cons (Ua (qw qo _ (nl rfl))) (FzL.cons (Ua (qw qg _ (nl rfl))) FzL.nil)))) FzL.nil))) (FzL.cons (Fz.func FzL.nil (FzL.cons (Fz.ptr rfl rfl (FzL.cons (Ua tS) (FzL.cons (Ua tI) (FzL.cons (Ua tS) (FzL.cons (Ua tI) (FzL.cons (Ua tS) (FzL.cons (Ua tS) (FzL.cons (Ua tS) FzL.nil)))))))) (FzL.cons (Fz.ptr rfl rfl (FzL.cons (Ua tS) (FzL.cons (Ua tS) (FzL.cons (Ua tS) (FzL.cons (Ua tI) (FzL.cons (Ua tB) (FzL.cons (Ua tS) (FzL.cons (Ua tS) (FzL.cons (Ua tI) (FzL.cons (Ua tI) (FzL.cons (Ua tI) FzL.nil))))))))))) FzL.nil))) (FzL.cons (Fz.func FzL.nil (FzL.cons (Fz.ptr rfl rfl (FzL.cons (Fz.func FzL.nil FzL.nil) (FzL.cons (Fz.func FzL.nil FzL.nil) FzL.nil))) (FzL.cons (Fz.ptr rfl rfl (FzL.cons (Ua tS) (FzL.cons (Ua tS) (FzL.cons (Ua tS) (FzL.cons (Ua tI) (FzL.cons (Ua tB) (FzL.cons (Ua tS) (FzL.cons (Ua tS) (FzL.cons (Ua tI) (FzL.cons (Ua tI) (FzL.cons (Ua tI) FzL.nil))))))))))) (FzL.cons (Fz.ptr rfl rfl (FzL.cons (Ua tS) (FzL.cons (Ua tI) (FzL.cons (Ua tS) (FzL.cons (Ua tI) (FzL.cons (Ua tS) (FzL.cons (Ua tS) (FzL.cons (Ua tS) FzL.nil)))))))) FzL.nil)))) (FzL.cons (Fz.func FzL.nil (FzL.cons (Fz.ptr rfl rfl (FzL.cons (Fz.func FzL.nil FzL.nil) (FzL.cons (Fz.func FzL.nil FzL.nil) FzL.nil))) (FzL.cons (Fz.ptr rfl rfl (FzL.cons (Ua tS) (FzL.cons (Ua tS) (FzL.cons (Ua tS) (FzL.cons (Ua tI) (FzL.cons (Ua tB) (FzL.cons (Ua tS) (FzL.cons (Ua tS) (FzL.cons (Ua tI) (FzL.cons (Ua tI) (FzL.cons (Ua tI) FzL.nil))))))))))) (FzL.cons (Fz.ptr rfl rfl (FzL.cons (Ua tS) (FzL.cons (Ua tI) (FzL.cons (Ua tS) (FzL.cons (Ua tI) (FzL.cons (Ua tS) (FzL.cons (Ua tS) (FzL.cons (Ua tS) FzL.nil)))))))) FzL.nil)))) (FzL.cons (Fz.func FzL.nil (FzL.cons (Fz.ptr rfl rfl (FzL.cons (Ua tI) (FzL.cons (Ua (qw qo _ (nl rfl))) (FzL.cons (Ua (qw qg _ (nl rfl))) FzL.nil)))) (FzL.cons (Fz.ptr rfl rfl (FzL.cons (Ua tS) (FzL.cons (Ua tI) (FzL.cons (Ua tS) (FzL.cons (Ua tI) (FzL.cons (Ua tS) (FzL.cons (Ua tS) (FzL.cons (Ua tS) FzL.nil)))))))) FzL.nil))) FzL.nil)))))) FzL.nil) (qig N e b a f) tI rfl)) az) ?_)
  refine Goes.ret ?_
  obtain rfl:=si h
  exact(gw2 [.i d] (Ub tI))
 rcases wyB h with⟨w,h⟩|⟨w,h⟩
 ·refine gq fol [0,3] (kG (kAL [])) (kD b.Day b.Lots b.Holds (kE e.Kind e.Day e.Lot e.Amount e.Yarn e.Dye e.Order (kC a.lot.Name a.lot.Yarn a.lot.Dye a.lot.Stock a.known a.hold.Lot a.hold.Order a.hold.Reserved a.hold.Taken a.free [.cells [.func (.func 139) [] [],.func (.func 140) [] []]]))) (ac (cv (zA c)) (ac (hs (.done (yu ZT 143 (fm1) (.str e.Kind) false) (.agg [.func (.func 139) [] [],.func (.func 140) [] []])) (qdC qdW [[114,101,99,101,105,118,101],[114,101,115,101,114,118,101],[114,101,108,101,97,115,101],[116,97,107,101],[114,101,116,117,114,110]] (qP o (qP r (qP t (yQ w)))) rfl)) az)) ?_
  obtain⟨g,j,h⟩:=bnd h
  refine sq (gq fol [6] (kA3 g) (kD b.Day b.Lots b.Holds (kE e.Kind e.Day e.Lot e.Amount e.Yarn e.Dye e.Order (kC a.lot.Name a.lot.Yarn a.lot.Dye a.lot.Stock a.known a.hold.Lot a.hold.Order a.hold.Reserved a.hold.Taken a.free [.cells [.func (.func 139) [] [],.func (.func 140) [] []],.cells [.func (.func 115) [] [.ptr 1 0,.ptr 0 0],.func (.func 116) [] [.ptr 1 0,.ptr 2 0],.func (.func 117) [] [.ptr 3 0,.ptr 2 0,.ptr 1 0],.func (.func 118) [] [.ptr 3 0,.ptr 2 0,.ptr 1 0],.func (.func 119) [] [.ptr 0 0,.ptr 1 0]]]))) (ac (hs (.call 114 [.slice 4 0 5 5 1] (kD b.Day b.Lots b.Holds (kE e.Kind e.Day e.Lot e.Amount e.Yarn e.Dye e.Order (kC a.lot.Name a.lot.Yarn a.lot.Dye a.lot.Stock a.known a.hold.Lot a.hold.Order a.hold.Reserved a.hold.Taken a.free [.cells [.func (.func 139) [] [],.func (.func 140) [] []],.cells [.func (.func 115) [] [.ptr 1 0,.ptr 0 0],.func (.func 116) [] [.ptr 1 0,.ptr 2 0],.func (.func 117) [] [.ptr 3 0,.ptr 2 0,.ptr 1 0],.func (.func 118) [] [.ptr 3 0,.ptr 2 0,.ptr 1 0],.func (.func 119) [] [.ptr 0 0,.ptr 1 0]]]))) [0,1,2,3,4] [.fslice 5 (qdI e b a)] (.i g)) (qaD (FzL.cons (Fz.lit rfl rfl (FzL.cons (Fz.func FzL.nil (FzL.cons (Fz.ptr rfl rfl (FzL.cons (Ua tS) (FzL.cons (Ua tI) (FzL.cons (Ua tS) (FzL.cons (Ua tI) (FzL.cons (Ua tS) (FzL.cons (Ua tS) (FzL.cons (Ua tS) FzL.nil)))))))) (FzL.cons (Fz.ptr rfl rfl (FzL.cons (Ua tI) (FzL.cons (Ua (qw qo _ (nl rfl))) (FzL.cons (Ua (qw qg _ (nl rfl))) FzL.nil)))) FzL.nil))) (FzL.cons (Fz.func FzL.nil (FzL.cons (Fz.ptr rfl rfl (FzL.cons (Ua tS) (FzL.cons (Ua tI) (FzL.cons (Ua tS) (FzL.cons (Ua tI) (FzL.cons (Ua tS) (FzL.cons (Ua tS) (FzL.cons (Ua tS) FzL.nil)))))))) (FzL.cons (Fz.ptr rfl rfl (FzL.cons (Ua tS) (FzL.cons (Ua tS) (FzL.cons (Ua tS) (FzL.cons (Ua tI) (FzL.cons (Ua tB) (FzL.cons (Ua tS) (FzL.cons (Ua tS) (FzL.cons (Ua tI) (FzL.cons (Ua tI) (FzL.cons (Ua tI) FzL.nil))))))))))) FzL.nil))) (FzL.cons (Fz.func FzL.nil (FzL.cons (Fz.ptr rfl rfl (FzL.cons (Fz.func FzL.nil FzL.nil) (FzL.cons (Fz.func FzL.nil FzL.nil) FzL.nil))) (FzL.cons (Fz.ptr rfl rfl (FzL.cons (Ua tS) (FzL.cons (Ua tS) (FzL.cons (Ua tS) (FzL.cons (Ua tI) (FzL.cons (Ua tB) (FzL.cons (Ua tS) (FzL.cons (Ua tS) (FzL.cons (Ua tI) (FzL.cons (Ua tI) (FzL.cons (Ua tI) FzL.nil))))))))))) (FzL.cons (Fz.ptr rfl rfl (FzL.cons (Ua tS) (FzL.cons (Ua tI) (FzL.cons (Ua tS) (FzL.cons (Ua tI) (FzL.cons (Ua tS) (FzL.cons (Ua tS) (FzL.cons (Ua tS) FzL.nil)))))))) FzL.nil)))) (FzL.cons (Fz.func FzL.nil (FzL.cons (Fz.ptr rfl rfl (FzL.cons (Fz.func FzL.nil FzL.nil) (FzL.cons (Fz.func FzL.nil FzL.nil) FzL.nil))) (FzL.cons (Fz.ptr rfl rfl (FzL.cons (Ua tS) (FzL.cons (Ua tS) (FzL.cons (Ua tS) (FzL.cons (Ua tI) (FzL.cons (Ua tB) (FzL.cons (Ua tS) (FzL.cons (Ua tS) (FzL.cons (Ua tI) (FzL.cons (Ua tI) (FzL.cons (Ua tI) FzL.nil))))))))))) (FzL.cons (Fz.ptr rfl rfl (FzL.cons (Ua tS) (FzL.cons (Ua tI) (FzL.cons (Ua tS) (FzL.cons (Ua tI) (FzL.cons (Ua tS) (FzL.cons (Ua tS) (FzL.cons (Ua tS) FzL.nil)))))))) FzL.nil)))) (FzL.cons (Fz.func FzL.nil (FzL.cons (Fz.ptr rfl rfl (FzL.cons (Ua tI) (FzL.cons (Ua (qw qo _ (nl rfl))) (FzL.cons (Ua (qw qg _ (nl rfl))) FzL.nil)))) (FzL.cons (Fz.ptr rfl rfl (FzL.cons (Ua tS) (FzL.cons (Ua tI) (FzL.cons (Ua tS) (FzL.cons (Ua tI) (FzL.cons (Ua tS) (FzL.cons (Ua tS) (FzL.cons (Ua tS) FzL.nil)))))))) FzL.nil))) FzL.nil)))))) FzL.nil) (qiM N e b a j) tI rfl)) az) ?_)
  refine Goes.ret ?_
  obtain rfl:=si h
  exact(gw2 [.i g] (Ub tI))
 rcases wyB h with⟨x,h⟩|⟨x,h⟩
 ·refine gq fol [0,3] (kG (kAL [])) (kD b.Day b.Lots b.Holds (kE e.Kind e.Day e.Lot e.Amount e.Yarn e.Dye e.Order (kC a.lot.Name a.lot.Yarn a.lot.Dye a.lot.Stock a.known a.hold.Lot a.hold.Order a.hold.Reserved a.hold.Taken a.free [.cells [.func (.func 141) [] [],.func (.func 142) [] []]]))) (ac (cv (zA c)) (ac (hs (.done (yu ZT 143 (fm1) (.str e.Kind) false) (.agg [.func (.func 141) [] [],.func (.func 142) [] []])) (qdC qdW [[114,101,99,101,105,118,101],[114,101,115,101,114,118,101],[114,101,108,101,97,115,101],[116,97,107,101],[114,101,116,117,114,110]] (qP o (qP r (qP t (qP w (yQ x))))) rfl)) az)) ?_
  obtain⟨k,n,h⟩:=bnd h
  refine sq (gq fol [6] (kA3 k) (kD b.Day b.Lots b.Holds (kE e.Kind e.Day e.Lot e.Amount e.Yarn e.Dye e.Order (kC a.lot.Name a.lot.Yarn a.lot.Dye a.lot.Stock a.known a.hold.Lot a.hold.Order a.hold.Reserved a.hold.Taken a.free [.cells [.func (.func 141) [] [],.func (.func 142) [] []],.cells [.func (.func 115) [] [.ptr 1 0,.ptr 0 0],.func (.func 116) [] [.ptr 1 0,.ptr 2 0],.func (.func 117) [] [.ptr 3 0,.ptr 2 0,.ptr 1 0],.func (.func 118) [] [.ptr 3 0,.ptr 2 0,.ptr 1 0],.func (.func 119) [] [.ptr 0 0,.ptr 1 0]]]))) (ac (hs (.call 114 [.slice 4 0 5 5 1] (kD b.Day b.Lots b.Holds (kE e.Kind e.Day e.Lot e.Amount e.Yarn e.Dye e.Order (kC a.lot.Name a.lot.Yarn a.lot.Dye a.lot.Stock a.known a.hold.Lot a.hold.Order a.hold.Reserved a.hold.Taken a.free [.cells [.func (.func 141) [] [],.func (.func 142) [] []],.cells [.func (.func 115) [] [.ptr 1 0,.ptr 0 0],.func (.func 116) [] [.ptr 1 0,.ptr 2 0],.func (.func 117) [] [.ptr 3 0,.ptr 2 0,.ptr 1 0],.func (.func 118) [] [.ptr 3 0,.ptr 2 0,.ptr 1 0],.func (.func 119) [] [.ptr 0 0,.ptr 1 0]]]))) [0,1,2,3,4] [.fslice 5 (qdJ e b a)] (.i k)) (qaD (FzL.cons (Fz.lit rfl rfl (FzL.cons (Fz.func FzL.nil (FzL.cons (Fz.ptr rfl rfl (FzL.cons (Ua tS) (FzL.cons (Ua tI) (FzL.cons (Ua tS) (FzL.cons (Ua tI) (FzL.cons (Ua tS) (FzL.cons (Ua tS) (FzL.cons (Ua tS) FzL.nil)))))))) (FzL.cons (Fz.ptr rfl rfl (FzL.cons (Ua tI) (FzL.cons (Ua (qw qo _ (nl rfl))) (FzL.cons (Ua (qw qg _ (nl rfl))) FzL.nil)))) FzL.nil))) (FzL.cons (Fz.func FzL.nil (FzL.cons (Fz.ptr rfl rfl (FzL.cons (Ua tS) (FzL.cons (Ua tI) (FzL.cons (Ua tS) (FzL.cons (Ua tI) (FzL.cons (Ua tS) (FzL.cons (Ua tS) (FzL.cons (Ua tS) FzL.nil)))))))) (FzL.cons (Fz.ptr rfl rfl (FzL.cons (Ua tS) (FzL.cons (Ua tS) (FzL.cons (Ua tS) (FzL.cons (Ua tI) (FzL.cons (Ua tB) (FzL.cons (Ua tS) (FzL.cons (Ua tS) (FzL.cons (Ua tI) (FzL.cons (Ua tI) (FzL.cons (Ua tI) FzL.nil))))))))))) FzL.nil))) (FzL.cons (Fz.func FzL.nil (FzL.cons (Fz.ptr rfl rfl (FzL.cons (Fz.func FzL.nil FzL.nil) (FzL.cons (Fz.func FzL.nil FzL.nil) FzL.nil))) (FzL.cons (Fz.ptr rfl rfl (FzL.cons (Ua tS) (FzL.cons (Ua tS) (FzL.cons (Ua tS) (FzL.cons (Ua tI) (FzL.cons (Ua tB) (FzL.cons (Ua tS) (FzL.cons (Ua tS) (FzL.cons (Ua tI) (FzL.cons (Ua tI) (FzL.cons (Ua tI) FzL.nil))))))))))) (FzL.cons (Fz.ptr rfl rfl (FzL.cons (Ua tS) (FzL.cons (Ua tI) (FzL.cons (Ua tS) (FzL.cons (Ua tI) (FzL.cons (Ua tS) (FzL.cons (Ua tS) (FzL.cons (Ua tS) FzL.nil)))))))) FzL.nil)))) (FzL.cons (Fz.func FzL.nil (FzL.cons (Fz.ptr rfl rfl (FzL.cons (Fz.func FzL.nil FzL.nil) (FzL.cons (Fz.func FzL.nil FzL.nil) FzL.nil))) (FzL.cons (Fz.ptr rfl rfl (FzL.cons (Ua tS) (FzL.cons (Ua tS) (FzL.cons (Ua tS) (FzL.cons (Ua tI) (FzL.cons (Ua tB) (FzL.cons (Ua tS) (FzL.cons (Ua tS) (FzL.cons (Ua tI) (FzL.cons (Ua tI) (FzL.cons (Ua tI) FzL.nil))))))))))) (FzL.cons (Fz.ptr rfl rfl (FzL.cons (Ua tS) (FzL.cons (Ua tI) (FzL.cons (Ua tS) (FzL.cons (Ua tI) (FzL.cons (Ua tS) (FzL.cons (Ua tS) (FzL.cons (Ua tS) FzL.nil)))))))) FzL.nil)))) (FzL.cons (Fz.func FzL.nil (FzL.cons (Fz.ptr rfl rfl (FzL.cons (Ua tI) (FzL.cons (Ua (qw qo _ (nl rfl))) (FzL.cons (Ua (qw qg _ (nl rfl))) FzL.nil)))) (FzL.cons (Fz.ptr rfl rfl (FzL.cons (Ua tS) (FzL.cons (Ua tI) (FzL.cons (Ua tS) (FzL.cons (Ua tI) (FzL.cons (Ua tS) (FzL.cons (Ua tS) (FzL.cons (Ua tS) FzL.nil)))))))) FzL.nil))) FzL.nil)))))) FzL.nil) (qiu N e b a n) tI rfl)) az) ?_)
  refine Goes.ret ?_
  obtain rfl:=si h
  exact(gw2 [.i k] (Ub tI))
 cases h
end Go.Av
