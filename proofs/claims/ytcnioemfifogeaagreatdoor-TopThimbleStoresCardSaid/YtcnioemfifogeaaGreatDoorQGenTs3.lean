/-
  Walks of functions: what each computes, as a plain function.
-/
import Derived.Test.YtcnioemfifogeaaGreatDoorQGenTs2
noncomputable section
namespace Go.Av
open Go.Proofs Go.RowKit
set_option linter.unusedSectionVars false
set_option linter.unusedVariables false
set_option linter.unusedSimpArgs false
set_option maxRecDepth 100000
def qn1 (a:zi) (b:StateT):Option Bool:=
 some (decide (a.Day>=b.Day))
theorem qtZ (a:zi) (b:StateT) {res:Bool} (h:qn1 a b=some res):zu ZT (.fn 115) [.fptr (kA a.Kind a.Day a.Lot a.Amount a.Yarn a.Dye a.Order) 0,.fptr (kF b.Day b.Lots b.Holds) 0] [] (.bool res) []:=by
 unfold qn1 at h
 refine Uc Tryz.func115 rfl rfl (m:=8) rfl (rs:=[.tmp 2]) rfl (l:=[(0,.fptr (kA a.Kind a.Day a.Lot a.Amount a.Yarn a.Dye a.Order) 0),(1,.fptr (kF b.Day b.Lots b.Holds) 0)]) rfl ?_
 refine sh fol [(0,.fptr (kA a.Kind a.Day a.Lot a.Amount a.Yarn a.Dye a.Order) 0),(1,.fptr (kF b.Day b.Lots b.Holds) 0)] ?_
 refine sh fol (kAJ (decide (a.Day>=b.Day))) ?_
 refine Goes.ret ?_
 obtain rfl:=si h
 exact(gw2 [.bool (decide (a.Day>=b.Day))] (Ub tB))
def qgD (a:zi) (b:StateT):Option Bool:=
 (qn1 a b).bind fun c=>
 some (!c)
theorem qkP (a:zi) (b:StateT) {res:Bool} (h:qgD a b=some res):zu ZT (.fn 177) [.func (.func 115) [] [.fptr (kA a.Kind a.Day a.Lot a.Amount a.Yarn a.Dye a.Order) 0,.fptr (kF b.Day b.Lots b.Holds) 0]] [] (.bool res) []:=by
 unfold qgD at h
 refine Uc Tryz.func177 rfl rfl (m:=6) rfl (rs:=[.tmp 2]) rfl (l:=[(0,.func (.func 115) [] [.fptr (kA a.Kind a.Day a.Lot a.Amount a.Yarn a.Dye a.Order) 0,.fptr (kF b.Day b.Lots b.Holds) 0])]) rfl ?_
 refine sh fol [(0,.func (.func 115) [] [.fptr (kA a.Kind a.Day a.Lot a.Amount a.Yarn a.Dye a.Order) 0,.fptr (kF b.Day b.Lots b.Holds) 0])] ?_
 obtain⟨d,c,h⟩:=bnd h
 refine sq (gr fol [1] (kAJ (!d)) (ac (hs (.call 115 [.fptr (kA a.Kind a.Day a.Lot a.Amount a.Yarn a.Dye a.Order) 0,.fptr (kF b.Day b.Lots b.Holds) 0] [] [] [.fptr (kA a.Kind a.Day a.Lot a.Amount a.Yarn a.Dye a.Order) 0,.fptr (kF b.Day b.Lots b.Holds) 0] (.bool d)) (qb4 (FzL.cons (Ua (Still.fptr (AllST.cons tS (AllST.cons tI (AllST.cons tS (AllST.cons tI (AllST.cons tS (AllST.cons tS (AllST.cons tS AllST.nil))))))))) (FzL.cons (Ua (Still.fptr (AllST.cons tI (AllST.cons (jo qN _ (nl rfl)) (AllST.cons (jo qJ _ (nl rfl)) AllST.nil))))) FzL.nil)) (qtZ a b c) tB)) az) ?_)
 refine Goes.ret ?_
 obtain rfl:=si h
 exact(gw2 [.bool (!d)] (Ub tB))
def qlX (b:zi) (a:qg):Option Bool:=
 if(!(b.Kind==[114,101,99,101,105,118,101]))=true then
 some a.known
 else
 (if(!a.known)=true then
 some true
 else
 if(a.lot.Yarn==b.Yarn)=true then
 some (a.lot.Dye==b.Dye)
 else
 some false:Option Bool).bind fun c=>
 some c
theorem qt9 (b:zi) (a:qg) {res:Bool} (h:qlX b a=some res):zu ZT (.fn 116) [.fptr (kA b.Kind b.Day b.Lot b.Amount b.Yarn b.Dye b.Order) 0,.fptr (.str a.lot.Name::(kB a.lot.Yarn a.lot.Dye a.lot.Stock a.known a.hold.Lot a.hold.Order a.hold.Reserved a.hold.Taken a.free)) 0] [] (.bool res) []:=by
 unfold qlX at h
 refine Uc Tryz.func116 rfl rfl (m:=27) rfl (rs:=[.tmp 2]) rfl (l:=[(0,.fptr (kA b.Kind b.Day b.Lot b.Amount b.Yarn b.Dye b.Order) 0),(1,.fptr (.str a.lot.Name::(kB a.lot.Yarn a.lot.Dye a.lot.Stock a.known a.hold.Lot a.hold.Order a.hold.Reserved a.hold.Taken a.free)) 0)]) rfl ?_
 refine sh fol [(0,.fptr (kA b.Kind b.Day b.Lot b.Amount b.Yarn b.Dye b.Order) 0),(1,.fptr (.str a.lot.Name::(kB a.lot.Yarn a.lot.Dye a.lot.Stock a.known a.hold.Lot a.hold.Order a.hold.Reserved a.hold.Taken a.free)) 0)] ?_
 refine sq ?_
 refine sh fol [(0,.fptr [.str b.Kind,.i b.Day,.str b.Lot,.i b.Amount,.str b.Yarn,.str b.Dye,.str b.Order] 0),(1,.fptr [.str a.lot.Name,.str a.lot.Yarn,.str a.lot.Dye,.i a.lot.Stock,.bool a.known,.str a.hold.Lot,.str a.hold.Order,.i a.hold.Reserved,.i a.hold.Taken,.i a.free] 0),(5,.bool (!(b.Kind==[114,101,99,101,105,118,101])))] ?_
 refine ihB h (fun g h=>?_) (fun g h=>?_)
 ·refine sh fol (kAJ a.known) ?_
  refine Goes.ret ?_
  obtain rfl:=si h
  exact(gw2 [.bool a.known] (Ub tB))
 refine Goes.skip ?_
 refine sq ?_
 obtain⟨f,c,h⟩:=bnd h
 refine Goes.cut (s':=(ofG 27 (kAJ f),[])) ?_ ?_
 ·rcases wyB c with⟨d,c⟩|⟨d,c⟩
  ·obtain rfl:=si c
   exact tr fol [3] [(2,.bool true)] (ac (gw d) az)
  rcases wyB c with⟨e,c⟩|⟨e,c⟩
  ·obtain rfl:=si c
   exact tr fol [3,10] (kAJ (a.lot.Dye==b.Dye)) (ac (gw d) (ac (gw e) az))
  obtain rfl:=si c
  exact tr fol [3,10] kAR (ac (gw d) (ac (gw e) az))
 refine Goes.ret ?_
 obtain rfl:=si h
 exact(gw2 [.bool f] (Ub tB))
def qfg (a:zi) (b:qg):Option Bool:=
 (qlX a b).bind fun c=>
 some (!c)
theorem qkL (b:zi) (a:qg) {res:Bool} (h:qfg b a=some res):zu ZT (.fn 177) [.func (.func 116) [] [.fptr (kA b.Kind b.Day b.Lot b.Amount b.Yarn b.Dye b.Order) 0,.fptr (.str a.lot.Name::(kB a.lot.Yarn a.lot.Dye a.lot.Stock a.known a.hold.Lot a.hold.Order a.hold.Reserved a.hold.Taken a.free)) 0]] [] (.bool res) []:=by
 unfold qfg at h
 refine Uc Tryz.func177 rfl rfl (m:=6) rfl (rs:=[.tmp 2]) rfl (l:=[(0,.func (.func 116) [] [.fptr (kA b.Kind b.Day b.Lot b.Amount b.Yarn b.Dye b.Order) 0,.fptr (.str a.lot.Name::(kB a.lot.Yarn a.lot.Dye a.lot.Stock a.known a.hold.Lot a.hold.Order a.hold.Reserved a.hold.Taken a.free)) 0])]) rfl ?_
 refine sh fol [(0,.func (.func 116) [] [.fptr (kA b.Kind b.Day b.Lot b.Amount b.Yarn b.Dye b.Order) 0,.fptr (.str a.lot.Name::(kB a.lot.Yarn a.lot.Dye a.lot.Stock a.known a.hold.Lot a.hold.Order a.hold.Reserved a.hold.Taken a.free)) 0])] ?_
 obtain⟨d,c,h⟩:=bnd h
 refine sq (gr fol [1] (kAJ (!d)) (ac (hs (.call 116 [.fptr (kA b.Kind b.Day b.Lot b.Amount b.Yarn b.Dye b.Order) 0,.fptr (.str a.lot.Name::(kB a.lot.Yarn a.lot.Dye a.lot.Stock a.known a.hold.Lot a.hold.Order a.hold.Reserved a.hold.Taken a.free)) 0] [] [] [.fptr (kA b.Kind b.Day b.Lot b.Amount b.Yarn b.Dye b.Order) 0,.fptr (.str a.lot.Name::(kB a.lot.Yarn a.lot.Dye a.lot.Stock a.known a.hold.Lot a.hold.Order a.hold.Reserved a.hold.Taken a.free)) 0] (.bool d)) (qb4 (FzL.cons (Ua (Still.fptr (AllST.cons tS (AllST.cons tI (AllST.cons tS (AllST.cons tI (AllST.cons tS (AllST.cons tS (AllST.cons tS AllST.nil))))))))) (FzL.cons (Ua (Still.fptr (AllST.cons tS (AllST.cons tS (AllST.cons tS (AllST.cons tI (AllST.cons tB (AllST.cons tS (AllST.cons tS (AllST.cons tI (AllST.cons tI (AllST.cons tI AllST.nil)))))))))))) FzL.nil)) (qt9 b a c) tB)) az) ?_)
 refine Goes.ret ?_
 obtain rfl:=si h
 exact(gw2 [.bool (!d)] (Ub tB))
def qn4 (a:qg) (b:zi):Option Bool:=
 (quy a b.Amount).bind fun c=>
 some c
theorem qua (a:qg) (b:zi) {res:Bool} (h:qn4 a b=some res):zu ZT (.fn 117) [.fptr [.func (.func 132) [] [],.func (.func 133) [] []] 0,.fptr (.str a.lot.Name::(kB a.lot.Yarn a.lot.Dye a.lot.Stock a.known a.hold.Lot a.hold.Order a.hold.Reserved a.hold.Taken a.free)) 0,.fptr (kA b.Kind b.Day b.Lot b.Amount b.Yarn b.Dye b.Order) 0] [] (.bool res) []:=by
 unfold qn4 at h
 refine Uc Tryz.func117 rfl rfl (m:=10) rfl (rs:=[.tmp 3]) rfl (l:=[(0,.fptr [.func (.func 132) [] [],.func (.func 133) [] []] 0),(1,.fptr (.str a.lot.Name::(kB a.lot.Yarn a.lot.Dye a.lot.Stock a.known a.hold.Lot a.hold.Order a.hold.Reserved a.hold.Taken a.free)) 0),(2,.fptr (kA b.Kind b.Day b.Lot b.Amount b.Yarn b.Dye b.Order) 0)]) rfl ?_
 refine sh fol [(0,.fptr [.func (.func 132) [] [],.func (.func 133) [] []] 0),(1,.fptr (.str a.lot.Name::(kB a.lot.Yarn a.lot.Dye a.lot.Stock a.known a.hold.Lot a.hold.Order a.hold.Reserved a.hold.Taken a.free)) 0),(2,.fptr (kA b.Kind b.Day b.Lot b.Amount b.Yarn b.Dye b.Order) 0)] ?_
 obtain⟨d,c,h⟩:=bnd h
 refine sq (gr fol [5] (kAm d) (ac (cv (qzD a b.Amount c)) az) ?_)
 refine Goes.ret ?_
 obtain rfl:=si h
 exact(gw2 [.bool d] (Ub tB))
def qqH (a:qg) (b:zi):Option Bool:=
 (qn4 a b).bind fun c=>
 some (!c)
theorem qwS (a:qg) (b:zi) {res:Bool} (h:qqH a b=some res):zu ZT (.fn 177) [.func (.func 117) [] [.fptr [.func (.func 132) [] [],.func (.func 133) [] []] 0,.fptr (.str a.lot.Name::(kB a.lot.Yarn a.lot.Dye a.lot.Stock a.known a.hold.Lot a.hold.Order a.hold.Reserved a.hold.Taken a.free)) 0,.fptr (kA b.Kind b.Day b.Lot b.Amount b.Yarn b.Dye b.Order) 0]] [] (.bool res) []:=by
 unfold qqH at h
 refine Uc Tryz.func177 rfl rfl (m:=6) rfl (rs:=[.tmp 2]) rfl (l:=[(0,.func (.func 117) [] [.fptr [.func (.func 132) [] [],.func (.func 133) [] []] 0,.fptr (.str a.lot.Name::(kB a.lot.Yarn a.lot.Dye a.lot.Stock a.known a.hold.Lot a.hold.Order a.hold.Reserved a.hold.Taken a.free)) 0,.fptr (kA b.Kind b.Day b.Lot b.Amount b.Yarn b.Dye b.Order) 0])]) rfl ?_
 refine sh fol [(0,.func (.func 117) [] [.fptr [.func (.func 132) [] [],.func (.func 133) [] []] 0,.fptr (.str a.lot.Name::(kB a.lot.Yarn a.lot.Dye a.lot.Stock a.known a.hold.Lot a.hold.Order a.hold.Reserved a.hold.Taken a.free)) 0,.fptr (kA b.Kind b.Day b.Lot b.Amount b.Yarn b.Dye b.Order) 0])] ?_
 obtain⟨d,c,h⟩:=bnd h
 refine sq (gr fol [1] (kAJ (!d)) (ac (hs (.call 117 [.fptr [.func (.func 132) [] [],.func (.func 133) [] []] 0,.fptr (.str a.lot.Name::(kB a.lot.Yarn a.lot.Dye a.lot.Stock a.known a.hold.Lot a.hold.Order a.hold.Reserved a.hold.Taken a.free)) 0,.fptr (kA b.Kind b.Day b.Lot b.Amount b.Yarn b.Dye b.Order) 0] [] [] [.fptr [.func (.func 132) [] [],.func (.func 133) [] []] 0,.fptr (.str a.lot.Name::(kB a.lot.Yarn a.lot.Dye a.lot.Stock a.known a.hold.Lot a.hold.Order a.hold.Reserved a.hold.Taken a.free)) 0,.fptr (kA b.Kind b.Day b.Lot b.Amount b.Yarn b.Dye b.Order) 0] (.bool d)) (qb4 (FzL.cons (Ua (Still.fptr (AllST.cons (Still.func AllST.nil AllST.nil) (AllST.cons (Still.func AllST.nil AllST.nil) AllST.nil)))) (FzL.cons (Ua (Still.fptr (AllST.cons tS (AllST.cons tS (AllST.cons tS (AllST.cons tI (AllST.cons tB (AllST.cons tS (AllST.cons tS (AllST.cons tI (AllST.cons tI (AllST.cons tI AllST.nil)))))))))))) (FzL.cons (Ua (Still.fptr (AllST.cons tS (AllST.cons tI (AllST.cons tS (AllST.cons tI (AllST.cons tS (AllST.cons tS (AllST.cons tS AllST.nil))))))))) FzL.nil))) (qua a b c) tB)) az) ?_)
 refine Goes.ret ?_
 obtain rfl:=si h
 exact(gw2 [.bool (!d)] (Ub tB))
def qor (b:qg) (c:zi):Option Bool:=
 (qpV b c.Amount).bind fun a=>
 some (decide ((if a.hold.Taken>a.lot.Stock then a.hold.Taken else a.lot.Stock)<=999999999))
theorem qt0 (a:qg) (b:zi) {res:Bool} (h:qor a b=some res):zu ZT (.fn 118) [.fptr [.func (.func 132) [] [],.func (.func 133) [] []] 0,.fptr (.str a.lot.Name::(kB a.lot.Yarn a.lot.Dye a.lot.Stock a.known a.hold.Lot a.hold.Order a.hold.Reserved a.hold.Taken a.free)) 0,.fptr (kA b.Kind b.Day b.Lot b.Amount b.Yarn b.Dye b.Order) 0] [] (.bool res) []:=by
 unfold qor at h
 refine Uc Tryz.func118 rfl rfl (m:=19) rfl (rs:=[.tmp 3]) rfl (l:=[(0,.fptr [.func (.func 132) [] [],.func (.func 133) [] []] 0),(1,.fptr (.str a.lot.Name::(kB a.lot.Yarn a.lot.Dye a.lot.Stock a.known a.hold.Lot a.hold.Order a.hold.Reserved a.hold.Taken a.free)) 0),(2,.fptr (kA b.Kind b.Day b.Lot b.Amount b.Yarn b.Dye b.Order) 0)]) rfl ?_
 refine sh fol [(0,.fptr [.func (.func 132) [] [],.func (.func 133) [] []] 0),(1,.fptr (.str a.lot.Name::(kB a.lot.Yarn a.lot.Dye a.lot.Stock a.known a.hold.Lot a.hold.Order a.hold.Reserved a.hold.Taken a.free)) 0),(2,.fptr (kA b.Kind b.Day b.Lot b.Amount b.Yarn b.Dye b.Order) 0)] ?_
 obtain⟨c,d,h⟩:=bnd h
 refine sq (gq fol [5] kAq (kC c.lot.Name c.lot.Yarn c.lot.Dye c.lot.Stock c.known c.hold.Lot c.hold.Order c.hold.Reserved c.hold.Taken c.free []) (ac (cv (quS a b.Amount d)) az) ?_)
 refine sh fol (kAm (decide ((if c.hold.Taken>c.lot.Stock then c.hold.Taken else c.lot.Stock)<=999999999))) ?_
 refine Goes.ret ?_
 obtain rfl:=si h
 exact(gw2 [.bool (decide ((if c.hold.Taken>c.lot.Stock then c.hold.Taken else c.lot.Stock)<=999999999))] (Ub tB))
def qqV (a:qg) (b:zi):Option Bool:=
 (qor a b).bind fun c=>
 some (!c)
theorem qwy (a:qg) (b:zi) {res:Bool} (h:qqV a b=some res):zu ZT (.fn 177) [.func (.func 118) [] [.fptr [.func (.func 132) [] [],.func (.func 133) [] []] 0,.fptr (.str a.lot.Name::(kB a.lot.Yarn a.lot.Dye a.lot.Stock a.known a.hold.Lot a.hold.Order a.hold.Reserved a.hold.Taken a.free)) 0,.fptr (kA b.Kind b.Day b.Lot b.Amount b.Yarn b.Dye b.Order) 0]] [] (.bool res) []:=by
 unfold qqV at h
 refine Uc Tryz.func177 rfl rfl (m:=6) rfl (rs:=[.tmp 2]) rfl (l:=[(0,.func (.func 118) [] [.fptr [.func (.func 132) [] [],.func (.func 133) [] []] 0,.fptr (.str a.lot.Name::(kB a.lot.Yarn a.lot.Dye a.lot.Stock a.known a.hold.Lot a.hold.Order a.hold.Reserved a.hold.Taken a.free)) 0,.fptr (kA b.Kind b.Day b.Lot b.Amount b.Yarn b.Dye b.Order) 0])]) rfl ?_
 refine sh fol [(0,.func (.func 118) [] [.fptr [.func (.func 132) [] [],.func (.func 133) [] []] 0,.fptr (.str a.lot.Name::(kB a.lot.Yarn a.lot.Dye a.lot.Stock a.known a.hold.Lot a.hold.Order a.hold.Reserved a.hold.Taken a.free)) 0,.fptr (kA b.Kind b.Day b.Lot b.Amount b.Yarn b.Dye b.Order) 0])] ?_
 obtain⟨d,c,h⟩:=bnd h
 refine sq (gr fol [1] (kAJ (!d)) (ac (hs (.call 118 [.fptr [.func (.func 132) [] [],.func (.func 133) [] []] 0,.fptr (.str a.lot.Name::(kB a.lot.Yarn a.lot.Dye a.lot.Stock a.known a.hold.Lot a.hold.Order a.hold.Reserved a.hold.Taken a.free)) 0,.fptr (kA b.Kind b.Day b.Lot b.Amount b.Yarn b.Dye b.Order) 0] [] [] [.fptr [.func (.func 132) [] [],.func (.func 133) [] []] 0,.fptr (.str a.lot.Name::(kB a.lot.Yarn a.lot.Dye a.lot.Stock a.known a.hold.Lot a.hold.Order a.hold.Reserved a.hold.Taken a.free)) 0,.fptr (kA b.Kind b.Day b.Lot b.Amount b.Yarn b.Dye b.Order) 0] (.bool d)) (qb4 (FzL.cons (Ua (Still.fptr (AllST.cons (Still.func AllST.nil AllST.nil) (AllST.cons (Still.func AllST.nil AllST.nil) AllST.nil)))) (FzL.cons (Ua (Still.fptr (AllST.cons tS (AllST.cons tS (AllST.cons tS (AllST.cons tI (AllST.cons tB (AllST.cons tS (AllST.cons tS (AllST.cons tI (AllST.cons tI (AllST.cons tI AllST.nil)))))))))))) (FzL.cons (Ua (Still.fptr (AllST.cons tS (AllST.cons tI (AllST.cons tS (AllST.cons tI (AllST.cons tS (AllST.cons tS (AllST.cons tS AllST.nil))))))))) FzL.nil))) (qt0 a b c) tB)) az) ?_)
 refine Goes.ret ?_
 obtain rfl:=si h
 exact(gw2 [.bool (!d)] (Ub tB))
def qlU (N:Nat) (a:StateT) (b:zi):Option Bool:=
 (qlJ N a b).bind fun c=>
 (if(c.Lots.length:Int)<=64 then
 some (decide ((c.Holds.length:Int)<=256))
 else
 some false:Option Bool).bind fun d=>
 some d
theorem qt4 (N:Nat) (b:StateT) (a:zi) {res:Bool} (h:qlU N b a=some res):zu ZT (.fn 119) [.fptr (kF b.Day b.Lots b.Holds) 0,.fptr (kA a.Kind a.Day a.Lot a.Amount a.Yarn a.Dye a.Order) 0] [] (.bool res) []:=by
 unfold qlU at h
 refine Uc Tryz.func119 rfl rfl (m:=17) rfl (rs:=[.tmp 2]) rfl (l:=[(0,.fptr (kF b.Day b.Lots b.Holds) 0),(1,.fptr (kA a.Kind a.Day a.Lot a.Amount a.Yarn a.Dye a.Order) 0)]) rfl ?_
 refine sh fol [(0,.fptr (kF b.Day b.Lots b.Holds) 0),(1,.fptr (kA a.Kind a.Day a.Lot a.Amount a.Yarn a.Dye a.Order) 0)] ?_
 obtain⟨d,e,h⟩:=bnd h
 refine sq (gq fol [2] [(3,.ptr 0 0)] (kE d.Day d.Lots d.Holds []) (ac (cv (qts N b a e)) az) ?_)
 refine sq ?_
 obtain⟨g,c,h⟩:=bnd h
 refine Goes.cut (s':=(ofG 17 (kAJ g),(kE d.Day d.Lots d.Holds []))) ?_ ?_
 ·rcases wyD c with⟨f,c⟩|⟨f,c⟩
  ·obtain rfl:=si c
   exact tr fol [4] (kAJ (decide ((d.Holds.length:Int)<=256))) (ac (gw f) az)
  obtain rfl:=si c
  exact tr fol [4] kAR (ac (gw f) az)
 refine Goes.ret ?_
 obtain rfl:=si h
 exact(gw2 [.bool g] (Ub tB))
def qgA (N:Nat) (a:StateT) (b:zi):Option Bool:=
 (qlU N a b).bind fun c=>
 some (!c)
theorem qkJ (N:Nat) (b:StateT) (a:zi) {res:Bool} (h:qgA N b a=some res):zu ZT (.fn 177) [.func (.func 119) [] [.fptr (kF b.Day b.Lots b.Holds) 0,.fptr (kA a.Kind a.Day a.Lot a.Amount a.Yarn a.Dye a.Order) 0]] [] (.bool res) []:=by
 unfold qgA at h
 refine Uc Tryz.func177 rfl rfl (m:=6) rfl (rs:=[.tmp 2]) rfl (l:=[(0,.func (.func 119) [] [.fptr (kF b.Day b.Lots b.Holds) 0,.fptr (kA a.Kind a.Day a.Lot a.Amount a.Yarn a.Dye a.Order) 0])]) rfl ?_
 refine sh fol [(0,.func (.func 119) [] [.fptr (kF b.Day b.Lots b.Holds) 0,.fptr (kA a.Kind a.Day a.Lot a.Amount a.Yarn a.Dye a.Order) 0])] ?_
 obtain⟨d,c,h⟩:=bnd h
 refine sq (gr fol [1] (kAJ (!d)) (ac (hs (.call 119 [.fptr (kF b.Day b.Lots b.Holds) 0,.fptr (kA a.Kind a.Day a.Lot a.Amount a.Yarn a.Dye a.Order) 0] [] [] [.fptr (kF b.Day b.Lots b.Holds) 0,.fptr (kA a.Kind a.Day a.Lot a.Amount a.Yarn a.Dye a.Order) 0] (.bool d)) (qb4 (FzL.cons (Ua (Still.fptr (AllST.cons tI (AllST.cons (jo qN _ (nl rfl)) (AllST.cons (jo qJ _ (nl rfl)) AllST.nil))))) (FzL.cons (Ua (Still.fptr (AllST.cons tS (AllST.cons tI (AllST.cons tS (AllST.cons tI (AllST.cons tS (AllST.cons tS (AllST.cons tS AllST.nil))))))))) FzL.nil)) (qt4 N b a c) tB)) az) ?_)
 refine Goes.ret ?_
 obtain rfl:=si h
 exact(gw2 [.bool (!d)] (Ub tB))
def qeM (N:Nat) (a:zi) (d:StateT) (b:qg):Nat->Int->Option (Unit⊕Int)
 |0,_=>none
 |K+1,c=>
  if c<5 then
  (if c=0 then
  (qgD a d).bind fun i=>
  some i
  else
  if c=1 then
  (qfg a b).bind fun j=>
  some j
  else
  if c=2 then
  (qqH b a).bind fun e=>
  some e
  else
  if c=3 then
  (qqV b a).bind fun f=>
  some f
  else
  if c=4 then
  (qgA N d a).bind fun g=>
  some g
  else
  none:Option Bool).bind fun h=>
  if h=true then
  some (.inr c)
  else
  qeM N a d b K (w64 (c+1))
  else
  some (.inl ())
def qkF (N:Nat) (a:zi) (b:StateT) (c:qg):Option Int:=
 (qeM N a b c N 0).bind (fun
 |(.inl ())=>
 some (-1)
 |(.inr d)=>
 some d)
theorem qs2 (N:Nat) (a:zi) (c:StateT) (b:qg) {res:Int} (h:qkF N a c b=some res):zu ZT (.fn 176) [.fslice 5 (qr3 a c b),.func (.func 177) [] []] [] (.i res) []:=by
 unfold qkF at h
 refine Uc Tryz.func176 rfl rfl (m:=19) rfl (rs:=[.tmp 4]) rfl (l:=[(0,.fslice 5 (qr3 a c b)),(1,.func (.func 177) [] [])]) rfl ?_
 refine sh fol [(0,.fslice 5 (qr3 a c b)),(1,.func (.func 177) [] [])] ?_
 refine sq ?_
 refine sh fol ((0,.fslice 5 (qr3 a c b))::(1,.func (.func 177) [] [])::kAr) ?_
 refine Goes.block ?_
 obtain⟨u,g2,h⟩:=bnd h
 refine Goes.imp (Q:=fun x s'=>(x= .exit 0/\(.inl ())=u/\Sub s' (ofG 19 [],[]))\/(x= .ret/\ ∃y,(.inr y)=u/\qhA ZT [.tmp 4] (.i y) .ret s')) ?_ ?_
 ·refine Ud (fun M s=> ∃(e:Int),s=(ofG 19 ((0,.fslice 5 (qr3 a c b))::(1,.func (.func 177) [] [])::(kZ e)),[])/\qeM N a c b M e=some u) ?_ (m:=N) ⟨_,rfl,g2⟩
  rintro M s ⟨e,rfl,g2⟩
  cases M with
  |zero=>simp only[qeM]at g2;cases g2
  |succ M=>
   rw[qeM]at g2
   refine sh fol ((0,.fslice 5 (qr3 a c b))::(1,.func (.func 177) [] [])::(7,.i 5)::(kAa e (decide (e<5)))) ?_
   refine sq ?_
   refine ihD g2 (fun E g2=>?_) (fun E g2=>?_)
   ·refine Goes.skip ?_
    refine sq (Goes.block ?_)
    refine sh fol ((0,.fslice 5 (qr3 a c b))::(1,.func (.func 177) [] [])::(5,.i e)::(kZ e)) ?_
    refine sq ?_
    obtain⟨v,d,g2⟩:=bnd g2
    refine Goes.cut (s':=(ofG 19 ((0,.fslice 5 (qr3 a c b))::(1,.func (.func 177) [] [])::(kJ e v)),[])) ?_ ?_
    ·rcases wyD d with⟨z,d⟩|⟨z,d⟩
     ·obtain⟨A,k,d⟩:=bnd d
      obtain rfl:=si d
      exact tr fol [3,5] ((0,.fslice 5 (qr3 a c b))::(1,.func (.func 177) [] [])::(kJ e A)) (ac (hs (.done (.opt (yX ZT 221 (.fslice 5 (qr3 a c b)) (.i e))) (.fptr [.func (.func 115) [] [.fptr (kA a.Kind a.Day a.Lot a.Amount a.Yarn a.Dye a.Order) 0,.fptr (kF c.Day c.Lots c.Holds) 0],.func (.func 116) [] [.fptr (kA a.Kind a.Day a.Lot a.Amount a.Yarn a.Dye a.Order) 0,.fptr (.str b.lot.Name::(kB b.lot.Yarn b.lot.Dye b.lot.Stock b.known b.hold.Lot b.hold.Order b.hold.Reserved b.hold.Taken b.free)) 0],.func (.func 117) [] [.fptr [.func (.func 132) [] [],.func (.func 133) [] []] 0,.fptr (.str b.lot.Name::(kB b.lot.Yarn b.lot.Dye b.lot.Stock b.known b.hold.Lot b.hold.Order b.hold.Reserved b.hold.Taken b.free)) 0,.fptr (kA a.Kind a.Day a.Lot a.Amount a.Yarn a.Dye a.Order) 0],.func (.func 118) [] [.fptr [.func (.func 132) [] [],.func (.func 133) [] []] 0,.fptr (.str b.lot.Name::(kB b.lot.Yarn b.lot.Dye b.lot.Stock b.known b.hold.Lot b.hold.Order b.hold.Reserved b.hold.Taken b.free)) 0,.fptr (kA a.Kind a.Day a.Lot a.Amount a.Yarn a.Dye a.Order) 0],.func (.func 119) [] [.fptr (kF c.Day c.Lots c.Holds) 0,.fptr (kA a.Kind a.Day a.Lot a.Amount a.Yarn a.Dye a.Order) 0]] 0)) (ixA (ot z) (by kernel_rfl))) (ac (hs (.call 177 [.func (.func 115) [] [.fptr (kA a.Kind a.Day a.Lot a.Amount a.Yarn a.Dye a.Order) 0,.fptr (kF c.Day c.Lots c.Holds) 0]] [] [] [.func (.func 115) [] [.fptr (kA a.Kind a.Day a.Lot a.Amount a.Yarn a.Dye a.Order) 0,.fptr (kF c.Day c.Lots c.Holds) 0]] (.bool A)) (qb4 (FzL.cons (Fz.func FzL.nil (FzL.cons (Ua (Still.fptr (AllST.cons tS (AllST.cons tI (AllST.cons tS (AllST.cons tI (AllST.cons tS (AllST.cons tS (AllST.cons tS AllST.nil))))))))) (FzL.cons (Ua (Still.fptr (AllST.cons tI (AllST.cons (jo qN _ (nl rfl)) (AllST.cons (jo qJ _ (nl rfl)) AllST.nil))))) FzL.nil))) FzL.nil) (qkP a c k) tB)) az))
     rcases wyD d with⟨B,d⟩|⟨B,d⟩
     ·obtain⟨C,n,d⟩:=bnd d
      obtain rfl:=si d
      exact tr fol [3,5] ((0,.fslice 5 (qr3 a c b))::(1,.func (.func 177) [] [])::(kJ e C)) (ac (hs (.done (.opt (yX ZT 221 (.fslice 5 (qr3 a c b)) (.i e))) (.fptr [.func (.func 115) [] [.fptr (kA a.Kind a.Day a.Lot a.Amount a.Yarn a.Dye a.Order) 0,.fptr (kF c.Day c.Lots c.Holds) 0],.func (.func 116) [] [.fptr (kA a.Kind a.Day a.Lot a.Amount a.Yarn a.Dye a.Order) 0,.fptr (.str b.lot.Name::(kB b.lot.Yarn b.lot.Dye b.lot.Stock b.known b.hold.Lot b.hold.Order b.hold.Reserved b.hold.Taken b.free)) 0],.func (.func 117) [] [.fptr [.func (.func 132) [] [],.func (.func 133) [] []] 0,.fptr (.str b.lot.Name::(kB b.lot.Yarn b.lot.Dye b.lot.Stock b.known b.hold.Lot b.hold.Order b.hold.Reserved b.hold.Taken b.free)) 0,.fptr (kA a.Kind a.Day a.Lot a.Amount a.Yarn a.Dye a.Order) 0],.func (.func 118) [] [.fptr [.func (.func 132) [] [],.func (.func 133) [] []] 0,.fptr (.str b.lot.Name::(kB b.lot.Yarn b.lot.Dye b.lot.Stock b.known b.hold.Lot b.hold.Order b.hold.Reserved b.hold.Taken b.free)) 0,.fptr (kA a.Kind a.Day a.Lot a.Amount a.Yarn a.Dye a.Order) 0],.func (.func 119) [] [.fptr (kF c.Day c.Lots c.Holds) 0,.fptr (kA a.Kind a.Day a.Lot a.Amount a.Yarn a.Dye a.Order) 0]] 1)) (ixA (ot B) (by kernel_rfl))) (ac (hs (.call 177 [.func (.func 116) [] [.fptr (kA a.Kind a.Day a.Lot a.Amount a.Yarn a.Dye a.Order) 0,.fptr (.str b.lot.Name::(kB b.lot.Yarn b.lot.Dye b.lot.Stock b.known b.hold.Lot b.hold.Order b.hold.Reserved b.hold.Taken b.free)) 0]] [] [] [.func (.func 116) [] [.fptr (kA a.Kind a.Day a.Lot a.Amount a.Yarn a.Dye a.Order) 0,.fptr (.str b.lot.Name::(kB b.lot.Yarn b.lot.Dye b.lot.Stock b.known b.hold.Lot b.hold.Order b.hold.Reserved b.hold.Taken b.free)) 0]] (.bool C)) (qb4 (FzL.cons (Fz.func FzL.nil (FzL.cons (Ua (Still.fptr (AllST.cons tS (AllST.cons tI (AllST.cons tS (AllST.cons tI (AllST.cons tS (AllST.cons tS (AllST.cons tS AllST.nil))))))))) (FzL.cons (Ua (Still.fptr (AllST.cons tS (AllST.cons tS (AllST.cons tS (AllST.cons tI (AllST.cons tB (AllST.cons tS (AllST.cons tS (AllST.cons tI (AllST.cons tI (AllST.cons tI AllST.nil)))))))))))) FzL.nil))) FzL.nil) (qkL a b n) tB)) az))
     rcases wyD d with⟨D,d⟩|⟨D,d⟩
     ·obtain⟨o,f,d⟩:=bnd d
      obtain rfl:=si d
      exact tr fol [3,5] ((0,.fslice 5 (qr3 a c b))::(1,.func (.func 177) [] [])::(kJ e o)) (ac (hs (.done (.opt (yX ZT 221 (.fslice 5 (qr3 a c b)) (.i e))) (.fptr [.func (.func 115) [] [.fptr (kA a.Kind a.Day a.Lot a.Amount a.Yarn a.Dye a.Order) 0,.fptr (kF c.Day c.Lots c.Holds) 0],.func (.func 116) [] [.fptr (kA a.Kind a.Day a.Lot a.Amount a.Yarn a.Dye a.Order) 0,.fptr (.str b.lot.Name::(kB b.lot.Yarn b.lot.Dye b.lot.Stock b.known b.hold.Lot b.hold.Order b.hold.Reserved b.hold.Taken b.free)) 0],.func (.func 117) [] [.fptr [.func (.func 132) [] [],.func (.func 133) [] []] 0,.fptr (.str b.lot.Name::(kB b.lot.Yarn b.lot.Dye b.lot.Stock b.known b.hold.Lot b.hold.Order b.hold.Reserved b.hold.Taken b.free)) 0,.fptr (kA a.Kind a.Day a.Lot a.Amount a.Yarn a.Dye a.Order) 0],.func (.func 118) [] [.fptr [.func (.func 132) [] [],.func (.func 133) [] []] 0,.fptr (.str b.lot.Name::(kB b.lot.Yarn b.lot.Dye b.lot.Stock b.known b.hold.Lot b.hold.Order b.hold.Reserved b.hold.Taken b.free)) 0,.fptr (kA a.Kind a.Day a.Lot a.Amount a.Yarn a.Dye a.Order) 0],.func (.func 119) [] [.fptr (kF c.Day c.Lots c.Holds) 0,.fptr (kA a.Kind a.Day a.Lot a.Amount a.Yarn a.Dye a.Order) 0]] 2)) (ixA (ot D) (by kernel_rfl))) (ac (hs (.call 177 [.func (.func 117) [] [.fptr [.func (.func 132) [] [],.func (.func 133) [] []] 0,.fptr (.str b.lot.Name::(kB b.lot.Yarn b.lot.Dye b.lot.Stock b.known b.hold.Lot b.hold.Order b.hold.Reserved b.hold.Taken b.free)) 0,.fptr (kA a.Kind a.Day a.Lot a.Amount a.Yarn a.Dye a.Order) 0]] [] [] [.func (.func 117) [] [.fptr [.func (.func 132) [] [],.func (.func 133) [] []] 0,.fptr (.str b.lot.Name::(kB b.lot.Yarn b.lot.Dye b.lot.Stock b.known b.hold.Lot b.hold.Order b.hold.Reserved b.hold.Taken b.free)) 0,.fptr (kA a.Kind a.Day a.Lot a.Amount a.Yarn a.Dye a.Order) 0]] (.bool o)) (qb4 (FzL.cons (Fz.func FzL.nil (FzL.cons (Ua (Still.fptr (AllST.cons (Still.func AllST.nil AllST.nil) (AllST.cons (Still.func AllST.nil AllST.nil) AllST.nil)))) (FzL.cons (Ua (Still.fptr (AllST.cons tS (AllST.cons tS (AllST.cons tS (AllST.cons tI (AllST.cons tB (AllST.cons tS (AllST.cons tS (AllST.cons tI (AllST.cons tI (AllST.cons tI AllST.nil)))))))))))) (FzL.cons (Ua (Still.fptr (AllST.cons tS (AllST.cons tI (AllST.cons tS (AllST.cons tI (AllST.cons tS (AllST.cons tS (AllST.cons tS AllST.nil))))))))) FzL.nil)))) FzL.nil) (qwS b a f) tB)) az))
     rcases wyD d with⟨p,d⟩|⟨p,d⟩
     ·obtain⟨q,g,d⟩:=bnd d
      obtain rfl:=si d
      exact tr fol [3,5] ((0,.fslice 5 (qr3 a c b))::(1,.func (.func 177) [] [])::(kJ e q)) (ac (hs (.done (.opt (yX ZT 221 (.fslice 5 (qr3 a c b)) (.i e))) (.fptr [.func (.func 115) [] [.fptr (kA a.Kind a.Day a.Lot a.Amount a.Yarn a.Dye a.Order) 0,.fptr (kF c.Day c.Lots c.Holds) 0],.func (.func 116) [] [.fptr (kA a.Kind a.Day a.Lot a.Amount a.Yarn a.Dye a.Order) 0,.fptr (.str b.lot.Name::(kB b.lot.Yarn b.lot.Dye b.lot.Stock b.known b.hold.Lot b.hold.Order b.hold.Reserved b.hold.Taken b.free)) 0],.func (.func 117) [] [.fptr [.func (.func 132) [] [],.func (.func 133) [] []] 0,.fptr (.str b.lot.Name::(kB b.lot.Yarn b.lot.Dye b.lot.Stock b.known b.hold.Lot b.hold.Order b.hold.Reserved b.hold.Taken b.free)) 0,.fptr (kA a.Kind a.Day a.Lot a.Amount a.Yarn a.Dye a.Order) 0],.func (.func 118) [] [.fptr [.func (.func 132) [] [],.func (.func 133) [] []] 0,.fptr (.str b.lot.Name::(kB b.lot.Yarn b.lot.Dye b.lot.Stock b.known b.hold.Lot b.hold.Order b.hold.Reserved b.hold.Taken b.free)) 0,.fptr (kA a.Kind a.Day a.Lot a.Amount a.Yarn a.Dye a.Order) 0],.func (.func 119) [] [.fptr (kF c.Day c.Lots c.Holds) 0,.fptr (kA a.Kind a.Day a.Lot a.Amount a.Yarn a.Dye a.Order) 0]] 3)) (ixA (ot p) (by kernel_rfl))) (ac (hs (.call 177 [.func (.func 118) [] [.fptr [.func (.func 132) [] [],.func (.func 133) [] []] 0,.fptr (.str b.lot.Name::(kB b.lot.Yarn b.lot.Dye b.lot.Stock b.known b.hold.Lot b.hold.Order b.hold.Reserved b.hold.Taken b.free)) 0,.fptr (kA a.Kind a.Day a.Lot a.Amount a.Yarn a.Dye a.Order) 0]] [] [] [.func (.func 118) [] [.fptr [.func (.func 132) [] [],.func (.func 133) [] []] 0,.fptr (.str b.lot.Name::(kB b.lot.Yarn b.lot.Dye b.lot.Stock b.known b.hold.Lot b.hold.Order b.hold.Reserved b.hold.Taken b.free)) 0,.fptr (kA a.Kind a.Day a.Lot a.Amount a.Yarn a.Dye a.Order) 0]] (.bool q)) (qb4 (FzL.cons (Fz.func FzL.nil (FzL.cons (Ua (Still.fptr (AllST.cons (Still.func AllST.nil AllST.nil) (AllST.cons (Still.func AllST.nil AllST.nil) AllST.nil)))) (FzL.cons (Ua (Still.fptr (AllST.cons tS (AllST.cons tS (AllST.cons tS (AllST.cons tI (AllST.cons tB (AllST.cons tS (AllST.cons tS (AllST.cons tI (AllST.cons tI (AllST.cons tI AllST.nil)))))))))))) (FzL.cons (Ua (Still.fptr (AllST.cons tS (AllST.cons tI (AllST.cons tS (AllST.cons tI (AllST.cons tS (AllST.cons tS (AllST.cons tS AllST.nil))))))))) FzL.nil)))) FzL.nil) (qwy b a g) tB)) az))
     rcases wyD d with⟨r,d⟩|⟨r,d⟩
     ·obtain⟨t,j,d⟩:=bnd d
      obtain rfl:=si d
      exact tr fol [3,5] ((0,.fslice 5 (qr3 a c b))::(1,.func (.func 177) [] [])::(kJ e t)) (ac (hs (.done (.opt (yX ZT 221 (.fslice 5 (qr3 a c b)) (.i e))) (.fptr [.func (.func 115) [] [.fptr (kA a.Kind a.Day a.Lot a.Amount a.Yarn a.Dye a.Order) 0,.fptr (kF c.Day c.Lots c.Holds) 0],.func (.func 116) [] [.fptr (kA a.Kind a.Day a.Lot a.Amount a.Yarn a.Dye a.Order) 0,.fptr (.str b.lot.Name::(kB b.lot.Yarn b.lot.Dye b.lot.Stock b.known b.hold.Lot b.hold.Order b.hold.Reserved b.hold.Taken b.free)) 0],.func (.func 117) [] [.fptr [.func (.func 132) [] [],.func (.func 133) [] []] 0,.fptr (.str b.lot.Name::(kB b.lot.Yarn b.lot.Dye b.lot.Stock b.known b.hold.Lot b.hold.Order b.hold.Reserved b.hold.Taken b.free)) 0,.fptr (kA a.Kind a.Day a.Lot a.Amount a.Yarn a.Dye a.Order) 0],.func (.func 118) [] [.fptr [.func (.func 132) [] [],.func (.func 133) [] []] 0,.fptr (.str b.lot.Name::(kB b.lot.Yarn b.lot.Dye b.lot.Stock b.known b.hold.Lot b.hold.Order b.hold.Reserved b.hold.Taken b.free)) 0,.fptr (kA a.Kind a.Day a.Lot a.Amount a.Yarn a.Dye a.Order) 0],.func (.func 119) [] [.fptr (kF c.Day c.Lots c.Holds) 0,.fptr (kA a.Kind a.Day a.Lot a.Amount a.Yarn a.Dye a.Order) 0]] 4)) (ixA (ot r) (by kernel_rfl))) (ac (hs (.call 177 [.func (.func 119) [] [.fptr (kF c.Day c.Lots c.Holds) 0,.fptr (kA a.Kind a.Day a.Lot a.Amount a.Yarn a.Dye a.Order) 0]] [] [] [.func (.func 119) [] [.fptr (kF c.Day c.Lots c.Holds) 0,.fptr (kA a.Kind a.Day a.Lot a.Amount a.Yarn a.Dye a.Order) 0]] (.bool t)) (qb4 (FzL.cons (Fz.func FzL.nil (FzL.cons (Ua (Still.fptr (AllST.cons tI (AllST.cons (jo qN _ (nl rfl)) (AllST.cons (jo qJ _ (nl rfl)) AllST.nil))))) (FzL.cons (Ua (Still.fptr (AllST.cons tS (AllST.cons tI (AllST.cons tS (AllST.cons tI (AllST.cons tS (AllST.cons tS (AllST.cons tS AllST.nil))))))))) FzL.nil))) FzL.nil) (qkJ N c a j) tB)) az))
     cases d
    refine ihB g2 (fun w g2=>?_) (fun w g2=>?_)
    ·refine sh fol (kAj e) ?_
     refine Goes.ret ?_
     obtain rfl:=si g2
     exact Or.inr (⟨rfl,_,rfl,(gw2 [.i e] (Ub tI))⟩)
    refine Goes.skip ?_
    refine gh fol ((0,.fslice 5 (qr3 a c b))::(1,.func (.func 177) [] [])::(kZ (w64 (e+1)))) ?_
    exact⟨M,(ofG 19 ((0,.fslice 5 (qr3 a c b))::(1,.func (.func 177) [] [])::(kZ (w64 (e+1)))),[]),Nat.lt_succ_self _,(Sub.refl _),_,rfl,g2⟩
   refine Goes.exit ?_
   obtain rfl:=si g2
   exact Or.inl (⟨rfl,rfl,(Sub.keep [] rfl rfl)⟩)
 rintro x s' (⟨rfl,rfl,hsub⟩|⟨rfl,F,rfl,hret⟩)
 ·try dsimp only at h
  refine Goes.sub hsub ?_
  refine sh fol kAp ?_
  refine Goes.ret ?_
  obtain rfl:=si h
  exact(gw2 [.i (-1)] (Ub tI))
 try dsimp only at h
 obtain rfl:=si h
 exact hret
def qqR (N:Nat) (a:zi) (b:StateT) (c:qg):Option Int:=
 (qkF N a b c).bind fun d=>
 some (w64 (1+d))
theorem qy1 (N:Nat) (a:zi) (b:StateT) (c:qg) {res:Int} (h:qqR N a b c=some res):zu ZT (.fn 114) [.fslice 5 (qr3 a b c)] [] (.i res) []:=by
 unfold qqR at h
 refine Uc Tryz.func114 rfl rfl (m:=6) rfl (rs:=[.tmp 2]) rfl (l:=[(0,.fslice 5 (qr3 a b c))]) rfl ?_
 refine sh fol [(0,.fslice 5 (qr3 a b c))] ?_
 obtain⟨e,d,h⟩:=bnd h
 refine sq (gr fol [1] (kAl (w64 (1+e))) (ac (hs (.call 176 [.fslice 5 (qr3 a b c),.func (.func 177) [] []] [] [] [.fslice 5 (qr3 a b c),.func (.func 177) [] []] (.i e)) (qb4 (FzL.cons (Ua (Still.fslice (AllST.cons (Still.func AllST.nil (AllST.cons (Still.fptr (AllST.cons tS (AllST.cons tI (AllST.cons tS (AllST.cons tI (AllST.cons tS (AllST.cons tS (AllST.cons tS AllST.nil)))))))) (AllST.cons (Still.fptr (AllST.cons tI (AllST.cons (jo qN _ (nl rfl)) (AllST.cons (jo qJ _ (nl rfl)) AllST.nil)))) AllST.nil))) (AllST.cons (Still.func AllST.nil (AllST.cons (Still.fptr (AllST.cons tS (AllST.cons tI (AllST.cons tS (AllST.cons tI (AllST.cons tS (AllST.cons tS (AllST.cons tS AllST.nil)))))))) (AllST.cons (Still.fptr (AllST.cons tS (AllST.cons tS (AllST.cons tS (AllST.cons tI (AllST.cons tB (AllST.cons tS (AllST.cons tS (AllST.cons tI (AllST.cons tI (AllST.cons tI AllST.nil))))))))))) AllST.nil))) (AllST.cons (Still.func AllST.nil (AllST.cons (Still.fptr (AllST.cons (Still.func AllST.nil AllST.nil) (AllST.cons (Still.func AllST.nil AllST.nil) AllST.nil))) (AllST.cons (Still.fptr (AllST.cons tS (AllST.cons tS (AllST.cons tS (AllST.cons tI (AllST.cons tB (AllST.cons tS (AllST.cons tS (AllST.cons tI (AllST.cons tI (AllST.cons tI AllST.nil))))))))))) (AllST.cons (Still.fptr (AllST.cons tS (AllST.cons tI (AllST.cons tS (AllST.cons tI (AllST.cons tS (AllST.cons tS (AllST.cons tS AllST.nil)))))))) AllST.nil)))) (AllST.cons (Still.func AllST.nil (AllST.cons (Still.fptr (AllST.cons (Still.func AllST.nil AllST.nil) (AllST.cons (Still.func AllST.nil AllST.nil) AllST.nil))) (AllST.cons (Still.fptr (AllST.cons tS (AllST.cons tS (AllST.cons tS (AllST.cons tI (AllST.cons tB (AllST.cons tS (AllST.cons tS (AllST.cons tI (AllST.cons tI (AllST.cons tI AllST.nil))))))))))) (AllST.cons (Still.fptr (AllST.cons tS (AllST.cons tI (AllST.cons tS (AllST.cons tI (AllST.cons tS (AllST.cons tS (AllST.cons tS AllST.nil)))))))) AllST.nil)))) (AllST.cons (Still.func AllST.nil (AllST.cons (Still.fptr (AllST.cons tI (AllST.cons (jo qN _ (nl rfl)) (AllST.cons (jo qJ _ (nl rfl)) AllST.nil)))) (AllST.cons (Still.fptr (AllST.cons tS (AllST.cons tI (AllST.cons tS (AllST.cons tI (AllST.cons tS (AllST.cons tS (AllST.cons tS AllST.nil)))))))) AllST.nil))) AllST.nil))))))) (FzL.cons (Fz.func FzL.nil FzL.nil) FzL.nil)) (qs2 N a b c d) tI)) az) ?_)
 refine Goes.ret ?_
 obtain rfl:=si h
 exact(gw2 [.i (w64 (1+e))] (Ub tI))
def qnK (a:qg) (b:zi):Option Bool:=
 (qux a b.Amount).bind fun c=>
 some c
theorem qtY (a:qg) (b:zi) {res:Bool} (h:qnK a b=some res):zu ZT (.fn 117) [.fptr [.func (.func 134) [] [],.func (.func 135) [] []] 0,.fptr (.str a.lot.Name::(kB a.lot.Yarn a.lot.Dye a.lot.Stock a.known a.hold.Lot a.hold.Order a.hold.Reserved a.hold.Taken a.free)) 0,.fptr (kA b.Kind b.Day b.Lot b.Amount b.Yarn b.Dye b.Order) 0] [] (.bool res) []:=by
 unfold qnK at h
 refine Uc Tryz.func117 rfl rfl (m:=10) rfl (rs:=[.tmp 3]) rfl (l:=[(0,.fptr [.func (.func 134) [] [],.func (.func 135) [] []] 0),(1,.fptr (.str a.lot.Name::(kB a.lot.Yarn a.lot.Dye a.lot.Stock a.known a.hold.Lot a.hold.Order a.hold.Reserved a.hold.Taken a.free)) 0),(2,.fptr (kA b.Kind b.Day b.Lot b.Amount b.Yarn b.Dye b.Order) 0)]) rfl ?_
 refine sh fol [(0,.fptr [.func (.func 134) [] [],.func (.func 135) [] []] 0),(1,.fptr (.str a.lot.Name::(kB a.lot.Yarn a.lot.Dye a.lot.Stock a.known a.hold.Lot a.hold.Order a.hold.Reserved a.hold.Taken a.free)) 0),(2,.fptr (kA b.Kind b.Day b.Lot b.Amount b.Yarn b.Dye b.Order) 0)] ?_
 obtain⟨d,c,h⟩:=bnd h
 refine sq (gr fol [5] (kAm d) (ac (cv (qzi a b.Amount c)) az) ?_)
 refine Goes.ret ?_
 obtain rfl:=si h
 exact(gw2 [.bool d] (Ub tB))
def qq4 (a:qg) (b:zi):Option Bool:=
 (qnK a b).bind fun c=>
 some (!c)
theorem qwo (a:qg) (b:zi) {res:Bool} (h:qq4 a b=some res):zu ZT (.fn 177) [.func (.func 117) [] [.fptr [.func (.func 134) [] [],.func (.func 135) [] []] 0,.fptr (.str a.lot.Name::(kB a.lot.Yarn a.lot.Dye a.lot.Stock a.known a.hold.Lot a.hold.Order a.hold.Reserved a.hold.Taken a.free)) 0,.fptr (kA b.Kind b.Day b.Lot b.Amount b.Yarn b.Dye b.Order) 0]] [] (.bool res) []:=by
 unfold qq4 at h
 refine Uc Tryz.func177 rfl rfl (m:=6) rfl (rs:=[.tmp 2]) rfl (l:=[(0,.func (.func 117) [] [.fptr [.func (.func 134) [] [],.func (.func 135) [] []] 0,.fptr (.str a.lot.Name::(kB a.lot.Yarn a.lot.Dye a.lot.Stock a.known a.hold.Lot a.hold.Order a.hold.Reserved a.hold.Taken a.free)) 0,.fptr (kA b.Kind b.Day b.Lot b.Amount b.Yarn b.Dye b.Order) 0])]) rfl ?_
 refine sh fol [(0,.func (.func 117) [] [.fptr [.func (.func 134) [] [],.func (.func 135) [] []] 0,.fptr (.str a.lot.Name::(kB a.lot.Yarn a.lot.Dye a.lot.Stock a.known a.hold.Lot a.hold.Order a.hold.Reserved a.hold.Taken a.free)) 0,.fptr (kA b.Kind b.Day b.Lot b.Amount b.Yarn b.Dye b.Order) 0])] ?_
 obtain⟨d,c,h⟩:=bnd h
 refine sq (gr fol [1] (kAJ (!d)) (ac (hs (.call 117 [.fptr [.func (.func 134) [] [],.func (.func 135) [] []] 0,.fptr (.str a.lot.Name::(kB a.lot.Yarn a.lot.Dye a.lot.Stock a.known a.hold.Lot a.hold.Order a.hold.Reserved a.hold.Taken a.free)) 0,.fptr (kA b.Kind b.Day b.Lot b.Amount b.Yarn b.Dye b.Order) 0] [] [] [.fptr [.func (.func 134) [] [],.func (.func 135) [] []] 0,.fptr (.str a.lot.Name::(kB a.lot.Yarn a.lot.Dye a.lot.Stock a.known a.hold.Lot a.hold.Order a.hold.Reserved a.hold.Taken a.free)) 0,.fptr (kA b.Kind b.Day b.Lot b.Amount b.Yarn b.Dye b.Order) 0] (.bool d)) (qb4 (FzL.cons (Ua (Still.fptr (AllST.cons (Still.func AllST.nil AllST.nil) (AllST.cons (Still.func AllST.nil AllST.nil) AllST.nil)))) (FzL.cons (Ua (Still.fptr (AllST.cons tS (AllST.cons tS (AllST.cons tS (AllST.cons tI (AllST.cons tB (AllST.cons tS (AllST.cons tS (AllST.cons tI (AllST.cons tI (AllST.cons tI AllST.nil)))))))))))) (FzL.cons (Ua (Still.fptr (AllST.cons tS (AllST.cons tI (AllST.cons tS (AllST.cons tI (AllST.cons tS (AllST.cons tS (AllST.cons tS AllST.nil))))))))) FzL.nil))) (qtY a b c) tB)) az) ?_)
 refine Goes.ret ?_
 obtain rfl:=si h
 exact(gw2 [.bool (!d)] (Ub tB))
def qn6 (b:qg) (c:zi):Option Bool:=
 (qp2 b c.Amount).bind fun a=>
 some (decide ((if a.hold.Taken>a.lot.Stock then a.hold.Taken else a.lot.Stock)<=999999999))
theorem qtQ (a:qg) (b:zi) {res:Bool} (h:qn6 a b=some res):zu ZT (.fn 118) [.fptr [.func (.func 134) [] [],.func (.func 135) [] []] 0,.fptr (.str a.lot.Name::(kB a.lot.Yarn a.lot.Dye a.lot.Stock a.known a.hold.Lot a.hold.Order a.hold.Reserved a.hold.Taken a.free)) 0,.fptr (kA b.Kind b.Day b.Lot b.Amount b.Yarn b.Dye b.Order) 0] [] (.bool res) []:=by
 unfold qn6 at h
 refine Uc Tryz.func118 rfl rfl (m:=19) rfl (rs:=[.tmp 3]) rfl (l:=[(0,.fptr [.func (.func 134) [] [],.func (.func 135) [] []] 0),(1,.fptr (.str a.lot.Name::(kB a.lot.Yarn a.lot.Dye a.lot.Stock a.known a.hold.Lot a.hold.Order a.hold.Reserved a.hold.Taken a.free)) 0),(2,.fptr (kA b.Kind b.Day b.Lot b.Amount b.Yarn b.Dye b.Order) 0)]) rfl ?_
 refine sh fol [(0,.fptr [.func (.func 134) [] [],.func (.func 135) [] []] 0),(1,.fptr (.str a.lot.Name::(kB a.lot.Yarn a.lot.Dye a.lot.Stock a.known a.hold.Lot a.hold.Order a.hold.Reserved a.hold.Taken a.free)) 0),(2,.fptr (kA b.Kind b.Day b.Lot b.Amount b.Yarn b.Dye b.Order) 0)] ?_
 obtain⟨c,d,h⟩:=bnd h
 refine sq (gq fol [5] kAq (kC c.lot.Name c.lot.Yarn c.lot.Dye c.lot.Stock c.known c.hold.Lot c.hold.Order c.hold.Reserved c.hold.Taken c.free []) (ac (cv (quM a b.Amount d)) az) ?_)
 refine sh fol (kAm (decide ((if c.hold.Taken>c.lot.Stock then c.hold.Taken else c.lot.Stock)<=999999999))) ?_
 refine Goes.ret ?_
 obtain rfl:=si h
 exact(gw2 [.bool (decide ((if c.hold.Taken>c.lot.Stock then c.hold.Taken else c.lot.Stock)<=999999999))] (Ub tB))
def qqE (a:qg) (b:zi):Option Bool:=
 (qn6 a b).bind fun c=>
 some (!c)
theorem qwV (a:qg) (b:zi) {res:Bool} (h:qqE a b=some res):zu ZT (.fn 177) [.func (.func 118) [] [.fptr [.func (.func 134) [] [],.func (.func 135) [] []] 0,.fptr (.str a.lot.Name::(kB a.lot.Yarn a.lot.Dye a.lot.Stock a.known a.hold.Lot a.hold.Order a.hold.Reserved a.hold.Taken a.free)) 0,.fptr (kA b.Kind b.Day b.Lot b.Amount b.Yarn b.Dye b.Order) 0]] [] (.bool res) []:=by
 unfold qqE at h
 refine Uc Tryz.func177 rfl rfl (m:=6) rfl (rs:=[.tmp 2]) rfl (l:=[(0,.func (.func 118) [] [.fptr [.func (.func 134) [] [],.func (.func 135) [] []] 0,.fptr (.str a.lot.Name::(kB a.lot.Yarn a.lot.Dye a.lot.Stock a.known a.hold.Lot a.hold.Order a.hold.Reserved a.hold.Taken a.free)) 0,.fptr (kA b.Kind b.Day b.Lot b.Amount b.Yarn b.Dye b.Order) 0])]) rfl ?_
 refine sh fol [(0,.func (.func 118) [] [.fptr [.func (.func 134) [] [],.func (.func 135) [] []] 0,.fptr (.str a.lot.Name::(kB a.lot.Yarn a.lot.Dye a.lot.Stock a.known a.hold.Lot a.hold.Order a.hold.Reserved a.hold.Taken a.free)) 0,.fptr (kA b.Kind b.Day b.Lot b.Amount b.Yarn b.Dye b.Order) 0])] ?_
 obtain⟨d,c,h⟩:=bnd h
 refine sq (gr fol [1] (kAJ (!d)) (ac (hs (.call 118 [.fptr [.func (.func 134) [] [],.func (.func 135) [] []] 0,.fptr (.str a.lot.Name::(kB a.lot.Yarn a.lot.Dye a.lot.Stock a.known a.hold.Lot a.hold.Order a.hold.Reserved a.hold.Taken a.free)) 0,.fptr (kA b.Kind b.Day b.Lot b.Amount b.Yarn b.Dye b.Order) 0] [] [] [.fptr [.func (.func 134) [] [],.func (.func 135) [] []] 0,.fptr (.str a.lot.Name::(kB a.lot.Yarn a.lot.Dye a.lot.Stock a.known a.hold.Lot a.hold.Order a.hold.Reserved a.hold.Taken a.free)) 0,.fptr (kA b.Kind b.Day b.Lot b.Amount b.Yarn b.Dye b.Order) 0] (.bool d)) (qb4 (FzL.cons (Ua (Still.fptr (AllST.cons (Still.func AllST.nil AllST.nil) (AllST.cons (Still.func AllST.nil AllST.nil) AllST.nil)))) (FzL.cons (Ua (Still.fptr (AllST.cons tS (AllST.cons tS (AllST.cons tS (AllST.cons tI (AllST.cons tB (AllST.cons tS (AllST.cons tS (AllST.cons tI (AllST.cons tI (AllST.cons tI AllST.nil)))))))))))) (FzL.cons (Ua (Still.fptr (AllST.cons tS (AllST.cons tI (AllST.cons tS (AllST.cons tI (AllST.cons tS (AllST.cons tS (AllST.cons tS AllST.nil))))))))) FzL.nil))) (qtQ a b c) tB)) az) ?_)
 refine Goes.ret ?_
 obtain rfl:=si h
 exact(gw2 [.bool (!d)] (Ub tB))
def qeU (N:Nat) (a:zi) (d:StateT) (b:qg):Nat->Int->Option (Unit⊕Int)
 |0,_=>none
 |K+1,c=>
  if c<5 then
  (if c=0 then
  (qgD a d).bind fun i=>
  some i
  else
  if c=1 then
  (qfg a b).bind fun j=>
  some j
  else
  if c=2 then
  (qq4 b a).bind fun e=>
  some e
  else
  if c=3 then
  (qqE b a).bind fun f=>
  some f
  else
  if c=4 then
  (qgA N d a).bind fun g=>
  some g
  else
  none:Option Bool).bind fun h=>
  if h=true then
  some (.inr c)
  else
  qeU N a d b K (w64 (c+1))
  else
  some (.inl ())
def qjS (N:Nat) (a:zi) (b:StateT) (c:qg):Option Int:=
 (qeU N a b c N 0).bind (fun
 |(.inl ())=>
 some (-1)
 |(.inr d)=>
 some d)
theorem qs7 (N:Nat) (a:zi) (c:StateT) (b:qg) {res:Int} (h:qjS N a c b=some res):zu ZT (.fn 176) [.fslice 5 (qr8 a c b),.func (.func 177) [] []] [] (.i res) []:=by
 unfold qjS at h
 refine Uc Tryz.func176 rfl rfl (m:=19) rfl (rs:=[.tmp 4]) rfl (l:=[(0,.fslice 5 (qr8 a c b)),(1,.func (.func 177) [] [])]) rfl ?_
 refine sh fol [(0,.fslice 5 (qr8 a c b)),(1,.func (.func 177) [] [])] ?_
 refine sq ?_
 refine sh fol ((0,.fslice 5 (qr8 a c b))::(1,.func (.func 177) [] [])::kAr) ?_
 refine Goes.block ?_
 obtain⟨u,g2,h⟩:=bnd h
 refine Goes.imp (Q:=fun x s'=>(x= .exit 0/\(.inl ())=u/\Sub s' (ofG 19 [],[]))\/(x= .ret/\ ∃y,(.inr y)=u/\qhA ZT [.tmp 4] (.i y) .ret s')) ?_ ?_
 ·refine Ud (fun M s=> ∃(e:Int),s=(ofG 19 ((0,.fslice 5 (qr8 a c b))::(1,.func (.func 177) [] [])::(kZ e)),[])/\qeU N a c b M e=some u) ?_ (m:=N) ⟨_,rfl,g2⟩
  rintro M s ⟨e,rfl,g2⟩
  cases M with
  |zero=>simp only[qeU]at g2;cases g2
  |succ M=>
   rw[qeU]at g2
   refine sh fol ((0,.fslice 5 (qr8 a c b))::(1,.func (.func 177) [] [])::(7,.i 5)::(kAa e (decide (e<5)))) ?_
   refine sq ?_
   refine ihD g2 (fun E g2=>?_) (fun E g2=>?_)
   ·refine Goes.skip ?_
    refine sq (Goes.block ?_)
    refine sh fol ((0,.fslice 5 (qr8 a c b))::(1,.func (.func 177) [] [])::(5,.i e)::(kZ e)) ?_
    refine sq ?_
    obtain⟨v,d,g2⟩:=bnd g2
    refine Goes.cut (s':=(ofG 19 ((0,.fslice 5 (qr8 a c b))::(1,.func (.func 177) [] [])::(kJ e v)),[])) ?_ ?_
    ·rcases wyD d with⟨z,d⟩|⟨z,d⟩
     ·obtain⟨A,k,d⟩:=bnd d
      obtain rfl:=si d
      exact tr fol [3,5] ((0,.fslice 5 (qr8 a c b))::(1,.func (.func 177) [] [])::(kJ e A)) (ac (hs (.done (.opt (yX ZT 221 (.fslice 5 (qr8 a c b)) (.i e))) (.fptr [.func (.func 115) [] [.fptr (kA a.Kind a.Day a.Lot a.Amount a.Yarn a.Dye a.Order) 0,.fptr (kF c.Day c.Lots c.Holds) 0],.func (.func 116) [] [.fptr (kA a.Kind a.Day a.Lot a.Amount a.Yarn a.Dye a.Order) 0,.fptr (.str b.lot.Name::(kB b.lot.Yarn b.lot.Dye b.lot.Stock b.known b.hold.Lot b.hold.Order b.hold.Reserved b.hold.Taken b.free)) 0],.func (.func 117) [] [.fptr [.func (.func 134) [] [],.func (.func 135) [] []] 0,.fptr (.str b.lot.Name::(kB b.lot.Yarn b.lot.Dye b.lot.Stock b.known b.hold.Lot b.hold.Order b.hold.Reserved b.hold.Taken b.free)) 0,.fptr (kA a.Kind a.Day a.Lot a.Amount a.Yarn a.Dye a.Order) 0],.func (.func 118) [] [.fptr [.func (.func 134) [] [],.func (.func 135) [] []] 0,.fptr (.str b.lot.Name::(kB b.lot.Yarn b.lot.Dye b.lot.Stock b.known b.hold.Lot b.hold.Order b.hold.Reserved b.hold.Taken b.free)) 0,.fptr (kA a.Kind a.Day a.Lot a.Amount a.Yarn a.Dye a.Order) 0],.func (.func 119) [] [.fptr (kF c.Day c.Lots c.Holds) 0,.fptr (kA a.Kind a.Day a.Lot a.Amount a.Yarn a.Dye a.Order) 0]] 0)) (ixA (ot z) (by kernel_rfl))) (ac (hs (.call 177 [.func (.func 115) [] [.fptr (kA a.Kind a.Day a.Lot a.Amount a.Yarn a.Dye a.Order) 0,.fptr (kF c.Day c.Lots c.Holds) 0]] [] [] [.func (.func 115) [] [.fptr (kA a.Kind a.Day a.Lot a.Amount a.Yarn a.Dye a.Order) 0,.fptr (kF c.Day c.Lots c.Holds) 0]] (.bool A)) (qb4 (FzL.cons (Fz.func FzL.nil (FzL.cons (Ua (Still.fptr (AllST.cons tS (AllST.cons tI (AllST.cons tS (AllST.cons tI (AllST.cons tS (AllST.cons tS (AllST.cons tS AllST.nil))))))))) (FzL.cons (Ua (Still.fptr (AllST.cons tI (AllST.cons (jo qN _ (nl rfl)) (AllST.cons (jo qJ _ (nl rfl)) AllST.nil))))) FzL.nil))) FzL.nil) (qkP a c k) tB)) az))
     rcases wyD d with⟨B,d⟩|⟨B,d⟩
     ·obtain⟨C,n,d⟩:=bnd d
      obtain rfl:=si d
      exact tr fol [3,5] ((0,.fslice 5 (qr8 a c b))::(1,.func (.func 177) [] [])::(kJ e C)) (ac (hs (.done (.opt (yX ZT 221 (.fslice 5 (qr8 a c b)) (.i e))) (.fptr [.func (.func 115) [] [.fptr (kA a.Kind a.Day a.Lot a.Amount a.Yarn a.Dye a.Order) 0,.fptr (kF c.Day c.Lots c.Holds) 0],.func (.func 116) [] [.fptr (kA a.Kind a.Day a.Lot a.Amount a.Yarn a.Dye a.Order) 0,.fptr (.str b.lot.Name::(kB b.lot.Yarn b.lot.Dye b.lot.Stock b.known b.hold.Lot b.hold.Order b.hold.Reserved b.hold.Taken b.free)) 0],.func (.func 117) [] [.fptr [.func (.func 134) [] [],.func (.func 135) [] []] 0,.fptr (.str b.lot.Name::(kB b.lot.Yarn b.lot.Dye b.lot.Stock b.known b.hold.Lot b.hold.Order b.hold.Reserved b.hold.Taken b.free)) 0,.fptr (kA a.Kind a.Day a.Lot a.Amount a.Yarn a.Dye a.Order) 0],.func (.func 118) [] [.fptr [.func (.func 134) [] [],.func (.func 135) [] []] 0,.fptr (.str b.lot.Name::(kB b.lot.Yarn b.lot.Dye b.lot.Stock b.known b.hold.Lot b.hold.Order b.hold.Reserved b.hold.Taken b.free)) 0,.fptr (kA a.Kind a.Day a.Lot a.Amount a.Yarn a.Dye a.Order) 0],.func (.func 119) [] [.fptr (kF c.Day c.Lots c.Holds) 0,.fptr (kA a.Kind a.Day a.Lot a.Amount a.Yarn a.Dye a.Order) 0]] 1)) (ixA (ot B) (by kernel_rfl))) (ac (hs (.call 177 [.func (.func 116) [] [.fptr (kA a.Kind a.Day a.Lot a.Amount a.Yarn a.Dye a.Order) 0,.fptr (.str b.lot.Name::(kB b.lot.Yarn b.lot.Dye b.lot.Stock b.known b.hold.Lot b.hold.Order b.hold.Reserved b.hold.Taken b.free)) 0]] [] [] [.func (.func 116) [] [.fptr (kA a.Kind a.Day a.Lot a.Amount a.Yarn a.Dye a.Order) 0,.fptr (.str b.lot.Name::(kB b.lot.Yarn b.lot.Dye b.lot.Stock b.known b.hold.Lot b.hold.Order b.hold.Reserved b.hold.Taken b.free)) 0]] (.bool C)) (qb4 (FzL.cons (Fz.func FzL.nil (FzL.cons (Ua (Still.fptr (AllST.cons tS (AllST.cons tI (AllST.cons tS (AllST.cons tI (AllST.cons tS (AllST.cons tS (AllST.cons tS AllST.nil))))))))) (FzL.cons (Ua (Still.fptr (AllST.cons tS (AllST.cons tS (AllST.cons tS (AllST.cons tI (AllST.cons tB (AllST.cons tS (AllST.cons tS (AllST.cons tI (AllST.cons tI (AllST.cons tI AllST.nil)))))))))))) FzL.nil))) FzL.nil) (qkL a b n) tB)) az))
     rcases wyD d with⟨D,d⟩|⟨D,d⟩
     ·obtain⟨o,f,d⟩:=bnd d
      obtain rfl:=si d
      exact tr fol [3,5] ((0,.fslice 5 (qr8 a c b))::(1,.func (.func 177) [] [])::(kJ e o)) (ac (hs (.done (.opt (yX ZT 221 (.fslice 5 (qr8 a c b)) (.i e))) (.fptr [.func (.func 115) [] [.fptr (kA a.Kind a.Day a.Lot a.Amount a.Yarn a.Dye a.Order) 0,.fptr (kF c.Day c.Lots c.Holds) 0],.func (.func 116) [] [.fptr (kA a.Kind a.Day a.Lot a.Amount a.Yarn a.Dye a.Order) 0,.fptr (.str b.lot.Name::(kB b.lot.Yarn b.lot.Dye b.lot.Stock b.known b.hold.Lot b.hold.Order b.hold.Reserved b.hold.Taken b.free)) 0],.func (.func 117) [] [.fptr [.func (.func 134) [] [],.func (.func 135) [] []] 0,.fptr (.str b.lot.Name::(kB b.lot.Yarn b.lot.Dye b.lot.Stock b.known b.hold.Lot b.hold.Order b.hold.Reserved b.hold.Taken b.free)) 0,.fptr (kA a.Kind a.Day a.Lot a.Amount a.Yarn a.Dye a.Order) 0],.func (.func 118) [] [.fptr [.func (.func 134) [] [],.func (.func 135) [] []] 0,.fptr (.str b.lot.Name::(kB b.lot.Yarn b.lot.Dye b.lot.Stock b.known b.hold.Lot b.hold.Order b.hold.Reserved b.hold.Taken b.free)) 0,.fptr (kA a.Kind a.Day a.Lot a.Amount a.Yarn a.Dye a.Order) 0],.func (.func 119) [] [.fptr (kF c.Day c.Lots c.Holds) 0,.fptr (kA a.Kind a.Day a.Lot a.Amount a.Yarn a.Dye a.Order) 0]] 2)) (ixA (ot D) (by kernel_rfl))) (ac (hs (.call 177 [.func (.func 117) [] [.fptr [.func (.func 134) [] [],.func (.func 135) [] []] 0,.fptr (.str b.lot.Name::(kB b.lot.Yarn b.lot.Dye b.lot.Stock b.known b.hold.Lot b.hold.Order b.hold.Reserved b.hold.Taken b.free)) 0,.fptr (kA a.Kind a.Day a.Lot a.Amount a.Yarn a.Dye a.Order) 0]] [] [] [.func (.func 117) [] [.fptr [.func (.func 134) [] [],.func (.func 135) [] []] 0,.fptr (.str b.lot.Name::(kB b.lot.Yarn b.lot.Dye b.lot.Stock b.known b.hold.Lot b.hold.Order b.hold.Reserved b.hold.Taken b.free)) 0,.fptr (kA a.Kind a.Day a.Lot a.Amount a.Yarn a.Dye a.Order) 0]] (.bool o)) (qb4 (FzL.cons (Fz.func FzL.nil (FzL.cons (Ua (Still.fptr (AllST.cons (Still.func AllST.nil AllST.nil) (AllST.cons (Still.func AllST.nil AllST.nil) AllST.nil)))) (FzL.cons (Ua (Still.fptr (AllST.cons tS (AllST.cons tS (AllST.cons tS (AllST.cons tI (AllST.cons tB (AllST.cons tS (AllST.cons tS (AllST.cons tI (AllST.cons tI (AllST.cons tI AllST.nil)))))))))))) (FzL.cons (Ua (Still.fptr (AllST.cons tS (AllST.cons tI (AllST.cons tS (AllST.cons tI (AllST.cons tS (AllST.cons tS (AllST.cons tS AllST.nil))))))))) FzL.nil)))) FzL.nil) (qwo b a f) tB)) az))
     rcases wyD d with⟨p,d⟩|⟨p,d⟩
     ·obtain⟨q,g,d⟩:=bnd d
      obtain rfl:=si d
      exact tr fol [3,5] ((0,.fslice 5 (qr8 a c b))::(1,.func (.func 177) [] [])::(kJ e q)) (ac (hs (.done (.opt (yX ZT 221 (.fslice 5 (qr8 a c b)) (.i e))) (.fptr [.func (.func 115) [] [.fptr (kA a.Kind a.Day a.Lot a.Amount a.Yarn a.Dye a.Order) 0,.fptr (kF c.Day c.Lots c.Holds) 0],.func (.func 116) [] [.fptr (kA a.Kind a.Day a.Lot a.Amount a.Yarn a.Dye a.Order) 0,.fptr (.str b.lot.Name::(kB b.lot.Yarn b.lot.Dye b.lot.Stock b.known b.hold.Lot b.hold.Order b.hold.Reserved b.hold.Taken b.free)) 0],.func (.func 117) [] [.fptr [.func (.func 134) [] [],.func (.func 135) [] []] 0,.fptr (.str b.lot.Name::(kB b.lot.Yarn b.lot.Dye b.lot.Stock b.known b.hold.Lot b.hold.Order b.hold.Reserved b.hold.Taken b.free)) 0,.fptr (kA a.Kind a.Day a.Lot a.Amount a.Yarn a.Dye a.Order) 0],.func (.func 118) [] [.fptr [.func (.func 134) [] [],.func (.func 135) [] []] 0,.fptr (.str b.lot.Name::(kB b.lot.Yarn b.lot.Dye b.lot.Stock b.known b.hold.Lot b.hold.Order b.hold.Reserved b.hold.Taken b.free)) 0,.fptr (kA a.Kind a.Day a.Lot a.Amount a.Yarn a.Dye a.Order) 0],.func (.func 119) [] [.fptr (kF c.Day c.Lots c.Holds) 0,.fptr (kA a.Kind a.Day a.Lot a.Amount a.Yarn a.Dye a.Order) 0]] 3)) (ixA (ot p) (by kernel_rfl))) (ac (hs (.call 177 [.func (.func 118) [] [.fptr [.func (.func 134) [] [],.func (.func 135) [] []] 0,.fptr (.str b.lot.Name::(kB b.lot.Yarn b.lot.Dye b.lot.Stock b.known b.hold.Lot b.hold.Order b.hold.Reserved b.hold.Taken b.free)) 0,.fptr (kA a.Kind a.Day a.Lot a.Amount a.Yarn a.Dye a.Order) 0]] [] [] [.func (.func 118) [] [.fptr [.func (.func 134) [] [],.func (.func 135) [] []] 0,.fptr (.str b.lot.Name::(kB b.lot.Yarn b.lot.Dye b.lot.Stock b.known b.hold.Lot b.hold.Order b.hold.Reserved b.hold.Taken b.free)) 0,.fptr (kA a.Kind a.Day a.Lot a.Amount a.Yarn a.Dye a.Order) 0]] (.bool q)) (qb4 (FzL.cons (Fz.func FzL.nil (FzL.cons (Ua (Still.fptr (AllST.cons (Still.func AllST.nil AllST.nil) (AllST.cons (Still.func AllST.nil AllST.nil) AllST.nil)))) (FzL.cons (Ua (Still.fptr (AllST.cons tS (AllST.cons tS (AllST.cons tS (AllST.cons tI (AllST.cons tB (AllST.cons tS (AllST.cons tS (AllST.cons tI (AllST.cons tI (AllST.cons tI AllST.nil)))))))))))) (FzL.cons (Ua (Still.fptr (AllST.cons tS (AllST.cons tI (AllST.cons tS (AllST.cons tI (AllST.cons tS (AllST.cons tS (AllST.cons tS AllST.nil))))))))) FzL.nil)))) FzL.nil) (qwV b a g) tB)) az))
     rcases wyD d with⟨r,d⟩|⟨r,d⟩
     ·obtain⟨t,j,d⟩:=bnd d
      obtain rfl:=si d
      exact tr fol [3,5] ((0,.fslice 5 (qr8 a c b))::(1,.func (.func 177) [] [])::(kJ e t)) (ac (hs (.done (.opt (yX ZT 221 (.fslice 5 (qr8 a c b)) (.i e))) (.fptr [.func (.func 115) [] [.fptr (kA a.Kind a.Day a.Lot a.Amount a.Yarn a.Dye a.Order) 0,.fptr (kF c.Day c.Lots c.Holds) 0],.func (.func 116) [] [.fptr (kA a.Kind a.Day a.Lot a.Amount a.Yarn a.Dye a.Order) 0,.fptr (.str b.lot.Name::(kB b.lot.Yarn b.lot.Dye b.lot.Stock b.known b.hold.Lot b.hold.Order b.hold.Reserved b.hold.Taken b.free)) 0],.func (.func 117) [] [.fptr [.func (.func 134) [] [],.func (.func 135) [] []] 0,.fptr (.str b.lot.Name::(kB b.lot.Yarn b.lot.Dye b.lot.Stock b.known b.hold.Lot b.hold.Order b.hold.Reserved b.hold.Taken b.free)) 0,.fptr (kA a.Kind a.Day a.Lot a.Amount a.Yarn a.Dye a.Order) 0],.func (.func 118) [] [.fptr [.func (.func 134) [] [],.func (.func 135) [] []] 0,.fptr (.str b.lot.Name::(kB b.lot.Yarn b.lot.Dye b.lot.Stock b.known b.hold.Lot b.hold.Order b.hold.Reserved b.hold.Taken b.free)) 0,.fptr (kA a.Kind a.Day a.Lot a.Amount a.Yarn a.Dye a.Order) 0],.func (.func 119) [] [.fptr (kF c.Day c.Lots c.Holds) 0,.fptr (kA a.Kind a.Day a.Lot a.Amount a.Yarn a.Dye a.Order) 0]] 4)) (ixA (ot r) (by kernel_rfl))) (ac (hs (.call 177 [.func (.func 119) [] [.fptr (kF c.Day c.Lots c.Holds) 0,.fptr (kA a.Kind a.Day a.Lot a.Amount a.Yarn a.Dye a.Order) 0]] [] [] [.func (.func 119) [] [.fptr (kF c.Day c.Lots c.Holds) 0,.fptr (kA a.Kind a.Day a.Lot a.Amount a.Yarn a.Dye a.Order) 0]] (.bool t)) (qb4 (FzL.cons (Fz.func FzL.nil (FzL.cons (Ua (Still.fptr (AllST.cons tI (AllST.cons (jo qN _ (nl rfl)) (AllST.cons (jo qJ _ (nl rfl)) AllST.nil))))) (FzL.cons (Ua (Still.fptr (AllST.cons tS (AllST.cons tI (AllST.cons tS (AllST.cons tI (AllST.cons tS (AllST.cons tS (AllST.cons tS AllST.nil))))))))) FzL.nil))) FzL.nil) (qkJ N c a j) tB)) az))
     cases d
    refine ihB g2 (fun w g2=>?_) (fun w g2=>?_)
    ·refine sh fol (kAj e) ?_
     refine Goes.ret ?_
     obtain rfl:=si g2
     exact Or.inr (⟨rfl,_,rfl,(gw2 [.i e] (Ub tI))⟩)
    refine Goes.skip ?_
    refine gh fol ((0,.fslice 5 (qr8 a c b))::(1,.func (.func 177) [] [])::(kZ (w64 (e+1)))) ?_
    exact⟨M,(ofG 19 ((0,.fslice 5 (qr8 a c b))::(1,.func (.func 177) [] [])::(kZ (w64 (e+1)))),[]),Nat.lt_succ_self _,(Sub.refl _),_,rfl,g2⟩
   refine Goes.exit ?_
   obtain rfl:=si g2
   exact Or.inl (⟨rfl,rfl,(Sub.keep [] rfl rfl)⟩)
 rintro x s' (⟨rfl,rfl,hsub⟩|⟨rfl,F,rfl,hret⟩)
 ·try dsimp only at h
  refine Goes.sub hsub ?_
  refine sh fol kAp ?_
  refine Goes.ret ?_
  obtain rfl:=si h
  exact(gw2 [.i (-1)] (Ub tI))
 try dsimp only at h
 obtain rfl:=si h
 exact hret
def qrc (N:Nat) (a:zi) (b:StateT) (c:qg):Option Int:=
 (qjS N a b c).bind fun d=>
 some (w64 (1+d))
theorem qyW (N:Nat) (a:zi) (b:StateT) (c:qg) {res:Int} (h:qrc N a b c=some res):zu ZT (.fn 114) [.fslice 5 (qr8 a b c)] [] (.i res) []:=by
 unfold qrc at h
 refine Uc Tryz.func114 rfl rfl (m:=6) rfl (rs:=[.tmp 2]) rfl (l:=[(0,.fslice 5 (qr8 a b c))]) rfl ?_
 refine sh fol [(0,.fslice 5 (qr8 a b c))] ?_
 obtain⟨e,d,h⟩:=bnd h
 refine sq (gr fol [1] (kAl (w64 (1+e))) (ac (hs (.call 176 [.fslice 5 (qr8 a b c),.func (.func 177) [] []] [] [] [.fslice 5 (qr8 a b c),.func (.func 177) [] []] (.i e)) (qb4 (FzL.cons (Ua (Still.fslice (AllST.cons (Still.func AllST.nil (AllST.cons (Still.fptr (AllST.cons tS (AllST.cons tI (AllST.cons tS (AllST.cons tI (AllST.cons tS (AllST.cons tS (AllST.cons tS AllST.nil)))))))) (AllST.cons (Still.fptr (AllST.cons tI (AllST.cons (jo qN _ (nl rfl)) (AllST.cons (jo qJ _ (nl rfl)) AllST.nil)))) AllST.nil))) (AllST.cons (Still.func AllST.nil (AllST.cons (Still.fptr (AllST.cons tS (AllST.cons tI (AllST.cons tS (AllST.cons tI (AllST.cons tS (AllST.cons tS (AllST.cons tS AllST.nil)))))))) (AllST.cons (Still.fptr (AllST.cons tS (AllST.cons tS (AllST.cons tS (AllST.cons tI (AllST.cons tB (AllST.cons tS (AllST.cons tS (AllST.cons tI (AllST.cons tI (AllST.cons tI AllST.nil))))))))))) AllST.nil))) (AllST.cons (Still.func AllST.nil (AllST.cons (Still.fptr (AllST.cons (Still.func AllST.nil AllST.nil) (AllST.cons (Still.func AllST.nil AllST.nil) AllST.nil))) (AllST.cons (Still.fptr (AllST.cons tS (AllST.cons tS (AllST.cons tS (AllST.cons tI (AllST.cons tB (AllST.cons tS (AllST.cons tS (AllST.cons tI (AllST.cons tI (AllST.cons tI AllST.nil))))))))))) (AllST.cons (Still.fptr (AllST.cons tS (AllST.cons tI (AllST.cons tS (AllST.cons tI (AllST.cons tS (AllST.cons tS (AllST.cons tS AllST.nil)))))))) AllST.nil)))) (AllST.cons (Still.func AllST.nil (AllST.cons (Still.fptr (AllST.cons (Still.func AllST.nil AllST.nil) (AllST.cons (Still.func AllST.nil AllST.nil) AllST.nil))) (AllST.cons (Still.fptr (AllST.cons tS (AllST.cons tS (AllST.cons tS (AllST.cons tI (AllST.cons tB (AllST.cons tS (AllST.cons tS (AllST.cons tI (AllST.cons tI (AllST.cons tI AllST.nil))))))))))) (AllST.cons (Still.fptr (AllST.cons tS (AllST.cons tI (AllST.cons tS (AllST.cons tI (AllST.cons tS (AllST.cons tS (AllST.cons tS AllST.nil)))))))) AllST.nil)))) (AllST.cons (Still.func AllST.nil (AllST.cons (Still.fptr (AllST.cons tI (AllST.cons (jo qN _ (nl rfl)) (AllST.cons (jo qJ _ (nl rfl)) AllST.nil)))) (AllST.cons (Still.fptr (AllST.cons tS (AllST.cons tI (AllST.cons tS (AllST.cons tI (AllST.cons tS (AllST.cons tS (AllST.cons tS AllST.nil)))))))) AllST.nil))) AllST.nil))))))) (FzL.cons (Fz.func FzL.nil FzL.nil) FzL.nil)) (qs7 N a b c d) tI)) az) ?_)
 refine Goes.ret ?_
 obtain rfl:=si h
 exact(gw2 [.i (w64 (1+e))] (Ub tI))
def qog (a:qg) (b:zi):Option Bool:=
 (quL a b.Amount).bind fun c=>
 some c
theorem qtT (a:qg) (b:zi) {res:Bool} (h:qog a b=some res):zu ZT (.fn 117) [.fptr [.func (.func 137) [] [],.func (.func 138) [] []] 0,.fptr (.str a.lot.Name::(kB a.lot.Yarn a.lot.Dye a.lot.Stock a.known a.hold.Lot a.hold.Order a.hold.Reserved a.hold.Taken a.free)) 0,.fptr (kA b.Kind b.Day b.Lot b.Amount b.Yarn b.Dye b.Order) 0] [] (.bool res) []:=by
 unfold qog at h
 refine Uc Tryz.func117 rfl rfl (m:=10) rfl (rs:=[.tmp 3]) rfl (l:=[(0,.fptr [.func (.func 137) [] [],.func (.func 138) [] []] 0),(1,.fptr (.str a.lot.Name::(kB a.lot.Yarn a.lot.Dye a.lot.Stock a.known a.hold.Lot a.hold.Order a.hold.Reserved a.hold.Taken a.free)) 0),(2,.fptr (kA b.Kind b.Day b.Lot b.Amount b.Yarn b.Dye b.Order) 0)]) rfl ?_
 refine sh fol [(0,.fptr [.func (.func 137) [] [],.func (.func 138) [] []] 0),(1,.fptr (.str a.lot.Name::(kB a.lot.Yarn a.lot.Dye a.lot.Stock a.known a.hold.Lot a.hold.Order a.hold.Reserved a.hold.Taken a.free)) 0),(2,.fptr (kA b.Kind b.Day b.Lot b.Amount b.Yarn b.Dye b.Order) 0)] ?_
 obtain⟨d,c,h⟩:=bnd h
 refine sq (gr fol [5] (kAm d) (ac (cv (qzf a b.Amount c)) az) ?_)
 refine Goes.ret ?_
 obtain rfl:=si h
 exact(gw2 [.bool d] (Ub tB))
def qqy (a:qg) (b:zi):Option Bool:=
 (qog a b).bind fun c=>
 some (!c)
theorem qwL (a:qg) (b:zi) {res:Bool} (h:qqy a b=some res):zu ZT (.fn 177) [.func (.func 117) [] [.fptr [.func (.func 137) [] [],.func (.func 138) [] []] 0,.fptr (.str a.lot.Name::(kB a.lot.Yarn a.lot.Dye a.lot.Stock a.known a.hold.Lot a.hold.Order a.hold.Reserved a.hold.Taken a.free)) 0,.fptr (kA b.Kind b.Day b.Lot b.Amount b.Yarn b.Dye b.Order) 0]] [] (.bool res) []:=by
 unfold qqy at h
 refine Uc Tryz.func177 rfl rfl (m:=6) rfl (rs:=[.tmp 2]) rfl (l:=[(0,.func (.func 117) [] [.fptr [.func (.func 137) [] [],.func (.func 138) [] []] 0,.fptr (.str a.lot.Name::(kB a.lot.Yarn a.lot.Dye a.lot.Stock a.known a.hold.Lot a.hold.Order a.hold.Reserved a.hold.Taken a.free)) 0,.fptr (kA b.Kind b.Day b.Lot b.Amount b.Yarn b.Dye b.Order) 0])]) rfl ?_
 refine sh fol [(0,.func (.func 117) [] [.fptr [.func (.func 137) [] [],.func (.func 138) [] []] 0,.fptr (.str a.lot.Name::(kB a.lot.Yarn a.lot.Dye a.lot.Stock a.known a.hold.Lot a.hold.Order a.hold.Reserved a.hold.Taken a.free)) 0,.fptr (kA b.Kind b.Day b.Lot b.Amount b.Yarn b.Dye b.Order) 0])] ?_
 obtain⟨d,c,h⟩:=bnd h
 refine sq (gr fol [1] (kAJ (!d)) (ac (hs (.call 117 [.fptr [.func (.func 137) [] [],.func (.func 138) [] []] 0,.fptr (.str a.lot.Name::(kB a.lot.Yarn a.lot.Dye a.lot.Stock a.known a.hold.Lot a.hold.Order a.hold.Reserved a.hold.Taken a.free)) 0,.fptr (kA b.Kind b.Day b.Lot b.Amount b.Yarn b.Dye b.Order) 0] [] [] [.fptr [.func (.func 137) [] [],.func (.func 138) [] []] 0,.fptr (.str a.lot.Name::(kB a.lot.Yarn a.lot.Dye a.lot.Stock a.known a.hold.Lot a.hold.Order a.hold.Reserved a.hold.Taken a.free)) 0,.fptr (kA b.Kind b.Day b.Lot b.Amount b.Yarn b.Dye b.Order) 0] (.bool d)) (qb4 (FzL.cons (Ua (Still.fptr (AllST.cons (Still.func AllST.nil AllST.nil) (AllST.cons (Still.func AllST.nil AllST.nil) AllST.nil)))) (FzL.cons (Ua (Still.fptr (AllST.cons tS (AllST.cons tS (AllST.cons tS (AllST.cons tI (AllST.cons tB (AllST.cons tS (AllST.cons tS (AllST.cons tI (AllST.cons tI (AllST.cons tI AllST.nil)))))))))))) (FzL.cons (Ua (Still.fptr (AllST.cons tS (AllST.cons tI (AllST.cons tS (AllST.cons tI (AllST.cons tS (AllST.cons tS (AllST.cons tS AllST.nil))))))))) FzL.nil))) (qtT a b c) tB)) az) ?_)
 refine Goes.ret ?_
 obtain rfl:=si h
 exact(gw2 [.bool (!d)] (Ub tB))
def qnZ (b:qg) (c:zi):Option Bool:=
 (qp4 b c.Amount).bind fun a=>
 some (decide ((if a.hold.Taken>a.lot.Stock then a.hold.Taken else a.lot.Stock)<=999999999))
theorem qtP (a:qg) (b:zi) {res:Bool} (h:qnZ a b=some res):zu ZT (.fn 118) [.fptr [.func (.func 137) [] [],.func (.func 138) [] []] 0,.fptr (.str a.lot.Name::(kB a.lot.Yarn a.lot.Dye a.lot.Stock a.known a.hold.Lot a.hold.Order a.hold.Reserved a.hold.Taken a.free)) 0,.fptr (kA b.Kind b.Day b.Lot b.Amount b.Yarn b.Dye b.Order) 0] [] (.bool res) []:=by
 unfold qnZ at h
 refine Uc Tryz.func118 rfl rfl (m:=19) rfl (rs:=[.tmp 3]) rfl (l:=[(0,.fptr [.func (.func 137) [] [],.func (.func 138) [] []] 0),(1,.fptr (.str a.lot.Name::(kB a.lot.Yarn a.lot.Dye a.lot.Stock a.known a.hold.Lot a.hold.Order a.hold.Reserved a.hold.Taken a.free)) 0),(2,.fptr (kA b.Kind b.Day b.Lot b.Amount b.Yarn b.Dye b.Order) 0)]) rfl ?_
 refine sh fol [(0,.fptr [.func (.func 137) [] [],.func (.func 138) [] []] 0),(1,.fptr (.str a.lot.Name::(kB a.lot.Yarn a.lot.Dye a.lot.Stock a.known a.hold.Lot a.hold.Order a.hold.Reserved a.hold.Taken a.free)) 0),(2,.fptr (kA b.Kind b.Day b.Lot b.Amount b.Yarn b.Dye b.Order) 0)] ?_
 obtain⟨c,d,h⟩:=bnd h
 refine sq (gq fol [5] kAq (kC c.lot.Name c.lot.Yarn c.lot.Dye c.lot.Stock c.known c.hold.Lot c.hold.Order c.hold.Reserved c.hold.Taken c.free []) (ac (cv (quP a b.Amount d)) az) ?_)
 refine sh fol (kAm (decide ((if c.hold.Taken>c.lot.Stock then c.hold.Taken else c.lot.Stock)<=999999999))) ?_
 refine Goes.ret ?_
 obtain rfl:=si h
 exact(gw2 [.bool (decide ((if c.hold.Taken>c.lot.Stock then c.hold.Taken else c.lot.Stock)<=999999999))] (Ub tB))
def qq9 (a:qg) (b:zi):Option Bool:=
 (qnZ a b).bind fun c=>
 some (!c)
theorem qv9 (a:qg) (b:zi) {res:Bool} (h:qq9 a b=some res):zu ZT (.fn 177) [.func (.func 118) [] [.fptr [.func (.func 137) [] [],.func (.func 138) [] []] 0,.fptr (.str a.lot.Name::(kB a.lot.Yarn a.lot.Dye a.lot.Stock a.known a.hold.Lot a.hold.Order a.hold.Reserved a.hold.Taken a.free)) 0,.fptr (kA b.Kind b.Day b.Lot b.Amount b.Yarn b.Dye b.Order) 0]] [] (.bool res) []:=by
 unfold qq9 at h
 refine Uc Tryz.func177 rfl rfl (m:=6) rfl (rs:=[.tmp 2]) rfl (l:=[(0,.func (.func 118) [] [.fptr [.func (.func 137) [] [],.func (.func 138) [] []] 0,.fptr (.str a.lot.Name::(kB a.lot.Yarn a.lot.Dye a.lot.Stock a.known a.hold.Lot a.hold.Order a.hold.Reserved a.hold.Taken a.free)) 0,.fptr (kA b.Kind b.Day b.Lot b.Amount b.Yarn b.Dye b.Order) 0])]) rfl ?_
 refine sh fol [(0,.func (.func 118) [] [.fptr [.func (.func 137) [] [],.func (.func 138) [] []] 0,.fptr (.str a.lot.Name::(kB a.lot.Yarn a.lot.Dye a.lot.Stock a.known a.hold.Lot a.hold.Order a.hold.Reserved a.hold.Taken a.free)) 0,.fptr (kA b.Kind b.Day b.Lot b.Amount b.Yarn b.Dye b.Order) 0])] ?_
 obtain⟨d,c,h⟩:=bnd h
 refine sq (gr fol [1] (kAJ (!d)) (ac (hs (.call 118 [.fptr [.func (.func 137) [] [],.func (.func 138) [] []] 0,.fptr (.str a.lot.Name::(kB a.lot.Yarn a.lot.Dye a.lot.Stock a.known a.hold.Lot a.hold.Order a.hold.Reserved a.hold.Taken a.free)) 0,.fptr (kA b.Kind b.Day b.Lot b.Amount b.Yarn b.Dye b.Order) 0] [] [] [.fptr [.func (.func 137) [] [],.func (.func 138) [] []] 0,.fptr (.str a.lot.Name::(kB a.lot.Yarn a.lot.Dye a.lot.Stock a.known a.hold.Lot a.hold.Order a.hold.Reserved a.hold.Taken a.free)) 0,.fptr (kA b.Kind b.Day b.Lot b.Amount b.Yarn b.Dye b.Order) 0] (.bool d)) (qb4 (FzL.cons (Ua (Still.fptr (AllST.cons (Still.func AllST.nil AllST.nil) (AllST.cons (Still.func AllST.nil AllST.nil) AllST.nil)))) (FzL.cons (Ua (Still.fptr (AllST.cons tS (AllST.cons tS (AllST.cons tS (AllST.cons tI (AllST.cons tB (AllST.cons tS (AllST.cons tS (AllST.cons tI (AllST.cons tI (AllST.cons tI AllST.nil)))))))))))) (FzL.cons (Ua (Still.fptr (AllST.cons tS (AllST.cons tI (AllST.cons tS (AllST.cons tI (AllST.cons tS (AllST.cons tS (AllST.cons tS AllST.nil))))))))) FzL.nil))) (qtP a b c) tB)) az) ?_)
 refine Goes.ret ?_
 obtain rfl:=si h
 exact(gw2 [.bool (!d)] (Ub tB))
def qeR (N:Nat) (a:zi) (d:StateT) (b:qg):Nat->Int->Option (Unit⊕Int)
 |0,_=>none
 |K+1,c=>
  if c<5 then
  (if c=0 then
  (qgD a d).bind fun i=>
  some i
  else
  if c=1 then
  (qfg a b).bind fun j=>
  some j
  else
  if c=2 then
  (qqy b a).bind fun e=>
  some e
  else
  if c=3 then
  (qq9 b a).bind fun f=>
  some f
  else
  if c=4 then
  (qgA N d a).bind fun g=>
  some g
  else
  none:Option Bool).bind fun h=>
  if h=true then
  some (.inr c)
  else
  qeR N a d b K (w64 (c+1))
  else
  some (.inl ())
def qkb (N:Nat) (a:zi) (b:StateT) (c:qg):Option Int:=
 (qeR N a b c N 0).bind (fun
 |(.inl ())=>
 some (-1)
 |(.inr d)=>
 some d)
theorem qs4 (N:Nat) (a:zi) (c:StateT) (b:qg) {res:Int} (h:qkb N a c b=some res):zu ZT (.fn 176) [.fslice 5 (qsv a c b),.func (.func 177) [] []] [] (.i res) []:=by
 unfold qkb at h
 refine Uc Tryz.func176 rfl rfl (m:=19) rfl (rs:=[.tmp 4]) rfl (l:=[(0,.fslice 5 (qsv a c b)),(1,.func (.func 177) [] [])]) rfl ?_
 refine sh fol [(0,.fslice 5 (qsv a c b)),(1,.func (.func 177) [] [])] ?_
 refine sq ?_
 refine sh fol ((0,.fslice 5 (qsv a c b))::(1,.func (.func 177) [] [])::kAr) ?_
 refine Goes.block ?_
 obtain⟨u,g2,h⟩:=bnd h
 refine Goes.imp (Q:=fun x s'=>(x= .exit 0/\(.inl ())=u/\Sub s' (ofG 19 [],[]))\/(x= .ret/\ ∃y,(.inr y)=u/\qhA ZT [.tmp 4] (.i y) .ret s')) ?_ ?_
 ·refine Ud (fun M s=> ∃(e:Int),s=(ofG 19 ((0,.fslice 5 (qsv a c b))::(1,.func (.func 177) [] [])::(kZ e)),[])/\qeR N a c b M e=some u) ?_ (m:=N) ⟨_,rfl,g2⟩
  rintro M s ⟨e,rfl,g2⟩
  cases M with
  |zero=>simp only[qeR]at g2;cases g2
  |succ M=>
   rw[qeR]at g2
   refine sh fol ((0,.fslice 5 (qsv a c b))::(1,.func (.func 177) [] [])::(7,.i 5)::(kAa e (decide (e<5)))) ?_
   refine sq ?_
   refine ihD g2 (fun E g2=>?_) (fun E g2=>?_)
   ·refine Goes.skip ?_
    refine sq (Goes.block ?_)
    refine sh fol ((0,.fslice 5 (qsv a c b))::(1,.func (.func 177) [] [])::(5,.i e)::(kZ e)) ?_
    refine sq ?_
    obtain⟨v,d,g2⟩:=bnd g2
    refine Goes.cut (s':=(ofG 19 ((0,.fslice 5 (qsv a c b))::(1,.func (.func 177) [] [])::(kJ e v)),[])) ?_ ?_
    ·rcases wyD d with⟨z,d⟩|⟨z,d⟩
     ·obtain⟨A,k,d⟩:=bnd d
      obtain rfl:=si d
      exact tr fol [3,5] ((0,.fslice 5 (qsv a c b))::(1,.func (.func 177) [] [])::(kJ e A)) (ac (hs (.done (.opt (yX ZT 221 (.fslice 5 (qsv a c b)) (.i e))) (.fptr [.func (.func 115) [] [.fptr (kA a.Kind a.Day a.Lot a.Amount a.Yarn a.Dye a.Order) 0,.fptr (kF c.Day c.Lots c.Holds) 0],.func (.func 116) [] [.fptr (kA a.Kind a.Day a.Lot a.Amount a.Yarn a.Dye a.Order) 0,.fptr (.str b.lot.Name::(kB b.lot.Yarn b.lot.Dye b.lot.Stock b.known b.hold.Lot b.hold.Order b.hold.Reserved b.hold.Taken b.free)) 0],.func (.func 117) [] [.fptr [.func (.func 137) [] [],.func (.func 138) [] []] 0,.fptr (.str b.lot.Name::(kB b.lot.Yarn b.lot.Dye b.lot.Stock b.known b.hold.Lot b.hold.Order b.hold.Reserved b.hold.Taken b.free)) 0,.fptr (kA a.Kind a.Day a.Lot a.Amount a.Yarn a.Dye a.Order) 0],.func (.func 118) [] [.fptr [.func (.func 137) [] [],.func (.func 138) [] []] 0,.fptr (.str b.lot.Name::(kB b.lot.Yarn b.lot.Dye b.lot.Stock b.known b.hold.Lot b.hold.Order b.hold.Reserved b.hold.Taken b.free)) 0,.fptr (kA a.Kind a.Day a.Lot a.Amount a.Yarn a.Dye a.Order) 0],.func (.func 119) [] [.fptr (kF c.Day c.Lots c.Holds) 0,.fptr (kA a.Kind a.Day a.Lot a.Amount a.Yarn a.Dye a.Order) 0]] 0)) (ixA (ot z) (by kernel_rfl))) (ac (hs (.call 177 [.func (.func 115) [] [.fptr (kA a.Kind a.Day a.Lot a.Amount a.Yarn a.Dye a.Order) 0,.fptr (kF c.Day c.Lots c.Holds) 0]] [] [] [.func (.func 115) [] [.fptr (kA a.Kind a.Day a.Lot a.Amount a.Yarn a.Dye a.Order) 0,.fptr (kF c.Day c.Lots c.Holds) 0]] (.bool A)) (qb4 (FzL.cons (Fz.func FzL.nil (FzL.cons (Ua (Still.fptr (AllST.cons tS (AllST.cons tI (AllST.cons tS (AllST.cons tI (AllST.cons tS (AllST.cons tS (AllST.cons tS AllST.nil))))))))) (FzL.cons (Ua (Still.fptr (AllST.cons tI (AllST.cons (jo qN _ (nl rfl)) (AllST.cons (jo qJ _ (nl rfl)) AllST.nil))))) FzL.nil))) FzL.nil) (qkP a c k) tB)) az))
     rcases wyD d with⟨B,d⟩|⟨B,d⟩
     ·obtain⟨C,n,d⟩:=bnd d
      obtain rfl:=si d
      exact tr fol [3,5] ((0,.fslice 5 (qsv a c b))::(1,.func (.func 177) [] [])::(kJ e C)) (ac (hs (.done (.opt (yX ZT 221 (.fslice 5 (qsv a c b)) (.i e))) (.fptr [.func (.func 115) [] [.fptr (kA a.Kind a.Day a.Lot a.Amount a.Yarn a.Dye a.Order) 0,.fptr (kF c.Day c.Lots c.Holds) 0],.func (.func 116) [] [.fptr (kA a.Kind a.Day a.Lot a.Amount a.Yarn a.Dye a.Order) 0,.fptr (.str b.lot.Name::(kB b.lot.Yarn b.lot.Dye b.lot.Stock b.known b.hold.Lot b.hold.Order b.hold.Reserved b.hold.Taken b.free)) 0],.func (.func 117) [] [.fptr [.func (.func 137) [] [],.func (.func 138) [] []] 0,.fptr (.str b.lot.Name::(kB b.lot.Yarn b.lot.Dye b.lot.Stock b.known b.hold.Lot b.hold.Order b.hold.Reserved b.hold.Taken b.free)) 0,.fptr (kA a.Kind a.Day a.Lot a.Amount a.Yarn a.Dye a.Order) 0],.func (.func 118) [] [.fptr [.func (.func 137) [] [],.func (.func 138) [] []] 0,.fptr (.str b.lot.Name::(kB b.lot.Yarn b.lot.Dye b.lot.Stock b.known b.hold.Lot b.hold.Order b.hold.Reserved b.hold.Taken b.free)) 0,.fptr (kA a.Kind a.Day a.Lot a.Amount a.Yarn a.Dye a.Order) 0],.func (.func 119) [] [.fptr (kF c.Day c.Lots c.Holds) 0,.fptr (kA a.Kind a.Day a.Lot a.Amount a.Yarn a.Dye a.Order) 0]] 1)) (ixA (ot B) (by kernel_rfl))) (ac (hs (.call 177 [.func (.func 116) [] [.fptr (kA a.Kind a.Day a.Lot a.Amount a.Yarn a.Dye a.Order) 0,.fptr (.str b.lot.Name::(kB b.lot.Yarn b.lot.Dye b.lot.Stock b.known b.hold.Lot b.hold.Order b.hold.Reserved b.hold.Taken b.free)) 0]] [] [] [.func (.func 116) [] [.fptr (kA a.Kind a.Day a.Lot a.Amount a.Yarn a.Dye a.Order) 0,.fptr (.str b.lot.Name::(kB b.lot.Yarn b.lot.Dye b.lot.Stock b.known b.hold.Lot b.hold.Order b.hold.Reserved b.hold.Taken b.free)) 0]] (.bool C)) (qb4 (FzL.cons (Fz.func FzL.nil (FzL.cons (Ua (Still.fptr (AllST.cons tS (AllST.cons tI (AllST.cons tS (AllST.cons tI (AllST.cons tS (AllST.cons tS (AllST.cons tS AllST.nil))))))))) (FzL.cons (Ua (Still.fptr (AllST.cons tS (AllST.cons tS (AllST.cons tS (AllST.cons tI (AllST.cons tB (AllST.cons tS (AllST.cons tS (AllST.cons tI (AllST.cons tI (AllST.cons tI AllST.nil)))))))))))) FzL.nil))) FzL.nil) (qkL a b n) tB)) az))
     rcases wyD d with⟨D,d⟩|⟨D,d⟩
     ·obtain⟨o,f,d⟩:=bnd d
      obtain rfl:=si d
      exact tr fol [3,5] ((0,.fslice 5 (qsv a c b))::(1,.func (.func 177) [] [])::(kJ e o)) (ac (hs (.done (.opt (yX ZT 221 (.fslice 5 (qsv a c b)) (.i e))) (.fptr [.func (.func 115) [] [.fptr (kA a.Kind a.Day a.Lot a.Amount a.Yarn a.Dye a.Order) 0,.fptr (kF c.Day c.Lots c.Holds) 0],.func (.func 116) [] [.fptr (kA a.Kind a.Day a.Lot a.Amount a.Yarn a.Dye a.Order) 0,.fptr (.str b.lot.Name::(kB b.lot.Yarn b.lot.Dye b.lot.Stock b.known b.hold.Lot b.hold.Order b.hold.Reserved b.hold.Taken b.free)) 0],.func (.func 117) [] [.fptr [.func (.func 137) [] [],.func (.func 138) [] []] 0,.fptr (.str b.lot.Name::(kB b.lot.Yarn b.lot.Dye b.lot.Stock b.known b.hold.Lot b.hold.Order b.hold.Reserved b.hold.Taken b.free)) 0,.fptr (kA a.Kind a.Day a.Lot a.Amount a.Yarn a.Dye a.Order) 0],.func (.func 118) [] [.fptr [.func (.func 137) [] [],.func (.func 138) [] []] 0,.fptr (.str b.lot.Name::(kB b.lot.Yarn b.lot.Dye b.lot.Stock b.known b.hold.Lot b.hold.Order b.hold.Reserved b.hold.Taken b.free)) 0,.fptr (kA a.Kind a.Day a.Lot a.Amount a.Yarn a.Dye a.Order) 0],.func (.func 119) [] [.fptr (kF c.Day c.Lots c.Holds) 0,.fptr (kA a.Kind a.Day a.Lot a.Amount a.Yarn a.Dye a.Order) 0]] 2)) (ixA (ot D) (by kernel_rfl))) (ac (hs (.call 177 [.func (.func 117) [] [.fptr [.func (.func 137) [] [],.func (.func 138) [] []] 0,.fptr (.str b.lot.Name::(kB b.lot.Yarn b.lot.Dye b.lot.Stock b.known b.hold.Lot b.hold.Order b.hold.Reserved b.hold.Taken b.free)) 0,.fptr (kA a.Kind a.Day a.Lot a.Amount a.Yarn a.Dye a.Order) 0]] [] [] [.func (.func 117) [] [.fptr [.func (.func 137) [] [],.func (.func 138) [] []] 0,.fptr (.str b.lot.Name::(kB b.lot.Yarn b.lot.Dye b.lot.Stock b.known b.hold.Lot b.hold.Order b.hold.Reserved b.hold.Taken b.free)) 0,.fptr (kA a.Kind a.Day a.Lot a.Amount a.Yarn a.Dye a.Order) 0]] (.bool o)) (qb4 (FzL.cons (Fz.func FzL.nil (FzL.cons (Ua (Still.fptr (AllST.cons (Still.func AllST.nil AllST.nil) (AllST.cons (Still.func AllST.nil AllST.nil) AllST.nil)))) (FzL.cons (Ua (Still.fptr (AllST.cons tS (AllST.cons tS (AllST.cons tS (AllST.cons tI (AllST.cons tB (AllST.cons tS (AllST.cons tS (AllST.cons tI (AllST.cons tI (AllST.cons tI AllST.nil)))))))))))) (FzL.cons (Ua (Still.fptr (AllST.cons tS (AllST.cons tI (AllST.cons tS (AllST.cons tI (AllST.cons tS (AllST.cons tS (AllST.cons tS AllST.nil))))))))) FzL.nil)))) FzL.nil) (qwL b a f) tB)) az))
     rcases wyD d with⟨p,d⟩|⟨p,d⟩
     ·obtain⟨q,g,d⟩:=bnd d
      obtain rfl:=si d
      exact tr fol [3,5] ((0,.fslice 5 (qsv a c b))::(1,.func (.func 177) [] [])::(kJ e q)) (ac (hs (.done (.opt (yX ZT 221 (.fslice 5 (qsv a c b)) (.i e))) (.fptr [.func (.func 115) [] [.fptr (kA a.Kind a.Day a.Lot a.Amount a.Yarn a.Dye a.Order) 0,.fptr (kF c.Day c.Lots c.Holds) 0],.func (.func 116) [] [.fptr (kA a.Kind a.Day a.Lot a.Amount a.Yarn a.Dye a.Order) 0,.fptr (.str b.lot.Name::(kB b.lot.Yarn b.lot.Dye b.lot.Stock b.known b.hold.Lot b.hold.Order b.hold.Reserved b.hold.Taken b.free)) 0],.func (.func 117) [] [.fptr [.func (.func 137) [] [],.func (.func 138) [] []] 0,.fptr (.str b.lot.Name::(kB b.lot.Yarn b.lot.Dye b.lot.Stock b.known b.hold.Lot b.hold.Order b.hold.Reserved b.hold.Taken b.free)) 0,.fptr (kA a.Kind a.Day a.Lot a.Amount a.Yarn a.Dye a.Order) 0],.func (.func 118) [] [.fptr [.func (.func 137) [] [],.func (.func 138) [] []] 0,.fptr (.str b.lot.Name::(kB b.lot.Yarn b.lot.Dye b.lot.Stock b.known b.hold.Lot b.hold.Order b.hold.Reserved b.hold.Taken b.free)) 0,.fptr (kA a.Kind a.Day a.Lot a.Amount a.Yarn a.Dye a.Order) 0],.func (.func 119) [] [.fptr (kF c.Day c.Lots c.Holds) 0,.fptr (kA a.Kind a.Day a.Lot a.Amount a.Yarn a.Dye a.Order) 0]] 3)) (ixA (ot p) (by kernel_rfl))) (ac (hs (.call 177 [.func (.func 118) [] [.fptr [.func (.func 137) [] [],.func (.func 138) [] []] 0,.fptr (.str b.lot.Name::(kB b.lot.Yarn b.lot.Dye b.lot.Stock b.known b.hold.Lot b.hold.Order b.hold.Reserved b.hold.Taken b.free)) 0,.fptr (kA a.Kind a.Day a.Lot a.Amount a.Yarn a.Dye a.Order) 0]] [] [] [.func (.func 118) [] [.fptr [.func (.func 137) [] [],.func (.func 138) [] []] 0,.fptr (.str b.lot.Name::(kB b.lot.Yarn b.lot.Dye b.lot.Stock b.known b.hold.Lot b.hold.Order b.hold.Reserved b.hold.Taken b.free)) 0,.fptr (kA a.Kind a.Day a.Lot a.Amount a.Yarn a.Dye a.Order) 0]] (.bool q)) (qb4 (FzL.cons (Fz.func FzL.nil (FzL.cons (Ua (Still.fptr (AllST.cons (Still.func AllST.nil AllST.nil) (AllST.cons (Still.func AllST.nil AllST.nil) AllST.nil)))) (FzL.cons (Ua (Still.fptr (AllST.cons tS (AllST.cons tS (AllST.cons tS (AllST.cons tI (AllST.cons tB (AllST.cons tS (AllST.cons tS (AllST.cons tI (AllST.cons tI (AllST.cons tI AllST.nil)))))))))))) (FzL.cons (Ua (Still.fptr (AllST.cons tS (AllST.cons tI (AllST.cons tS (AllST.cons tI (AllST.cons tS (AllST.cons tS (AllST.cons tS AllST.nil))))))))) FzL.nil)))) FzL.nil) (qv9 b a g) tB)) az))
     rcases wyD d with⟨r,d⟩|⟨r,d⟩
     ·obtain⟨t,j,d⟩:=bnd d
      obtain rfl:=si d
      exact tr fol [3,5] ((0,.fslice 5 (qsv a c b))::(1,.func (.func 177) [] [])::(kJ e t)) (ac (hs (.done (.opt (yX ZT 221 (.fslice 5 (qsv a c b)) (.i e))) (.fptr [.func (.func 115) [] [.fptr (kA a.Kind a.Day a.Lot a.Amount a.Yarn a.Dye a.Order) 0,.fptr (kF c.Day c.Lots c.Holds) 0],.func (.func 116) [] [.fptr (kA a.Kind a.Day a.Lot a.Amount a.Yarn a.Dye a.Order) 0,.fptr (.str b.lot.Name::(kB b.lot.Yarn b.lot.Dye b.lot.Stock b.known b.hold.Lot b.hold.Order b.hold.Reserved b.hold.Taken b.free)) 0],.func (.func 117) [] [.fptr [.func (.func 137) [] [],.func (.func 138) [] []] 0,.fptr (.str b.lot.Name::(kB b.lot.Yarn b.lot.Dye b.lot.Stock b.known b.hold.Lot b.hold.Order b.hold.Reserved b.hold.Taken b.free)) 0,.fptr (kA a.Kind a.Day a.Lot a.Amount a.Yarn a.Dye a.Order) 0],.func (.func 118) [] [.fptr [.func (.func 137) [] [],.func (.func 138) [] []] 0,.fptr (.str b.lot.Name::(kB b.lot.Yarn b.lot.Dye b.lot.Stock b.known b.hold.Lot b.hold.Order b.hold.Reserved b.hold.Taken b.free)) 0,.fptr (kA a.Kind a.Day a.Lot a.Amount a.Yarn a.Dye a.Order) 0],.func (.func 119) [] [.fptr (kF c.Day c.Lots c.Holds) 0,.fptr (kA a.Kind a.Day a.Lot a.Amount a.Yarn a.Dye a.Order) 0]] 4)) (ixA (ot r) (by kernel_rfl))) (ac (hs (.call 177 [.func (.func 119) [] [.fptr (kF c.Day c.Lots c.Holds) 0,.fptr (kA a.Kind a.Day a.Lot a.Amount a.Yarn a.Dye a.Order) 0]] [] [] [.func (.func 119) [] [.fptr (kF c.Day c.Lots c.Holds) 0,.fptr (kA a.Kind a.Day a.Lot a.Amount a.Yarn a.Dye a.Order) 0]] (.bool t)) (qb4 (FzL.cons (Fz.func FzL.nil (FzL.cons (Ua (Still.fptr (AllST.cons tI (AllST.cons (jo qN _ (nl rfl)) (AllST.cons (jo qJ _ (nl rfl)) AllST.nil))))) (FzL.cons (Ua (Still.fptr (AllST.cons tS (AllST.cons tI (AllST.cons tS (AllST.cons tI (AllST.cons tS (AllST.cons tS (AllST.cons tS AllST.nil))))))))) FzL.nil))) FzL.nil) (qkJ N c a j) tB)) az))
     cases d
    refine ihB g2 (fun w g2=>?_) (fun w g2=>?_)
    ·refine sh fol (kAj e) ?_
     refine Goes.ret ?_
     obtain rfl:=si g2
     exact Or.inr (⟨rfl,_,rfl,(gw2 [.i e] (Ub tI))⟩)
    refine Goes.skip ?_
    refine gh fol ((0,.fslice 5 (qsv a c b))::(1,.func (.func 177) [] [])::(kZ (w64 (e+1)))) ?_
    exact⟨M,(ofG 19 ((0,.fslice 5 (qsv a c b))::(1,.func (.func 177) [] [])::(kZ (w64 (e+1)))),[]),Nat.lt_succ_self _,(Sub.refl _),_,rfl,g2⟩
   refine Goes.exit ?_
   obtain rfl:=si g2
   exact Or.inl (⟨rfl,rfl,(Sub.keep [] rfl rfl)⟩)
 rintro x s' (⟨rfl,rfl,hsub⟩|⟨rfl,F,rfl,hret⟩)
 ·try dsimp only at h
  refine Goes.sub hsub ?_
  refine sh fol kAp ?_
  refine Goes.ret ?_
  obtain rfl:=si h
  exact(gw2 [.i (-1)] (Ub tI))
 try dsimp only at h
 obtain rfl:=si h
 exact hret
def qqT (N:Nat) (a:zi) (b:StateT) (c:qg):Option Int:=
 (qkb N a b c).bind fun d=>
 some (w64 (1+d))
theorem qyV (N:Nat) (a:zi) (b:StateT) (c:qg) {res:Int} (h:qqT N a b c=some res):zu ZT (.fn 114) [.fslice 5 (qsv a b c)] [] (.i res) []:=by
 unfold qqT at h
 refine Uc Tryz.func114 rfl rfl (m:=6) rfl (rs:=[.tmp 2]) rfl (l:=[(0,.fslice 5 (qsv a b c))]) rfl ?_
 refine sh fol [(0,.fslice 5 (qsv a b c))] ?_
 obtain⟨e,d,h⟩:=bnd h
 refine sq (gr fol [1] (kAl (w64 (1+e))) (ac (hs (.call 176 [.fslice 5 (qsv a b c),.func (.func 177) [] []] [] [] [.fslice 5 (qsv a b c),.func (.func 177) [] []] (.i e)) (qb4 (FzL.cons (Ua (Still.fslice (AllST.cons (Still.func AllST.nil (AllST.cons (Still.fptr (AllST.cons tS (AllST.cons tI (AllST.cons tS (AllST.cons tI (AllST.cons tS (AllST.cons tS (AllST.cons tS AllST.nil)))))))) (AllST.cons (Still.fptr (AllST.cons tI (AllST.cons (jo qN _ (nl rfl)) (AllST.cons (jo qJ _ (nl rfl)) AllST.nil)))) AllST.nil))) (AllST.cons (Still.func AllST.nil (AllST.cons (Still.fptr (AllST.cons tS (AllST.cons tI (AllST.cons tS (AllST.cons tI (AllST.cons tS (AllST.cons tS (AllST.cons tS AllST.nil)))))))) (AllST.cons (Still.fptr (AllST.cons tS (AllST.cons tS (AllST.cons tS (AllST.cons tI (AllST.cons tB (AllST.cons tS (AllST.cons tS (AllST.cons tI (AllST.cons tI (AllST.cons tI AllST.nil))))))))))) AllST.nil))) (AllST.cons (Still.func AllST.nil (AllST.cons (Still.fptr (AllST.cons (Still.func AllST.nil AllST.nil) (AllST.cons (Still.func AllST.nil AllST.nil) AllST.nil))) (AllST.cons (Still.fptr (AllST.cons tS (AllST.cons tS (AllST.cons tS (AllST.cons tI (AllST.cons tB (AllST.cons tS (AllST.cons tS (AllST.cons tI (AllST.cons tI (AllST.cons tI AllST.nil))))))))))) (AllST.cons (Still.fptr (AllST.cons tS (AllST.cons tI (AllST.cons tS (AllST.cons tI (AllST.cons tS (AllST.cons tS (AllST.cons tS AllST.nil)))))))) AllST.nil)))) (AllST.cons (Still.func AllST.nil (AllST.cons (Still.fptr (AllST.cons (Still.func AllST.nil AllST.nil) (AllST.cons (Still.func AllST.nil AllST.nil) AllST.nil))) (AllST.cons (Still.fptr (AllST.cons tS (AllST.cons tS (AllST.cons tS (AllST.cons tI (AllST.cons tB (AllST.cons tS (AllST.cons tS (AllST.cons tI (AllST.cons tI (AllST.cons tI AllST.nil))))))))))) (AllST.cons (Still.fptr (AllST.cons tS (AllST.cons tI (AllST.cons tS (AllST.cons tI (AllST.cons tS (AllST.cons tS (AllST.cons tS AllST.nil)))))))) AllST.nil)))) (AllST.cons (Still.func AllST.nil (AllST.cons (Still.fptr (AllST.cons tI (AllST.cons (jo qN _ (nl rfl)) (AllST.cons (jo qJ _ (nl rfl)) AllST.nil)))) (AllST.cons (Still.fptr (AllST.cons tS (AllST.cons tI (AllST.cons tS (AllST.cons tI (AllST.cons tS (AllST.cons tS (AllST.cons tS AllST.nil)))))))) AllST.nil))) AllST.nil))))))) (FzL.cons (Fz.func FzL.nil FzL.nil) FzL.nil)) (qs4 N a b c d) tI)) az) ?_)
 refine Goes.ret ?_
 obtain rfl:=si h
 exact(gw2 [.i (w64 (1+e))] (Ub tI))
def qnR (a:qg) (b:zi):Option Bool:=
 (quE a b.Amount).bind fun c=>
 some c
theorem qt3 (a:qg) (b:zi) {res:Bool} (h:qnR a b=some res):zu ZT (.fn 117) [.fptr [.func (.func 139) [] [],.func (.func 140) [] []] 0,.fptr (.str a.lot.Name::(kB a.lot.Yarn a.lot.Dye a.lot.Stock a.known a.hold.Lot a.hold.Order a.hold.Reserved a.hold.Taken a.free)) 0,.fptr (kA b.Kind b.Day b.Lot b.Amount b.Yarn b.Dye b.Order) 0] [] (.bool res) []:=by
 unfold qnR at h
 refine Uc Tryz.func117 rfl rfl (m:=10) rfl (rs:=[.tmp 3]) rfl (l:=[(0,.fptr [.func (.func 139) [] [],.func (.func 140) [] []] 0),(1,.fptr (.str a.lot.Name::(kB a.lot.Yarn a.lot.Dye a.lot.Stock a.known a.hold.Lot a.hold.Order a.hold.Reserved a.hold.Taken a.free)) 0),(2,.fptr (kA b.Kind b.Day b.Lot b.Amount b.Yarn b.Dye b.Order) 0)]) rfl ?_
 refine sh fol [(0,.fptr [.func (.func 139) [] [],.func (.func 140) [] []] 0),(1,.fptr (.str a.lot.Name::(kB a.lot.Yarn a.lot.Dye a.lot.Stock a.known a.hold.Lot a.hold.Order a.hold.Reserved a.hold.Taken a.free)) 0),(2,.fptr (kA b.Kind b.Day b.Lot b.Amount b.Yarn b.Dye b.Order) 0)] ?_
 obtain⟨d,c,h⟩:=bnd h
 refine sq (gr fol [5] (kAm d) (ac (cv (qzn a b.Amount c)) az) ?_)
 refine Goes.ret ?_
 obtain rfl:=si h
 exact(gw2 [.bool d] (Ub tB))
def qqq (a:qg) (b:zi):Option Bool:=
 (qnR a b).bind fun c=>
 some (!c)
theorem qv3 (a:qg) (b:zi) {res:Bool} (h:qqq a b=some res):zu ZT (.fn 177) [.func (.func 117) [] [.fptr [.func (.func 139) [] [],.func (.func 140) [] []] 0,.fptr (.str a.lot.Name::(kB a.lot.Yarn a.lot.Dye a.lot.Stock a.known a.hold.Lot a.hold.Order a.hold.Reserved a.hold.Taken a.free)) 0,.fptr (kA b.Kind b.Day b.Lot b.Amount b.Yarn b.Dye b.Order) 0]] [] (.bool res) []:=by
 unfold qqq at h
 refine Uc Tryz.func177 rfl rfl (m:=6) rfl (rs:=[.tmp 2]) rfl (l:=[(0,.func (.func 117) [] [.fptr [.func (.func 139) [] [],.func (.func 140) [] []] 0,.fptr (.str a.lot.Name::(kB a.lot.Yarn a.lot.Dye a.lot.Stock a.known a.hold.Lot a.hold.Order a.hold.Reserved a.hold.Taken a.free)) 0,.fptr (kA b.Kind b.Day b.Lot b.Amount b.Yarn b.Dye b.Order) 0])]) rfl ?_
 refine sh fol [(0,.func (.func 117) [] [.fptr [.func (.func 139) [] [],.func (.func 140) [] []] 0,.fptr (.str a.lot.Name::(kB a.lot.Yarn a.lot.Dye a.lot.Stock a.known a.hold.Lot a.hold.Order a.hold.Reserved a.hold.Taken a.free)) 0,.fptr (kA b.Kind b.Day b.Lot b.Amount b.Yarn b.Dye b.Order) 0])] ?_
 obtain⟨d,c,h⟩:=bnd h
 refine sq (gr fol [1] (kAJ (!d)) (ac (hs (.call 117 [.fptr [.func (.func 139) [] [],.func (.func 140) [] []] 0,.fptr (.str a.lot.Name::(kB a.lot.Yarn a.lot.Dye a.lot.Stock a.known a.hold.Lot a.hold.Order a.hold.Reserved a.hold.Taken a.free)) 0,.fptr (kA b.Kind b.Day b.Lot b.Amount b.Yarn b.Dye b.Order) 0] [] [] [.fptr [.func (.func 139) [] [],.func (.func 140) [] []] 0,.fptr (.str a.lot.Name::(kB a.lot.Yarn a.lot.Dye a.lot.Stock a.known a.hold.Lot a.hold.Order a.hold.Reserved a.hold.Taken a.free)) 0,.fptr (kA b.Kind b.Day b.Lot b.Amount b.Yarn b.Dye b.Order) 0] (.bool d)) (qb4 (FzL.cons (Ua (Still.fptr (AllST.cons (Still.func AllST.nil AllST.nil) (AllST.cons (Still.func AllST.nil AllST.nil) AllST.nil)))) (FzL.cons (Ua (Still.fptr (AllST.cons tS (AllST.cons tS (AllST.cons tS (AllST.cons tI (AllST.cons tB (AllST.cons tS (AllST.cons tS (AllST.cons tI (AllST.cons tI (AllST.cons tI AllST.nil)))))))))))) (FzL.cons (Ua (Still.fptr (AllST.cons tS (AllST.cons tI (AllST.cons tS (AllST.cons tI (AllST.cons tS (AllST.cons tS (AllST.cons tS AllST.nil))))))))) FzL.nil))) (qt3 a b c) tB)) az) ?_)
 refine Goes.ret ?_
 obtain rfl:=si h
 exact(gw2 [.bool (!d)] (Ub tB))
def qnQ (b:qg) (c:zi):Option Bool:=
 (qtx b c.Amount).bind fun a=>
 some (decide ((if a.hold.Taken>a.lot.Stock then a.hold.Taken else a.lot.Stock)<=999999999))
theorem qt5 (a:qg) (b:zi) {res:Bool} (h:qnQ a b=some res):zu ZT (.fn 118) [.fptr [.func (.func 139) [] [],.func (.func 140) [] []] 0,.fptr (.str a.lot.Name::(kB a.lot.Yarn a.lot.Dye a.lot.Stock a.known a.hold.Lot a.hold.Order a.hold.Reserved a.hold.Taken a.free)) 0,.fptr (kA b.Kind b.Day b.Lot b.Amount b.Yarn b.Dye b.Order) 0] [] (.bool res) []:=by
 unfold qnQ at h
 refine Uc Tryz.func118 rfl rfl (m:=19) rfl (rs:=[.tmp 3]) rfl (l:=[(0,.fptr [.func (.func 139) [] [],.func (.func 140) [] []] 0),(1,.fptr (.str a.lot.Name::(kB a.lot.Yarn a.lot.Dye a.lot.Stock a.known a.hold.Lot a.hold.Order a.hold.Reserved a.hold.Taken a.free)) 0),(2,.fptr (kA b.Kind b.Day b.Lot b.Amount b.Yarn b.Dye b.Order) 0)]) rfl ?_
 refine sh fol [(0,.fptr [.func (.func 139) [] [],.func (.func 140) [] []] 0),(1,.fptr (.str a.lot.Name::(kB a.lot.Yarn a.lot.Dye a.lot.Stock a.known a.hold.Lot a.hold.Order a.hold.Reserved a.hold.Taken a.free)) 0),(2,.fptr (kA b.Kind b.Day b.Lot b.Amount b.Yarn b.Dye b.Order) 0)] ?_
 obtain⟨c,d,h⟩:=bnd h
 refine sq (gq fol [5] kAq (kC c.lot.Name c.lot.Yarn c.lot.Dye c.lot.Stock c.known c.hold.Lot c.hold.Order c.hold.Reserved c.hold.Taken c.free []) (ac (cv (qya a b.Amount d)) az) ?_)
 refine sh fol (kAm (decide ((if c.hold.Taken>c.lot.Stock then c.hold.Taken else c.lot.Stock)<=999999999))) ?_
 refine Goes.ret ?_
 obtain rfl:=si h
 exact(gw2 [.bool (decide ((if c.hold.Taken>c.lot.Stock then c.hold.Taken else c.lot.Stock)<=999999999))] (Ub tB))
def qqh (a:qg) (b:zi):Option Bool:=
 (qnQ a b).bind fun c=>
 some (!c)
theorem qv2 (a:qg) (b:zi) {res:Bool} (h:qqh a b=some res):zu ZT (.fn 177) [.func (.func 118) [] [.fptr [.func (.func 139) [] [],.func (.func 140) [] []] 0,.fptr (.str a.lot.Name::(kB a.lot.Yarn a.lot.Dye a.lot.Stock a.known a.hold.Lot a.hold.Order a.hold.Reserved a.hold.Taken a.free)) 0,.fptr (kA b.Kind b.Day b.Lot b.Amount b.Yarn b.Dye b.Order) 0]] [] (.bool res) []:=by
 unfold qqh at h
 refine Uc Tryz.func177 rfl rfl (m:=6) rfl (rs:=[.tmp 2]) rfl (l:=[(0,.func (.func 118) [] [.fptr [.func (.func 139) [] [],.func (.func 140) [] []] 0,.fptr (.str a.lot.Name::(kB a.lot.Yarn a.lot.Dye a.lot.Stock a.known a.hold.Lot a.hold.Order a.hold.Reserved a.hold.Taken a.free)) 0,.fptr (kA b.Kind b.Day b.Lot b.Amount b.Yarn b.Dye b.Order) 0])]) rfl ?_
 refine sh fol [(0,.func (.func 118) [] [.fptr [.func (.func 139) [] [],.func (.func 140) [] []] 0,.fptr (.str a.lot.Name::(kB a.lot.Yarn a.lot.Dye a.lot.Stock a.known a.hold.Lot a.hold.Order a.hold.Reserved a.hold.Taken a.free)) 0,.fptr (kA b.Kind b.Day b.Lot b.Amount b.Yarn b.Dye b.Order) 0])] ?_
 obtain⟨d,c,h⟩:=bnd h
 refine sq (gr fol [1] (kAJ (!d)) (ac (hs (.call 118 [.fptr [.func (.func 139) [] [],.func (.func 140) [] []] 0,.fptr (.str a.lot.Name::(kB a.lot.Yarn a.lot.Dye a.lot.Stock a.known a.hold.Lot a.hold.Order a.hold.Reserved a.hold.Taken a.free)) 0,.fptr (kA b.Kind b.Day b.Lot b.Amount b.Yarn b.Dye b.Order) 0] [] [] [.fptr [.func (.func 139) [] [],.func (.func 140) [] []] 0,.fptr (.str a.lot.Name::(kB a.lot.Yarn a.lot.Dye a.lot.Stock a.known a.hold.Lot a.hold.Order a.hold.Reserved a.hold.Taken a.free)) 0,.fptr (kA b.Kind b.Day b.Lot b.Amount b.Yarn b.Dye b.Order) 0] (.bool d)) (qb4 (FzL.cons (Ua (Still.fptr (AllST.cons (Still.func AllST.nil AllST.nil) (AllST.cons (Still.func AllST.nil AllST.nil) AllST.nil)))) (FzL.cons (Ua (Still.fptr (AllST.cons tS (AllST.cons tS (AllST.cons tS (AllST.cons tI (AllST.cons tB (AllST.cons tS (AllST.cons tS (AllST.cons tI (AllST.cons tI (AllST.cons tI AllST.nil)))))))))))) (FzL.cons (Ua (Still.fptr (AllST.cons tS (AllST.cons tI (AllST.cons tS (AllST.cons tI (AllST.cons tS (AllST.cons tS (AllST.cons tS AllST.nil))))))))) FzL.nil))) (qt5 a b c) tB)) az) ?_)
 refine Goes.ret ?_
 obtain rfl:=si h
 exact(gw2 [.bool (!d)] (Ub tB))
def qeS (N:Nat) (a:zi) (d:StateT) (b:qg):Nat->Int->Option (Unit⊕Int)
 |0,_=>none
 |K+1,c=>
  if c<5 then
  (if c=0 then
  (qgD a d).bind fun i=>
  some i
  else
  if c=1 then
  (qfg a b).bind fun j=>
  some j
  else
  if c=2 then
  (qqq b a).bind fun e=>
  some e
  else
  if c=3 then
  (qqh b a).bind fun f=>
  some f
  else
  if c=4 then
  (qgA N d a).bind fun g=>
  some g
  else
  none:Option Bool).bind fun h=>
  if h=true then
  some (.inr c)
  else
  qeS N a d b K (w64 (c+1))
  else
  some (.inl ())
def qjV (N:Nat) (a:zi) (b:StateT) (c:qg):Option Int:=
 (qeS N a b c N 0).bind (fun
 |(.inl ())=>
 some (-1)
 |(.inr d)=>
 some d)
theorem qsL (N:Nat) (a:zi) (c:StateT) (b:qg) {res:Int} (h:qjV N a c b=some res):zu ZT (.fn 176) [.fslice 5 (qsx a c b),.func (.func 177) [] []] [] (.i res) []:=by
 unfold qjV at h
 refine Uc Tryz.func176 rfl rfl (m:=19) rfl (rs:=[.tmp 4]) rfl (l:=[(0,.fslice 5 (qsx a c b)),(1,.func (.func 177) [] [])]) rfl ?_
 refine sh fol [(0,.fslice 5 (qsx a c b)),(1,.func (.func 177) [] [])] ?_
 refine sq ?_
 refine sh fol ((0,.fslice 5 (qsx a c b))::(1,.func (.func 177) [] [])::kAr) ?_
 refine Goes.block ?_
 obtain⟨u,g2,h⟩:=bnd h
 refine Goes.imp (Q:=fun x s'=>(x= .exit 0/\(.inl ())=u/\Sub s' (ofG 19 [],[]))\/(x= .ret/\ ∃y,(.inr y)=u/\qhA ZT [.tmp 4] (.i y) .ret s')) ?_ ?_
 ·refine Ud (fun M s=> ∃(e:Int),s=(ofG 19 ((0,.fslice 5 (qsx a c b))::(1,.func (.func 177) [] [])::(kZ e)),[])/\qeS N a c b M e=some u) ?_ (m:=N) ⟨_,rfl,g2⟩
  rintro M s ⟨e,rfl,g2⟩
  cases M with
  |zero=>simp only[qeS]at g2;cases g2
  |succ M=>
   rw[qeS]at g2
   refine sh fol ((0,.fslice 5 (qsx a c b))::(1,.func (.func 177) [] [])::(7,.i 5)::(kAa e (decide (e<5)))) ?_
   refine sq ?_
   refine ihD g2 (fun E g2=>?_) (fun E g2=>?_)
   ·refine Goes.skip ?_
    refine sq (Goes.block ?_)
    refine sh fol ((0,.fslice 5 (qsx a c b))::(1,.func (.func 177) [] [])::(5,.i e)::(kZ e)) ?_
    refine sq ?_
    obtain⟨v,d,g2⟩:=bnd g2
    refine Goes.cut (s':=(ofG 19 ((0,.fslice 5 (qsx a c b))::(1,.func (.func 177) [] [])::(kJ e v)),[])) ?_ ?_
    ·rcases wyD d with⟨z,d⟩|⟨z,d⟩
     ·obtain⟨A,k,d⟩:=bnd d
      obtain rfl:=si d
      exact tr fol [3,5] ((0,.fslice 5 (qsx a c b))::(1,.func (.func 177) [] [])::(kJ e A)) (ac (hs (.done (.opt (yX ZT 221 (.fslice 5 (qsx a c b)) (.i e))) (.fptr [.func (.func 115) [] [.fptr (kA a.Kind a.Day a.Lot a.Amount a.Yarn a.Dye a.Order) 0,.fptr (kF c.Day c.Lots c.Holds) 0],.func (.func 116) [] [.fptr (kA a.Kind a.Day a.Lot a.Amount a.Yarn a.Dye a.Order) 0,.fptr (.str b.lot.Name::(kB b.lot.Yarn b.lot.Dye b.lot.Stock b.known b.hold.Lot b.hold.Order b.hold.Reserved b.hold.Taken b.free)) 0],.func (.func 117) [] [.fptr [.func (.func 139) [] [],.func (.func 140) [] []] 0,.fptr (.str b.lot.Name::(kB b.lot.Yarn b.lot.Dye b.lot.Stock b.known b.hold.Lot b.hold.Order b.hold.Reserved b.hold.Taken b.free)) 0,.fptr (kA a.Kind a.Day a.Lot a.Amount a.Yarn a.Dye a.Order) 0],.func (.func 118) [] [.fptr [.func (.func 139) [] [],.func (.func 140) [] []] 0,.fptr (.str b.lot.Name::(kB b.lot.Yarn b.lot.Dye b.lot.Stock b.known b.hold.Lot b.hold.Order b.hold.Reserved b.hold.Taken b.free)) 0,.fptr (kA a.Kind a.Day a.Lot a.Amount a.Yarn a.Dye a.Order) 0],.func (.func 119) [] [.fptr (kF c.Day c.Lots c.Holds) 0,.fptr (kA a.Kind a.Day a.Lot a.Amount a.Yarn a.Dye a.Order) 0]] 0)) (ixA (ot z) (by kernel_rfl))) (ac (hs (.call 177 [.func (.func 115) [] [.fptr (kA a.Kind a.Day a.Lot a.Amount a.Yarn a.Dye a.Order) 0,.fptr (kF c.Day c.Lots c.Holds) 0]] [] [] [.func (.func 115) [] [.fptr (kA a.Kind a.Day a.Lot a.Amount a.Yarn a.Dye a.Order) 0,.fptr (kF c.Day c.Lots c.Holds) 0]] (.bool A)) (qb4 (FzL.cons (Fz.func FzL.nil (FzL.cons (Ua (Still.fptr (AllST.cons tS (AllST.cons tI (AllST.cons tS (AllST.cons tI (AllST.cons tS (AllST.cons tS (AllST.cons tS AllST.nil))))))))) (FzL.cons (Ua (Still.fptr (AllST.cons tI (AllST.cons (jo qN _ (nl rfl)) (AllST.cons (jo qJ _ (nl rfl)) AllST.nil))))) FzL.nil))) FzL.nil) (qkP a c k) tB)) az))
     rcases wyD d with⟨B,d⟩|⟨B,d⟩
     ·obtain⟨C,n,d⟩:=bnd d
      obtain rfl:=si d
      exact tr fol [3,5] ((0,.fslice 5 (qsx a c b))::(1,.func (.func 177) [] [])::(kJ e C)) (ac (hs (.done (.opt (yX ZT 221 (.fslice 5 (qsx a c b)) (.i e))) (.fptr [.func (.func 115) [] [.fptr (kA a.Kind a.Day a.Lot a.Amount a.Yarn a.Dye a.Order) 0,.fptr (kF c.Day c.Lots c.Holds) 0],.func (.func 116) [] [.fptr (kA a.Kind a.Day a.Lot a.Amount a.Yarn a.Dye a.Order) 0,.fptr (.str b.lot.Name::(kB b.lot.Yarn b.lot.Dye b.lot.Stock b.known b.hold.Lot b.hold.Order b.hold.Reserved b.hold.Taken b.free)) 0],.func (.func 117) [] [.fptr [.func (.func 139) [] [],.func (.func 140) [] []] 0,.fptr (.str b.lot.Name::(kB b.lot.Yarn b.lot.Dye b.lot.Stock b.known b.hold.Lot b.hold.Order b.hold.Reserved b.hold.Taken b.free)) 0,.fptr (kA a.Kind a.Day a.Lot a.Amount a.Yarn a.Dye a.Order) 0],.func (.func 118) [] [.fptr [.func (.func 139) [] [],.func (.func 140) [] []] 0,.fptr (.str b.lot.Name::(kB b.lot.Yarn b.lot.Dye b.lot.Stock b.known b.hold.Lot b.hold.Order b.hold.Reserved b.hold.Taken b.free)) 0,.fptr (kA a.Kind a.Day a.Lot a.Amount a.Yarn a.Dye a.Order) 0],.func (.func 119) [] [.fptr (kF c.Day c.Lots c.Holds) 0,.fptr (kA a.Kind a.Day a.Lot a.Amount a.Yarn a.Dye a.Order) 0]] 1)) (ixA (ot B) (by kernel_rfl))) (ac (hs (.call 177 [.func (.func 116) [] [.fptr (kA a.Kind a.Day a.Lot a.Amount a.Yarn a.Dye a.Order) 0,.fptr (.str b.lot.Name::(kB b.lot.Yarn b.lot.Dye b.lot.Stock b.known b.hold.Lot b.hold.Order b.hold.Reserved b.hold.Taken b.free)) 0]] [] [] [.func (.func 116) [] [.fptr (kA a.Kind a.Day a.Lot a.Amount a.Yarn a.Dye a.Order) 0,.fptr (.str b.lot.Name::(kB b.lot.Yarn b.lot.Dye b.lot.Stock b.known b.hold.Lot b.hold.Order b.hold.Reserved b.hold.Taken b.free)) 0]] (.bool C)) (qb4 (FzL.cons (Fz.func FzL.nil (FzL.cons (Ua (Still.fptr (AllST.cons tS (AllST.cons tI (AllST.cons tS (AllST.cons tI (AllST.cons tS (AllST.cons tS (AllST.cons tS AllST.nil))))))))) (FzL.cons (Ua (Still.fptr (AllST.cons tS (AllST.cons tS (AllST.cons tS (AllST.cons tI (AllST.cons tB (AllST.cons tS (AllST.cons tS (AllST.cons tI (AllST.cons tI (AllST.cons tI AllST.nil)))))))))))) FzL.nil))) FzL.nil) (qkL a b n) tB)) az))
     rcases wyD d with⟨D,d⟩|⟨D,d⟩
     ·obtain⟨o,f,d⟩:=bnd d
      obtain rfl:=si d
      exact tr fol [3,5] ((0,.fslice 5 (qsx a c b))::(1,.func (.func 177) [] [])::(kJ e o)) (ac (hs (.done (.opt (yX ZT 221 (.fslice 5 (qsx a c b)) (.i e))) (.fptr [.func (.func 115) [] [.fptr (kA a.Kind a.Day a.Lot a.Amount a.Yarn a.Dye a.Order) 0,.fptr (kF c.Day c.Lots c.Holds) 0],.func (.func 116) [] [.fptr (kA a.Kind a.Day a.Lot a.Amount a.Yarn a.Dye a.Order) 0,.fptr (.str b.lot.Name::(kB b.lot.Yarn b.lot.Dye b.lot.Stock b.known b.hold.Lot b.hold.Order b.hold.Reserved b.hold.Taken b.free)) 0],.func (.func 117) [] [.fptr [.func (.func 139) [] [],.func (.func 140) [] []] 0,.fptr (.str b.lot.Name::(kB b.lot.Yarn b.lot.Dye b.lot.Stock b.known b.hold.Lot b.hold.Order b.hold.Reserved b.hold.Taken b.free)) 0,.fptr (kA a.Kind a.Day a.Lot a.Amount a.Yarn a.Dye a.Order) 0],.func (.func 118) [] [.fptr [.func (.func 139) [] [],.func (.func 140) [] []] 0,.fptr (.str b.lot.Name::(kB b.lot.Yarn b.lot.Dye b.lot.Stock b.known b.hold.Lot b.hold.Order b.hold.Reserved b.hold.Taken b.free)) 0,.fptr (kA a.Kind a.Day a.Lot a.Amount a.Yarn a.Dye a.Order) 0],.func (.func 119) [] [.fptr (kF c.Day c.Lots c.Holds) 0,.fptr (kA a.Kind a.Day a.Lot a.Amount a.Yarn a.Dye a.Order) 0]] 2)) (ixA (ot D) (by kernel_rfl))) (ac (hs (.call 177 [.func (.func 117) [] [.fptr [.func (.func 139) [] [],.func (.func 140) [] []] 0,.fptr (.str b.lot.Name::(kB b.lot.Yarn b.lot.Dye b.lot.Stock b.known b.hold.Lot b.hold.Order b.hold.Reserved b.hold.Taken b.free)) 0,.fptr (kA a.Kind a.Day a.Lot a.Amount a.Yarn a.Dye a.Order) 0]] [] [] [.func (.func 117) [] [.fptr [.func (.func 139) [] [],.func (.func 140) [] []] 0,.fptr (.str b.lot.Name::(kB b.lot.Yarn b.lot.Dye b.lot.Stock b.known b.hold.Lot b.hold.Order b.hold.Reserved b.hold.Taken b.free)) 0,.fptr (kA a.Kind a.Day a.Lot a.Amount a.Yarn a.Dye a.Order) 0]] (.bool o)) (qb4 (FzL.cons (Fz.func FzL.nil (FzL.cons (Ua (Still.fptr (AllST.cons (Still.func AllST.nil AllST.nil) (AllST.cons (Still.func AllST.nil AllST.nil) AllST.nil)))) (FzL.cons (Ua (Still.fptr (AllST.cons tS (AllST.cons tS (AllST.cons tS (AllST.cons tI (AllST.cons tB (AllST.cons tS (AllST.cons tS (AllST.cons tI (AllST.cons tI (AllST.cons tI AllST.nil)))))))))))) (FzL.cons (Ua (Still.fptr (AllST.cons tS (AllST.cons tI (AllST.cons tS (AllST.cons tI (AllST.cons tS (AllST.cons tS (AllST.cons tS AllST.nil))))))))) FzL.nil)))) FzL.nil) (qv3 b a f) tB)) az))
     rcases wyD d with⟨p,d⟩|⟨p,d⟩
     ·obtain⟨q,g,d⟩:=bnd d
      obtain rfl:=si d
      exact tr fol [3,5] ((0,.fslice 5 (qsx a c b))::(1,.func (.func 177) [] [])::(kJ e q)) (ac (hs (.done (.opt (yX ZT 221 (.fslice 5 (qsx a c b)) (.i e))) (.fptr [.func (.func 115) [] [.fptr (kA a.Kind a.Day a.Lot a.Amount a.Yarn a.Dye a.Order) 0,.fptr (kF c.Day c.Lots c.Holds) 0],.func (.func 116) [] [.fptr (kA a.Kind a.Day a.Lot a.Amount a.Yarn a.Dye a.Order) 0,.fptr (.str b.lot.Name::(kB b.lot.Yarn b.lot.Dye b.lot.Stock b.known b.hold.Lot b.hold.Order b.hold.Reserved b.hold.Taken b.free)) 0],.func (.func 117) [] [.fptr [.func (.func 139) [] [],.func (.func 140) [] []] 0,.fptr (.str b.lot.Name::(kB b.lot.Yarn b.lot.Dye b.lot.Stock b.known b.hold.Lot b.hold.Order b.hold.Reserved b.hold.Taken b.free)) 0,.fptr (kA a.Kind a.Day a.Lot a.Amount a.Yarn a.Dye a.Order) 0],.func (.func 118) [] [.fptr [.func (.func 139) [] [],.func (.func 140) [] []] 0,.fptr (.str b.lot.Name::(kB b.lot.Yarn b.lot.Dye b.lot.Stock b.known b.hold.Lot b.hold.Order b.hold.Reserved b.hold.Taken b.free)) 0,.fptr (kA a.Kind a.Day a.Lot a.Amount a.Yarn a.Dye a.Order) 0],.func (.func 119) [] [.fptr (kF c.Day c.Lots c.Holds) 0,.fptr (kA a.Kind a.Day a.Lot a.Amount a.Yarn a.Dye a.Order) 0]] 3)) (ixA (ot p) (by kernel_rfl))) (ac (hs (.call 177 [.func (.func 118) [] [.fptr [.func (.func 139) [] [],.func (.func 140) [] []] 0,.fptr (.str b.lot.Name::(kB b.lot.Yarn b.lot.Dye b.lot.Stock b.known b.hold.Lot b.hold.Order b.hold.Reserved b.hold.Taken b.free)) 0,.fptr (kA a.Kind a.Day a.Lot a.Amount a.Yarn a.Dye a.Order) 0]] [] [] [.func (.func 118) [] [.fptr [.func (.func 139) [] [],.func (.func 140) [] []] 0,.fptr (.str b.lot.Name::(kB b.lot.Yarn b.lot.Dye b.lot.Stock b.known b.hold.Lot b.hold.Order b.hold.Reserved b.hold.Taken b.free)) 0,.fptr (kA a.Kind a.Day a.Lot a.Amount a.Yarn a.Dye a.Order) 0]] (.bool q)) (qb4 (FzL.cons (Fz.func FzL.nil (FzL.cons (Ua (Still.fptr (AllST.cons (Still.func AllST.nil AllST.nil) (AllST.cons (Still.func AllST.nil AllST.nil) AllST.nil)))) (FzL.cons (Ua (Still.fptr (AllST.cons tS (AllST.cons tS (AllST.cons tS (AllST.cons tI (AllST.cons tB (AllST.cons tS (AllST.cons tS (AllST.cons tI (AllST.cons tI (AllST.cons tI AllST.nil)))))))))))) (FzL.cons (Ua (Still.fptr (AllST.cons tS (AllST.cons tI (AllST.cons tS (AllST.cons tI (AllST.cons tS (AllST.cons tS (AllST.cons tS AllST.nil))))))))) FzL.nil)))) FzL.nil) (qv2 b a g) tB)) az))
     rcases wyD d with⟨r,d⟩|⟨r,d⟩
     ·obtain⟨t,j,d⟩:=bnd d
      obtain rfl:=si d
      exact tr fol [3,5] ((0,.fslice 5 (qsx a c b))::(1,.func (.func 177) [] [])::(kJ e t)) (ac (hs (.done (.opt (yX ZT 221 (.fslice 5 (qsx a c b)) (.i e))) (.fptr [.func (.func 115) [] [.fptr (kA a.Kind a.Day a.Lot a.Amount a.Yarn a.Dye a.Order) 0,.fptr (kF c.Day c.Lots c.Holds) 0],.func (.func 116) [] [.fptr (kA a.Kind a.Day a.Lot a.Amount a.Yarn a.Dye a.Order) 0,.fptr (.str b.lot.Name::(kB b.lot.Yarn b.lot.Dye b.lot.Stock b.known b.hold.Lot b.hold.Order b.hold.Reserved b.hold.Taken b.free)) 0],.func (.func 117) [] [.fptr [.func (.func 139) [] [],.func (.func 140) [] []] 0,.fptr (.str b.lot.Name::(kB b.lot.Yarn b.lot.Dye b.lot.Stock b.known b.hold.Lot b.hold.Order b.hold.Reserved b.hold.Taken b.free)) 0,.fptr (kA a.Kind a.Day a.Lot a.Amount a.Yarn a.Dye a.Order) 0],.func (.func 118) [] [.fptr [.func (.func 139) [] [],.func (.func 140) [] []] 0,.fptr (.str b.lot.Name::(kB b.lot.Yarn b.lot.Dye b.lot.Stock b.known b.hold.Lot b.hold.Order b.hold.Reserved b.hold.Taken b.free)) 0,.fptr (kA a.Kind a.Day a.Lot a.Amount a.Yarn a.Dye a.Order) 0],.func (.func 119) [] [.fptr (kF c.Day c.Lots c.Holds) 0,.fptr (kA a.Kind a.Day a.Lot a.Amount a.Yarn a.Dye a.Order) 0]] 4)) (ixA (ot r) (by kernel_rfl))) (ac (hs (.call 177 [.func (.func 119) [] [.fptr (kF c.Day c.Lots c.Holds) 0,.fptr (kA a.Kind a.Day a.Lot a.Amount a.Yarn a.Dye a.Order) 0]] [] [] [.func (.func 119) [] [.fptr (kF c.Day c.Lots c.Holds) 0,.fptr (kA a.Kind a.Day a.Lot a.Amount a.Yarn a.Dye a.Order) 0]] (.bool t)) (qb4 (FzL.cons (Fz.func FzL.nil (FzL.cons (Ua (Still.fptr (AllST.cons tI (AllST.cons (jo qN _ (nl rfl)) (AllST.cons (jo qJ _ (nl rfl)) AllST.nil))))) (FzL.cons (Ua (Still.fptr (AllST.cons tS (AllST.cons tI (AllST.cons tS (AllST.cons tI (AllST.cons tS (AllST.cons tS (AllST.cons tS AllST.nil))))))))) FzL.nil))) FzL.nil) (qkJ N c a j) tB)) az))
     cases d
    refine ihB g2 (fun w g2=>?_) (fun w g2=>?_)
    ·refine sh fol (kAj e) ?_
     refine Goes.ret ?_
     obtain rfl:=si g2
     exact Or.inr (⟨rfl,_,rfl,(gw2 [.i e] (Ub tI))⟩)
    refine Goes.skip ?_
    refine gh fol ((0,.fslice 5 (qsx a c b))::(1,.func (.func 177) [] [])::(kZ (w64 (e+1)))) ?_
    exact⟨M,(ofG 19 ((0,.fslice 5 (qsx a c b))::(1,.func (.func 177) [] [])::(kZ (w64 (e+1)))),[]),Nat.lt_succ_self _,(Sub.refl _),_,rfl,g2⟩
   refine Goes.exit ?_
   obtain rfl:=si g2
   exact Or.inl (⟨rfl,rfl,(Sub.keep [] rfl rfl)⟩)
 rintro x s' (⟨rfl,rfl,hsub⟩|⟨rfl,F,rfl,hret⟩)
 ·try dsimp only at h
  refine Goes.sub hsub ?_
  refine sh fol kAp ?_
  refine Goes.ret ?_
  obtain rfl:=si h
  exact(gw2 [.i (-1)] (Ub tI))
 try dsimp only at h
 obtain rfl:=si h
 exact hret
def qq1 (N:Nat) (a:zi) (b:StateT) (c:qg):Option Int:=
 (qjV N a b c).bind fun d=>
 some (w64 (1+d))
theorem qyZ (N:Nat) (a:zi) (b:StateT) (c:qg) {res:Int} (h:qq1 N a b c=some res):zu ZT (.fn 114) [.fslice 5 (qsx a b c)] [] (.i res) []:=by
 unfold qq1 at h
 refine Uc Tryz.func114 rfl rfl (m:=6) rfl (rs:=[.tmp 2]) rfl (l:=[(0,.fslice 5 (qsx a b c))]) rfl ?_
 refine sh fol [(0,.fslice 5 (qsx a b c))] ?_
 obtain⟨e,d,h⟩:=bnd h
 refine sq (gr fol [1] (kAl (w64 (1+e))) (ac (hs (.call 176 [.fslice 5 (qsx a b c),.func (.func 177) [] []] [] [] [.fslice 5 (qsx a b c),.func (.func 177) [] []] (.i e)) (qb4 (FzL.cons (Ua (Still.fslice (AllST.cons (Still.func AllST.nil (AllST.cons (Still.fptr (AllST.cons tS (AllST.cons tI (AllST.cons tS (AllST.cons tI (AllST.cons tS (AllST.cons tS (AllST.cons tS AllST.nil)))))))) (AllST.cons (Still.fptr (AllST.cons tI (AllST.cons (jo qN _ (nl rfl)) (AllST.cons (jo qJ _ (nl rfl)) AllST.nil)))) AllST.nil))) (AllST.cons (Still.func AllST.nil (AllST.cons (Still.fptr (AllST.cons tS (AllST.cons tI (AllST.cons tS (AllST.cons tI (AllST.cons tS (AllST.cons tS (AllST.cons tS AllST.nil)))))))) (AllST.cons (Still.fptr (AllST.cons tS (AllST.cons tS (AllST.cons tS (AllST.cons tI (AllST.cons tB (AllST.cons tS (AllST.cons tS (AllST.cons tI (AllST.cons tI (AllST.cons tI AllST.nil))))))))))) AllST.nil))) (AllST.cons (Still.func AllST.nil (AllST.cons (Still.fptr (AllST.cons (Still.func AllST.nil AllST.nil) (AllST.cons (Still.func AllST.nil AllST.nil) AllST.nil))) (AllST.cons (Still.fptr (AllST.cons tS (AllST.cons tS (AllST.cons tS (AllST.cons tI (AllST.cons tB (AllST.cons tS (AllST.cons tS (AllST.cons tI (AllST.cons tI (AllST.cons tI AllST.nil))))))))))) (AllST.cons (Still.fptr (AllST.cons tS (AllST.cons tI (AllST.cons tS (AllST.cons tI (AllST.cons tS (AllST.cons tS (AllST.cons tS AllST.nil)))))))) AllST.nil)))) (AllST.cons (Still.func AllST.nil (AllST.cons (Still.fptr (AllST.cons (Still.func AllST.nil AllST.nil) (AllST.cons (Still.func AllST.nil AllST.nil) AllST.nil))) (AllST.cons (Still.fptr (AllST.cons tS (AllST.cons tS (AllST.cons tS (AllST.cons tI (AllST.cons tB (AllST.cons tS (AllST.cons tS (AllST.cons tI (AllST.cons tI (AllST.cons tI AllST.nil))))))))))) (AllST.cons (Still.fptr (AllST.cons tS (AllST.cons tI (AllST.cons tS (AllST.cons tI (AllST.cons tS (AllST.cons tS (AllST.cons tS AllST.nil)))))))) AllST.nil)))) (AllST.cons (Still.func AllST.nil (AllST.cons (Still.fptr (AllST.cons tI (AllST.cons (jo qN _ (nl rfl)) (AllST.cons (jo qJ _ (nl rfl)) AllST.nil)))) (AllST.cons (Still.fptr (AllST.cons tS (AllST.cons tI (AllST.cons tS (AllST.cons tI (AllST.cons tS (AllST.cons tS (AllST.cons tS AllST.nil)))))))) AllST.nil))) AllST.nil))))))) (FzL.cons (Fz.func FzL.nil FzL.nil) FzL.nil)) (qsL N a b c d) tI)) az) ?_)
 refine Goes.ret ?_
 obtain rfl:=si h
 exact(gw2 [.i (w64 (1+e))] (Ub tI))
def qnL (a:qg) (b:zi):Option Bool:=
 (quK a b.Amount).bind fun c=>
 some c
theorem qt1 (a:qg) (b:zi) {res:Bool} (h:qnL a b=some res):zu ZT (.fn 117) [.fptr [.func (.func 141) [] [],.func (.func 142) [] []] 0,.fptr (.str a.lot.Name::(kB a.lot.Yarn a.lot.Dye a.lot.Stock a.known a.hold.Lot a.hold.Order a.hold.Reserved a.hold.Taken a.free)) 0,.fptr (kA b.Kind b.Day b.Lot b.Amount b.Yarn b.Dye b.Order) 0] [] (.bool res) []:=by
 unfold qnL at h
 refine Uc Tryz.func117 rfl rfl (m:=10) rfl (rs:=[.tmp 3]) rfl (l:=[(0,.fptr [.func (.func 141) [] [],.func (.func 142) [] []] 0),(1,.fptr (.str a.lot.Name::(kB a.lot.Yarn a.lot.Dye a.lot.Stock a.known a.hold.Lot a.hold.Order a.hold.Reserved a.hold.Taken a.free)) 0),(2,.fptr (kA b.Kind b.Day b.Lot b.Amount b.Yarn b.Dye b.Order) 0)]) rfl ?_
 refine sh fol [(0,.fptr [.func (.func 141) [] [],.func (.func 142) [] []] 0),(1,.fptr (.str a.lot.Name::(kB a.lot.Yarn a.lot.Dye a.lot.Stock a.known a.hold.Lot a.hold.Order a.hold.Reserved a.hold.Taken a.free)) 0),(2,.fptr (kA b.Kind b.Day b.Lot b.Amount b.Yarn b.Dye b.Order) 0)] ?_
 obtain⟨d,c,h⟩:=bnd h
 refine sq (gr fol [5] (kAm d) (ac (cv (qzh a b.Amount c)) az) ?_)
 refine Goes.ret ?_
 obtain rfl:=si h
 exact(gw2 [.bool d] (Ub tB))
def qqe (a:qg) (b:zi):Option Bool:=
 (qnL a b).bind fun c=>
 some (!c)
theorem qv8 (a:qg) (b:zi) {res:Bool} (h:qqe a b=some res):zu ZT (.fn 177) [.func (.func 117) [] [.fptr [.func (.func 141) [] [],.func (.func 142) [] []] 0,.fptr (.str a.lot.Name::(kB a.lot.Yarn a.lot.Dye a.lot.Stock a.known a.hold.Lot a.hold.Order a.hold.Reserved a.hold.Taken a.free)) 0,.fptr (kA b.Kind b.Day b.Lot b.Amount b.Yarn b.Dye b.Order) 0]] [] (.bool res) []:=by
 unfold qqe at h
 refine Uc Tryz.func177 rfl rfl (m:=6) rfl (rs:=[.tmp 2]) rfl (l:=[(0,.func (.func 117) [] [.fptr [.func (.func 141) [] [],.func (.func 142) [] []] 0,.fptr (.str a.lot.Name::(kB a.lot.Yarn a.lot.Dye a.lot.Stock a.known a.hold.Lot a.hold.Order a.hold.Reserved a.hold.Taken a.free)) 0,.fptr (kA b.Kind b.Day b.Lot b.Amount b.Yarn b.Dye b.Order) 0])]) rfl ?_
 refine sh fol [(0,.func (.func 117) [] [.fptr [.func (.func 141) [] [],.func (.func 142) [] []] 0,.fptr (.str a.lot.Name::(kB a.lot.Yarn a.lot.Dye a.lot.Stock a.known a.hold.Lot a.hold.Order a.hold.Reserved a.hold.Taken a.free)) 0,.fptr (kA b.Kind b.Day b.Lot b.Amount b.Yarn b.Dye b.Order) 0])] ?_
 obtain⟨d,c,h⟩:=bnd h
 refine sq (gr fol [1] (kAJ (!d)) (ac (hs (.call 117 [.fptr [.func (.func 141) [] [],.func (.func 142) [] []] 0,.fptr (.str a.lot.Name::(kB a.lot.Yarn a.lot.Dye a.lot.Stock a.known a.hold.Lot a.hold.Order a.hold.Reserved a.hold.Taken a.free)) 0,.fptr (kA b.Kind b.Day b.Lot b.Amount b.Yarn b.Dye b.Order) 0] [] [] [.fptr [.func (.func 141) [] [],.func (.func 142) [] []] 0,.fptr (.str a.lot.Name::(kB a.lot.Yarn a.lot.Dye a.lot.Stock a.known a.hold.Lot a.hold.Order a.hold.Reserved a.hold.Taken a.free)) 0,.fptr (kA b.Kind b.Day b.Lot b.Amount b.Yarn b.Dye b.Order) 0] (.bool d)) (qb4 (FzL.cons (Ua (Still.fptr (AllST.cons (Still.func AllST.nil AllST.nil) (AllST.cons (Still.func AllST.nil AllST.nil) AllST.nil)))) (FzL.cons (Ua (Still.fptr (AllST.cons tS (AllST.cons tS (AllST.cons tS (AllST.cons tI (AllST.cons tB (AllST.cons tS (AllST.cons tS (AllST.cons tI (AllST.cons tI (AllST.cons tI AllST.nil)))))))))))) (FzL.cons (Ua (Still.fptr (AllST.cons tS (AllST.cons tI (AllST.cons tS (AllST.cons tI (AllST.cons tS (AllST.cons tS (AllST.cons tS AllST.nil))))))))) FzL.nil))) (qt1 a b c) tB)) az) ?_)
 refine Goes.ret ?_
 obtain rfl:=si h
 exact(gw2 [.bool (!d)] (Ub tB))
def qnG (b:qg) (c:zi):Option Bool:=
 (qpQ b c.Amount).bind fun a=>
 some (decide ((if a.hold.Taken>a.lot.Stock then a.hold.Taken else a.lot.Stock)<=999999999))
theorem qtR (a:qg) (b:zi) {res:Bool} (h:qnG a b=some res):zu ZT (.fn 118) [.fptr [.func (.func 141) [] [],.func (.func 142) [] []] 0,.fptr (.str a.lot.Name::(kB a.lot.Yarn a.lot.Dye a.lot.Stock a.known a.hold.Lot a.hold.Order a.hold.Reserved a.hold.Taken a.free)) 0,.fptr (kA b.Kind b.Day b.Lot b.Amount b.Yarn b.Dye b.Order) 0] [] (.bool res) []:=by
 unfold qnG at h
 refine Uc Tryz.func118 rfl rfl (m:=19) rfl (rs:=[.tmp 3]) rfl (l:=[(0,.fptr [.func (.func 141) [] [],.func (.func 142) [] []] 0),(1,.fptr (.str a.lot.Name::(kB a.lot.Yarn a.lot.Dye a.lot.Stock a.known a.hold.Lot a.hold.Order a.hold.Reserved a.hold.Taken a.free)) 0),(2,.fptr (kA b.Kind b.Day b.Lot b.Amount b.Yarn b.Dye b.Order) 0)]) rfl ?_
 refine sh fol [(0,.fptr [.func (.func 141) [] [],.func (.func 142) [] []] 0),(1,.fptr (.str a.lot.Name::(kB a.lot.Yarn a.lot.Dye a.lot.Stock a.known a.hold.Lot a.hold.Order a.hold.Reserved a.hold.Taken a.free)) 0),(2,.fptr (kA b.Kind b.Day b.Lot b.Amount b.Yarn b.Dye b.Order) 0)] ?_
 obtain⟨c,d,h⟩:=bnd h
 refine sq (gq fol [5] kAq (kC c.lot.Name c.lot.Yarn c.lot.Dye c.lot.Stock c.known c.hold.Lot c.hold.Order c.hold.Reserved c.hold.Taken c.free []) (ac (cv (qu0 a b.Amount d)) az) ?_)
 refine sh fol (kAm (decide ((if c.hold.Taken>c.lot.Stock then c.hold.Taken else c.lot.Stock)<=999999999))) ?_
 refine Goes.ret ?_
 obtain rfl:=si h
 exact(gw2 [.bool (decide ((if c.hold.Taken>c.lot.Stock then c.hold.Taken else c.lot.Stock)<=999999999))] (Ub tB))
def qqp (a:qg) (b:zi):Option Bool:=
 (qnG a b).bind fun c=>
 some (!c)
theorem qv6 (a:qg) (b:zi) {res:Bool} (h:qqp a b=some res):zu ZT (.fn 177) [.func (.func 118) [] [.fptr [.func (.func 141) [] [],.func (.func 142) [] []] 0,.fptr (.str a.lot.Name::(kB a.lot.Yarn a.lot.Dye a.lot.Stock a.known a.hold.Lot a.hold.Order a.hold.Reserved a.hold.Taken a.free)) 0,.fptr (kA b.Kind b.Day b.Lot b.Amount b.Yarn b.Dye b.Order) 0]] [] (.bool res) []:=by
 unfold qqp at h
 refine Uc Tryz.func177 rfl rfl (m:=6) rfl (rs:=[.tmp 2]) rfl (l:=[(0,.func (.func 118) [] [.fptr [.func (.func 141) [] [],.func (.func 142) [] []] 0,.fptr (.str a.lot.Name::(kB a.lot.Yarn a.lot.Dye a.lot.Stock a.known a.hold.Lot a.hold.Order a.hold.Reserved a.hold.Taken a.free)) 0,.fptr (kA b.Kind b.Day b.Lot b.Amount b.Yarn b.Dye b.Order) 0])]) rfl ?_
 refine sh fol [(0,.func (.func 118) [] [.fptr [.func (.func 141) [] [],.func (.func 142) [] []] 0,.fptr (.str a.lot.Name::(kB a.lot.Yarn a.lot.Dye a.lot.Stock a.known a.hold.Lot a.hold.Order a.hold.Reserved a.hold.Taken a.free)) 0,.fptr (kA b.Kind b.Day b.Lot b.Amount b.Yarn b.Dye b.Order) 0])] ?_
 obtain⟨d,c,h⟩:=bnd h
 refine sq (gr fol [1] (kAJ (!d)) (ac (hs (.call 118 [.fptr [.func (.func 141) [] [],.func (.func 142) [] []] 0,.fptr (.str a.lot.Name::(kB a.lot.Yarn a.lot.Dye a.lot.Stock a.known a.hold.Lot a.hold.Order a.hold.Reserved a.hold.Taken a.free)) 0,.fptr (kA b.Kind b.Day b.Lot b.Amount b.Yarn b.Dye b.Order) 0] [] [] [.fptr [.func (.func 141) [] [],.func (.func 142) [] []] 0,.fptr (.str a.lot.Name::(kB a.lot.Yarn a.lot.Dye a.lot.Stock a.known a.hold.Lot a.hold.Order a.hold.Reserved a.hold.Taken a.free)) 0,.fptr (kA b.Kind b.Day b.Lot b.Amount b.Yarn b.Dye b.Order) 0] (.bool d)) (qb4 (FzL.cons (Ua (Still.fptr (AllST.cons (Still.func AllST.nil AllST.nil) (AllST.cons (Still.func AllST.nil AllST.nil) AllST.nil)))) (FzL.cons (Ua (Still.fptr (AllST.cons tS (AllST.cons tS (AllST.cons tS (AllST.cons tI (AllST.cons tB (AllST.cons tS (AllST.cons tS (AllST.cons tI (AllST.cons tI (AllST.cons tI AllST.nil)))))))))))) (FzL.cons (Ua (Still.fptr (AllST.cons tS (AllST.cons tI (AllST.cons tS (AllST.cons tI (AllST.cons tS (AllST.cons tS (AllST.cons tS AllST.nil))))))))) FzL.nil))) (qtR a b c) tB)) az) ?_)
 refine Goes.ret ?_
 obtain rfl:=si h
 exact(gw2 [.bool (!d)] (Ub tB))
def qeN (N:Nat) (a:zi) (d:StateT) (b:qg):Nat->Int->Option (Unit⊕Int)
 |0,_=>none
 |K+1,c=>
  if c<5 then
  (if c=0 then
  (qgD a d).bind fun i=>
  some i
  else
  if c=1 then
  (qfg a b).bind fun j=>
  some j
  else
  if c=2 then
  (qqe b a).bind fun e=>
  some e
  else
  if c=3 then
  (qqp b a).bind fun f=>
  some f
  else
  if c=4 then
  (qgA N d a).bind fun g=>
  some g
  else
  none:Option Bool).bind fun h=>
  if h=true then
  some (.inr c)
  else
  qeN N a d b K (w64 (c+1))
  else
  some (.inl ())
def qjU (N:Nat) (a:zi) (b:StateT) (c:qg):Option Int:=
 (qeN N a b c N 0).bind (fun
 |(.inl ())=>
 some (-1)
 |(.inr d)=>
 some d)
theorem qsN (N:Nat) (a:zi) (c:StateT) (b:qg) {res:Int} (h:qjU N a c b=some res):zu ZT (.fn 176) [.fslice 5 (qsz a c b),.func (.func 177) [] []] [] (.i res) []:=by
 unfold qjU at h
 refine Uc Tryz.func176 rfl rfl (m:=19) rfl (rs:=[.tmp 4]) rfl (l:=[(0,.fslice 5 (qsz a c b)),(1,.func (.func 177) [] [])]) rfl ?_
 refine sh fol [(0,.fslice 5 (qsz a c b)),(1,.func (.func 177) [] [])] ?_
 refine sq ?_
 refine sh fol ((0,.fslice 5 (qsz a c b))::(1,.func (.func 177) [] [])::kAr) ?_
 refine Goes.block ?_
 obtain⟨u,g2,h⟩:=bnd h
 refine Goes.imp (Q:=fun x s'=>(x= .exit 0/\(.inl ())=u/\Sub s' (ofG 19 [],[]))\/(x= .ret/\ ∃y,(.inr y)=u/\qhA ZT [.tmp 4] (.i y) .ret s')) ?_ ?_
 ·refine Ud (fun M s=> ∃(e:Int),s=(ofG 19 ((0,.fslice 5 (qsz a c b))::(1,.func (.func 177) [] [])::(kZ e)),[])/\qeN N a c b M e=some u) ?_ (m:=N) ⟨_,rfl,g2⟩
  rintro M s ⟨e,rfl,g2⟩
  cases M with
  |zero=>simp only[qeN]at g2;cases g2
  |succ M=>
   rw[qeN]at g2
   refine sh fol ((0,.fslice 5 (qsz a c b))::(1,.func (.func 177) [] [])::(7,.i 5)::(kAa e (decide (e<5)))) ?_
   refine sq ?_
   refine ihD g2 (fun E g2=>?_) (fun E g2=>?_)
   ·refine Goes.skip ?_
    refine sq (Goes.block ?_)
    refine sh fol ((0,.fslice 5 (qsz a c b))::(1,.func (.func 177) [] [])::(5,.i e)::(kZ e)) ?_
    refine sq ?_
    obtain⟨v,d,g2⟩:=bnd g2
    refine Goes.cut (s':=(ofG 19 ((0,.fslice 5 (qsz a c b))::(1,.func (.func 177) [] [])::(kJ e v)),[])) ?_ ?_
    ·rcases wyD d with⟨z,d⟩|⟨z,d⟩
     ·obtain⟨A,k,d⟩:=bnd d
      obtain rfl:=si d
      exact tr fol [3,5] ((0,.fslice 5 (qsz a c b))::(1,.func (.func 177) [] [])::(kJ e A)) (ac (hs (.done (.opt (yX ZT 221 (.fslice 5 (qsz a c b)) (.i e))) (.fptr [.func (.func 115) [] [.fptr (kA a.Kind a.Day a.Lot a.Amount a.Yarn a.Dye a.Order) 0,.fptr (kF c.Day c.Lots c.Holds) 0],.func (.func 116) [] [.fptr (kA a.Kind a.Day a.Lot a.Amount a.Yarn a.Dye a.Order) 0,.fptr (.str b.lot.Name::(kB b.lot.Yarn b.lot.Dye b.lot.Stock b.known b.hold.Lot b.hold.Order b.hold.Reserved b.hold.Taken b.free)) 0],.func (.func 117) [] [.fptr [.func (.func 141) [] [],.func (.func 142) [] []] 0,.fptr (.str b.lot.Name::(kB b.lot.Yarn b.lot.Dye b.lot.Stock b.known b.hold.Lot b.hold.Order b.hold.Reserved b.hold.Taken b.free)) 0,.fptr (kA a.Kind a.Day a.Lot a.Amount a.Yarn a.Dye a.Order) 0],.func (.func 118) [] [.fptr [.func (.func 141) [] [],.func (.func 142) [] []] 0,.fptr (.str b.lot.Name::(kB b.lot.Yarn b.lot.Dye b.lot.Stock b.known b.hold.Lot b.hold.Order b.hold.Reserved b.hold.Taken b.free)) 0,.fptr (kA a.Kind a.Day a.Lot a.Amount a.Yarn a.Dye a.Order) 0],.func (.func 119) [] [.fptr (kF c.Day c.Lots c.Holds) 0,.fptr (kA a.Kind a.Day a.Lot a.Amount a.Yarn a.Dye a.Order) 0]] 0)) (ixA (ot z) (by kernel_rfl))) (ac (hs (.call 177 [.func (.func 115) [] [.fptr (kA a.Kind a.Day a.Lot a.Amount a.Yarn a.Dye a.Order) 0,.fptr (kF c.Day c.Lots c.Holds) 0]] [] [] [.func (.func 115) [] [.fptr (kA a.Kind a.Day a.Lot a.Amount a.Yarn a.Dye a.Order) 0,.fptr (kF c.Day c.Lots c.Holds) 0]] (.bool A)) (qb4 (FzL.cons (Fz.func FzL.nil (FzL.cons (Ua (Still.fptr (AllST.cons tS (AllST.cons tI (AllST.cons tS (AllST.cons tI (AllST.cons tS (AllST.cons tS (AllST.cons tS AllST.nil))))))))) (FzL.cons (Ua (Still.fptr (AllST.cons tI (AllST.cons (jo qN _ (nl rfl)) (AllST.cons (jo qJ _ (nl rfl)) AllST.nil))))) FzL.nil))) FzL.nil) (qkP a c k) tB)) az))
     rcases wyD d with⟨B,d⟩|⟨B,d⟩
     ·obtain⟨C,n,d⟩:=bnd d
      obtain rfl:=si d
      exact tr fol [3,5] ((0,.fslice 5 (qsz a c b))::(1,.func (.func 177) [] [])::(kJ e C)) (ac (hs (.done (.opt (yX ZT 221 (.fslice 5 (qsz a c b)) (.i e))) (.fptr [.func (.func 115) [] [.fptr (kA a.Kind a.Day a.Lot a.Amount a.Yarn a.Dye a.Order) 0,.fptr (kF c.Day c.Lots c.Holds) 0],.func (.func 116) [] [.fptr (kA a.Kind a.Day a.Lot a.Amount a.Yarn a.Dye a.Order) 0,.fptr (.str b.lot.Name::(kB b.lot.Yarn b.lot.Dye b.lot.Stock b.known b.hold.Lot b.hold.Order b.hold.Reserved b.hold.Taken b.free)) 0],.func (.func 117) [] [.fptr [.func (.func 141) [] [],.func (.func 142) [] []] 0,.fptr (.str b.lot.Name::(kB b.lot.Yarn b.lot.Dye b.lot.Stock b.known b.hold.Lot b.hold.Order b.hold.Reserved b.hold.Taken b.free)) 0,.fptr (kA a.Kind a.Day a.Lot a.Amount a.Yarn a.Dye a.Order) 0],.func (.func 118) [] [.fptr [.func (.func 141) [] [],.func (.func 142) [] []] 0,.fptr (.str b.lot.Name::(kB b.lot.Yarn b.lot.Dye b.lot.Stock b.known b.hold.Lot b.hold.Order b.hold.Reserved b.hold.Taken b.free)) 0,.fptr (kA a.Kind a.Day a.Lot a.Amount a.Yarn a.Dye a.Order) 0],.func (.func 119) [] [.fptr (kF c.Day c.Lots c.Holds) 0,.fptr (kA a.Kind a.Day a.Lot a.Amount a.Yarn a.Dye a.Order) 0]] 1)) (ixA (ot B) (by kernel_rfl))) (ac (hs (.call 177 [.func (.func 116) [] [.fptr (kA a.Kind a.Day a.Lot a.Amount a.Yarn a.Dye a.Order) 0,.fptr (.str b.lot.Name::(kB b.lot.Yarn b.lot.Dye b.lot.Stock b.known b.hold.Lot b.hold.Order b.hold.Reserved b.hold.Taken b.free)) 0]] [] [] [.func (.func 116) [] [.fptr (kA a.Kind a.Day a.Lot a.Amount a.Yarn a.Dye a.Order) 0,.fptr (.str b.lot.Name::(kB b.lot.Yarn b.lot.Dye b.lot.Stock b.known b.hold.Lot b.hold.Order b.hold.Reserved b.hold.Taken b.free)) 0]] (.bool C)) (qb4 (FzL.cons (Fz.func FzL.nil (FzL.cons (Ua (Still.fptr (AllST.cons tS (AllST.cons tI (AllST.cons tS (AllST.cons tI (AllST.cons tS (AllST.cons tS (AllST.cons tS AllST.nil))))))))) (FzL.cons (Ua (Still.fptr (AllST.cons tS (AllST.cons tS (AllST.cons tS (AllST.cons tI (AllST.cons tB (AllST.cons tS (AllST.cons tS (AllST.cons tI (AllST.cons tI (AllST.cons tI AllST.nil)))))))))))) FzL.nil))) FzL.nil) (qkL a b n) tB)) az))
     rcases wyD d with⟨D,d⟩|⟨D,d⟩
     ·obtain⟨o,f,d⟩:=bnd d
      obtain rfl:=si d
      exact tr fol [3,5] ((0,.fslice 5 (qsz a c b))::(1,.func (.func 177) [] [])::(kJ e o)) (ac (hs (.done (.opt (yX ZT 221 (.fslice 5 (qsz a c b)) (.i e))) (.fptr [.func (.func 115) [] [.fptr (kA a.Kind a.Day a.Lot a.Amount a.Yarn a.Dye a.Order) 0,.fptr (kF c.Day c.Lots c.Holds) 0],.func (.func 116) [] [.fptr (kA a.Kind a.Day a.Lot a.Amount a.Yarn a.Dye a.Order) 0,.fptr (.str b.lot.Name::(kB b.lot.Yarn b.lot.Dye b.lot.Stock b.known b.hold.Lot b.hold.Order b.hold.Reserved b.hold.Taken b.free)) 0],.func (.func 117) [] [.fptr [.func (.func 141) [] [],.func (.func 142) [] []] 0,.fptr (.str b.lot.Name::(kB b.lot.Yarn b.lot.Dye b.lot.Stock b.known b.hold.Lot b.hold.Order b.hold.Reserved b.hold.Taken b.free)) 0,.fptr (kA a.Kind a.Day a.Lot a.Amount a.Yarn a.Dye a.Order) 0],.func (.func 118) [] [.fptr [.func (.func 141) [] [],.func (.func 142) [] []] 0,.fptr (.str b.lot.Name::(kB b.lot.Yarn b.lot.Dye b.lot.Stock b.known b.hold.Lot b.hold.Order b.hold.Reserved b.hold.Taken b.free)) 0,.fptr (kA a.Kind a.Day a.Lot a.Amount a.Yarn a.Dye a.Order) 0],.func (.func 119) [] [.fptr (kF c.Day c.Lots c.Holds) 0,.fptr (kA a.Kind a.Day a.Lot a.Amount a.Yarn a.Dye a.Order) 0]] 2)) (ixA (ot D) (by kernel_rfl))) (ac (hs (.call 177 [.func (.func 117) [] [.fptr [.func (.func 141) [] [],.func (.func 142) [] []] 0,.fptr (.str b.lot.Name::(kB b.lot.Yarn b.lot.Dye b.lot.Stock b.known b.hold.Lot b.hold.Order b.hold.Reserved b.hold.Taken b.free)) 0,.fptr (kA a.Kind a.Day a.Lot a.Amount a.Yarn a.Dye a.Order) 0]] [] [] [.func (.func 117) [] [.fptr [.func (.func 141) [] [],.func (.func 142) [] []] 0,.fptr (.str b.lot.Name::(kB b.lot.Yarn b.lot.Dye b.lot.Stock b.known b.hold.Lot b.hold.Order b.hold.Reserved b.hold.Taken b.free)) 0,.fptr (kA a.Kind a.Day a.Lot a.Amount a.Yarn a.Dye a.Order) 0]] (.bool o)) (qb4 (FzL.cons (Fz.func FzL.nil (FzL.cons (Ua (Still.fptr (AllST.cons (Still.func AllST.nil AllST.nil) (AllST.cons (Still.func AllST.nil AllST.nil) AllST.nil)))) (FzL.cons (Ua (Still.fptr (AllST.cons tS (AllST.cons tS (AllST.cons tS (AllST.cons tI (AllST.cons tB (AllST.cons tS (AllST.cons tS (AllST.cons tI (AllST.cons tI (AllST.cons tI AllST.nil)))))))))))) (FzL.cons (Ua (Still.fptr (AllST.cons tS (AllST.cons tI (AllST.cons tS (AllST.cons tI (AllST.cons tS (AllST.cons tS (AllST.cons tS AllST.nil))))))))) FzL.nil)))) FzL.nil) (qv8 b a f) tB)) az))
     rcases wyD d with⟨p,d⟩|⟨p,d⟩
     ·obtain⟨q,g,d⟩:=bnd d
      obtain rfl:=si d
      exact tr fol [3,5] ((0,.fslice 5 (qsz a c b))::(1,.func (.func 177) [] [])::(kJ e q)) (ac (hs (.done (.opt (yX ZT 221 (.fslice 5 (qsz a c b)) (.i e))) (.fptr [.func (.func 115) [] [.fptr (kA a.Kind a.Day a.Lot a.Amount a.Yarn a.Dye a.Order) 0,.fptr (kF c.Day c.Lots c.Holds) 0],.func (.func 116) [] [.fptr (kA a.Kind a.Day a.Lot a.Amount a.Yarn a.Dye a.Order) 0,.fptr (.str b.lot.Name::(kB b.lot.Yarn b.lot.Dye b.lot.Stock b.known b.hold.Lot b.hold.Order b.hold.Reserved b.hold.Taken b.free)) 0],.func (.func 117) [] [.fptr [.func (.func 141) [] [],.func (.func 142) [] []] 0,.fptr (.str b.lot.Name::(kB b.lot.Yarn b.lot.Dye b.lot.Stock b.known b.hold.Lot b.hold.Order b.hold.Reserved b.hold.Taken b.free)) 0,.fptr (kA a.Kind a.Day a.Lot a.Amount a.Yarn a.Dye a.Order) 0],.func (.func 118) [] [.fptr [.func (.func 141) [] [],.func (.func 142) [] []] 0,.fptr (.str b.lot.Name::(kB b.lot.Yarn b.lot.Dye b.lot.Stock b.known b.hold.Lot b.hold.Order b.hold.Reserved b.hold.Taken b.free)) 0,.fptr (kA a.Kind a.Day a.Lot a.Amount a.Yarn a.Dye a.Order) 0],.func (.func 119) [] [.fptr (kF c.Day c.Lots c.Holds) 0,.fptr (kA a.Kind a.Day a.Lot a.Amount a.Yarn a.Dye a.Order) 0]] 3)) (ixA (ot p) (by kernel_rfl))) (ac (hs (.call 177 [.func (.func 118) [] [.fptr [.func (.func 141) [] [],.func (.func 142) [] []] 0,.fptr (.str b.lot.Name::(kB b.lot.Yarn b.lot.Dye b.lot.Stock b.known b.hold.Lot b.hold.Order b.hold.Reserved b.hold.Taken b.free)) 0,.fptr (kA a.Kind a.Day a.Lot a.Amount a.Yarn a.Dye a.Order) 0]] [] [] [.func (.func 118) [] [.fptr [.func (.func 141) [] [],.func (.func 142) [] []] 0,.fptr (.str b.lot.Name::(kB b.lot.Yarn b.lot.Dye b.lot.Stock b.known b.hold.Lot b.hold.Order b.hold.Reserved b.hold.Taken b.free)) 0,.fptr (kA a.Kind a.Day a.Lot a.Amount a.Yarn a.Dye a.Order) 0]] (.bool q)) (qb4 (FzL.cons (Fz.func FzL.nil (FzL.cons (Ua (Still.fptr (AllST.cons (Still.func AllST.nil AllST.nil) (AllST.cons (Still.func AllST.nil AllST.nil) AllST.nil)))) (FzL.cons (Ua (Still.fptr (AllST.cons tS (AllST.cons tS (AllST.cons tS (AllST.cons tI (AllST.cons tB (AllST.cons tS (AllST.cons tS (AllST.cons tI (AllST.cons tI (AllST.cons tI AllST.nil)))))))))))) (FzL.cons (Ua (Still.fptr (AllST.cons tS (AllST.cons tI (AllST.cons tS (AllST.cons tI (AllST.cons tS (AllST.cons tS (AllST.cons tS AllST.nil))))))))) FzL.nil)))) FzL.nil) (qv6 b a g) tB)) az))
     rcases wyD d with⟨r,d⟩|⟨r,d⟩
     ·obtain⟨t,j,d⟩:=bnd d
      obtain rfl:=si d
      exact tr fol [3,5] ((0,.fslice 5 (qsz a c b))::(1,.func (.func 177) [] [])::(kJ e t)) (ac (hs (.done (.opt (yX ZT 221 (.fslice 5 (qsz a c b)) (.i e))) (.fptr [.func (.func 115) [] [.fptr (kA a.Kind a.Day a.Lot a.Amount a.Yarn a.Dye a.Order) 0,.fptr (kF c.Day c.Lots c.Holds) 0],.func (.func 116) [] [.fptr (kA a.Kind a.Day a.Lot a.Amount a.Yarn a.Dye a.Order) 0,.fptr (.str b.lot.Name::(kB b.lot.Yarn b.lot.Dye b.lot.Stock b.known b.hold.Lot b.hold.Order b.hold.Reserved b.hold.Taken b.free)) 0],.func (.func 117) [] [.fptr [.func (.func 141) [] [],.func (.func 142) [] []] 0,.fptr (.str b.lot.Name::(kB b.lot.Yarn b.lot.Dye b.lot.Stock b.known b.hold.Lot b.hold.Order b.hold.Reserved b.hold.Taken b.free)) 0,.fptr (kA a.Kind a.Day a.Lot a.Amount a.Yarn a.Dye a.Order) 0],.func (.func 118) [] [.fptr [.func (.func 141) [] [],.func (.func 142) [] []] 0,.fptr (.str b.lot.Name::(kB b.lot.Yarn b.lot.Dye b.lot.Stock b.known b.hold.Lot b.hold.Order b.hold.Reserved b.hold.Taken b.free)) 0,.fptr (kA a.Kind a.Day a.Lot a.Amount a.Yarn a.Dye a.Order) 0],.func (.func 119) [] [.fptr (kF c.Day c.Lots c.Holds) 0,.fptr (kA a.Kind a.Day a.Lot a.Amount a.Yarn a.Dye a.Order) 0]] 4)) (ixA (ot r) (by kernel_rfl))) (ac (hs (.call 177 [.func (.func 119) [] [.fptr (kF c.Day c.Lots c.Holds) 0,.fptr (kA a.Kind a.Day a.Lot a.Amount a.Yarn a.Dye a.Order) 0]] [] [] [.func (.func 119) [] [.fptr (kF c.Day c.Lots c.Holds) 0,.fptr (kA a.Kind a.Day a.Lot a.Amount a.Yarn a.Dye a.Order) 0]] (.bool t)) (qb4 (FzL.cons (Fz.func FzL.nil (FzL.cons (Ua (Still.fptr (AllST.cons tI (AllST.cons (jo qN _ (nl rfl)) (AllST.cons (jo qJ _ (nl rfl)) AllST.nil))))) (FzL.cons (Ua (Still.fptr (AllST.cons tS (AllST.cons tI (AllST.cons tS (AllST.cons tI (AllST.cons tS (AllST.cons tS (AllST.cons tS AllST.nil))))))))) FzL.nil))) FzL.nil) (qkJ N c a j) tB)) az))
     cases d
    refine ihB g2 (fun w g2=>?_) (fun w g2=>?_)
    ·refine sh fol (kAj e) ?_
     refine Goes.ret ?_
     obtain rfl:=si g2
     exact Or.inr (⟨rfl,_,rfl,(gw2 [.i e] (Ub tI))⟩)
    refine Goes.skip ?_
    refine gh fol ((0,.fslice 5 (qsz a c b))::(1,.func (.func 177) [] [])::(kZ (w64 (e+1)))) ?_
    exact⟨M,(ofG 19 ((0,.fslice 5 (qsz a c b))::(1,.func (.func 177) [] [])::(kZ (w64 (e+1)))),[]),Nat.lt_succ_self _,(Sub.refl _),_,rfl,g2⟩
   refine Goes.exit ?_
   obtain rfl:=si g2
   exact Or.inl (⟨rfl,rfl,(Sub.keep [] rfl rfl)⟩)
 rintro x s' (⟨rfl,rfl,hsub⟩|⟨rfl,F,rfl,hret⟩)
 ·try dsimp only at h
  refine Goes.sub hsub ?_
  refine sh fol kAp ?_
  refine Goes.ret ?_
  obtain rfl:=si h
  exact(gw2 [.i (-1)] (Ub tI))
 try dsimp only at h
 obtain rfl:=si h
 exact hret
def qqQ (N:Nat) (a:zi) (b:StateT) (c:qg):Option Int:=
 (qjU N a b c).bind fun d=>
 some (w64 (1+d))
theorem qy0 (N:Nat) (a:zi) (b:StateT) (c:qg) {res:Int} (h:qqQ N a b c=some res):zu ZT (.fn 114) [.fslice 5 (qsz a b c)] [] (.i res) []:=by
 unfold qqQ at h
 refine Uc Tryz.func114 rfl rfl (m:=6) rfl (rs:=[.tmp 2]) rfl (l:=[(0,.fslice 5 (qsz a b c))]) rfl ?_
 refine sh fol [(0,.fslice 5 (qsz a b c))] ?_
 obtain⟨e,d,h⟩:=bnd h
 refine sq (gr fol [1] (kAl (w64 (1+e))) (ac (hs (.call 176 [.fslice 5 (qsz a b c),.func (.func 177) [] []] [] [] [.fslice 5 (qsz a b c),.func (.func 177) [] []] (.i e)) (qb4 (FzL.cons (Ua (Still.fslice (AllST.cons (Still.func AllST.nil (AllST.cons (Still.fptr (AllST.cons tS (AllST.cons tI (AllST.cons tS (AllST.cons tI (AllST.cons tS (AllST.cons tS (AllST.cons tS AllST.nil)))))))) (AllST.cons (Still.fptr (AllST.cons tI (AllST.cons (jo qN _ (nl rfl)) (AllST.cons (jo qJ _ (nl rfl)) AllST.nil)))) AllST.nil))) (AllST.cons (Still.func AllST.nil (AllST.cons (Still.fptr (AllST.cons tS (AllST.cons tI (AllST.cons tS (AllST.cons tI (AllST.cons tS (AllST.cons tS (AllST.cons tS AllST.nil)))))))) (AllST.cons (Still.fptr (AllST.cons tS (AllST.cons tS (AllST.cons tS (AllST.cons tI (AllST.cons tB (AllST.cons tS (AllST.cons tS (AllST.cons tI (AllST.cons tI (AllST.cons tI AllST.nil))))))))))) AllST.nil))) (AllST.cons (Still.func AllST.nil (AllST.cons (Still.fptr (AllST.cons (Still.func AllST.nil AllST.nil) (AllST.cons (Still.func AllST.nil AllST.nil) AllST.nil))) (AllST.cons (Still.fptr (AllST.cons tS (AllST.cons tS (AllST.cons tS (AllST.cons tI (AllST.cons tB (AllST.cons tS (AllST.cons tS (AllST.cons tI (AllST.cons tI (AllST.cons tI AllST.nil))))))))))) (AllST.cons (Still.fptr (AllST.cons tS (AllST.cons tI (AllST.cons tS (AllST.cons tI (AllST.cons tS (AllST.cons tS (AllST.cons tS AllST.nil)))))))) AllST.nil)))) (AllST.cons (Still.func AllST.nil (AllST.cons (Still.fptr (AllST.cons (Still.func AllST.nil AllST.nil) (AllST.cons (Still.func AllST.nil AllST.nil) AllST.nil))) (AllST.cons (Still.fptr (AllST.cons tS (AllST.cons tS (AllST.cons tS (AllST.cons tI (AllST.cons tB (AllST.cons tS (AllST.cons tS (AllST.cons tI (AllST.cons tI (AllST.cons tI AllST.nil))))))))))) (AllST.cons (Still.fptr (AllST.cons tS (AllST.cons tI (AllST.cons tS (AllST.cons tI (AllST.cons tS (AllST.cons tS (AllST.cons tS AllST.nil)))))))) AllST.nil)))) (AllST.cons (Still.func AllST.nil (AllST.cons (Still.fptr (AllST.cons tI (AllST.cons (jo qN _ (nl rfl)) (AllST.cons (jo qJ _ (nl rfl)) AllST.nil)))) (AllST.cons (Still.fptr (AllST.cons tS (AllST.cons tI (AllST.cons tS (AllST.cons tI (AllST.cons tS (AllST.cons tS (AllST.cons tS AllST.nil)))))))) AllST.nil))) AllST.nil))))))) (FzL.cons (Fz.func FzL.nil FzL.nil) FzL.nil)) (qsN N a b c d) tI)) az) ?_)
 refine Goes.ret ?_
 obtain rfl:=si h
 exact(gw2 [.i (w64 (1+e))] (Ub tI))
def qnx (N:Nat) (a:StateT) (e:zi):Option Int:=
 (qbb N a e).bind fun b=>
 (qne).bind fun i=>
 if(e.Kind==[114,101,99,101,105,118,101])=true then
 (qqR N e a b).bind fun g=>
 some g
 else
 if(e.Kind==[114,101,115,101,114,118,101])=true then
 (qrc N e a b).bind fun h=>
 some h
 else
 if(e.Kind==[114,101,108,101,97,115,101])=true then
 (qqT N e a b).bind fun c=>
 some c
 else
 if(e.Kind==[116,97,107,101])=true then
 (qq1 N e a b).bind fun d=>
 some d
 else
 if(e.Kind==[114,101,116,117,114,110])=true then
 (qqQ N e a b).bind fun f=>
 some f
 else
 none
theorem qxW (N:Nat) (b:StateT) (e:zi) {res:Int} (h:qnx N b e=some res):zu ZT (.fn 57) (kAA b.Day b.Lots b.Holds [.agg [.str e.Kind,.i e.Day,.str e.Lot,.i e.Amount,.str e.Yarn,.str e.Dye,.str e.Order]]) [] (.i res) []:=by
 unfold qnx at h
 refine Uc Tryz.func57 rfl rfl (m:=21) rfl (rs:=[.tmp 4]) rfl (l:=(kAV b.Day b.Lots b.Holds [(1,.agg [.str e.Kind,.i e.Day,.str e.Lot,.i e.Amount,.str e.Yarn,.str e.Dye,.str e.Order])])) rfl ?_
 refine sg fol (kS []) (kE b.Day b.Lots b.Holds (kD e.Kind e.Day e.Lot e.Amount e.Yarn e.Dye e.Order [])) ?_
 obtain⟨a,p,h⟩:=bnd h
 refine sq (gq fol [2] (kS [(5,.ptr 2 0)]) (kE b.Day b.Lots b.Holds (kD e.Kind e.Day e.Lot e.Amount e.Yarn e.Dye e.Order (kC a.lot.Name a.lot.Yarn a.lot.Dye a.lot.Stock a.known a.hold.Lot a.hold.Order a.hold.Reserved a.hold.Taken a.free []))) (ac (cv (qix N b e p)) az) ?_)
 refine sq ?_
 obtain⟨y,c,h⟩:=bnd h
 rcases wyB h with⟨o,h⟩|⟨o,h⟩
 ·refine gq fol [0,3] (kS (kV [])) (kE b.Day b.Lots b.Holds (kD e.Kind e.Day e.Lot e.Amount e.Yarn e.Dye e.Order (kC a.lot.Name a.lot.Yarn a.lot.Dye a.lot.Stock a.known a.hold.Lot a.hold.Order a.hold.Reserved a.hold.Taken a.free [.cells [.func (.func 132) [] [],.func (.func 133) [] []]]))) (ac (cv (qeG c)) (ac (hs (.done (qiU ZT 143 (fm1) (.str e.Kind) false) (.agg [.func (.func 132) [] [],.func (.func 133) [] []])) (qrY qsC [[114,101,99,101,105,118,101],[114,101,115,101,114,118,101],[114,101,108,101,97,115,101],[116,97,107,101],[114,101,116,117,114,110]] (qjE o) rfl)) az)) ?_
  obtain⟨u,q,h⟩:=bnd h
  refine sq (gq fol [6] (kAj u) (kE b.Day b.Lots b.Holds (kD e.Kind e.Day e.Lot e.Amount e.Yarn e.Dye e.Order (kC a.lot.Name a.lot.Yarn a.lot.Dye a.lot.Stock a.known a.hold.Lot a.hold.Order a.hold.Reserved a.hold.Taken a.free [.cells [.func (.func 132) [] [],.func (.func 133) [] []],.cells [.func (.func 115) [] [.ptr 1 0,.ptr 0 0],.func (.func 116) [] [.ptr 1 0,.ptr 2 0],.func (.func 117) [] [.ptr 3 0,.ptr 2 0,.ptr 1 0],.func (.func 118) [] [.ptr 3 0,.ptr 2 0,.ptr 1 0],.func (.func 119) [] [.ptr 0 0,.ptr 1 0]]]))) (ac (hs (.call 114 [.slice 4 0 5 5 1] (kE b.Day b.Lots b.Holds (kD e.Kind e.Day e.Lot e.Amount e.Yarn e.Dye e.Order (kC a.lot.Name a.lot.Yarn a.lot.Dye a.lot.Stock a.known a.hold.Lot a.hold.Order a.hold.Reserved a.hold.Taken a.free [.cells [.func (.func 132) [] [],.func (.func 133) [] []],.cells [.func (.func 115) [] [.ptr 1 0,.ptr 0 0],.func (.func 116) [] [.ptr 1 0,.ptr 2 0],.func (.func 117) [] [.ptr 3 0,.ptr 2 0,.ptr 1 0],.func (.func 118) [] [.ptr 3 0,.ptr 2 0,.ptr 1 0],.func (.func 119) [] [.ptr 0 0,.ptr 1 0]]]))) [0,1,2,3,4] [.fslice 5 (qr3 e b a)] (.i u)) (qma (FzL.cons (Fz.lit rfl rfl (FzL.cons (Fz.func FzL.nil (FzL.cons (Fz.ptr rfl rfl (FzL.cons (Ua tS) (FzL.cons (Ua tI) (FzL.cons (Ua tS) (FzL.cons (Ua tI) (FzL.cons (Ua tS) (FzL.cons (Ua tS) (FzL.cons (Ua tS) FzL.nil)))))))) (FzL.cons (Fz.ptr rfl rfl (FzL.cons (Ua tI) (FzL.cons (Ua (jo qN _ (nl rfl))) (FzL.cons (Ua (jo qJ _ (nl rfl))) FzL.nil)))) FzL.nil))) (FzL.cons (Fz.func FzL.nil (FzL.cons (Fz.ptr rfl rfl (FzL.cons (Ua tS) (FzL.cons (Ua tI) (FzL.cons (Ua tS) (FzL.cons (Ua tI) (FzL.cons (Ua tS) (FzL.cons (Ua tS) (FzL.cons (Ua tS) FzL.nil)))))))) (FzL.cons (Fz.ptr rfl rfl (FzL.cons (Ua tS) (FzL.cons (Ua tS) (FzL.cons (Ua tS) (FzL.cons (Ua tI) (FzL.cons (Ua tB) (FzL.cons (Ua tS) (FzL.cons (Ua tS) (FzL.cons (Ua tI) (FzL.cons (Ua tI) (FzL.cons (Ua tI) FzL.nil))))))))))) FzL.nil))) (FzL.cons (Fz.func FzL.nil (FzL.cons (Fz.ptr rfl rfl (FzL.cons (Fz.func FzL.nil FzL.nil) (FzL.cons (Fz.func FzL.nil FzL.nil) FzL.nil))) (FzL.cons (Fz.ptr rfl rfl (FzL.cons (Ua tS) (FzL.cons (Ua tS) (FzL.cons (Ua tS) (FzL.cons (Ua tI) (FzL.cons (Ua tB) (FzL.cons (Ua tS) (FzL.cons (Ua tS) (FzL.cons (Ua tI) (FzL.cons (Ua tI) (FzL.cons (Ua tI) FzL.nil))))))))))) (FzL.cons (Fz.ptr rfl rfl (FzL.cons (Ua tS) (FzL.cons (Ua tI) (FzL.cons (Ua tS) (FzL.cons (Ua tI) (FzL.cons (Ua tS) (FzL.cons (Ua tS) (FzL.cons (Ua tS) FzL.nil)))))))) FzL.nil)))) (FzL.cons (Fz.func FzL.nil (FzL.cons (Fz.ptr rfl rfl (FzL.cons (Fz.func FzL.nil FzL.nil) (FzL.cons (Fz.func FzL.nil FzL.nil) FzL.nil))) (FzL.cons (Fz.ptr rfl rfl (FzL.cons (Ua tS) (FzL.cons (Ua tS) (FzL.cons (Ua tS) (FzL.cons (Ua tI) (FzL.cons (Ua tB) (FzL.cons (Ua tS) (FzL.cons (Ua tS) (FzL.cons (Ua tI) (FzL.cons (Ua tI) (FzL.cons (Ua tI) FzL.nil))))))))))) (FzL.cons (Fz.ptr rfl rfl (FzL.cons (Ua tS) (FzL.cons (Ua tI) (FzL.cons (Ua tS) (FzL.cons (Ua tI) (FzL.cons (Ua tS) (FzL.cons (Ua tS) (FzL.cons (Ua tS) FzL.nil)))))))) FzL.nil)))) (FzL.cons (Fz.func FzL.nil (FzL.cons (Fz.ptr rfl rfl (FzL.cons (Ua tI) (FzL.cons (Ua (jo qN _ (nl rfl))) (FzL.cons (Ua (jo qJ _ (nl rfl))) FzL.nil)))) (FzL.cons (Fz.ptr rfl rfl (FzL.cons (Ua tS) (FzL.cons (Ua tI) (FzL.cons (Ua tS) (FzL.cons (Ua tI) (FzL.cons (Ua tS) (FzL.cons (Ua tS) (FzL.cons (Ua tS) FzL.nil)))))))) FzL.nil))) FzL.nil)))))) FzL.nil) (qy1 N e b a q) tI rfl)) az) ?_)
  refine Goes.ret ?_
  obtain rfl:=si h
  exact(gw2 [.i u] (Ub tI))
 rcases wyB h with⟨r,h⟩|⟨r,h⟩
 ·refine gq fol [0,3] (kS (kV [])) (kE b.Day b.Lots b.Holds (kD e.Kind e.Day e.Lot e.Amount e.Yarn e.Dye e.Order (kC a.lot.Name a.lot.Yarn a.lot.Dye a.lot.Stock a.known a.hold.Lot a.hold.Order a.hold.Reserved a.hold.Taken a.free [.cells [.func (.func 134) [] [],.func (.func 135) [] []]]))) (ac (cv (qeG c)) (ac (hs (.done (qiU ZT 143 (fm1) (.str e.Kind) false) (.agg [.func (.func 134) [] [],.func (.func 135) [] []])) (qrY qsC [[114,101,99,101,105,118,101],[114,101,115,101,114,118,101],[114,101,108,101,97,115,101],[116,97,107,101],[114,101,116,117,114,110]] (xw o (qjE r)) rfl)) az)) ?_
  obtain⟨v,s,h⟩:=bnd h
  refine sq (gq fol [6] (kAj v) (kE b.Day b.Lots b.Holds (kD e.Kind e.Day e.Lot e.Amount e.Yarn e.Dye e.Order (kC a.lot.Name a.lot.Yarn a.lot.Dye a.lot.Stock a.known a.hold.Lot a.hold.Order a.hold.Reserved a.hold.Taken a.free [.cells [.func (.func 134) [] [],.func (.func 135) [] []],.cells [.func (.func 115) [] [.ptr 1 0,.ptr 0 0],.func (.func 116) [] [.ptr 1 0,.ptr 2 0],.func (.func 117) [] [.ptr 3 0,.ptr 2 0,.ptr 1 0],.func (.func 118) [] [.ptr 3 0,.ptr 2 0,.ptr 1 0],.func (.func 119) [] [.ptr 0 0,.ptr 1 0]]]))) (ac (hs (.call 114 [.slice 4 0 5 5 1] (kE b.Day b.Lots b.Holds (kD e.Kind e.Day e.Lot e.Amount e.Yarn e.Dye e.Order (kC a.lot.Name a.lot.Yarn a.lot.Dye a.lot.Stock a.known a.hold.Lot a.hold.Order a.hold.Reserved a.hold.Taken a.free [.cells [.func (.func 134) [] [],.func (.func 135) [] []],.cells [.func (.func 115) [] [.ptr 1 0,.ptr 0 0],.func (.func 116) [] [.ptr 1 0,.ptr 2 0],.func (.func 117) [] [.ptr 3 0,.ptr 2 0,.ptr 1 0],.func (.func 118) [] [.ptr 3 0,.ptr 2 0,.ptr 1 0],.func (.func 119) [] [.ptr 0 0,.ptr 1 0]]]))) [0,1,2,3,4] [.fslice 5 (qr8 e b a)] (.i v)) (qma (FzL.cons (Fz.lit rfl rfl (FzL.cons (Fz.func FzL.nil (FzL.cons (Fz.ptr rfl rfl (FzL.cons (Ua tS) (FzL.cons (Ua tI) (FzL.cons (Ua tS) (FzL.cons (Ua tI) (FzL.cons (Ua tS) (FzL.cons (Ua tS) (FzL.cons (Ua tS) FzL.nil)))))))) (FzL.cons (Fz.ptr rfl rfl (FzL.cons (Ua tI) (FzL.cons (Ua (jo qN _ (nl rfl))) (FzL.cons (Ua (jo qJ _ (nl rfl))) FzL.nil)))) FzL.nil))) (FzL.cons (Fz.func FzL.nil (FzL.cons (Fz.ptr rfl rfl (FzL.cons (Ua tS) (FzL.cons (Ua tI) (FzL.cons (Ua tS) (FzL.cons (Ua tI) (FzL.cons (Ua tS) (FzL.cons (Ua tS) (FzL.cons (Ua tS) FzL.nil)))))))) (FzL.cons (Fz.ptr rfl rfl (FzL.cons (Ua tS) (FzL.cons (Ua tS) (FzL.cons (Ua tS) (FzL.cons (Ua tI) (FzL.cons (Ua tB) (FzL.cons (Ua tS) (FzL.cons (Ua tS) (FzL.cons (Ua tI) (FzL.cons (Ua tI) (FzL.cons (Ua tI) FzL.nil))))))))))) FzL.nil))) (FzL.cons (Fz.func FzL.nil (FzL.cons (Fz.ptr rfl rfl (FzL.cons (Fz.func FzL.nil FzL.nil) (FzL.cons (Fz.func FzL.nil FzL.nil) FzL.nil))) (FzL.cons (Fz.ptr rfl rfl (FzL.cons (Ua tS) (FzL.cons (Ua tS) (FzL.cons (Ua tS) (FzL.cons (Ua tI) (FzL.cons (Ua tB) (FzL.cons (Ua tS) (FzL.cons (Ua tS) (FzL.cons (Ua tI) (FzL.cons (Ua tI) (FzL.cons (Ua tI) FzL.nil))))))))))) (FzL.cons (Fz.ptr rfl rfl (FzL.cons (Ua tS) (FzL.cons (Ua tI) (FzL.cons (Ua tS) (FzL.cons (Ua tI) (FzL.cons (Ua tS) (FzL.cons (Ua tS) (FzL.cons (Ua tS) FzL.nil)))))))) FzL.nil)))) (FzL.cons (Fz.func FzL.nil (FzL.cons (Fz.ptr rfl rfl (FzL.cons (Fz.func FzL.nil FzL.nil) (FzL.cons (Fz.func FzL.nil FzL.nil) FzL.nil))) (FzL.cons (Fz.ptr rfl rfl (FzL.cons (Ua tS) (FzL.cons (Ua tS) (FzL.cons (Ua tS) (FzL.cons (Ua tI) (FzL.cons (Ua tB) (FzL.cons (Ua tS) (FzL.cons (Ua tS) (FzL.cons (Ua tI) (FzL.cons (Ua tI) (FzL.cons (Ua tI) FzL.nil))))))))))) (FzL.cons (Fz.ptr rfl rfl (FzL.cons (Ua tS) (FzL.cons (Ua tI) (FzL.cons (Ua tS) (FzL.cons (Ua tI) (FzL.cons (Ua tS) (FzL.cons (Ua tS) (FzL.cons (Ua tS) FzL.nil)))))))) FzL.nil)))) (FzL.cons (Fz.func FzL.nil (FzL.cons (Fz.ptr rfl rfl (FzL.cons (Ua tI) (FzL.cons (Ua (jo qN _ (nl rfl))) (FzL.cons (Ua (jo qJ _ (nl rfl))) FzL.nil)))) (FzL.cons (Fz.ptr rfl rfl (FzL.cons (Ua tS) (FzL.cons (Ua tI) (FzL.cons (Ua tS) (FzL.cons (Ua tI) (FzL.cons (Ua tS) (FzL.cons (Ua tS) (FzL.cons (Ua tS) FzL.nil)))))))) FzL.nil))) FzL.nil)))))) FzL.nil) (qyW N e b a s) tI rfl)) az) ?_)
  refine Goes.ret ?_
  obtain rfl:=si h
  exact(gw2 [.i v] (Ub tI))
 rcases wyB h with⟨t,h⟩|⟨t,h⟩
 ·refine gq fol [0,3] (kS (kV [])) (kE b.Day b.Lots b.Holds (kD e.Kind e.Day e.Lot e.Amount e.Yarn e.Dye e.Order (kC a.lot.Name a.lot.Yarn a.lot.Dye a.lot.Stock a.known a.hold.Lot a.hold.Order a.hold.Reserved a.hold.Taken a.free [.cells [.func (.func 137) [] [],.func (.func 138) [] []]]))) (ac (cv (qeG c)) (ac (hs (.done (qiU ZT 143 (fm1) (.str e.Kind) false) (.agg [.func (.func 137) [] [],.func (.func 138) [] []])) (qrY qsC [[114,101,99,101,105,118,101],[114,101,115,101,114,118,101],[114,101,108,101,97,115,101],[116,97,107,101],[114,101,116,117,114,110]] (xw o (xw r (qjE t))) rfl)) az)) ?_
  obtain⟨d,f,h⟩:=bnd h
  refine sq (gq fol [6] (kAj d) (kE b.Day b.Lots b.Holds (kD e.Kind e.Day e.Lot e.Amount e.Yarn e.Dye e.Order (kC a.lot.Name a.lot.Yarn a.lot.Dye a.lot.Stock a.known a.hold.Lot a.hold.Order a.hold.Reserved a.hold.Taken a.free [.cells [.func (.func 137) [] [],.func (.func 138) [] []],.cells [.func (.func 115) [] [.ptr 1 0,.ptr 0 0],.func (.func 116) [] [.ptr 1 0,.ptr 2 0],.func (.func 117) [] [.ptr 3 0,.ptr 2 0,.ptr 1 0],.func (.func 118) [] [.ptr 3 0,.ptr 2 0,.ptr 1 0],.func (.func 119) [] [.ptr 0 0,.ptr 1 0]]]))) (ac (hs (.call 114 [.slice 4 0 5 5 1] (kE b.Day b.Lots b.Holds (kD e.Kind e.Day e.Lot e.Amount e.Yarn e.Dye e.Order (kC a.lot.Name a.lot.Yarn a.lot.Dye a.lot.Stock a.known a.hold.Lot a.hold.Order a.hold.Reserved a.hold.Taken a.free [.cells [.func (.func 137) [] [],.func (.func 138) [] []],.cells [.func (.func 115) [] [.ptr 1 0,.ptr 0 0],.func (.func 116) [] [.ptr 1 0,.ptr 2 0],.func (.func 117) [] [.ptr 3 0,.ptr 2 0,.ptr 1 0],.func (.func 118) [] [.ptr 3 0,.ptr 2 0,.ptr 1 0],.func (.func 119) [] [.ptr 0 0,.ptr 1 0]]]))) [0,1,2,3,4] [.fslice 5 (qsv e b a)] (.i d)) (qma (FzL.cons (Fz.lit rfl rfl (FzL.cons (Fz.func FzL.nil (FzL.cons (Fz.ptr rfl rfl (FzL.cons (Ua tS) (FzL.cons (Ua tI) (FzL.cons (Ua tS) (FzL.cons (Ua tI) (FzL.cons (Ua tS) (FzL.cons (Ua tS) (FzL.cons (Ua tS) FzL.nil)))))))) (FzL.cons (Fz.ptr rfl rfl (FzL.cons (Ua tI) (FzL.cons (Ua (jo qN _ (nl rfl))) (FzL.cons (Ua (jo qJ _ (nl rfl))) FzL.nil)))) FzL.nil))) (FzL.cons (Fz.func FzL.nil (FzL.cons (Fz.ptr rfl rfl (FzL.cons (Ua tS) (FzL.cons (Ua tI) (FzL.cons (Ua tS) (FzL.cons (Ua tI) (FzL.cons (Ua tS) (FzL.cons (Ua tS) (FzL.cons (Ua tS) FzL.nil)))))))) (FzL.cons (Fz.ptr rfl rfl (FzL.cons (Ua tS) (FzL.cons (Ua tS) (FzL.cons (Ua tS) (FzL.cons (Ua tI) (FzL.cons (Ua tB) (FzL.cons (Ua tS) (FzL.cons (Ua tS) (FzL.cons (Ua tI) (FzL.cons (Ua tI) (FzL.cons (Ua tI) FzL.nil))))))))))) FzL.nil))) (FzL.cons (Fz.func FzL.nil (FzL.cons (Fz.ptr rfl rfl (FzL.cons (Fz.func FzL.nil FzL.nil) (FzL.cons (Fz.func FzL.nil FzL.nil) FzL.nil))) (FzL.cons (Fz.ptr rfl rfl (FzL.cons (Ua tS) (FzL.cons (Ua tS) (FzL.cons (Ua tS) (FzL.cons (Ua tI) (FzL.cons (Ua tB) (FzL.cons (Ua tS) (FzL.cons (Ua tS) (FzL.cons (Ua tI) (FzL.cons (Ua tI) (FzL.cons (Ua tI) FzL.nil))))))))))) (FzL.cons (Fz.ptr rfl rfl (FzL.cons (Ua tS) (FzL.cons (Ua tI) (FzL.cons (Ua tS) (FzL.cons (Ua tI) (FzL.cons (Ua tS) (FzL.cons (Ua tS) (FzL.cons (Ua tS) FzL.nil)))))))) FzL.nil)))) (FzL.cons (Fz.func FzL.nil (FzL.cons (Fz.ptr rfl rfl (FzL.cons (Fz.func FzL.nil FzL.nil) (FzL.cons (Fz.func FzL.nil FzL.nil) FzL.nil))) (FzL.cons (Fz.ptr rfl rfl (FzL.cons (Ua tS) (FzL.cons (Ua tS) (FzL.cons (Ua tS) (FzL.cons (Ua tI) (FzL.cons (Ua tB) (FzL.cons (Ua tS) (FzL.cons (Ua tS) (FzL.cons (Ua tI) (FzL.cons (Ua tI) (FzL.cons (Ua tI) FzL.nil))))))))))) (FzL.cons (Fz.ptr rfl rfl (FzL.cons (Ua tS) (FzL.cons (Ua tI) (FzL.cons (Ua tS) (FzL.cons (Ua tI) (FzL.cons (Ua tS) (FzL.cons (Ua tS) (FzL.cons (Ua tS) FzL.nil)))))))) FzL.nil)))) (FzL.cons (Fz.func FzL.nil (FzL.cons (Fz.ptr rfl rfl (FzL.cons (Ua tI) (FzL.cons (Ua (jo qN _ (nl rfl))) (FzL.cons (Ua (jo qJ _ (nl rfl))) FzL.nil)))) (FzL.cons (Fz.ptr rfl rfl (FzL.cons (Ua tS) (FzL.cons (Ua tI) (FzL.cons (Ua tS) (FzL.cons (Ua tI) (FzL.cons (Ua tS) (FzL.cons (Ua tS) (FzL.cons (Ua tS) FzL.nil)))))))) FzL.nil))) FzL.nil)))))) FzL.nil) (qyV N e b a f) tI rfl)) az) ?_)
  refine Goes.ret ?_
  obtain rfl:=si h
  exact(gw2 [.i d] (Ub tI))
 rcases wyB h with⟨w,h⟩|⟨w,h⟩
 ·refine gq fol [0,3] (kS (kV [])) (kE b.Day b.Lots b.Holds (kD e.Kind e.Day e.Lot e.Amount e.Yarn e.Dye e.Order (kC a.lot.Name a.lot.Yarn a.lot.Dye a.lot.Stock a.known a.hold.Lot a.hold.Order a.hold.Reserved a.hold.Taken a.free [.cells [.func (.func 139) [] [],.func (.func 140) [] []]]))) (ac (cv (qeG c)) (ac (hs (.done (qiU ZT 143 (fm1) (.str e.Kind) false) (.agg [.func (.func 139) [] [],.func (.func 140) [] []])) (qrY qsC [[114,101,99,101,105,118,101],[114,101,115,101,114,118,101],[114,101,108,101,97,115,101],[116,97,107,101],[114,101,116,117,114,110]] (xw o (xw r (xw t (qjE w)))) rfl)) az)) ?_
  obtain⟨g,j,h⟩:=bnd h
  refine sq (gq fol [6] (kAj g) (kE b.Day b.Lots b.Holds (kD e.Kind e.Day e.Lot e.Amount e.Yarn e.Dye e.Order (kC a.lot.Name a.lot.Yarn a.lot.Dye a.lot.Stock a.known a.hold.Lot a.hold.Order a.hold.Reserved a.hold.Taken a.free [.cells [.func (.func 139) [] [],.func (.func 140) [] []],.cells [.func (.func 115) [] [.ptr 1 0,.ptr 0 0],.func (.func 116) [] [.ptr 1 0,.ptr 2 0],.func (.func 117) [] [.ptr 3 0,.ptr 2 0,.ptr 1 0],.func (.func 118) [] [.ptr 3 0,.ptr 2 0,.ptr 1 0],.func (.func 119) [] [.ptr 0 0,.ptr 1 0]]]))) (ac (hs (.call 114 [.slice 4 0 5 5 1] (kE b.Day b.Lots b.Holds (kD e.Kind e.Day e.Lot e.Amount e.Yarn e.Dye e.Order (kC a.lot.Name a.lot.Yarn a.lot.Dye a.lot.Stock a.known a.hold.Lot a.hold.Order a.hold.Reserved a.hold.Taken a.free [.cells [.func (.func 139) [] [],.func (.func 140) [] []],.cells [.func (.func 115) [] [.ptr 1 0,.ptr 0 0],.func (.func 116) [] [.ptr 1 0,.ptr 2 0],.func (.func 117) [] [.ptr 3 0,.ptr 2 0,.ptr 1 0],.func (.func 118) [] [.ptr 3 0,.ptr 2 0,.ptr 1 0],.func (.func 119) [] [.ptr 0 0,.ptr 1 0]]]))) [0,1,2,3,4] [.fslice 5 (qsx e b a)] (.i g)) (qma (FzL.cons (Fz.lit rfl rfl (FzL.cons (Fz.func FzL.nil (FzL.cons (Fz.ptr rfl rfl (FzL.cons (Ua tS) (FzL.cons (Ua tI) (FzL.cons (Ua tS) (FzL.cons (Ua tI) (FzL.cons (Ua tS) (FzL.cons (Ua tS) (FzL.cons (Ua tS) FzL.nil)))))))) (FzL.cons (Fz.ptr rfl rfl (FzL.cons (Ua tI) (FzL.cons (Ua (jo qN _ (nl rfl))) (FzL.cons (Ua (jo qJ _ (nl rfl))) FzL.nil)))) FzL.nil))) (FzL.cons (Fz.func FzL.nil (FzL.cons (Fz.ptr rfl rfl (FzL.cons (Ua tS) (FzL.cons (Ua tI) (FzL.cons (Ua tS) (FzL.cons (Ua tI) (FzL.cons (Ua tS) (FzL.cons (Ua tS) (FzL.cons (Ua tS) FzL.nil)))))))) (FzL.cons (Fz.ptr rfl rfl (FzL.cons (Ua tS) (FzL.cons (Ua tS) (FzL.cons (Ua tS) (FzL.cons (Ua tI) (FzL.cons (Ua tB) (FzL.cons (Ua tS) (FzL.cons (Ua tS) (FzL.cons (Ua tI) (FzL.cons (Ua tI) (FzL.cons (Ua tI) FzL.nil))))))))))) FzL.nil))) (FzL.cons (Fz.func FzL.nil (FzL.cons (Fz.ptr rfl rfl (FzL.cons (Fz.func FzL.nil FzL.nil) (FzL.cons (Fz.func FzL.nil FzL.nil) FzL.nil))) (FzL.cons (Fz.ptr rfl rfl (FzL.cons (Ua tS) (FzL.cons (Ua tS) (FzL.cons (Ua tS) (FzL.cons (Ua tI) (FzL.cons (Ua tB) (FzL.cons (Ua tS) (FzL.cons (Ua tS) (FzL.cons (Ua tI) (FzL.cons (Ua tI) (FzL.cons (Ua tI) FzL.nil))))))))))) (FzL.cons (Fz.ptr rfl rfl (FzL.cons (Ua tS) (FzL.cons (Ua tI) (FzL.cons (Ua tS) (FzL.cons (Ua tI) (FzL.cons (Ua tS) (FzL.cons (Ua tS) (FzL.cons (Ua tS) FzL.nil)))))))) FzL.nil)))) (FzL.cons (Fz.func FzL.nil (FzL.cons (Fz.ptr rfl rfl (FzL.cons (Fz.func FzL.nil FzL.nil) (FzL.cons (Fz.func FzL.nil FzL.nil) FzL.nil))) (FzL.cons (Fz.ptr rfl rfl (FzL.cons (Ua tS) (FzL.cons (Ua tS) (FzL.cons (Ua tS) (FzL.cons (Ua tI) (FzL.cons (Ua tB) (FzL.cons (Ua tS) (FzL.cons (Ua tS) (FzL.cons (Ua tI) (FzL.cons (Ua tI) (FzL.cons (Ua tI) FzL.nil))))))))))) (FzL.cons (Fz.ptr rfl rfl (FzL.cons (Ua tS) (FzL.cons (Ua tI) (FzL.cons (Ua tS) (FzL.cons (Ua tI) (FzL.cons (Ua tS) (FzL.cons (Ua tS) (FzL.cons (Ua tS) FzL.nil)))))))) FzL.nil)))) (FzL.cons (Fz.func FzL.nil (FzL.cons (Fz.ptr rfl rfl (FzL.cons (Ua tI) (FzL.cons (Ua (jo qN _ (nl rfl))) (FzL.cons (Ua (jo qJ _ (nl rfl))) FzL.nil)))) (FzL.cons (Fz.ptr rfl rfl (FzL.cons (Ua tS) (FzL.cons (Ua tI) (FzL.cons (Ua tS) (FzL.cons (Ua tI) (FzL.cons (Ua tS) (FzL.cons (Ua tS) (FzL.cons (Ua tS) FzL.nil)))))))) FzL.nil))) FzL.nil)))))) FzL.nil) (qyZ N e b a j) tI rfl)) az) ?_)
  refine Goes.ret ?_
  obtain rfl:=si h
  exact(gw2 [.i g] (Ub tI))
 rcases wyB h with⟨x,h⟩|⟨x,h⟩
 ·refine gq fol [0,3] (kS (kV [])) (kE b.Day b.Lots b.Holds (kD e.Kind e.Day e.Lot e.Amount e.Yarn e.Dye e.Order (kC a.lot.Name a.lot.Yarn a.lot.Dye a.lot.Stock a.known a.hold.Lot a.hold.Order a.hold.Reserved a.hold.Taken a.free [.cells [.func (.func 141) [] [],.func (.func 142) [] []]]))) (ac (cv (qeG c)) (ac (hs (.done (qiU ZT 143 (fm1) (.str e.Kind) false) (.agg [.func (.func 141) [] [],.func (.func 142) [] []])) (qrY qsC [[114,101,99,101,105,118,101],[114,101,115,101,114,118,101],[114,101,108,101,97,115,101],[116,97,107,101],[114,101,116,117,114,110]] (xw o (xw r (xw t (xw w (qjE x))))) rfl)) az)) ?_
  obtain⟨k,n,h⟩:=bnd h
  refine sq (gq fol [6] (kAj k) (kE b.Day b.Lots b.Holds (kD e.Kind e.Day e.Lot e.Amount e.Yarn e.Dye e.Order (kC a.lot.Name a.lot.Yarn a.lot.Dye a.lot.Stock a.known a.hold.Lot a.hold.Order a.hold.Reserved a.hold.Taken a.free [.cells [.func (.func 141) [] [],.func (.func 142) [] []],.cells [.func (.func 115) [] [.ptr 1 0,.ptr 0 0],.func (.func 116) [] [.ptr 1 0,.ptr 2 0],.func (.func 117) [] [.ptr 3 0,.ptr 2 0,.ptr 1 0],.func (.func 118) [] [.ptr 3 0,.ptr 2 0,.ptr 1 0],.func (.func 119) [] [.ptr 0 0,.ptr 1 0]]]))) (ac (hs (.call 114 [.slice 4 0 5 5 1] (kE b.Day b.Lots b.Holds (kD e.Kind e.Day e.Lot e.Amount e.Yarn e.Dye e.Order (kC a.lot.Name a.lot.Yarn a.lot.Dye a.lot.Stock a.known a.hold.Lot a.hold.Order a.hold.Reserved a.hold.Taken a.free [.cells [.func (.func 141) [] [],.func (.func 142) [] []],.cells [.func (.func 115) [] [.ptr 1 0,.ptr 0 0],.func (.func 116) [] [.ptr 1 0,.ptr 2 0],.func (.func 117) [] [.ptr 3 0,.ptr 2 0,.ptr 1 0],.func (.func 118) [] [.ptr 3 0,.ptr 2 0,.ptr 1 0],.func (.func 119) [] [.ptr 0 0,.ptr 1 0]]]))) [0,1,2,3,4] [.fslice 5 (qsz e b a)] (.i k)) (qma (FzL.cons (Fz.lit rfl rfl (FzL.cons (Fz.func FzL.nil (FzL.cons (Fz.ptr rfl rfl (FzL.cons (Ua tS) (FzL.cons (Ua tI) (FzL.cons (Ua tS) (FzL.cons (Ua tI) (FzL.cons (Ua tS) (FzL.cons (Ua tS) (FzL.cons (Ua tS) FzL.nil)))))))) (FzL.cons (Fz.ptr rfl rfl (FzL.cons (Ua tI) (FzL.cons (Ua (jo qN _ (nl rfl))) (FzL.cons (Ua (jo qJ _ (nl rfl))) FzL.nil)))) FzL.nil))) (FzL.cons (Fz.func FzL.nil (FzL.cons (Fz.ptr rfl rfl (FzL.cons (Ua tS) (FzL.cons (Ua tI) (FzL.cons (Ua tS) (FzL.cons (Ua tI) (FzL.cons (Ua tS) (FzL.cons (Ua tS) (FzL.cons (Ua tS) FzL.nil)))))))) (FzL.cons (Fz.ptr rfl rfl (FzL.cons (Ua tS) (FzL.cons (Ua tS) (FzL.cons (Ua tS) (FzL.cons (Ua tI) (FzL.cons (Ua tB) (FzL.cons (Ua tS) (FzL.cons (Ua tS) (FzL.cons (Ua tI) (FzL.cons (Ua tI) (FzL.cons (Ua tI) FzL.nil))))))))))) FzL.nil))) (FzL.cons (Fz.func FzL.nil (FzL.cons (Fz.ptr rfl rfl (FzL.cons (Fz.func FzL.nil FzL.nil) (FzL.cons (Fz.func FzL.nil FzL.nil) FzL.nil))) (FzL.cons (Fz.ptr rfl rfl (FzL.cons (Ua tS) (FzL.cons (Ua tS) (FzL.cons (Ua tS) (FzL.cons (Ua tI) (FzL.cons (Ua tB) (FzL.cons (Ua tS) (FzL.cons (Ua tS) (FzL.cons (Ua tI) (FzL.cons (Ua tI) (FzL.cons (Ua tI) FzL.nil))))))))))) (FzL.cons (Fz.ptr rfl rfl (FzL.cons (Ua tS) (FzL.cons (Ua tI) (FzL.cons (Ua tS) (FzL.cons (Ua tI) (FzL.cons (Ua tS) (FzL.cons (Ua tS) (FzL.cons (Ua tS) FzL.nil)))))))) FzL.nil)))) (FzL.cons (Fz.func FzL.nil (FzL.cons (Fz.ptr rfl rfl (FzL.cons (Fz.func FzL.nil FzL.nil) (FzL.cons (Fz.func FzL.nil FzL.nil) FzL.nil))) (FzL.cons (Fz.ptr rfl rfl (FzL.cons (Ua tS) (FzL.cons (Ua tS) (FzL.cons (Ua tS) (FzL.cons (Ua tI) (FzL.cons (Ua tB) (FzL.cons (Ua tS) (FzL.cons (Ua tS) (FzL.cons (Ua tI) (FzL.cons (Ua tI) (FzL.cons (Ua tI) FzL.nil))))))))))) (FzL.cons (Fz.ptr rfl rfl (FzL.cons (Ua tS) (FzL.cons (Ua tI) (FzL.cons (Ua tS) (FzL.cons (Ua tI) (FzL.cons (Ua tS) (FzL.cons (Ua tS) (FzL.cons (Ua tS) FzL.nil)))))))) FzL.nil)))) (FzL.cons (Fz.func FzL.nil (FzL.cons (Fz.ptr rfl rfl (FzL.cons (Ua tI) (FzL.cons (Ua (jo qN _ (nl rfl))) (FzL.cons (Ua (jo qJ _ (nl rfl))) FzL.nil)))) (FzL.cons (Fz.ptr rfl rfl (FzL.cons (Ua tS) (FzL.cons (Ua tI) (FzL.cons (Ua tS) (FzL.cons (Ua tI) (FzL.cons (Ua tS) (FzL.cons (Ua tS) (FzL.cons (Ua tS) FzL.nil)))))))) FzL.nil))) FzL.nil)))))) FzL.nil) (qy0 N e b a n) tI rfl)) az) ?_)
  refine Goes.ret ?_
  obtain rfl:=si h
  exact(gw2 [.i k] (Ub tI))
 cases h
end Go.Av
