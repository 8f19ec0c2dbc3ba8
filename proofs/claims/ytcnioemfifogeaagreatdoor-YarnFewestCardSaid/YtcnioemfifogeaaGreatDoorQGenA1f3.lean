/-
  Walks of functions: what each computes, as a plain function.
-/
import Derived.Test.YtcnioemfifogeaaGreatDoorQGenA1f2
noncomputable section
namespace Go.Av
open Go.Proofs Go.RowKit
set_option linter.unusedSectionVars false
set_option linter.unusedVariables false
set_option linter.unusedSimpArgs false
set_option maxRecDepth 100000
def qi5 (a:ky) (b:StateT):Option Bool:=
 some (decide (a.Day>=b.Day))
theorem qo7 (a:ky) (b:StateT) {res:Bool} (h:qi5 a b=some res):qJ ZT (.fn 115) [.fptr (kA a.Kind a.Day a.Lot a.Amount a.Yarn a.Dye a.Order) 0,.fptr (kE b.Day b.Lots b.Holds) 0] [] (.bool res) []:=by
 unfold qi5 at h
 refine Uc Tryz.func115 rfl rfl (m:=8) rfl (rs:=[.tmp 2]) rfl (l:=[(0,.fptr (kA a.Kind a.Day a.Lot a.Amount a.Yarn a.Dye a.Order) 0),(1,.fptr (kE b.Day b.Lots b.Holds) 0)]) rfl ?_
 refine sh fol [(0,.fptr (kA a.Kind a.Day a.Lot a.Amount a.Yarn a.Dye a.Order) 0),(1,.fptr (kE b.Day b.Lots b.Holds) 0)] ?_
 refine sh fol (kAi (decide (a.Day>=b.Day))) ?_
 refine Goes.ret ?_
 obtain rfl:=si h
 exact(gw2 [.bool (decide (a.Day>=b.Day))] (Ub tB))
def qcX (a:ky) (b:StateT):Option Bool:=
 (qi5 a b).bind fun c=>
 some (!c)
theorem qgt (a:ky) (b:StateT) {res:Bool} (h:qcX a b=some res):qJ ZT (.fn 177) [.func (.func 115) [] [.fptr (kA a.Kind a.Day a.Lot a.Amount a.Yarn a.Dye a.Order) 0,.fptr (kE b.Day b.Lots b.Holds) 0]] [] (.bool res) []:=by
 unfold qcX at h
 refine Uc Tryz.func177 rfl rfl (m:=6) rfl (rs:=[.tmp 2]) rfl (l:=[(0,.func (.func 115) [] [.fptr (kA a.Kind a.Day a.Lot a.Amount a.Yarn a.Dye a.Order) 0,.fptr (kE b.Day b.Lots b.Holds) 0])]) rfl ?_
 refine sh fol [(0,.func (.func 115) [] [.fptr (kA a.Kind a.Day a.Lot a.Amount a.Yarn a.Dye a.Order) 0,.fptr (kE b.Day b.Lots b.Holds) 0])] ?_
 obtain⟨d,c,h⟩:=bnd h
 refine sq (gr fol [1] (kAi (!d)) (ac (hs (.call 115 [.fptr (kA a.Kind a.Day a.Lot a.Amount a.Yarn a.Dye a.Order) 0,.fptr (kE b.Day b.Lots b.Holds) 0] [] [] [.fptr (kA a.Kind a.Day a.Lot a.Amount a.Yarn a.Dye a.Order) 0,.fptr (kE b.Day b.Lots b.Holds) 0] (.bool d)) (yX (FzL.cons (Ua (Still.fptr (AllST.cons tS (AllST.cons tI (AllST.cons tS (AllST.cons tI (AllST.cons tS (AllST.cons tS (AllST.cons tS AllST.nil))))))))) (FzL.cons (Ua (Still.fptr (AllST.cons tI (AllST.cons (qN qg _ (nl rfl)) (AllST.cons (qN qE _ (nl rfl)) AllST.nil))))) FzL.nil)) (qo7 a b c) tB)) az) ?_)
 refine Goes.ret ?_
 obtain rfl:=si h
 exact(gw2 [.bool (!d)] (Ub tB))
def qg3 (b:ky) (a:qo):Option Bool:=
 if(!(b.Kind==[114,101,99,101,105,118,101]))=true then
 some a.known
 else
 (if(!a.known)=true then
 some true
 else
 if(a.lot.Yarn==b.Yarn)=true then
 some (a.lot.Dye==b.Dye)
 else
 some false:Option Bool).bind fun c=>
 some c
theorem qo3 (b:ky) (a:qo) {res:Bool} (h:qg3 b a=some res):qJ ZT (.fn 116) [.fptr (kA b.Kind b.Day b.Lot b.Amount b.Yarn b.Dye b.Order) 0,.fptr (.str a.lot.Name::(kB a.lot.Yarn a.lot.Dye a.lot.Stock a.known a.hold.Lot a.hold.Order a.hold.Reserved a.hold.Taken a.free)) 0] [] (.bool res) []:=by
 unfold qg3 at h
 refine Uc Tryz.func116 rfl rfl (m:=27) rfl (rs:=[.tmp 2]) rfl (l:=[(0,.fptr (kA b.Kind b.Day b.Lot b.Amount b.Yarn b.Dye b.Order) 0),(1,.fptr (.str a.lot.Name::(kB a.lot.Yarn a.lot.Dye a.lot.Stock a.known a.hold.Lot a.hold.Order a.hold.Reserved a.hold.Taken a.free)) 0)]) rfl ?_
 refine sh fol [(0,.fptr (kA b.Kind b.Day b.Lot b.Amount b.Yarn b.Dye b.Order) 0),(1,.fptr (.str a.lot.Name::(kB a.lot.Yarn a.lot.Dye a.lot.Stock a.known a.hold.Lot a.hold.Order a.hold.Reserved a.hold.Taken a.free)) 0)] ?_
 refine sq ?_
 refine sh fol [(0,.fptr [.str b.Kind,.i b.Day,.str b.Lot,.i b.Amount,.str b.Yarn,.str b.Dye,.str b.Order] 0),(1,.fptr [.str a.lot.Name,.str a.lot.Yarn,.str a.lot.Dye,.i a.lot.Stock,.bool a.known,.str a.hold.Lot,.str a.hold.Order,.i a.hold.Reserved,.i a.hold.Taken,.i a.free] 0),(5,.bool (!(b.Kind==[114,101,99,101,105,118,101])))] ?_
 refine ihB h (fun g h=>?_) (fun g h=>?_)
 ·refine sh fol (kAi a.known) ?_
  refine Goes.ret ?_
  obtain rfl:=si h
  exact(gw2 [.bool a.known] (Ub tB))
 refine Goes.skip ?_
 refine sq ?_
 obtain⟨f,c,h⟩:=bnd h
 refine Goes.cut (s':=(ofG 27 (kAi f),[])) ?_ ?_
 ·rcases wyB c with⟨d,c⟩|⟨d,c⟩
  ·obtain rfl:=si c
   exact tr fol [3] [(2,.bool true)] (ac (gw d) az)
  rcases wyB c with⟨e,c⟩|⟨e,c⟩
  ·obtain rfl:=si c
   exact tr fol [3,10] (kAi (a.lot.Dye==b.Dye)) (ac (gw d) (ac (gw e) az))
  obtain rfl:=si c
  exact tr fol [3,10] kAv (ac (gw d) (ac (gw e) az))
 refine Goes.ret ?_
 obtain rfl:=si h
 exact(gw2 [.bool f] (Ub tB))
def qbe (a:ky) (b:qo):Option Bool:=
 (qg3 a b).bind fun c=>
 some (!c)
theorem qgj (b:ky) (a:qo) {res:Bool} (h:qbe b a=some res):qJ ZT (.fn 177) [.func (.func 116) [] [.fptr (kA b.Kind b.Day b.Lot b.Amount b.Yarn b.Dye b.Order) 0,.fptr (.str a.lot.Name::(kB a.lot.Yarn a.lot.Dye a.lot.Stock a.known a.hold.Lot a.hold.Order a.hold.Reserved a.hold.Taken a.free)) 0]] [] (.bool res) []:=by
 unfold qbe at h
 refine Uc Tryz.func177 rfl rfl (m:=6) rfl (rs:=[.tmp 2]) rfl (l:=[(0,.func (.func 116) [] [.fptr (kA b.Kind b.Day b.Lot b.Amount b.Yarn b.Dye b.Order) 0,.fptr (.str a.lot.Name::(kB a.lot.Yarn a.lot.Dye a.lot.Stock a.known a.hold.Lot a.hold.Order a.hold.Reserved a.hold.Taken a.free)) 0])]) rfl ?_
 refine sh fol [(0,.func (.func 116) [] [.fptr (kA b.Kind b.Day b.Lot b.Amount b.Yarn b.Dye b.Order) 0,.fptr (.str a.lot.Name::(kB a.lot.Yarn a.lot.Dye a.lot.Stock a.known a.hold.Lot a.hold.Order a.hold.Reserved a.hold.Taken a.free)) 0])] ?_
 obtain⟨d,c,h⟩:=bnd h
 refine sq (gr fol [1] (kAi (!d)) (ac (hs (.call 116 [.fptr (kA b.Kind b.Day b.Lot b.Amount b.Yarn b.Dye b.Order) 0,.fptr (.str a.lot.Name::(kB a.lot.Yarn a.lot.Dye a.lot.Stock a.known a.hold.Lot a.hold.Order a.hold.Reserved a.hold.Taken a.free)) 0] [] [] [.fptr (kA b.Kind b.Day b.Lot b.Amount b.Yarn b.Dye b.Order) 0,.fptr (.str a.lot.Name::(kB a.lot.Yarn a.lot.Dye a.lot.Stock a.known a.hold.Lot a.hold.Order a.hold.Reserved a.hold.Taken a.free)) 0] (.bool d)) (yX (FzL.cons (Ua (Still.fptr (AllST.cons tS (AllST.cons tI (AllST.cons tS (AllST.cons tI (AllST.cons tS (AllST.cons tS (AllST.cons tS AllST.nil))))))))) (FzL.cons (Ua (Still.fptr (AllST.cons tS (AllST.cons tS (AllST.cons tS (AllST.cons tI (AllST.cons tB (AllST.cons tS (AllST.cons tS (AllST.cons tI (AllST.cons tI (AllST.cons tI AllST.nil)))))))))))) FzL.nil)) (qo3 b a c) tB)) az) ?_)
 refine Goes.ret ?_
 obtain rfl:=si h
 exact(gw2 [.bool (!d)] (Ub tB))
def qji (a:qo) (b:ky):Option Bool:=
 (qpm a b.Amount).bind fun c=>
 some c
theorem qo1 (a:qo) (b:ky) {res:Bool} (h:qji a b=some res):qJ ZT (.fn 117) [.fptr [.func (.func 132) [] [],.func (.func 133) [] []] 0,.fptr (.str a.lot.Name::(kB a.lot.Yarn a.lot.Dye a.lot.Stock a.known a.hold.Lot a.hold.Order a.hold.Reserved a.hold.Taken a.free)) 0,.fptr (kA b.Kind b.Day b.Lot b.Amount b.Yarn b.Dye b.Order) 0] [] (.bool res) []:=by
 unfold qji at h
 refine Uc Tryz.func117 rfl rfl (m:=10) rfl (rs:=[.tmp 3]) rfl (l:=[(0,.fptr [.func (.func 132) [] [],.func (.func 133) [] []] 0),(1,.fptr (.str a.lot.Name::(kB a.lot.Yarn a.lot.Dye a.lot.Stock a.known a.hold.Lot a.hold.Order a.hold.Reserved a.hold.Taken a.free)) 0),(2,.fptr (kA b.Kind b.Day b.Lot b.Amount b.Yarn b.Dye b.Order) 0)]) rfl ?_
 refine sh fol [(0,.fptr [.func (.func 132) [] [],.func (.func 133) [] []] 0),(1,.fptr (.str a.lot.Name::(kB a.lot.Yarn a.lot.Dye a.lot.Stock a.known a.hold.Lot a.hold.Order a.hold.Reserved a.hold.Taken a.free)) 0),(2,.fptr (kA b.Kind b.Day b.Lot b.Amount b.Yarn b.Dye b.Order) 0)] ?_
 obtain⟨d,c,h⟩:=bnd h
 refine sq (gr fol [5] (kA6 d) (ac (cv (qtP a b.Amount c)) az) ?_)
 refine Goes.ret ?_
 obtain rfl:=si h
 exact(gw2 [.bool d] (Ub tB))
def qlI (a:qo) (b:ky):Option Bool:=
 (qji a b).bind fun c=>
 some (!c)
theorem qro (a:qo) (b:ky) {res:Bool} (h:qlI a b=some res):qJ ZT (.fn 177) [.func (.func 117) [] [.fptr [.func (.func 132) [] [],.func (.func 133) [] []] 0,.fptr (.str a.lot.Name::(kB a.lot.Yarn a.lot.Dye a.lot.Stock a.known a.hold.Lot a.hold.Order a.hold.Reserved a.hold.Taken a.free)) 0,.fptr (kA b.Kind b.Day b.Lot b.Amount b.Yarn b.Dye b.Order) 0]] [] (.bool res) []:=by
 unfold qlI at h
 refine Uc Tryz.func177 rfl rfl (m:=6) rfl (rs:=[.tmp 2]) rfl (l:=[(0,.func (.func 117) [] [.fptr [.func (.func 132) [] [],.func (.func 133) [] []] 0,.fptr (.str a.lot.Name::(kB a.lot.Yarn a.lot.Dye a.lot.Stock a.known a.hold.Lot a.hold.Order a.hold.Reserved a.hold.Taken a.free)) 0,.fptr (kA b.Kind b.Day b.Lot b.Amount b.Yarn b.Dye b.Order) 0])]) rfl ?_
 refine sh fol [(0,.func (.func 117) [] [.fptr [.func (.func 132) [] [],.func (.func 133) [] []] 0,.fptr (.str a.lot.Name::(kB a.lot.Yarn a.lot.Dye a.lot.Stock a.known a.hold.Lot a.hold.Order a.hold.Reserved a.hold.Taken a.free)) 0,.fptr (kA b.Kind b.Day b.Lot b.Amount b.Yarn b.Dye b.Order) 0])] ?_
 obtain⟨d,c,h⟩:=bnd h
 refine sq (gr fol [1] (kAi (!d)) (ac (hs (.call 117 [.fptr [.func (.func 132) [] [],.func (.func 133) [] []] 0,.fptr (.str a.lot.Name::(kB a.lot.Yarn a.lot.Dye a.lot.Stock a.known a.hold.Lot a.hold.Order a.hold.Reserved a.hold.Taken a.free)) 0,.fptr (kA b.Kind b.Day b.Lot b.Amount b.Yarn b.Dye b.Order) 0] [] [] [.fptr [.func (.func 132) [] [],.func (.func 133) [] []] 0,.fptr (.str a.lot.Name::(kB a.lot.Yarn a.lot.Dye a.lot.Stock a.known a.hold.Lot a.hold.Order a.hold.Reserved a.hold.Taken a.free)) 0,.fptr (kA b.Kind b.Day b.Lot b.Amount b.Yarn b.Dye b.Order) 0] (.bool d)) (yX (FzL.cons (Ua (Still.fptr (AllST.cons (Still.func AllST.nil AllST.nil) (AllST.cons (Still.func AllST.nil AllST.nil) AllST.nil)))) (FzL.cons (Ua (Still.fptr (AllST.cons tS (AllST.cons tS (AllST.cons tS (AllST.cons tI (AllST.cons tB (AllST.cons tS (AllST.cons tS (AllST.cons tI (AllST.cons tI (AllST.cons tI AllST.nil)))))))))))) (FzL.cons (Ua (Still.fptr (AllST.cons tS (AllST.cons tI (AllST.cons tS (AllST.cons tI (AllST.cons tS (AllST.cons tS (AllST.cons tS AllST.nil))))))))) FzL.nil))) (qo1 a b c) tB)) az) ?_)
 refine Goes.ret ?_
 obtain rfl:=si h
 exact(gw2 [.bool (!d)] (Ub tB))
def qi2 (b:qo) (c:ky):Option Bool:=
 (qkz b c.Amount).bind fun a=>
 some (decide ((if a.hold.Taken>a.lot.Stock then a.hold.Taken else a.lot.Stock)<=999999999))
theorem qoU (a:qo) (b:ky) {res:Bool} (h:qi2 a b=some res):qJ ZT (.fn 118) [.fptr [.func (.func 132) [] [],.func (.func 133) [] []] 0,.fptr (.str a.lot.Name::(kB a.lot.Yarn a.lot.Dye a.lot.Stock a.known a.hold.Lot a.hold.Order a.hold.Reserved a.hold.Taken a.free)) 0,.fptr (kA b.Kind b.Day b.Lot b.Amount b.Yarn b.Dye b.Order) 0] [] (.bool res) []:=by
 unfold qi2 at h
 refine Uc Tryz.func118 rfl rfl (m:=19) rfl (rs:=[.tmp 3]) rfl (l:=[(0,.fptr [.func (.func 132) [] [],.func (.func 133) [] []] 0),(1,.fptr (.str a.lot.Name::(kB a.lot.Yarn a.lot.Dye a.lot.Stock a.known a.hold.Lot a.hold.Order a.hold.Reserved a.hold.Taken a.free)) 0),(2,.fptr (kA b.Kind b.Day b.Lot b.Amount b.Yarn b.Dye b.Order) 0)]) rfl ?_
 refine sh fol [(0,.fptr [.func (.func 132) [] [],.func (.func 133) [] []] 0),(1,.fptr (.str a.lot.Name::(kB a.lot.Yarn a.lot.Dye a.lot.Stock a.known a.hold.Lot a.hold.Order a.hold.Reserved a.hold.Taken a.free)) 0),(2,.fptr (kA b.Kind b.Day b.Lot b.Amount b.Yarn b.Dye b.Order) 0)] ?_
 obtain⟨c,d,h⟩:=bnd h
 refine sq (gq fol [5] (kA3 []) (kC c.lot.Name c.lot.Yarn c.lot.Dye c.lot.Stock c.known c.hold.Lot c.hold.Order c.hold.Reserved c.hold.Taken c.free []) (ac (cv (qp0 a b.Amount d)) az) ?_)
 refine sh fol (kA6 (decide ((if c.hold.Taken>c.lot.Stock then c.hold.Taken else c.lot.Stock)<=999999999))) ?_
 refine Goes.ret ?_
 obtain rfl:=si h
 exact(gw2 [.bool (decide ((if c.hold.Taken>c.lot.Stock then c.hold.Taken else c.lot.Stock)<=999999999))] (Ub tB))
def qlk (a:qo) (b:ky):Option Bool:=
 (qi2 a b).bind fun c=>
 some (!c)
theorem qqW (a:qo) (b:ky) {res:Bool} (h:qlk a b=some res):qJ ZT (.fn 177) [.func (.func 118) [] [.fptr [.func (.func 132) [] [],.func (.func 133) [] []] 0,.fptr (.str a.lot.Name::(kB a.lot.Yarn a.lot.Dye a.lot.Stock a.known a.hold.Lot a.hold.Order a.hold.Reserved a.hold.Taken a.free)) 0,.fptr (kA b.Kind b.Day b.Lot b.Amount b.Yarn b.Dye b.Order) 0]] [] (.bool res) []:=by
 unfold qlk at h
 refine Uc Tryz.func177 rfl rfl (m:=6) rfl (rs:=[.tmp 2]) rfl (l:=[(0,.func (.func 118) [] [.fptr [.func (.func 132) [] [],.func (.func 133) [] []] 0,.fptr (.str a.lot.Name::(kB a.lot.Yarn a.lot.Dye a.lot.Stock a.known a.hold.Lot a.hold.Order a.hold.Reserved a.hold.Taken a.free)) 0,.fptr (kA b.Kind b.Day b.Lot b.Amount b.Yarn b.Dye b.Order) 0])]) rfl ?_
 refine sh fol [(0,.func (.func 118) [] [.fptr [.func (.func 132) [] [],.func (.func 133) [] []] 0,.fptr (.str a.lot.Name::(kB a.lot.Yarn a.lot.Dye a.lot.Stock a.known a.hold.Lot a.hold.Order a.hold.Reserved a.hold.Taken a.free)) 0,.fptr (kA b.Kind b.Day b.Lot b.Amount b.Yarn b.Dye b.Order) 0])] ?_
 obtain⟨d,c,h⟩:=bnd h
 refine sq (gr fol [1] (kAi (!d)) (ac (hs (.call 118 [.fptr [.func (.func 132) [] [],.func (.func 133) [] []] 0,.fptr (.str a.lot.Name::(kB a.lot.Yarn a.lot.Dye a.lot.Stock a.known a.hold.Lot a.hold.Order a.hold.Reserved a.hold.Taken a.free)) 0,.fptr (kA b.Kind b.Day b.Lot b.Amount b.Yarn b.Dye b.Order) 0] [] [] [.fptr [.func (.func 132) [] [],.func (.func 133) [] []] 0,.fptr (.str a.lot.Name::(kB a.lot.Yarn a.lot.Dye a.lot.Stock a.known a.hold.Lot a.hold.Order a.hold.Reserved a.hold.Taken a.free)) 0,.fptr (kA b.Kind b.Day b.Lot b.Amount b.Yarn b.Dye b.Order) 0] (.bool d)) (yX (FzL.cons (Ua (Still.fptr (AllST.cons (Still.func AllST.nil AllST.nil) (AllST.cons (Still.func AllST.nil AllST.nil) AllST.nil)))) (FzL.cons (Ua (Still.fptr (AllST.cons tS (AllST.cons tS (AllST.cons tS (AllST.cons tI (AllST.cons tB (AllST.cons tS (AllST.cons tS (AllST.cons tI (AllST.cons tI (AllST.cons tI AllST.nil)))))))))))) (FzL.cons (Ua (Still.fptr (AllST.cons tS (AllST.cons tI (AllST.cons tS (AllST.cons tI (AllST.cons tS (AllST.cons tS (AllST.cons tS AllST.nil))))))))) FzL.nil))) (qoU a b c) tB)) az) ?_)
 refine Goes.ret ?_
 obtain rfl:=si h
 exact(gw2 [.bool (!d)] (Ub tB))
def qg9 (N:Nat) (a:StateT) (b:ky):Option Bool:=
 (qjt N a b).bind fun c=>
 (if(c.Lots.length:Int)<=64 then
 some (decide ((c.Holds.length:Int)<=256))
 else
 some false:Option Bool).bind fun d=>
 some d
theorem qoJ (N:Nat) (b:StateT) (a:ky) {res:Bool} (h:qg9 N b a=some res):qJ ZT (.fn 119) [.fptr (kE b.Day b.Lots b.Holds) 0,.fptr (kA a.Kind a.Day a.Lot a.Amount a.Yarn a.Dye a.Order) 0] [] (.bool res) []:=by
 unfold qg9 at h
 refine Uc Tryz.func119 rfl rfl (m:=17) rfl (rs:=[.tmp 2]) rfl (l:=[(0,.fptr (kE b.Day b.Lots b.Holds) 0),(1,.fptr (kA a.Kind a.Day a.Lot a.Amount a.Yarn a.Dye a.Order) 0)]) rfl ?_
 refine sh fol [(0,.fptr (kE b.Day b.Lots b.Holds) 0),(1,.fptr (kA a.Kind a.Day a.Lot a.Amount a.Yarn a.Dye a.Order) 0)] ?_
 obtain⟨d,e,h⟩:=bnd h
 refine sq (gq fol [2] [(3,.ptr 0 0)] (kD d.Day d.Lots d.Holds []) (ac (cv (qs2 N b a e)) az) ?_)
 refine sq ?_
 obtain⟨g,c,h⟩:=bnd h
 refine Goes.cut (s':=(ofG 17 (kAi g),(kD d.Day d.Lots d.Holds []))) ?_ ?_
 ·rcases wyD c with⟨f,c⟩|⟨f,c⟩
  ·obtain rfl:=si c
   exact tr fol [4] (kAi (decide ((d.Holds.length:Int)<=256))) (ac (gw f) az)
  obtain rfl:=si c
  exact tr fol [4] kAv (ac (gw f) az)
 refine Goes.ret ?_
 obtain rfl:=si h
 exact(gw2 [.bool g] (Ub tB))
def qdq (N:Nat) (a:StateT) (b:ky):Option Bool:=
 (qg9 N a b).bind fun c=>
 some (!c)
theorem qgD (N:Nat) (b:StateT) (a:ky) {res:Bool} (h:qdq N b a=some res):qJ ZT (.fn 177) [.func (.func 119) [] [.fptr (kE b.Day b.Lots b.Holds) 0,.fptr (kA a.Kind a.Day a.Lot a.Amount a.Yarn a.Dye a.Order) 0]] [] (.bool res) []:=by
 unfold qdq at h
 refine Uc Tryz.func177 rfl rfl (m:=6) rfl (rs:=[.tmp 2]) rfl (l:=[(0,.func (.func 119) [] [.fptr (kE b.Day b.Lots b.Holds) 0,.fptr (kA a.Kind a.Day a.Lot a.Amount a.Yarn a.Dye a.Order) 0])]) rfl ?_
 refine sh fol [(0,.func (.func 119) [] [.fptr (kE b.Day b.Lots b.Holds) 0,.fptr (kA a.Kind a.Day a.Lot a.Amount a.Yarn a.Dye a.Order) 0])] ?_
 obtain⟨d,c,h⟩:=bnd h
 refine sq (gr fol [1] (kAi (!d)) (ac (hs (.call 119 [.fptr (kE b.Day b.Lots b.Holds) 0,.fptr (kA a.Kind a.Day a.Lot a.Amount a.Yarn a.Dye a.Order) 0] [] [] [.fptr (kE b.Day b.Lots b.Holds) 0,.fptr (kA a.Kind a.Day a.Lot a.Amount a.Yarn a.Dye a.Order) 0] (.bool d)) (yX (FzL.cons (Ua (Still.fptr (AllST.cons tI (AllST.cons (qN qg _ (nl rfl)) (AllST.cons (qN qE _ (nl rfl)) AllST.nil))))) (FzL.cons (Ua (Still.fptr (AllST.cons tS (AllST.cons tI (AllST.cons tS (AllST.cons tI (AllST.cons tS (AllST.cons tS (AllST.cons tS AllST.nil))))))))) FzL.nil)) (qoJ N b a c) tB)) az) ?_)
 refine Goes.ret ?_
 obtain rfl:=si h
 exact(gw2 [.bool (!d)] (Ub tB))
def qaD (N:Nat) (a:ky) (d:StateT) (b:qo):Nat->Int->Option (Unit⊕Int)
 |0,_=>none
 |K+1,c=>
  if c<5 then
  (if c=0 then
  (qcX a d).bind fun i=>
  some i
  else
  if c=1 then
  (qbe a b).bind fun j=>
  some j
  else
  if c=2 then
  (qlI b a).bind fun e=>
  some e
  else
  if c=3 then
  (qlk b a).bind fun f=>
  some f
  else
  if c=4 then
  (qdq N d a).bind fun g=>
  some g
  else
  none:Option Bool).bind fun h=>
  if h=true then
  some (.inr c)
  else
  qaD N a d b K (w64 (c+1))
  else
  some (.inl ())
def qgc (N:Nat) (a:ky) (b:StateT) (c:qo):Option Int:=
 (qaD N a b c N 0).bind (fun
 |(.inl ())=>
 some (-1)
 |(.inr d)=>
 some d)
theorem qnx (N:Nat) (a:ky) (c:StateT) (b:qo) {res:Int} (h:qgc N a c b=some res):qJ ZT (.fn 176) [.fslice 5 (qnf a c b),.func (.func 177) [] []] [] (.i res) []:=by
 unfold qgc at h
 refine Uc Tryz.func176 rfl rfl (m:=19) rfl (rs:=[.tmp 4]) rfl (l:=[(0,.fslice 5 (qnf a c b)),(1,.func (.func 177) [] [])]) rfl ?_
 refine sh fol [(0,.fslice 5 (qnf a c b)),(1,.func (.func 177) [] [])] ?_
 refine sq ?_
 refine sh fol ((0,.fslice 5 (qnf a c b))::(1,.func (.func 177) [] [])::kBA) ?_
 refine Goes.block ?_
 obtain⟨u,g2,h⟩:=bnd h
 refine Goes.imp (Q:=fun x s'=>(x= .exit 0/\(.inl ())=u/\Sub s' (ofG 19 [],[]))\/(x= .ret/\ ∃y,(.inr y)=u/\qbg ZT [.tmp 4] (.i y) .ret s')) ?_ ?_
 ·refine Ud (fun M s=> ∃(e:Int),s=(ofG 19 ((0,.fslice 5 (qnf a c b))::(1,.func (.func 177) [] [])::(kAJ e)),[])/\qaD N a c b M e=some u) ?_ (m:=N) ⟨_,rfl,g2⟩
  rintro M s ⟨e,rfl,g2⟩
  cases M with
  |zero=>simp only[qaD]at g2;cases g2
  |succ M=>
   rw[qaD]at g2
   refine sh fol ((0,.fslice 5 (qnf a c b))::(1,.func (.func 177) [] [])::(kA5 e (decide (e<5)))) ?_
   refine sq ?_
   refine ihD g2 (fun E g2=>?_) (fun E g2=>?_)
   ·refine Goes.skip ?_
    refine sq (Goes.block ?_)
    refine sh fol ((0,.fslice 5 (qnf a c b))::(1,.func (.func 177) [] [])::(5,.i e)::(kAJ e)) ?_
    refine sq ?_
    obtain⟨v,d,g2⟩:=bnd g2
    refine Goes.cut (s':=(ofG 19 ((0,.fslice 5 (qnf a c b))::(1,.func (.func 177) [] [])::(kK e v)),[])) ?_ ?_
    ·rcases wyD d with⟨z,d⟩|⟨z,d⟩
     ·obtain⟨A,k,d⟩:=bnd d
      obtain rfl:=si d
      exact tr fol [3,5] ((0,.fslice 5 (qnf a c b))::(1,.func (.func 177) [] [])::(kK e A)) (ac (hs (.done (.opt (zi ZT 221 (.fslice 5 (qnf a c b)) (.i e))) (.fptr [.func (.func 115) [] [.fptr (kA a.Kind a.Day a.Lot a.Amount a.Yarn a.Dye a.Order) 0,.fptr (kE c.Day c.Lots c.Holds) 0],.func (.func 116) [] [.fptr (kA a.Kind a.Day a.Lot a.Amount a.Yarn a.Dye a.Order) 0,.fptr (.str b.lot.Name::(kB b.lot.Yarn b.lot.Dye b.lot.Stock b.known b.hold.Lot b.hold.Order b.hold.Reserved b.hold.Taken b.free)) 0],.func (.func 117) [] [.fptr [.func (.func 132) [] [],.func (.func 133) [] []] 0,.fptr (.str b.lot.Name::(kB b.lot.Yarn b.lot.Dye b.lot.Stock b.known b.hold.Lot b.hold.Order b.hold.Reserved b.hold.Taken b.free)) 0,.fptr (kA a.Kind a.Day a.Lot a.Amount a.Yarn a.Dye a.Order) 0],.func (.func 118) [] [.fptr [.func (.func 132) [] [],.func (.func 133) [] []] 0,.fptr (.str b.lot.Name::(kB b.lot.Yarn b.lot.Dye b.lot.Stock b.known b.hold.Lot b.hold.Order b.hold.Reserved b.hold.Taken b.free)) 0,.fptr (kA a.Kind a.Day a.Lot a.Amount a.Yarn a.Dye a.Order) 0],.func (.func 119) [] [.fptr (kE c.Day c.Lots c.Holds) 0,.fptr (kA a.Kind a.Day a.Lot a.Amount a.Yarn a.Dye a.Order) 0]] 0)) (ixA (ot z) (by kernel_rfl))) (ac (hs (.call 177 [.func (.func 115) [] [.fptr (kA a.Kind a.Day a.Lot a.Amount a.Yarn a.Dye a.Order) 0,.fptr (kE c.Day c.Lots c.Holds) 0]] [] [] [.func (.func 115) [] [.fptr (kA a.Kind a.Day a.Lot a.Amount a.Yarn a.Dye a.Order) 0,.fptr (kE c.Day c.Lots c.Holds) 0]] (.bool A)) (yX (FzL.cons (Fz.func FzL.nil (FzL.cons (Ua (Still.fptr (AllST.cons tS (AllST.cons tI (AllST.cons tS (AllST.cons tI (AllST.cons tS (AllST.cons tS (AllST.cons tS AllST.nil))))))))) (FzL.cons (Ua (Still.fptr (AllST.cons tI (AllST.cons (qN qg _ (nl rfl)) (AllST.cons (qN qE _ (nl rfl)) AllST.nil))))) FzL.nil))) FzL.nil) (qgt a c k) tB)) az))
     rcases wyD d with⟨B,d⟩|⟨B,d⟩
     ·obtain⟨C,n,d⟩:=bnd d
      obtain rfl:=si d
      exact tr fol [3,5] ((0,.fslice 5 (qnf a c b))::(1,.func (.func 177) [] [])::(kK e C)) (ac (hs (.done (.opt (zi ZT 221 (.fslice 5 (qnf a c b)) (.i e))) (.fptr [.func (.func 115) [] [.fptr (kA a.Kind a.Day a.Lot a.Amount a.Yarn a.Dye a.Order) 0,.fptr (kE c.Day c.Lots c.Holds) 0],.func (.func 116) [] [.fptr (kA a.Kind a.Day a.Lot a.Amount a.Yarn a.Dye a.Order) 0,.fptr (.str b.lot.Name::(kB b.lot.Yarn b.lot.Dye b.lot.Stock b.known b.hold.Lot b.hold.Order b.hold.Reserved b.hold.Taken b.free)) 0],.func (.func 117) [] [.fptr [.func (.func 132) [] [],.func (.func 133) [] []] 0,.fptr (.str b.lot.Name::(kB b.lot.Yarn b.lot.Dye b.lot.Stock b.known b.hold.Lot b.hold.Order b.hold.Reserved b.hold.Taken b.free)) 0,.fptr (kA a.Kind a.Day a.Lot a.Amount a.Yarn a.Dye a.Order) 0],.func (.func 118) [] [.fptr [.func (.func 132) [] [],.func (.func 133) [] []] 0,.fptr (.str b.lot.Name::(kB b.lot.Yarn b.lot.Dye b.lot.Stock b.known b.hold.Lot b.hold.Order b.hold.Reserved b.hold.Taken b.free)) 0,.fptr (kA a.Kind a.Day a.Lot a.Amount a.Yarn a.Dye a.Order) 0],.func (.func 119) [] [.fptr (kE c.Day c.Lots c.Holds) 0,.fptr (kA a.Kind a.Day a.Lot a.Amount a.Yarn a.Dye a.Order) 0]] 1)) (ixA (ot B) (by kernel_rfl))) (ac (hs (.call 177 [.func (.func 116) [] [.fptr (kA a.Kind a.Day a.Lot a.Amount a.Yarn a.Dye a.Order) 0,.fptr (.str b.lot.Name::(kB b.lot.Yarn b.lot.Dye b.lot.Stock b.known b.hold.Lot b.hold.Order b.hold.Reserved b.hold.Taken b.free)) 0]] [] [] [.func (.func 116) [] [.fptr (kA a.Kind a.Day a.Lot a.Amount a.Yarn a.Dye a.Order) 0,.fptr (.str b.lot.Name::(kB b.lot.Yarn b.lot.Dye b.lot.Stock b.known b.hold.Lot b.hold.Order b.hold.Reserved b.hold.Taken b.free)) 0]] (.bool C)) (yX (FzL.cons (Fz.func FzL.nil (FzL.cons (Ua (Still.fptr (AllST.cons tS (AllST.cons tI (AllST.cons tS (AllST.cons tI (AllST.cons tS (AllST.cons tS (AllST.cons tS AllST.nil))))))))) (FzL.cons (Ua (Still.fptr (AllST.cons tS (AllST.cons tS (AllST.cons tS (AllST.cons tI (AllST.cons tB (AllST.cons tS (AllST.cons tS (AllST.cons tI (AllST.cons tI (AllST.cons tI AllST.nil)))))))))))) FzL.nil))) FzL.nil) (qgj a b n) tB)) az))
     rcases wyD d with⟨D,d⟩|⟨D,d⟩
     ·obtain⟨o,f,d⟩:=bnd d
      obtain rfl:=si d
      exact tr fol [3,5] ((0,.fslice 5 (qnf a c b))::(1,.func (.func 177) [] [])::(kK e o)) (ac (hs (.done (.opt (zi ZT 221 (.fslice 5 (qnf a c b)) (.i e))) (.fptr [.func (.func 115) [] [.fptr (kA a.Kind a.Day a.Lot a.Amount a.Yarn a.Dye a.Order) 0,.fptr (kE c.Day c.Lots c.Holds) 0],.func (.func 116) [] [.fptr (kA a.Kind a.Day a.Lot a.Amount a.Yarn a.Dye a.Order) 0,.fptr (.str b.lot.Name::(kB b.lot.Yarn b.lot.Dye b.lot.Stock b.known b.hold.Lot b.hold.Order b.hold.Reserved b.hold.Taken b.free)) 0],.func (.func 117) [] [.fptr [.func (.func 132) [] [],.func (.func 133) [] []] 0,.fptr (.str b.lot.Name::(kB b.lot.Yarn b.lot.Dye b.lot.Stock b.known b.hold.Lot b.hold.Order b.hold.Reserved b.hold.Taken b.free)) 0,.fptr (kA a.Kind a.Day a.Lot a.Amount a.Yarn a.Dye a.Order) 0],.func (.func 118) [] [.fptr [.func (.func 132) [] [],.func (.func 133) [] []] 0,.fptr (.str b.lot.Name::(kB b.lot.Yarn b.lot.Dye b.lot.Stock b.known b.hold.Lot b.hold.Order b.hold.Reserved b.hold.Taken b.free)) 0,.fptr (kA a.Kind a.Day a.Lot a.Amount a.Yarn a.Dye a.Order) 0],.func (.func 119) [] [.fptr (kE c.Day c.Lots c.Holds) 0,.fptr (kA a.Kind a.Day a.Lot a.Amount a.Yarn a.Dye a.Order) 0]] 2)) (ixA (ot D) (by kernel_rfl))) (ac (hs (.call 177 [.func (.func 117) [] [.fptr [.func (.func 132) [] [],.func (.func 133) [] []] 0,.fptr (.str b.lot.Name::(kB b.lot.Yarn b.lot.Dye b.lot.Stock b.known b.hold.Lot b.hold.Order b.hold.Reserved b.hold.Taken b.free)) 0,.fptr (kA a.Kind a.Day a.Lot a.Amount a.Yarn a.Dye a.Order) 0]] [] [] [.func (.func 117) [] [.fptr [.func (.func 132) [] [],.func (.func 133) [] []] 0,.fptr (.str b.lot.Name::(kB b.lot.Yarn b.lot.Dye b.lot.Stock b.known b.hold.Lot b.hold.Order b.hold.Reserved b.hold.Taken b.free)) 0,.fptr (kA a.Kind a.Day a.Lot a.Amount a.Yarn a.Dye a.Order) 0]] (.bool o)) (yX (FzL.cons (Fz.func FzL.nil (FzL.cons (Ua (Still.fptr (AllST.cons (Still.func AllST.nil AllST.nil) (AllST.cons (Still.func AllST.nil AllST.nil) AllST.nil)))) (FzL.cons (Ua (Still.fptr (AllST.cons tS (AllST.cons tS (AllST.cons tS (AllST.cons tI (AllST.cons tB (AllST.cons tS (AllST.cons tS (AllST.cons tI (AllST.cons tI (AllST.cons tI AllST.nil)))))))))))) (FzL.cons (Ua (Still.fptr (AllST.cons tS (AllST.cons tI (AllST.cons tS (AllST.cons tI (AllST.cons tS (AllST.cons tS (AllST.cons tS AllST.nil))))))))) FzL.nil)))) FzL.nil) (qro b a f) tB)) az))
     rcases wyD d with⟨p,d⟩|⟨p,d⟩
     ·obtain⟨q,g,d⟩:=bnd d
      obtain rfl:=si d
      exact tr fol [3,5] ((0,.fslice 5 (qnf a c b))::(1,.func (.func 177) [] [])::(kK e q)) (ac (hs (.done (.opt (zi ZT 221 (.fslice 5 (qnf a c b)) (.i e))) (.fptr [.func (.func 115) [] [.fptr (kA a.Kind a.Day a.Lot a.Amount a.Yarn a.Dye a.Order) 0,.fptr (kE c.Day c.Lots c.Holds) 0],.func (.func 116) [] [.fptr (kA a.Kind a.Day a.Lot a.Amount a.Yarn a.Dye a.Order) 0,.fptr (.str b.lot.Name::(kB b.lot.Yarn b.lot.Dye b.lot.Stock b.known b.hold.Lot b.hold.Order b.hold.Reserved b.hold.Taken b.free)) 0],.func (.func 117) [] [.fptr [.func (.func 132) [] [],.func (.func 133) [] []] 0,.fptr (.str b.lot.Name::(kB b.lot.Yarn b.lot.Dye b.lot.Stock b.known b.hold.Lot b.hold.Order b.hold.Reserved b.hold.Taken b.free)) 0,.fptr (kA a.Kind a.Day a.Lot a.Amount a.Yarn a.Dye a.Order) 0],.func (.func 118) [] [.fptr [.func (.func 132) [] [],.func (.func 133) [] []] 0,.fptr (.str b.lot.Name::(kB b.lot.Yarn b.lot.Dye b.lot.Stock b.known b.hold.Lot b.hold.Order b.hold.Reserved b.hold.Taken b.free)) 0,.fptr (kA a.Kind a.Day a.Lot a.Amount a.Yarn a.Dye a.Order) 0],.func (.func 119) [] [.fptr (kE c.Day c.Lots c.Holds) 0,.fptr (kA a.Kind a.Day a.Lot a.Amount a.Yarn a.Dye a.Order) 0]] 3)) (ixA (ot p) (by kernel_rfl))) (ac (hs (.call 177 [.func (.func 118) [] [.fptr [.func (.func 132) [] [],.func (.func 133) [] []] 0,.fptr (.str b.lot.Name::(kB b.lot.Yarn b.lot.Dye b.lot.Stock b.known b.hold.Lot b.hold.Order b.hold.Reserved b.hold.Taken b.free)) 0,.fptr (kA a.Kind a.Day a.Lot a.Amount a.Yarn a.Dye a.Order) 0]] [] [] [.func (.func 118) [] [.fptr [.func (.func 132) [] [],.func (.func 133) [] []] 0,.fptr (.str b.lot.Name::(kB b.lot.Yarn b.lot.Dye b.lot.Stock b.known b.hold.Lot b.hold.Order b.hold.Reserved b.hold.Taken b.free)) 0,.fptr (kA a.Kind a.Day a.Lot a.Amount a.Yarn a.Dye a.Order) 0]] (.bool q)) (yX (FzL.cons (Fz.func FzL.nil (FzL.cons (Ua (Still.fptr (AllST.cons (Still.func AllST.nil AllST.nil) (AllST.cons (Still.func AllST.nil AllST.nil) AllST.nil)))) (FzL.cons (Ua (Still.fptr (AllST.cons tS (AllST.cons tS (AllST.cons tS (AllST.cons tI (AllST.cons tB (AllST.cons tS (AllST.cons tS (AllST.cons tI (AllST.cons tI (AllST.cons tI AllST.nil)))))))))))) (FzL.cons (Ua (Still.fptr (AllST.cons tS (AllST.cons tI (AllST.cons tS (AllST.cons tI (AllST.cons tS (AllST.cons tS (AllST.cons tS AllST.nil))))))))) FzL.nil)))) FzL.nil) (qqW b a g) tB)) az))
     rcases wyD d with⟨r,d⟩|⟨r,d⟩
     ·obtain⟨t,j,d⟩:=bnd d
      obtain rfl:=si d
      exact tr fol [3,5] ((0,.fslice 5 (qnf a c b))::(1,.func (.func 177) [] [])::(kK e t)) (ac (hs (.done (.opt (zi ZT 221 (.fslice 5 (qnf a c b)) (.i e))) (.fptr [.func (.func 115) [] [.fptr (kA a.Kind a.Day a.Lot a.Amount a.Yarn a.Dye a.Order) 0,.fptr (kE c.Day c.Lots c.Holds) 0],.func (.func 116) [] [.fptr (kA a.Kind a.Day a.Lot a.Amount a.Yarn a.Dye a.Order) 0,.fptr (.str b.lot.Name::(kB b.lot.Yarn b.lot.Dye b.lot.Stock b.known b.hold.Lot b.hold.Order b.hold.Reserved b.hold.Taken b.free)) 0],.func (.func 117) [] [.fptr [.func (.func 132) [] [],.func (.func 133) [] []] 0,.fptr (.str b.lot.Name::(kB b.lot.Yarn b.lot.Dye b.lot.Stock b.known b.hold.Lot b.hold.Order b.hold.Reserved b.hold.Taken b.free)) 0,.fptr (kA a.Kind a.Day a.Lot a.Amount a.Yarn a.Dye a.Order) 0],.func (.func 118) [] [.fptr [.func (.func 132) [] [],.func (.func 133) [] []] 0,.fptr (.str b.lot.Name::(kB b.lot.Yarn b.lot.Dye b.lot.Stock b.known b.hold.Lot b.hold.Order b.hold.Reserved b.hold.Taken b.free)) 0,.fptr (kA a.Kind a.Day a.Lot a.Amount a.Yarn a.Dye a.Order) 0],.func (.func 119) [] [.fptr (kE c.Day c.Lots c.Holds) 0,.fptr (kA a.Kind a.Day a.Lot a.Amount a.Yarn a.Dye a.Order) 0]] 4)) (ixA (ot r) (by kernel_rfl))) (ac (hs (.call 177 [.func (.func 119) [] [.fptr (kE c.Day c.Lots c.Holds) 0,.fptr (kA a.Kind a.Day a.Lot a.Amount a.Yarn a.Dye a.Order) 0]] [] [] [.func (.func 119) [] [.fptr (kE c.Day c.Lots c.Holds) 0,.fptr (kA a.Kind a.Day a.Lot a.Amount a.Yarn a.Dye a.Order) 0]] (.bool t)) (yX (FzL.cons (Fz.func FzL.nil (FzL.cons (Ua (Still.fptr (AllST.cons tI (AllST.cons (qN qg _ (nl rfl)) (AllST.cons (qN qE _ (nl rfl)) AllST.nil))))) (FzL.cons (Ua (Still.fptr (AllST.cons tS (AllST.cons tI (AllST.cons tS (AllST.cons tI (AllST.cons tS (AllST.cons tS (AllST.cons tS AllST.nil))))))))) FzL.nil))) FzL.nil) (qgD N c a j) tB)) az))
     cases d
    refine ihB g2 (fun w g2=>?_) (fun w g2=>?_)
    ·refine sh fol (kAz e) ?_
     refine Goes.ret ?_
     obtain rfl:=si g2
     exact Or.inr (⟨rfl,_,rfl,(gw2 [.i e] (Ub tI))⟩)
    refine Goes.skip ?_
    refine gh fol ((0,.fslice 5 (qnf a c b))::(1,.func (.func 177) [] [])::(kAJ (w64 (e+1)))) ?_
    exact⟨M,(ofG 19 ((0,.fslice 5 (qnf a c b))::(1,.func (.func 177) [] [])::(kAJ (w64 (e+1)))),[]),Nat.lt_succ_self _,(Sub.refl _),_,rfl,g2⟩
   refine Goes.exit ?_
   obtain rfl:=si g2
   exact Or.inl (⟨rfl,rfl,(Sub.keep [] rfl rfl)⟩)
 rintro x s' (⟨rfl,rfl,hsub⟩|⟨rfl,F,rfl,hret⟩)
 ·try dsimp only at h
  refine Goes.sub hsub ?_
  refine sh fol kAp ?_
  refine Goes.ret ?_
  obtain rfl:=si h
  exact(gw2 [.i (-1)] (Ub tI))
 try dsimp only at h
 obtain rfl:=si h
 exact hret
def qlR (N:Nat) (a:ky) (b:StateT) (c:qo):Option Int:=
 (qgc N a b c).bind fun d=>
 some (w64 (1+d))
theorem qtg (N:Nat) (a:ky) (b:StateT) (c:qo) {res:Int} (h:qlR N a b c=some res):qJ ZT (.fn 114) [.fslice 5 (qnf a b c)] [] (.i res) []:=by
 unfold qlR at h
 refine Uc Tryz.func114 rfl rfl (m:=6) rfl (rs:=[.tmp 2]) rfl (l:=[(0,.fslice 5 (qnf a b c))]) rfl ?_
 refine sh fol [(0,.fslice 5 (qnf a b c))] ?_
 obtain⟨e,d,h⟩:=bnd h
 refine sq (gr fol [1] (kA2 (w64 (1+e))) (ac (hs (.call 176 [.fslice 5 (qnf a b c),.func (.func 177) [] []] [] [] [.fslice 5 (qnf a b c),.func (.func 177) [] []] (.i e)) (yX (FzL.cons (Ua (Still.fslice (AllST.cons (Still.func AllST.nil (AllST.cons (Still.fptr (AllST.cons tS (AllST.cons tI (AllST.cons tS (AllST.cons tI (AllST.cons tS (AllST.cons tS (AllST.cons tS AllST.nil)))))))) (AllST.cons (Still.fptr (AllST.cons tI (AllST.cons (qN qg _ (nl rfl)) (AllST.cons (qN qE _ (nl rfl)) AllST.nil)))) AllST.nil))) (AllST.cons (Still.func AllST.nil (AllST.cons (Still.fptr (AllST.cons tS (AllST.cons tI (AllST.cons tS (AllST.cons tI (AllST.cons tS (AllST.cons tS (AllST.cons tS AllST.nil)))))))) (AllST.cons (Still.fptr (AllST.cons tS (AllST.cons tS (AllST.cons tS (AllST.cons tI (AllST.cons tB (AllST.cons tS (AllST.cons tS (AllST.cons tI (AllST.cons tI (AllST.cons tI AllST.nil))))))))))) AllST.nil))) (AllST.cons (Still.func AllST.nil (AllST.cons (Still.fptr (AllST.cons (Still.func AllST.nil AllST.nil) (AllST.cons (Still.func AllST.nil AllST.nil) AllST.nil))) (AllST.cons (Still.fptr (AllST.cons tS (AllST.cons tS (AllST.cons tS (AllST.cons tI (AllST.cons tB (AllST.cons tS (AllST.cons tS (AllST.cons tI (AllST.cons tI (AllST.cons tI AllST.nil))))))))))) (AllST.cons (Still.fptr (AllST.cons tS (AllST.cons tI (AllST.cons tS (AllST.cons tI (AllST.cons tS (AllST.cons tS (AllST.cons tS AllST.nil)))))))) AllST.nil)))) (AllST.cons (Still.func AllST.nil (AllST.cons (Still.fptr (AllST.cons (Still.func AllST.nil AllST.nil) (AllST.cons (Still.func AllST.nil AllST.nil) AllST.nil))) (AllST.cons (Still.fptr (AllST.cons tS (AllST.cons tS (AllST.cons tS (AllST.cons tI (AllST.cons tB (AllST.cons tS (AllST.cons tS (AllST.cons tI (AllST.cons tI (AllST.cons tI AllST.nil))))))))))) (AllST.cons (Still.fptr (AllST.cons tS (AllST.cons tI (AllST.cons tS (AllST.cons tI (AllST.cons tS (AllST.cons tS (AllST.cons tS AllST.nil)))))))) AllST.nil)))) (AllST.cons (Still.func AllST.nil (AllST.cons (Still.fptr (AllST.cons tI (AllST.cons (qN qg _ (nl rfl)) (AllST.cons (qN qE _ (nl rfl)) AllST.nil)))) (AllST.cons (Still.fptr (AllST.cons tS (AllST.cons tI (AllST.cons tS (AllST.cons tI (AllST.cons tS (AllST.cons tS (AllST.cons tS AllST.nil)))))))) AllST.nil))) AllST.nil))))))) (FzL.cons (Fz.func FzL.nil FzL.nil) FzL.nil)) (qnx N a b c d) tI)) az) ?_)
 refine Goes.ret ?_
 obtain rfl:=si h
 exact(gw2 [.i (w64 (1+e))] (Ub tI))
def qiG (a:qo) (b:ky):Option Bool:=
 (qpx a b.Amount).bind fun c=>
 some c
theorem qoG (a:qo) (b:ky) {res:Bool} (h:qiG a b=some res):qJ ZT (.fn 117) [.fptr [.func (.func 134) [] [],.func (.func 135) [] []] 0,.fptr (.str a.lot.Name::(kB a.lot.Yarn a.lot.Dye a.lot.Stock a.known a.hold.Lot a.hold.Order a.hold.Reserved a.hold.Taken a.free)) 0,.fptr (kA b.Kind b.Day b.Lot b.Amount b.Yarn b.Dye b.Order) 0] [] (.bool res) []:=by
 unfold qiG at h
 refine Uc Tryz.func117 rfl rfl (m:=10) rfl (rs:=[.tmp 3]) rfl (l:=[(0,.fptr [.func (.func 134) [] [],.func (.func 135) [] []] 0),(1,.fptr (.str a.lot.Name::(kB a.lot.Yarn a.lot.Dye a.lot.Stock a.known a.hold.Lot a.hold.Order a.hold.Reserved a.hold.Taken a.free)) 0),(2,.fptr (kA b.Kind b.Day b.Lot b.Amount b.Yarn b.Dye b.Order) 0)]) rfl ?_
 refine sh fol [(0,.fptr [.func (.func 134) [] [],.func (.func 135) [] []] 0),(1,.fptr (.str a.lot.Name::(kB a.lot.Yarn a.lot.Dye a.lot.Stock a.known a.hold.Lot a.hold.Order a.hold.Reserved a.hold.Taken a.free)) 0),(2,.fptr (kA b.Kind b.Day b.Lot b.Amount b.Yarn b.Dye b.Order) 0)] ?_
 obtain⟨d,c,h⟩:=bnd h
 refine sq (gr fol [5] (kA6 d) (ac (cv (qt0 a b.Amount c)) az) ?_)
 refine Goes.ret ?_
 obtain rfl:=si h
 exact(gw2 [.bool d] (Ub tB))
def qlr (a:qo) (b:ky):Option Bool:=
 (qiG a b).bind fun c=>
 some (!c)
theorem qrQ (a:qo) (b:ky) {res:Bool} (h:qlr a b=some res):qJ ZT (.fn 177) [.func (.func 117) [] [.fptr [.func (.func 134) [] [],.func (.func 135) [] []] 0,.fptr (.str a.lot.Name::(kB a.lot.Yarn a.lot.Dye a.lot.Stock a.known a.hold.Lot a.hold.Order a.hold.Reserved a.hold.Taken a.free)) 0,.fptr (kA b.Kind b.Day b.Lot b.Amount b.Yarn b.Dye b.Order) 0]] [] (.bool res) []:=by
 unfold qlr at h
 refine Uc Tryz.func177 rfl rfl (m:=6) rfl (rs:=[.tmp 2]) rfl (l:=[(0,.func (.func 117) [] [.fptr [.func (.func 134) [] [],.func (.func 135) [] []] 0,.fptr (.str a.lot.Name::(kB a.lot.Yarn a.lot.Dye a.lot.Stock a.known a.hold.Lot a.hold.Order a.hold.Reserved a.hold.Taken a.free)) 0,.fptr (kA b.Kind b.Day b.Lot b.Amount b.Yarn b.Dye b.Order) 0])]) rfl ?_
 refine sh fol [(0,.func (.func 117) [] [.fptr [.func (.func 134) [] [],.func (.func 135) [] []] 0,.fptr (.str a.lot.Name::(kB a.lot.Yarn a.lot.Dye a.lot.Stock a.known a.hold.Lot a.hold.Order a.hold.Reserved a.hold.Taken a.free)) 0,.fptr (kA b.Kind b.Day b.Lot b.Amount b.Yarn b.Dye b.Order) 0])] ?_
 obtain⟨d,c,h⟩:=bnd h
 refine sq (gr fol [1] (kAi (!d)) (ac (hs (.call 117 [.fptr [.func (.func 134) [] [],.func (.func 135) [] []] 0,.fptr (.str a.lot.Name::(kB a.lot.Yarn a.lot.Dye a.lot.Stock a.known a.hold.Lot a.hold.Order a.hold.Reserved a.hold.Taken a.free)) 0,.fptr (kA b.Kind b.Day b.Lot b.Amount b.Yarn b.Dye b.Order) 0] [] [] [.fptr [.func (.func 134) [] [],.func (.func 135) [] []] 0,.fptr (.str a.lot.Name::(kB a.lot.Yarn a.lot.Dye a.lot.Stock a.known a.hold.Lot a.hold.Order a.hold.Reserved a.hold.Taken a.free)) 0,.fptr (kA b.Kind b.Day b.Lot b.Amount b.Yarn b.Dye b.Order) 0] (.bool d)) (yX (FzL.cons (Ua (Still.fptr (AllST.cons (Still.func AllST.nil AllST.nil) (AllST.cons (Still.func AllST.nil AllST.nil) AllST.nil)))) (FzL.cons (Ua (Still.fptr (AllST.cons tS (AllST.cons tS (AllST.cons tS (AllST.cons tI (AllST.cons tB (AllST.cons tS (AllST.cons tS (AllST.cons tI (AllST.cons tI (AllST.cons tI AllST.nil)))))))))))) (FzL.cons (Ua (Still.fptr (AllST.cons tS (AllST.cons tI (AllST.cons tS (AllST.cons tI (AllST.cons tS (AllST.cons tS (AllST.cons tS AllST.nil))))))))) FzL.nil))) (qoG a b c) tB)) az) ?_)
 refine Goes.ret ?_
 obtain rfl:=si h
 exact(gw2 [.bool (!d)] (Ub tB))
def qjh (b:qo) (c:ky):Option Bool:=
 (qkE b c.Amount).bind fun a=>
 some (decide ((if a.hold.Taken>a.lot.Stock then a.hold.Taken else a.lot.Stock)<=999999999))
theorem qoQ (a:qo) (b:ky) {res:Bool} (h:qjh a b=some res):qJ ZT (.fn 118) [.fptr [.func (.func 134) [] [],.func (.func 135) [] []] 0,.fptr (.str a.lot.Name::(kB a.lot.Yarn a.lot.Dye a.lot.Stock a.known a.hold.Lot a.hold.Order a.hold.Reserved a.hold.Taken a.free)) 0,.fptr (kA b.Kind b.Day b.Lot b.Amount b.Yarn b.Dye b.Order) 0] [] (.bool res) []:=by
 unfold qjh at h
 refine Uc Tryz.func118 rfl rfl (m:=19) rfl (rs:=[.tmp 3]) rfl (l:=[(0,.fptr [.func (.func 134) [] [],.func (.func 135) [] []] 0),(1,.fptr (.str a.lot.Name::(kB a.lot.Yarn a.lot.Dye a.lot.Stock a.known a.hold.Lot a.hold.Order a.hold.Reserved a.hold.Taken a.free)) 0),(2,.fptr (kA b.Kind b.Day b.Lot b.Amount b.Yarn b.Dye b.Order) 0)]) rfl ?_
 refine sh fol [(0,.fptr [.func (.func 134) [] [],.func (.func 135) [] []] 0),(1,.fptr (.str a.lot.Name::(kB a.lot.Yarn a.lot.Dye a.lot.Stock a.known a.hold.Lot a.hold.Order a.hold.Reserved a.hold.Taken a.free)) 0),(2,.fptr (kA b.Kind b.Day b.Lot b.Amount b.Yarn b.Dye b.Order) 0)] ?_
 obtain⟨c,d,h⟩:=bnd h
 refine sq (gq fol [5] (kA3 []) (kC c.lot.Name c.lot.Yarn c.lot.Dye c.lot.Stock c.known c.hold.Lot c.hold.Order c.hold.Reserved c.hold.Taken c.free []) (ac (cv (qpU a b.Amount d)) az) ?_)
 refine sh fol (kA6 (decide ((if c.hold.Taken>c.lot.Stock then c.hold.Taken else c.lot.Stock)<=999999999))) ?_
 refine Goes.ret ?_
 obtain rfl:=si h
 exact(gw2 [.bool (decide ((if c.hold.Taken>c.lot.Stock then c.hold.Taken else c.lot.Stock)<=999999999))] (Ub tB))
def qlC (a:qo) (b:ky):Option Bool:=
 (qjh a b).bind fun c=>
 some (!c)
theorem qrw (a:qo) (b:ky) {res:Bool} (h:qlC a b=some res):qJ ZT (.fn 177) [.func (.func 118) [] [.fptr [.func (.func 134) [] [],.func (.func 135) [] []] 0,.fptr (.str a.lot.Name::(kB a.lot.Yarn a.lot.Dye a.lot.Stock a.known a.hold.Lot a.hold.Order a.hold.Reserved a.hold.Taken a.free)) 0,.fptr (kA b.Kind b.Day b.Lot b.Amount b.Yarn b.Dye b.Order) 0]] [] (.bool res) []:=by
 unfold qlC at h
 refine Uc Tryz.func177 rfl rfl (m:=6) rfl (rs:=[.tmp 2]) rfl (l:=[(0,.func (.func 118) [] [.fptr [.func (.func 134) [] [],.func (.func 135) [] []] 0,.fptr (.str a.lot.Name::(kB a.lot.Yarn a.lot.Dye a.lot.Stock a.known a.hold.Lot a.hold.Order a.hold.Reserved a.hold.Taken a.free)) 0,.fptr (kA b.Kind b.Day b.Lot b.Amount b.Yarn b.Dye b.Order) 0])]) rfl ?_
 refine sh fol [(0,.func (.func 118) [] [.fptr [.func (.func 134) [] [],.func (.func 135) [] []] 0,.fptr (.str a.lot.Name::(kB a.lot.Yarn a.lot.Dye a.lot.Stock a.known a.hold.Lot a.hold.Order a.hold.Reserved a.hold.Taken a.free)) 0,.fptr (kA b.Kind b.Day b.Lot b.Amount b.Yarn b.Dye b.Order) 0])] ?_
 obtain⟨d,c,h⟩:=bnd h
 refine sq (gr fol [1] (kAi (!d)) (ac (hs (.call 118 [.fptr [.func (.func 134) [] [],.func (.func 135) [] []] 0,.fptr (.str a.lot.Name::(kB a.lot.Yarn a.lot.Dye a.lot.Stock a.known a.hold.Lot a.hold.Order a.hold.Reserved a.hold.Taken a.free)) 0,.fptr (kA b.Kind b.Day b.Lot b.Amount b.Yarn b.Dye b.Order) 0] [] [] [.fptr [.func (.func 134) [] [],.func (.func 135) [] []] 0,.fptr (.str a.lot.Name::(kB a.lot.Yarn a.lot.Dye a.lot.Stock a.known a.hold.Lot a.hold.Order a.hold.Reserved a.hold.Taken a.free)) 0,.fptr (kA b.Kind b.Day b.Lot b.Amount b.Yarn b.Dye b.Order) 0] (.bool d)) (yX (FzL.cons (Ua (Still.fptr (AllST.cons (Still.func AllST.nil AllST.nil) (AllST.cons (Still.func AllST.nil AllST.nil) AllST.nil)))) (FzL.cons (Ua (Still.fptr (AllST.cons tS (AllST.cons tS (AllST.cons tS (AllST.cons tI (AllST.cons tB (AllST.cons tS (AllST.cons tS (AllST.cons tI (AllST.cons tI (AllST.cons tI AllST.nil)))))))))))) (FzL.cons (Ua (Still.fptr (AllST.cons tS (AllST.cons tI (AllST.cons tS (AllST.cons tI (AllST.cons tS (AllST.cons tS (AllST.cons tS AllST.nil))))))))) FzL.nil))) (qoQ a b c) tB)) az) ?_)
 refine Goes.ret ?_
 obtain rfl:=si h
 exact(gw2 [.bool (!d)] (Ub tB))
def xX (N:Nat) (a:ky) (d:StateT) (b:qo):Nat->Int->Option (Unit⊕Int)
 |0,_=>none
 |K+1,c=>
  if c<5 then
  (if c=0 then
  (qcX a d).bind fun i=>
  some i
  else
  if c=1 then
  (qbe a b).bind fun j=>
  some j
  else
  if c=2 then
  (qlr b a).bind fun e=>
  some e
  else
  if c=3 then
  (qlC b a).bind fun f=>
  some f
  else
  if c=4 then
  (qdq N d a).bind fun g=>
  some g
  else
  none:Option Bool).bind fun h=>
  if h=true then
  some (.inr c)
  else
  xX N a d b K (w64 (c+1))
  else
  some (.inl ())
def qgh (N:Nat) (a:ky) (b:StateT) (c:qo):Option Int:=
 (xX N a b c N 0).bind (fun
 |(.inl ())=>
 some (-1)
 |(.inr d)=>
 some d)
theorem qnw (N:Nat) (a:ky) (c:StateT) (b:qo) {res:Int} (h:qgh N a c b=some res):qJ ZT (.fn 176) [.fslice 5 (qnb a c b),.func (.func 177) [] []] [] (.i res) []:=by
 unfold qgh at h
 refine Uc Tryz.func176 rfl rfl (m:=19) rfl (rs:=[.tmp 4]) rfl (l:=[(0,.fslice 5 (qnb a c b)),(1,.func (.func 177) [] [])]) rfl ?_
 refine sh fol [(0,.fslice 5 (qnb a c b)),(1,.func (.func 177) [] [])] ?_
 refine sq ?_
 refine sh fol ((0,.fslice 5 (qnb a c b))::(1,.func (.func 177) [] [])::kBA) ?_
 refine Goes.block ?_
 obtain⟨u,g2,h⟩:=bnd h
 refine Goes.imp (Q:=fun x s'=>(x= .exit 0/\(.inl ())=u/\Sub s' (ofG 19 [],[]))\/(x= .ret/\ ∃y,(.inr y)=u/\qbg ZT [.tmp 4] (.i y) .ret s')) ?_ ?_
 ·refine Ud (fun M s=> ∃(e:Int),s=(ofG 19 ((0,.fslice 5 (qnb a c b))::(1,.func (.func 177) [] [])::(kAJ e)),[])/\xX N a c b M e=some u) ?_ (m:=N) ⟨_,rfl,g2⟩
  rintro M s ⟨e,rfl,g2⟩
  cases M with
  |zero=>simp only[xX]at g2;cases g2
  |succ M=>
   rw[xX]at g2
   refine sh fol ((0,.fslice 5 (qnb a c b))::(1,.func (.func 177) [] [])::(kA5 e (decide (e<5)))) ?_
   refine sq ?_
   refine ihD g2 (fun E g2=>?_) (fun E g2=>?_)
   ·refine Goes.skip ?_
    refine sq (Goes.block ?_)
    refine sh fol ((0,.fslice 5 (qnb a c b))::(1,.func (.func 177) [] [])::(5,.i e)::(kAJ e)) ?_
    refine sq ?_
    obtain⟨v,d,g2⟩:=bnd g2
    refine Goes.cut (s':=(ofG 19 ((0,.fslice 5 (qnb a c b))::(1,.func (.func 177) [] [])::(kK e v)),[])) ?_ ?_
    ·rcases wyD d with⟨z,d⟩|⟨z,d⟩
     ·obtain⟨A,k,d⟩:=bnd d
      obtain rfl:=si d
      exact tr fol [3,5] ((0,.fslice 5 (qnb a c b))::(1,.func (.func 177) [] [])::(kK e A)) (ac (hs (.done (.opt (zi ZT 221 (.fslice 5 (qnb a c b)) (.i e))) (.fptr [.func (.func 115) [] [.fptr (kA a.Kind a.Day a.Lot a.Amount a.Yarn a.Dye a.Order) 0,.fptr (kE c.Day c.Lots c.Holds) 0],.func (.func 116) [] [.fptr (kA a.Kind a.Day a.Lot a.Amount a.Yarn a.Dye a.Order) 0,.fptr (.str b.lot.Name::(kB b.lot.Yarn b.lot.Dye b.lot.Stock b.known b.hold.Lot b.hold.Order b.hold.Reserved b.hold.Taken b.free)) 0],.func (.func 117) [] [.fptr [.func (.func 134) [] [],.func (.func 135) [] []] 0,.fptr (.str b.lot.Name::(kB b.lot.Yarn b.lot.Dye b.lot.Stock b.known b.hold.Lot b.hold.Order b.hold.Reserved b.hold.Taken b.free)) 0,.fptr (kA a.Kind a.Day a.Lot a.Amount a.Yarn a.Dye a.Order) 0],.func (.func 118) [] [.fptr [.func (.func 134) [] [],.func (.func 135) [] []] 0,.fptr (.str b.lot.Name::(kB b.lot.Yarn b.lot.Dye b.lot.Stock b.known b.hold.Lot b.hold.Order b.hold.Reserved b.hold.Taken b.free)) 0,.fptr (kA a.Kind a.Day a.Lot a.Amount a.Yarn a.Dye a.Order) 0],.func (.func 119) [] [.fptr (kE c.Day c.Lots c.Holds) 0,.fptr (kA a.Kind a.Day a.Lot a.Amount a.Yarn a.Dye a.Order) 0]] 0)) (ixA (ot z) (by kernel_rfl))) (ac (hs (.call 177 [.func (.func 115) [] [.fptr (kA a.Kind a.Day a.Lot a.Amount a.Yarn a.Dye a.Order) 0,.fptr (kE c.Day c.Lots c.Holds) 0]] [] [] [.func (.func 115) [] [.fptr (kA a.Kind a.Day a.Lot a.Amount a.Yarn a.Dye a.Order) 0,.fptr (kE c.Day c.Lots c.Holds) 0]] (.bool A)) (yX (FzL.cons (Fz.func FzL.nil (FzL.cons (Ua (Still.fptr (AllST.cons tS (AllST.cons tI (AllST.cons tS (AllST.cons tI (AllST.cons tS (AllST.cons tS (AllST.cons tS AllST.nil))))))))) (FzL.cons (Ua (Still.fptr (AllST.cons tI (AllST.cons (qN qg _ (nl rfl)) (AllST.cons (qN qE _ (nl rfl)) AllST.nil))))) FzL.nil))) FzL.nil) (qgt a c k) tB)) az))
     rcases wyD d with⟨B,d⟩|⟨B,d⟩
     ·obtain⟨C,n,d⟩:=bnd d
      obtain rfl:=si d
      exact tr fol [3,5] ((0,.fslice 5 (qnb a c b))::(1,.func (.func 177) [] [])::(kK e C)) (ac (hs (.done (.opt (zi ZT 221 (.fslice 5 (qnb a c b)) (.i e))) (.fptr [.func (.func 115) [] [.fptr (kA a.Kind a.Day a.Lot a.Amount a.Yarn a.Dye a.Order) 0,.fptr (kE c.Day c.Lots c.Holds) 0],.func (.func 116) [] [.fptr (kA a.Kind a.Day a.Lot a.Amount a.Yarn a.Dye a.Order) 0,.fptr (.str b.lot.Name::(kB b.lot.Yarn b.lot.Dye b.lot.Stock b.known b.hold.Lot b.hold.Order b.hold.Reserved b.hold.Taken b.free)) 0],.func (.func 117) [] [.fptr [.func (.func 134) [] [],.func (.func 135) [] []] 0,.fptr (.str b.lot.Name::(kB b.lot.Yarn b.lot.Dye b.lot.Stock b.known b.hold.Lot b.hold.Order b.hold.Reserved b.hold.Taken b.free)) 0,.fptr (kA a.Kind a.Day a.Lot a.Amount a.Yarn a.Dye a.Order) 0],.func (.func 118) [] [.fptr [.func (.func 134) [] [],.func (.func 135) [] []] 0,.fptr (.str b.lot.Name::(kB b.lot.Yarn b.lot.Dye b.lot.Stock b.known b.hold.Lot b.hold.Order b.hold.Reserved b.hold.Taken b.free)) 0,.fptr (kA a.Kind a.Day a.Lot a.Amount a.Yarn a.Dye a.Order) 0],.func (.func 119) [] [.fptr (kE c.Day c.Lots c.Holds) 0,.fptr (kA a.Kind a.Day a.Lot a.Amount a.Yarn a.Dye a.Order) 0]] 1)) (ixA (ot B) (by kernel_rfl))) (ac (hs (.call 177 [.func (.func 116) [] [.fptr (kA a.Kind a.Day a.Lot a.Amount a.Yarn a.Dye a.Order) 0,.fptr (.str b.lot.Name::(kB b.lot.Yarn b.lot.Dye b.lot.Stock b.known b.hold.Lot b.hold.Order b.hold.Reserved b.hold.Taken b.free)) 0]] [] [] [.func (.func 116) [] [.fptr (kA a.Kind a.Day a.Lot a.Amount a.Yarn a.Dye a.Order) 0,.fptr (.str b.lot.Name::(kB b.lot.Yarn b.lot.Dye b.lot.Stock b.known b.hold.Lot b.hold.Order b.hold.Reserved b.hold.Taken b.free)) 0]] (.bool C)) (yX (FzL.cons (Fz.func FzL.nil (FzL.cons (Ua (Still.fptr (AllST.cons tS (AllST.cons tI (AllST.cons tS (AllST.cons tI (AllST.cons tS (AllST.cons tS (AllST.cons tS AllST.nil))))))))) (FzL.cons (Ua (Still.fptr (AllST.cons tS (AllST.cons tS (AllST.cons tS (AllST.cons tI (AllST.cons tB (AllST.cons tS (AllST.cons tS (AllST.cons tI (AllST.cons tI (AllST.cons tI AllST.nil)))))))))))) FzL.nil))) FzL.nil) (qgj a b n) tB)) az))
     rcases wyD d with⟨D,d⟩|⟨D,d⟩
     ·obtain⟨o,f,d⟩:=bnd d
      obtain rfl:=si d
      exact tr fol [3,5] ((0,.fslice 5 (qnb a c b))::(1,.func (.func 177) [] [])::(kK e o)) (ac (hs (.done (.opt (zi ZT 221 (.fslice 5 (qnb a c b)) (.i e))) (.fptr [.func (.func 115) [] [.fptr (kA a.Kind a.Day a.Lot a.Amount a.Yarn a.Dye a.Order) 0,.fptr (kE c.Day c.Lots c.Holds) 0],.func (.func 116) [] [.fptr (kA a.Kind a.Day a.Lot a.Amount a.Yarn a.Dye a.Order) 0,.fptr (.str b.lot.Name::(kB b.lot.Yarn b.lot.Dye b.lot.Stock b.known b.hold.Lot b.hold.Order b.hold.Reserved b.hold.Taken b.free)) 0],.func (.func 117) [] [.fptr [.func (.func 134) [] [],.func (.func 135) [] []] 0,.fptr (.str b.lot.Name::(kB b.lot.Yarn b.lot.Dye b.lot.Stock b.known b.hold.Lot b.hold.Order b.hold.Reserved b.hold.Taken b.free)) 0,.fptr (kA a.Kind a.Day a.Lot a.Amount a.Yarn a.Dye a.Order) 0],.func (.func 118) [] [.fptr [.func (.func 134) [] [],.func (.func 135) [] []] 0,.fptr (.str b.lot.Name::(kB b.lot.Yarn b.lot.Dye b.lot.Stock b.known b.hold.Lot b.hold.Order b.hold.Reserved b.hold.Taken b.free)) 0,.fptr (kA a.Kind a.Day a.Lot a.Amount a.Yarn a.Dye a.Order) 0],.func (.func 119) [] [.fptr (kE c.Day c.Lots c.Holds) 0,.fptr (kA a.Kind a.Day a.Lot a.Amount a.Yarn a.Dye a.Order) 0]] 2)) (ixA (ot D) (by kernel_rfl))) (ac (hs (.call 177 [.func (.func 117) [] [.fptr [.func (.func 134) [] [],.func (.func 135) [] []] 0,.fptr (.str b.lot.Name::(kB b.lot.Yarn b.lot.Dye b.lot.Stock b.known b.hold.Lot b.hold.Order b.hold.Reserved b.hold.Taken b.free)) 0,.fptr (kA a.Kind a.Day a.Lot a.Amount a.Yarn a.Dye a.Order) 0]] [] [] [.func (.func 117) [] [.fptr [.func (.func 134) [] [],.func (.func 135) [] []] 0,.fptr (.str b.lot.Name::(kB b.lot.Yarn b.lot.Dye b.lot.Stock b.known b.hold.Lot b.hold.Order b.hold.Reserved b.hold.Taken b.free)) 0,.fptr (kA a.Kind a.Day a.Lot a.Amount a.Yarn a.Dye a.Order) 0]] (.bool o)) (yX (FzL.cons (Fz.func FzL.nil (FzL.cons (Ua (Still.fptr (AllST.cons (Still.func AllST.nil AllST.nil) (AllST.cons (Still.func AllST.nil AllST.nil) AllST.nil)))) (FzL.cons (Ua (Still.fptr (AllST.cons tS (AllST.cons tS (AllST.cons tS (AllST.cons tI (AllST.cons tB (AllST.cons tS (AllST.cons tS (AllST.cons tI (AllST.cons tI (AllST.cons tI AllST.nil)))))))))))) (FzL.cons (Ua (Still.fptr (AllST.cons tS (AllST.cons tI (AllST.cons tS (AllST.cons tI (AllST.cons tS (AllST.cons tS (AllST.cons tS AllST.nil))))))))) FzL.nil)))) FzL.nil) (qrQ b a f) tB)) az))
     rcases wyD d with⟨p,d⟩|⟨p,d⟩
     ·obtain⟨q,g,d⟩:=bnd d
      obtain rfl:=si d
      exact tr fol [3,5] ((0,.fslice 5 (qnb a c b))::(1,.func (.func 177) [] [])::(kK e q)) (ac (hs (.done (.opt (zi ZT 221 (.fslice 5 (qnb a c b)) (.i e))) (.fptr [.func (.func 115) [] [.fptr (kA a.Kind a.Day a.Lot a.Amount a.Yarn a.Dye a.Order) 0,.fptr (kE c.Day c.Lots c.Holds) 0],.func (.func 116) [] [.fptr (kA a.Kind a.Day a.Lot a.Amount a.Yarn a.Dye a.Order) 0,.fptr (.str b.lot.Name::(kB b.lot.Yarn b.lot.Dye b.lot.Stock b.known b.hold.Lot b.hold.Order b.hold.Reserved b.hold.Taken b.free)) 0],.func (.func 117) [] [.fptr [.func (.func 134) [] [],.func (.func 135) [] []] 0,.fptr (.str b.lot.Name::(kB b.lot.Yarn b.lot.Dye b.lot.Stock b.known b.hold.Lot b.hold.Order b.hold.Reserved b.hold.Taken b.free)) 0,.fptr (kA a.Kind a.Day a.Lot a.Amount a.Yarn a.Dye a.Order) 0],.func (.func 118) [] [.fptr [.func (.func 134) [] [],.func (.func 135) [] []] 0,.fptr (.str b.lot.Name::(kB b.lot.Yarn b.lot.Dye b.lot.Stock b.known b.hold.Lot b.hold.Order b.hold.Reserved b.hold.Taken b.free)) 0,.fptr (kA a.Kind a.Day a.Lot a.Amount a.Yarn a.Dye a.Order) 0],.func (.func 119) [] [.fptr (kE c.Day c.Lots c.Holds) 0,.fptr (kA a.Kind a.Day a.Lot a.Amount a.Yarn a.Dye a.Order) 0]] 3)) (ixA (ot p) (by kernel_rfl))) (ac (hs (.call 177 [.func (.func 118) [] [.fptr [.func (.func 134) [] [],.func (.func 135) [] []] 0,.fptr (.str b.lot.Name::(kB b.lot.Yarn b.lot.Dye b.lot.Stock b.known b.hold.Lot b.hold.Order b.hold.Reserved b.hold.Taken b.free)) 0,.fptr (kA a.Kind a.Day a.Lot a.Amount a.Yarn a.Dye a.Order) 0]] [] [] [.func (.func 118) [] [.fptr [.func (.func 134) [] [],.func (.func 135) [] []] 0,.fptr (.str b.lot.Name::(kB b.lot.Yarn b.lot.Dye b.lot.Stock b.known b.hold.Lot b.hold.Order b.hold.Reserved b.hold.Taken b.free)) 0,.fptr (kA a.Kind a.Day a.Lot a.Amount a.Yarn a.Dye a.Order) 0]] (.bool q)) (yX (FzL.cons (Fz.func FzL.nil (FzL.cons (Ua (Still.fptr (AllST.cons (Still.func AllST.nil AllST.nil) (AllST.cons (Still.func AllST.nil AllST.nil) AllST.nil)))) (FzL.cons (Ua (Still.fptr (AllST.cons tS (AllST.cons tS (AllST.cons tS (AllST.cons tI (AllST.cons tB (AllST.cons tS (AllST.cons tS (AllST.cons tI (AllST.cons tI (AllST.cons tI AllST.nil)))))))))))) (FzL.cons (Ua (Still.fptr (AllST.cons tS (AllST.cons tI (AllST.cons tS (AllST.cons tI (AllST.cons tS (AllST.cons tS (AllST.cons tS AllST.nil))))))))) FzL.nil)))) FzL.nil) (qrw b a g) tB)) az))
     rcases wyD d with⟨r,d⟩|⟨r,d⟩
     ·obtain⟨t,j,d⟩:=bnd d
      obtain rfl:=si d
      exact tr fol [3,5] ((0,.fslice 5 (qnb a c b))::(1,.func (.func 177) [] [])::(kK e t)) (ac (hs (.done (.opt (zi ZT 221 (.fslice 5 (qnb a c b)) (.i e))) (.fptr [.func (.func 115) [] [.fptr (kA a.Kind a.Day a.Lot a.Amount a.Yarn a.Dye a.Order) 0,.fptr (kE c.Day c.Lots c.Holds) 0],.func (.func 116) [] [.fptr (kA a.Kind a.Day a.Lot a.Amount a.Yarn a.Dye a.Order) 0,.fptr (.str b.lot.Name::(kB b.lot.Yarn b.lot.Dye b.lot.Stock b.known b.hold.Lot b.hold.Order b.hold.Reserved b.hold.Taken b.free)) 0],.func (.func 117) [] [.fptr [.func (.func 134) [] [],.func (.func 135) [] []] 0,.fptr (.str b.lot.Name::(kB b.lot.Yarn b.lot.Dye b.lot.Stock b.known b.hold.Lot b.hold.Order b.hold.Reserved b.hold.Taken b.free)) 0,.fptr (kA a.Kind a.Day a.Lot a.Amount a.Yarn a.Dye a.Order) 0],.func (.func 118) [] [.fptr [.func (.func 134) [] [],.func (.func 135) [] []] 0,.fptr (.str b.lot.Name::(kB b.lot.Yarn b.lot.Dye b.lot.Stock b.known b.hold.Lot b.hold.Order b.hold.Reserved b.hold.Taken b.free)) 0,.fptr (kA a.Kind a.Day a.Lot a.Amount a.Yarn a.Dye a.Order) 0],.func (.func 119) [] [.fptr (kE c.Day c.Lots c.Holds) 0,.fptr (kA a.Kind a.Day a.Lot a.Amount a.Yarn a.Dye a.Order) 0]] 4)) (ixA (ot r) (by kernel_rfl))) (ac (hs (.call 177 [.func (.func 119) [] [.fptr (kE c.Day c.Lots c.Holds) 0,.fptr (kA a.Kind a.Day a.Lot a.Amount a.Yarn a.Dye a.Order) 0]] [] [] [.func (.func 119) [] [.fptr (kE c.Day c.Lots c.Holds) 0,.fptr (kA a.Kind a.Day a.Lot a.Amount a.Yarn a.Dye a.Order) 0]] (.bool t)) (yX (FzL.cons (Fz.func FzL.nil (FzL.cons (Ua (Still.fptr (AllST.cons tI (AllST.cons (qN qg _ (nl rfl)) (AllST.cons (qN qE _ (nl rfl)) AllST.nil))))) (FzL.cons (Ua (Still.fptr (AllST.cons tS (AllST.cons tI (AllST.cons tS (AllST.cons tI (AllST.cons tS (AllST.cons tS (AllST.cons tS AllST.nil))))))))) FzL.nil))) FzL.nil) (qgD N c a j) tB)) az))
     cases d
    refine ihB g2 (fun w g2=>?_) (fun w g2=>?_)
    ·refine sh fol (kAz e) ?_
     refine Goes.ret ?_
     obtain rfl:=si g2
     exact Or.inr (⟨rfl,_,rfl,(gw2 [.i e] (Ub tI))⟩)
    refine Goes.skip ?_
    refine gh fol ((0,.fslice 5 (qnb a c b))::(1,.func (.func 177) [] [])::(kAJ (w64 (e+1)))) ?_
    exact⟨M,(ofG 19 ((0,.fslice 5 (qnb a c b))::(1,.func (.func 177) [] [])::(kAJ (w64 (e+1)))),[]),Nat.lt_succ_self _,(Sub.refl _),_,rfl,g2⟩
   refine Goes.exit ?_
   obtain rfl:=si g2
   exact Or.inl (⟨rfl,rfl,(Sub.keep [] rfl rfl)⟩)
 rintro x s' (⟨rfl,rfl,hsub⟩|⟨rfl,F,rfl,hret⟩)
 ·try dsimp only at h
  refine Goes.sub hsub ?_
  refine sh fol kAp ?_
  refine Goes.ret ?_
  obtain rfl:=si h
  exact(gw2 [.i (-1)] (Ub tI))
 try dsimp only at h
 obtain rfl:=si h
 exact hret
def qli (N:Nat) (a:ky) (b:StateT) (c:qo):Option Int:=
 (qgh N a b c).bind fun d=>
 some (w64 (1+d))
theorem qtx (N:Nat) (a:ky) (b:StateT) (c:qo) {res:Int} (h:qli N a b c=some res):qJ ZT (.fn 114) [.fslice 5 (qnb a b c)] [] (.i res) []:=by
 unfold qli at h
 refine Uc Tryz.func114 rfl rfl (m:=6) rfl (rs:=[.tmp 2]) rfl (l:=[(0,.fslice 5 (qnb a b c))]) rfl ?_
 refine sh fol [(0,.fslice 5 (qnb a b c))] ?_
 obtain⟨e,d,h⟩:=bnd h
 refine sq (gr fol [1] (kA2 (w64 (1+e))) (ac (hs (.call 176 [.fslice 5 (qnb a b c),.func (.func 177) [] []] [] [] [.fslice 5 (qnb a b c),.func (.func 177) [] []] (.i e)) (yX (FzL.cons (Ua (Still.fslice (AllST.cons (Still.func AllST.nil (AllST.cons (Still.fptr (AllST.cons tS (AllST.cons tI (AllST.cons tS (AllST.cons tI (AllST.cons tS (AllST.cons tS (AllST.cons tS AllST.nil)))))))) (AllST.cons (Still.fptr (AllST.cons tI (AllST.cons (qN qg _ (nl rfl)) (AllST.cons (qN qE _ (nl rfl)) AllST.nil)))) AllST.nil))) (AllST.cons (Still.func AllST.nil (AllST.cons (Still.fptr (AllST.cons tS (AllST.cons tI (AllST.cons tS (AllST.cons tI (AllST.cons tS (AllST.cons tS (AllST.cons tS AllST.nil)))))))) (AllST.cons (Still.fptr (AllST.cons tS (AllST.cons tS (AllST.cons tS (AllST.cons tI (AllST.cons tB (AllST.cons tS (AllST.cons tS (AllST.cons tI (AllST.cons tI (AllST.cons tI AllST.nil))))))))))) AllST.nil))) (AllST.cons (Still.func AllST.nil (AllST.cons (Still.fptr (AllST.cons (Still.func AllST.nil AllST.nil) (AllST.cons (Still.func AllST.nil AllST.nil) AllST.nil))) (AllST.cons (Still.fptr (AllST.cons tS (AllST.cons tS (AllST.cons tS (AllST.cons tI (AllST.cons tB (AllST.cons tS (AllST.cons tS (AllST.cons tI (AllST.cons tI (AllST.cons tI AllST.nil))))))))))) (AllST.cons (Still.fptr (AllST.cons tS (AllST.cons tI (AllST.cons tS (AllST.cons tI (AllST.cons tS (AllST.cons tS (AllST.cons tS AllST.nil)))))))) AllST.nil)))) (AllST.cons (Still.func AllST.nil (AllST.cons (Still.fptr (AllST.cons (Still.func AllST.nil AllST.nil) (AllST.cons (Still.func AllST.nil AllST.nil) AllST.nil))) (AllST.cons (Still.fptr (AllST.cons tS (AllST.cons tS (AllST.cons tS (AllST.cons tI (AllST.cons tB (AllST.cons tS (AllST.cons tS (AllST.cons tI (AllST.cons tI (AllST.cons tI AllST.nil))))))))))) (AllST.cons (Still.fptr (AllST.cons tS (AllST.cons tI (AllST.cons tS (AllST.cons tI (AllST.cons tS (AllST.cons tS (AllST.cons tS AllST.nil)))))))) AllST.nil)))) (AllST.cons (Still.func AllST.nil (AllST.cons (Still.fptr (AllST.cons tI (AllST.cons (qN qg _ (nl rfl)) (AllST.cons (qN qE _ (nl rfl)) AllST.nil)))) (AllST.cons (Still.fptr (AllST.cons tS (AllST.cons tI (AllST.cons tS (AllST.cons tI (AllST.cons tS (AllST.cons tS (AllST.cons tS AllST.nil)))))))) AllST.nil))) AllST.nil))))))) (FzL.cons (Fz.func FzL.nil FzL.nil) FzL.nil)) (qnw N a b c d) tI)) az) ?_)
 refine Goes.ret ?_
 obtain rfl:=si h
 exact(gw2 [.i (w64 (1+e))] (Ub tI))
def qiU (a:qo) (b:ky):Option Bool:=
 (qpu a b.Amount).bind fun c=>
 some c
theorem qo9 (a:qo) (b:ky) {res:Bool} (h:qiU a b=some res):qJ ZT (.fn 117) [.fptr [.func (.func 137) [] [],.func (.func 138) [] []] 0,.fptr (.str a.lot.Name::(kB a.lot.Yarn a.lot.Dye a.lot.Stock a.known a.hold.Lot a.hold.Order a.hold.Reserved a.hold.Taken a.free)) 0,.fptr (kA b.Kind b.Day b.Lot b.Amount b.Yarn b.Dye b.Order) 0] [] (.bool res) []:=by
 unfold qiU at h
 refine Uc Tryz.func117 rfl rfl (m:=10) rfl (rs:=[.tmp 3]) rfl (l:=[(0,.fptr [.func (.func 137) [] [],.func (.func 138) [] []] 0),(1,.fptr (.str a.lot.Name::(kB a.lot.Yarn a.lot.Dye a.lot.Stock a.known a.hold.Lot a.hold.Order a.hold.Reserved a.hold.Taken a.free)) 0),(2,.fptr (kA b.Kind b.Day b.Lot b.Amount b.Yarn b.Dye b.Order) 0)]) rfl ?_
 refine sh fol [(0,.fptr [.func (.func 137) [] [],.func (.func 138) [] []] 0),(1,.fptr (.str a.lot.Name::(kB a.lot.Yarn a.lot.Dye a.lot.Stock a.known a.hold.Lot a.hold.Order a.hold.Reserved a.hold.Taken a.free)) 0),(2,.fptr (kA b.Kind b.Day b.Lot b.Amount b.Yarn b.Dye b.Order) 0)] ?_
 obtain⟨d,c,h⟩:=bnd h
 refine sq (gr fol [5] (kA6 d) (ac (cv (qtO a b.Amount c)) az) ?_)
 refine Goes.ret ?_
 obtain rfl:=si h
 exact(gw2 [.bool d] (Ub tB))
def qlJ (a:qo) (b:ky):Option Bool:=
 (qiU a b).bind fun c=>
 some (!c)
theorem qrL (a:qo) (b:ky) {res:Bool} (h:qlJ a b=some res):qJ ZT (.fn 177) [.func (.func 117) [] [.fptr [.func (.func 137) [] [],.func (.func 138) [] []] 0,.fptr (.str a.lot.Name::(kB a.lot.Yarn a.lot.Dye a.lot.Stock a.known a.hold.Lot a.hold.Order a.hold.Reserved a.hold.Taken a.free)) 0,.fptr (kA b.Kind b.Day b.Lot b.Amount b.Yarn b.Dye b.Order) 0]] [] (.bool res) []:=by
 unfold qlJ at h
 refine Uc Tryz.func177 rfl rfl (m:=6) rfl (rs:=[.tmp 2]) rfl (l:=[(0,.func (.func 117) [] [.fptr [.func (.func 137) [] [],.func (.func 138) [] []] 0,.fptr (.str a.lot.Name::(kB a.lot.Yarn a.lot.Dye a.lot.Stock a.known a.hold.Lot a.hold.Order a.hold.Reserved a.hold.Taken a.free)) 0,.fptr (kA b.Kind b.Day b.Lot b.Amount b.Yarn b.Dye b.Order) 0])]) rfl ?_
 refine sh fol [(0,.func (.func 117) [] [.fptr [.func (.func 137) [] [],.func (.func 138) [] []] 0,.fptr (.str a.lot.Name::(kB a.lot.Yarn a.lot.Dye a.lot.Stock a.known a.hold.Lot a.hold.Order a.hold.Reserved a.hold.Taken a.free)) 0,.fptr (kA b.Kind b.Day b.Lot b.Amount b.Yarn b.Dye b.Order) 0])] ?_
 obtain⟨d,c,h⟩:=bnd h
 refine sq (gr fol [1] (kAi (!d)) (ac (hs (.call 117 [.fptr [.func (.func 137) [] [],.func (.func 138) [] []] 0,.fptr (.str a.lot.Name::(kB a.lot.Yarn a.lot.Dye a.lot.Stock a.known a.hold.Lot a.hold.Order a.hold.Reserved a.hold.Taken a.free)) 0,.fptr (kA b.Kind b.Day b.Lot b.Amount b.Yarn b.Dye b.Order) 0] [] [] [.fptr [.func (.func 137) [] [],.func (.func 138) [] []] 0,.fptr (.str a.lot.Name::(kB a.lot.Yarn a.lot.Dye a.lot.Stock a.known a.hold.Lot a.hold.Order a.hold.Reserved a.hold.Taken a.free)) 0,.fptr (kA b.Kind b.Day b.Lot b.Amount b.Yarn b.Dye b.Order) 0] (.bool d)) (yX (FzL.cons (Ua (Still.fptr (AllST.cons (Still.func AllST.nil AllST.nil) (AllST.cons (Still.func AllST.nil AllST.nil) AllST.nil)))) (FzL.cons (Ua (Still.fptr (AllST.cons tS (AllST.cons tS (AllST.cons tS (AllST.cons tI (AllST.cons tB (AllST.cons tS (AllST.cons tS (AllST.cons tI (AllST.cons tI (AllST.cons tI AllST.nil)))))))))))) (FzL.cons (Ua (Still.fptr (AllST.cons tS (AllST.cons tI (AllST.cons tS (AllST.cons tI (AllST.cons tS (AllST.cons tS (AllST.cons tS AllST.nil))))))))) FzL.nil))) (qo9 a b c) tB)) az) ?_)
 refine Goes.ret ?_
 obtain rfl:=si h
 exact(gw2 [.bool (!d)] (Ub tB))
def qiJ (b:qo) (c:ky):Option Bool:=
 (qky b c.Amount).bind fun a=>
 some (decide ((if a.hold.Taken>a.lot.Stock then a.hold.Taken else a.lot.Stock)<=999999999))
theorem qoX (a:qo) (b:ky) {res:Bool} (h:qiJ a b=some res):qJ ZT (.fn 118) [.fptr [.func (.func 137) [] [],.func (.func 138) [] []] 0,.fptr (.str a.lot.Name::(kB a.lot.Yarn a.lot.Dye a.lot.Stock a.known a.hold.Lot a.hold.Order a.hold.Reserved a.hold.Taken a.free)) 0,.fptr (kA b.Kind b.Day b.Lot b.Amount b.Yarn b.Dye b.Order) 0] [] (.bool res) []:=by
 unfold qiJ at h
 refine Uc Tryz.func118 rfl rfl (m:=19) rfl (rs:=[.tmp 3]) rfl (l:=[(0,.fptr [.func (.func 137) [] [],.func (.func 138) [] []] 0),(1,.fptr (.str a.lot.Name::(kB a.lot.Yarn a.lot.Dye a.lot.Stock a.known a.hold.Lot a.hold.Order a.hold.Reserved a.hold.Taken a.free)) 0),(2,.fptr (kA b.Kind b.Day b.Lot b.Amount b.Yarn b.Dye b.Order) 0)]) rfl ?_
 refine sh fol [(0,.fptr [.func (.func 137) [] [],.func (.func 138) [] []] 0),(1,.fptr (.str a.lot.Name::(kB a.lot.Yarn a.lot.Dye a.lot.Stock a.known a.hold.Lot a.hold.Order a.hold.Reserved a.hold.Taken a.free)) 0),(2,.fptr (kA b.Kind b.Day b.Lot b.Amount b.Yarn b.Dye b.Order) 0)] ?_
 obtain⟨c,d,h⟩:=bnd h
 refine sq (gq fol [5] (kA3 []) (kC c.lot.Name c.lot.Yarn c.lot.Dye c.lot.Stock c.known c.hold.Lot c.hold.Order c.hold.Reserved c.hold.Taken c.free []) (ac (cv (qpE a b.Amount d)) az) ?_)
 refine sh fol (kA6 (decide ((if c.hold.Taken>c.lot.Stock then c.hold.Taken else c.lot.Stock)<=999999999))) ?_
 refine Goes.ret ?_
 obtain rfl:=si h
 exact(gw2 [.bool (decide ((if c.hold.Taken>c.lot.Stock then c.hold.Taken else c.lot.Stock)<=999999999))] (Ub tB))
def qlj (a:qo) (b:ky):Option Bool:=
 (qiJ a b).bind fun c=>
 some (!c)
theorem qq1 (a:qo) (b:ky) {res:Bool} (h:qlj a b=some res):qJ ZT (.fn 177) [.func (.func 118) [] [.fptr [.func (.func 137) [] [],.func (.func 138) [] []] 0,.fptr (.str a.lot.Name::(kB a.lot.Yarn a.lot.Dye a.lot.Stock a.known a.hold.Lot a.hold.Order a.hold.Reserved a.hold.Taken a.free)) 0,.fptr (kA b.Kind b.Day b.Lot b.Amount b.Yarn b.Dye b.Order) 0]] [] (.bool res) []:=by
 unfold qlj at h
 refine Uc Tryz.func177 rfl rfl (m:=6) rfl (rs:=[.tmp 2]) rfl (l:=[(0,.func (.func 118) [] [.fptr [.func (.func 137) [] [],.func (.func 138) [] []] 0,.fptr (.str a.lot.Name::(kB a.lot.Yarn a.lot.Dye a.lot.Stock a.known a.hold.Lot a.hold.Order a.hold.Reserved a.hold.Taken a.free)) 0,.fptr (kA b.Kind b.Day b.Lot b.Amount b.Yarn b.Dye b.Order) 0])]) rfl ?_
 refine sh fol [(0,.func (.func 118) [] [.fptr [.func (.func 137) [] [],.func (.func 138) [] []] 0,.fptr (.str a.lot.Name::(kB a.lot.Yarn a.lot.Dye a.lot.Stock a.known a.hold.Lot a.hold.Order a.hold.Reserved a.hold.Taken a.free)) 0,.fptr (kA b.Kind b.Day b.Lot b.Amount b.Yarn b.Dye b.Order) 0])] ?_
 obtain⟨d,c,h⟩:=bnd h
 refine sq (gr fol [1] (kAi (!d)) (ac (hs (.call 118 [.fptr [.func (.func 137) [] [],.func (.func 138) [] []] 0,.fptr (.str a.lot.Name::(kB a.lot.Yarn a.lot.Dye a.lot.Stock a.known a.hold.Lot a.hold.Order a.hold.Reserved a.hold.Taken a.free)) 0,.fptr (kA b.Kind b.Day b.Lot b.Amount b.Yarn b.Dye b.Order) 0] [] [] [.fptr [.func (.func 137) [] [],.func (.func 138) [] []] 0,.fptr (.str a.lot.Name::(kB a.lot.Yarn a.lot.Dye a.lot.Stock a.known a.hold.Lot a.hold.Order a.hold.Reserved a.hold.Taken a.free)) 0,.fptr (kA b.Kind b.Day b.Lot b.Amount b.Yarn b.Dye b.Order) 0] (.bool d)) (yX (FzL.cons (Ua (Still.fptr (AllST.cons (Still.func AllST.nil AllST.nil) (AllST.cons (Still.func AllST.nil AllST.nil) AllST.nil)))) (FzL.cons (Ua (Still.fptr (AllST.cons tS (AllST.cons tS (AllST.cons tS (AllST.cons tI (AllST.cons tB (AllST.cons tS (AllST.cons tS (AllST.cons tI (AllST.cons tI (AllST.cons tI AllST.nil)))))))))))) (FzL.cons (Ua (Still.fptr (AllST.cons tS (AllST.cons tI (AllST.cons tS (AllST.cons tI (AllST.cons tS (AllST.cons tS (AllST.cons tS AllST.nil))))))))) FzL.nil))) (qoX a b c) tB)) az) ?_)
 refine Goes.ret ?_
 obtain rfl:=si h
 exact(gw2 [.bool (!d)] (Ub tB))
def qac (N:Nat) (a:ky) (d:StateT) (b:qo):Nat->Int->Option (Unit⊕Int)
 |0,_=>none
 |K+1,c=>
  if c<5 then
  (if c=0 then
  (qcX a d).bind fun i=>
  some i
  else
  if c=1 then
  (qbe a b).bind fun j=>
  some j
  else
  if c=2 then
  (qlJ b a).bind fun e=>
  some e
  else
  if c=3 then
  (qlj b a).bind fun f=>
  some f
  else
  if c=4 then
  (qdq N d a).bind fun g=>
  some g
  else
  none:Option Bool).bind fun h=>
  if h=true then
  some (.inr c)
  else
  qac N a d b K (w64 (c+1))
  else
  some (.inl ())
def qgb (N:Nat) (a:ky) (b:StateT) (c:qo):Option Int:=
 (qac N a b c N 0).bind (fun
 |(.inl ())=>
 some (-1)
 |(.inr d)=>
 some d)
theorem qny (N:Nat) (a:ky) (c:StateT) (b:qo) {res:Int} (h:qgb N a c b=some res):qJ ZT (.fn 176) [.fslice 5 (qm2 a c b),.func (.func 177) [] []] [] (.i res) []:=by
 unfold qgb at h
 refine Uc Tryz.func176 rfl rfl (m:=19) rfl (rs:=[.tmp 4]) rfl (l:=[(0,.fslice 5 (qm2 a c b)),(1,.func (.func 177) [] [])]) rfl ?_
 refine sh fol [(0,.fslice 5 (qm2 a c b)),(1,.func (.func 177) [] [])] ?_
 refine sq ?_
 refine sh fol ((0,.fslice 5 (qm2 a c b))::(1,.func (.func 177) [] [])::kBA) ?_
 refine Goes.block ?_
 obtain⟨u,g2,h⟩:=bnd h
 refine Goes.imp (Q:=fun x s'=>(x= .exit 0/\(.inl ())=u/\Sub s' (ofG 19 [],[]))\/(x= .ret/\ ∃y,(.inr y)=u/\qbg ZT [.tmp 4] (.i y) .ret s')) ?_ ?_
 ·refine Ud (fun M s=> ∃(e:Int),s=(ofG 19 ((0,.fslice 5 (qm2 a c b))::(1,.func (.func 177) [] [])::(kAJ e)),[])/\qac N a c b M e=some u) ?_ (m:=N) ⟨_,rfl,g2⟩
  rintro M s ⟨e,rfl,g2⟩
  cases M with
  |zero=>simp only[qac]at g2;cases g2
  |succ M=>
   rw[qac]at g2
   refine sh fol ((0,.fslice 5 (qm2 a c b))::(1,.func (.func 177) [] [])::(kA5 e (decide (e<5)))) ?_
   refine sq ?_
   refine ihD g2 (fun E g2=>?_) (fun E g2=>?_)
   ·refine Goes.skip ?_
    refine sq (Goes.block ?_)
    refine sh fol ((0,.fslice 5 (qm2 a c b))::(1,.func (.func 177) [] [])::(5,.i e)::(kAJ e)) ?_
    refine sq ?_
    obtain⟨v,d,g2⟩:=bnd g2
    refine Goes.cut (s':=(ofG 19 ((0,.fslice 5 (qm2 a c b))::(1,.func (.func 177) [] [])::(kK e v)),[])) ?_ ?_
    ·rcases wyD d with⟨z,d⟩|⟨z,d⟩
     ·obtain⟨A,k,d⟩:=bnd d
      obtain rfl:=si d
      exact tr fol [3,5] ((0,.fslice 5 (qm2 a c b))::(1,.func (.func 177) [] [])::(kK e A)) (ac (hs (.done (.opt (zi ZT 221 (.fslice 5 (qm2 a c b)) (.i e))) (.fptr [.func (.func 115) [] [.fptr (kA a.Kind a.Day a.Lot a.Amount a.Yarn a.Dye a.Order) 0,.fptr (kE c.Day c.Lots c.Holds) 0],.func (.func 116) [] [.fptr (kA a.Kind a.Day a.Lot a.Amount a.Yarn a.Dye a.Order) 0,.fptr (.str b.lot.Name::(kB b.lot.Yarn b.lot.Dye b.lot.Stock b.known b.hold.Lot b.hold.Order b.hold.Reserved b.hold.Taken b.free)) 0],.func (.func 117) [] [.fptr [.func (.func 137) [] [],.func (.func 138) [] []] 0,.fptr (.str b.lot.Name::(kB b.lot.Yarn b.lot.Dye b.lot.Stock b.known b.hold.Lot b.hold.Order b.hold.Reserved b.hold.Taken b.free)) 0,.fptr (kA a.Kind a.Day a.Lot a.Amount a.Yarn a.Dye a.Order) 0],.func (.func 118) [] [.fptr [.func (.func 137) [] [],.func (.func 138) [] []] 0,.fptr (.str b.lot.Name::(kB b.lot.Yarn b.lot.Dye b.lot.Stock b.known b.hold.Lot b.hold.Order b.hold.Reserved b.hold.Taken b.free)) 0,.fptr (kA a.Kind a.Day a.Lot a.Amount a.Yarn a.Dye a.Order) 0],.func (.func 119) [] [.fptr (kE c.Day c.Lots c.Holds) 0,.fptr (kA a.Kind a.Day a.Lot a.Amount a.Yarn a.Dye a.Order) 0]] 0)) (ixA (ot z) (by kernel_rfl))) (ac (hs (.call 177 [.func (.func 115) [] [.fptr (kA a.Kind a.Day a.Lot a.Amount a.Yarn a.Dye a.Order) 0,.fptr (kE c.Day c.Lots c.Holds) 0]] [] [] [.func (.func 115) [] [.fptr (kA a.Kind a.Day a.Lot a.Amount a.Yarn a.Dye a.Order) 0,.fptr (kE c.Day c.Lots c.Holds) 0]] (.bool A)) (yX (FzL.cons (Fz.func FzL.nil (FzL.cons (Ua (Still.fptr (AllST.cons tS (AllST.cons tI (AllST.cons tS (AllST.cons tI (AllST.cons tS (AllST.cons tS (AllST.cons tS AllST.nil))))))))) (FzL.cons (Ua (Still.fptr (AllST.cons tI (AllST.cons (qN qg _ (nl rfl)) (AllST.cons (qN qE _ (nl rfl)) AllST.nil))))) FzL.nil))) FzL.nil) (qgt a c k) tB)) az))
     rcases wyD d with⟨B,d⟩|⟨B,d⟩
     ·obtain⟨C,n,d⟩:=bnd d
      obtain rfl:=si d
      exact tr fol [3,5] ((0,.fslice 5 (qm2 a c b))::(1,.func (.func 177) [] [])::(kK e C)) (ac (hs (.done (.opt (zi ZT 221 (.fslice 5 (qm2 a c b)) (.i e))) (.fptr [.func (.func 115) [] [.fptr (kA a.Kind a.Day a.Lot a.Amount a.Yarn a.Dye a.Order) 0,.fptr (kE c.Day c.Lots c.Holds) 0],.func (.func 116) [] [.fptr (kA a.Kind a.Day a.Lot a.Amount a.Yarn a.Dye a.Order) 0,.fptr (.str b.lot.Name::(kB b.lot.Yarn b.lot.Dye b.lot.Stock b.known b.hold.Lot b.hold.Order b.hold.Reserved b.hold.Taken b.free)) 0],.func (.func 117) [] [.fptr [.func (.func 137) [] [],.func (.func 138) [] []] 0,.fptr (.str b.lot.Name::(kB b.lot.Yarn b.lot.Dye b.lot.Stock b.known b.hold.Lot b.hold.Order b.hold.Reserved b.hold.Taken b.free)) 0,.fptr (kA a.Kind a.Day a.Lot a.Amount a.Yarn a.Dye a.Order) 0],.func (.func 118) [] [.fptr [.func (.func 137) [] [],.func (.func 138) [] []] 0,.fptr (.str b.lot.Name::(kB b.lot.Yarn b.lot.Dye b.lot.Stock b.known b.hold.Lot b.hold.Order b.hold.Reserved b.hold.Taken b.free)) 0,.fptr (kA a.Kind a.Day a.Lot a.Amount a.Yarn a.Dye a.Order) 0],.func (.func 119) [] [.fptr (kE c.Day c.Lots c.Holds) 0,.fptr (kA a.Kind a.Day a.Lot a.Amount a.Yarn a.Dye a.Order) 0]] 1)) (ixA (ot B) (by kernel_rfl))) (ac (hs (.call 177 [.func (.func 116) [] [.fptr (kA a.Kind a.Day a.Lot a.Amount a.Yarn a.Dye a.Order) 0,.fptr (.str b.lot.Name::(kB b.lot.Yarn b.lot.Dye b.lot.Stock b.known b.hold.Lot b.hold.Order b.hold.Reserved b.hold.Taken b.free)) 0]] [] [] [.func (.func 116) [] [.fptr (kA a.Kind a.Day a.Lot a.Amount a.Yarn a.Dye a.Order) 0,.fptr (.str b.lot.Name::(kB b.lot.Yarn b.lot.Dye b.lot.Stock b.known b.hold.Lot b.hold.Order b.hold.Reserved b.hold.Taken b.free)) 0]] (.bool C)) (yX (FzL.cons (Fz.func FzL.nil (FzL.cons (Ua (Still.fptr (AllST.cons tS (AllST.cons tI (AllST.cons tS (AllST.cons tI (AllST.cons tS (AllST.cons tS (AllST.cons tS AllST.nil))))))))) (FzL.cons (Ua (Still.fptr (AllST.cons tS (AllST.cons tS (AllST.cons tS (AllST.cons tI (AllST.cons tB (AllST.cons tS (AllST.cons tS (AllST.cons tI (AllST.cons tI (AllST.cons tI AllST.nil)))))))))))) FzL.nil))) FzL.nil) (qgj a b n) tB)) az))
     rcases wyD d with⟨D,d⟩|⟨D,d⟩
     ·obtain⟨o,f,d⟩:=bnd d
      obtain rfl:=si d
      exact tr fol [3,5] ((0,.fslice 5 (qm2 a c b))::(1,.func (.func 177) [] [])::(kK e o)) (ac (hs (.done (.opt (zi ZT 221 (.fslice 5 (qm2 a c b)) (.i e))) (.fptr [.func (.func 115) [] [.fptr (kA a.Kind a.Day a.Lot a.Amount a.Yarn a.Dye a.Order) 0,.fptr (kE c.Day c.Lots c.Holds) 0],.func (.func 116) [] [.fptr (kA a.Kind a.Day a.Lot a.Amount a.Yarn a.Dye a.Order) 0,.fptr (.str b.lot.Name::(kB b.lot.Yarn b.lot.Dye b.lot.Stock b.known b.hold.Lot b.hold.Order b.hold.Reserved b.hold.Taken b.free)) 0],.func (.func 117) [] [.fptr [.func (.func 137) [] [],.func (.func 138) [] []] 0,.fptr (.str b.lot.Name::(kB b.lot.Yarn b.lot.Dye b.lot.Stock b.known b.hold.Lot b.hold.Order b.hold.Reserved b.hold.Taken b.free)) 0,.fptr (kA a.Kind a.Day a.Lot a.Amount a.Yarn a.Dye a.Order) 0],.func (.func 118) [] [.fptr [.func (.func 137) [] [],.func (.func 138) [] []] 0,.fptr (.str b.lot.Name::(kB b.lot.Yarn b.lot.Dye b.lot.Stock b.known b.hold.Lot b.hold.Order b.hold.Reserved b.hold.Taken b.free)) 0,.fptr (kA a.Kind a.Day a.Lot a.Amount a.Yarn a.Dye a.Order) 0],.func (.func 119) [] [.fptr (kE c.Day c.Lots c.Holds) 0,.fptr (kA a.Kind a.Day a.Lot a.Amount a.Yarn a.Dye a.Order) 0]] 2)) (ixA (ot D) (by kernel_rfl))) (ac (hs (.call 177 [.func (.func 117) [] [.fptr [.func (.func 137) [] [],.func (.func 138) [] []] 0,.fptr (.str b.lot.Name::(kB b.lot.Yarn b.lot.Dye b.lot.Stock b.known b.hold.Lot b.hold.Order b.hold.Reserved b.hold.Taken b.free)) 0,.fptr (kA a.Kind a.Day a.Lot a.Amount a.Yarn a.Dye a.Order) 0]] [] [] [.func (.func 117) [] [.fptr [.func (.func 137) [] [],.func (.func 138) [] []] 0,.fptr (.str b.lot.Name::(kB b.lot.Yarn b.lot.Dye b.lot.Stock b.known b.hold.Lot b.hold.Order b.hold.Reserved b.hold.Taken b.free)) 0,.fptr (kA a.Kind a.Day a.Lot a.Amount a.Yarn a.Dye a.Order) 0]] (.bool o)) (yX (FzL.cons (Fz.func FzL.nil (FzL.cons (Ua (Still.fptr (AllST.cons (Still.func AllST.nil AllST.nil) (AllST.cons (Still.func AllST.nil AllST.nil) AllST.nil)))) (FzL.cons (Ua (Still.fptr (AllST.cons tS (AllST.cons tS (AllST.cons tS (AllST.cons tI (AllST.cons tB (AllST.cons tS (AllST.cons tS (AllST.cons tI (AllST.cons tI (AllST.cons tI AllST.nil)))))))))))) (FzL.cons (Ua (Still.fptr (AllST.cons tS (AllST.cons tI (AllST.cons tS (AllST.cons tI (AllST.cons tS (AllST.cons tS (AllST.cons tS AllST.nil))))))))) FzL.nil)))) FzL.nil) (qrL b a f) tB)) az))
     rcases wyD d with⟨p,d⟩|⟨p,d⟩
     ·obtain⟨q,g,d⟩:=bnd d
      obtain rfl:=si d
      exact tr fol [3,5] ((0,.fslice 5 (qm2 a c b))::(1,.func (.func 177) [] [])::(kK e q)) (ac (hs (.done (.opt (zi ZT 221 (.fslice 5 (qm2 a c b)) (.i e))) (.fptr [.func (.func 115) [] [.fptr (kA a.Kind a.Day a.Lot a.Amount a.Yarn a.Dye a.Order) 0,.fptr (kE c.Day c.Lots c.Holds) 0],.func (.func 116) [] [.fptr (kA a.Kind a.Day a.Lot a.Amount a.Yarn a.Dye a.Order) 0,.fptr (.str b.lot.Name::(kB b.lot.Yarn b.lot.Dye b.lot.Stock b.known b.hold.Lot b.hold.Order b.hold.Reserved b.hold.Taken b.free)) 0],.func (.func 117) [] [.fptr [.func (.func 137) [] [],.func (.func 138) [] []] 0,.fptr (.str b.lot.Name::(kB b.lot.Yarn b.lot.Dye b.lot.Stock b.known b.hold.Lot b.hold.Order b.hold.Reserved b.hold.Taken b.free)) 0,.fptr (kA a.Kind a.Day a.Lot a.Amount a.Yarn a.Dye a.Order) 0],.func (.func 118) [] [.fptr [.func (.func 137) [] [],.func (.func 138) [] []] 0,.fptr (.str b.lot.Name::(kB b.lot.Yarn b.lot.Dye b.lot.Stock b.known b.hold.Lot b.hold.Order b.hold.Reserved b.hold.Taken b.free)) 0,.fptr (kA a.Kind a.Day a.Lot a.Amount a.Yarn a.Dye a.Order) 0],.func (.func 119) [] [.fptr (kE c.Day c.Lots c.Holds) 0,.fptr (kA a.Kind a.Day a.Lot a.Amount a.Yarn a.Dye a.Order) 0]] 3)) (ixA (ot p) (by kernel_rfl))) (ac (hs (.call 177 [.func (.func 118) [] [.fptr [.func (.func 137) [] [],.func (.func 138) [] []] 0,.fptr (.str b.lot.Name::(kB b.lot.Yarn b.lot.Dye b.lot.Stock b.known b.hold.Lot b.hold.Order b.hold.Reserved b.hold.Taken b.free)) 0,.fptr (kA a.Kind a.Day a.Lot a.Amount a.Yarn a.Dye a.Order) 0]] [] [] [.func (.func 118) [] [.fptr [.func (.func 137) [] [],.func (.func 138) [] []] 0,.fptr (.str b.lot.Name::(kB b.lot.Yarn b.lot.Dye b.lot.Stock b.known b.hold.Lot b.hold.Order b.hold.Reserved b.hold.Taken b.free)) 0,.fptr (kA a.Kind a.Day a.Lot a.Amount a.Yarn a.Dye a.Order) 0]] (.bool q)) (yX (FzL.cons (Fz.func FzL.nil (FzL.cons (Ua (Still.fptr (AllST.cons (Still.func AllST.nil AllST.nil) (AllST.cons (Still.func AllST.nil AllST.nil) AllST.nil)))) (FzL.cons (Ua (Still.fptr (AllST.cons tS (AllST.cons tS (AllST.cons tS (AllST.cons tI (AllST.cons tB (AllST.cons tS (AllST.cons tS (AllST.cons tI (AllST.cons tI (AllST.cons tI AllST.nil)))))))))))) (FzL.cons (Ua (Still.fptr (AllST.cons tS (AllST.cons tI (AllST.cons tS (AllST.cons tI (AllST.cons tS (AllST.cons tS (AllST.cons tS AllST.nil))))))))) FzL.nil)))) FzL.nil) (qq1 b a g) tB)) az))
     rcases wyD d with⟨r,d⟩|⟨r,d⟩
     ·obtain⟨t,j,d⟩:=bnd d
      obtain rfl:=si d
      exact tr fol [3,5] ((0,.fslice 5 (qm2 a c b))::(1,.func (.func 177) [] [])::(kK e t)) (ac (hs (.done (.opt (zi ZT 221 (.fslice 5 (qm2 a c b)) (.i e))) (.fptr [.func (.func 115) [] [.fptr (kA a.Kind a.Day a.Lot a.Amount a.Yarn a.Dye a.Order) 0,.fptr (kE c.Day c.Lots c.Holds) 0],.func (.func 116) [] [.fptr (kA a.Kind a.Day a.Lot a.Amount a.Yarn a.Dye a.Order) 0,.fptr (.str b.lot.Name::(kB b.lot.Yarn b.lot.Dye b.lot.Stock b.known b.hold.Lot b.hold.Order b.hold.Reserved b.hold.Taken b.free)) 0],.func (.func 117) [] [.fptr [.func (.func 137) [] [],.func (.func 138) [] []] 0,.fptr (.str b.lot.Name::(kB b.lot.Yarn b.lot.Dye b.lot.Stock b.known b.hold.Lot b.hold.Order b.hold.Reserved b.hold.Taken b.free)) 0,.fptr (kA a.Kind a.Day a.Lot a.Amount a.Yarn a.Dye a.Order) 0],.func (.func 118) [] [.fptr [.func (.func 137) [] [],.func (.func 138) [] []] 0,.fptr (.str b.lot.Name::(kB b.lot.Yarn b.lot.Dye b.lot.Stock b.known b.hold.Lot b.hold.Order b.hold.Reserved b.hold.Taken b.free)) 0,.fptr (kA a.Kind a.Day a.Lot a.Amount a.Yarn a.Dye a.Order) 0],.func (.func 119) [] [.fptr (kE c.Day c.Lots c.Holds) 0,.fptr (kA a.Kind a.Day a.Lot a.Amount a.Yarn a.Dye a.Order) 0]] 4)) (ixA (ot r) (by kernel_rfl))) (ac (hs (.call 177 [.func (.func 119) [] [.fptr (kE c.Day c.Lots c.Holds) 0,.fptr (kA a.Kind a.Day a.Lot a.Amount a.Yarn a.Dye a.Order) 0]] [] [] [.func (.func 119) [] [.fptr (kE c.Day c.Lots c.Holds) 0,.fptr (kA a.Kind a.Day a.Lot a.Amount a.Yarn a.Dye a.Order) 0]] (.bool t)) (yX (FzL.cons (Fz.func FzL.nil (FzL.cons (Ua (Still.fptr (AllST.cons tI (AllST.cons (qN qg _ (nl rfl)) (AllST.cons (qN qE _ (nl rfl)) AllST.nil))))) (FzL.cons (Ua (Still.fptr (AllST.cons tS (AllST.cons tI (AllST.cons tS (AllST.cons tI (AllST.cons tS (AllST.cons tS (AllST.cons tS AllST.nil))))))))) FzL.nil))) FzL.nil) (qgD N c a j) tB)) az))
     cases d
    refine ihB g2 (fun w g2=>?_) (fun w g2=>?_)
    ·refine sh fol (kAz e) ?_
     refine Goes.ret ?_
     obtain rfl:=si g2
     exact Or.inr (⟨rfl,_,rfl,(gw2 [.i e] (Ub tI))⟩)
    refine Goes.skip ?_
    refine gh fol ((0,.fslice 5 (qm2 a c b))::(1,.func (.func 177) [] [])::(kAJ (w64 (e+1)))) ?_
    exact⟨M,(ofG 19 ((0,.fslice 5 (qm2 a c b))::(1,.func (.func 177) [] [])::(kAJ (w64 (e+1)))),[]),Nat.lt_succ_self _,(Sub.refl _),_,rfl,g2⟩
   refine Goes.exit ?_
   obtain rfl:=si g2
   exact Or.inl (⟨rfl,rfl,(Sub.keep [] rfl rfl)⟩)
 rintro x s' (⟨rfl,rfl,hsub⟩|⟨rfl,F,rfl,hret⟩)
 ·try dsimp only at h
  refine Goes.sub hsub ?_
  refine sh fol kAp ?_
  refine Goes.ret ?_
  obtain rfl:=si h
  exact(gw2 [.i (-1)] (Ub tI))
 try dsimp only at h
 obtain rfl:=si h
 exact hret
def qlN (N:Nat) (a:ky) (b:StateT) (c:qo):Option Int:=
 (qgb N a b c).bind fun d=>
 some (w64 (1+d))
theorem qty (N:Nat) (a:ky) (b:StateT) (c:qo) {res:Int} (h:qlN N a b c=some res):qJ ZT (.fn 114) [.fslice 5 (qm2 a b c)] [] (.i res) []:=by
 unfold qlN at h
 refine Uc Tryz.func114 rfl rfl (m:=6) rfl (rs:=[.tmp 2]) rfl (l:=[(0,.fslice 5 (qm2 a b c))]) rfl ?_
 refine sh fol [(0,.fslice 5 (qm2 a b c))] ?_
 obtain⟨e,d,h⟩:=bnd h
 refine sq (gr fol [1] (kA2 (w64 (1+e))) (ac (hs (.call 176 [.fslice 5 (qm2 a b c),.func (.func 177) [] []] [] [] [.fslice 5 (qm2 a b c),.func (.func 177) [] []] (.i e)) (yX (FzL.cons (Ua (Still.fslice (AllST.cons (Still.func AllST.nil (AllST.cons (Still.fptr (AllST.cons tS (AllST.cons tI (AllST.cons tS (AllST.cons tI (AllST.cons tS (AllST.cons tS (AllST.cons tS AllST.nil)))))))) (AllST.cons (Still.fptr (AllST.cons tI (AllST.cons (qN qg _ (nl rfl)) (AllST.cons (qN qE _ (nl rfl)) AllST.nil)))) AllST.nil))) (AllST.cons (Still.func AllST.nil (AllST.cons (Still.fptr (AllST.cons tS (AllST.cons tI (AllST.cons tS (AllST.cons tI (AllST.cons tS (AllST.cons tS (AllST.cons tS AllST.nil)))))))) (AllST.cons (Still.fptr (AllST.cons tS (AllST.cons tS (AllST.cons tS (AllST.cons tI (AllST.cons tB (AllST.cons tS (AllST.cons tS (AllST.cons tI (AllST.cons tI (AllST.cons tI AllST.nil))))))))))) AllST.nil))) (AllST.cons (Still.func AllST.nil (AllST.cons (Still.fptr (AllST.cons (Still.func AllST.nil AllST.nil) (AllST.cons (Still.func AllST.nil AllST.nil) AllST.nil))) (AllST.cons (Still.fptr (AllST.cons tS (AllST.cons tS (AllST.cons tS (AllST.cons tI (AllST.cons tB (AllST.cons tS (AllST.cons tS (AllST.cons tI (AllST.cons tI (AllST.cons tI AllST.nil))))))))))) (AllST.cons (Still.fptr (AllST.cons tS (AllST.cons tI (AllST.cons tS (AllST.cons tI (AllST.cons tS (AllST.cons tS (AllST.cons tS AllST.nil)))))))) AllST.nil)))) (AllST.cons (Still.func AllST.nil (AllST.cons (Still.fptr (AllST.cons (Still.func AllST.nil AllST.nil) (AllST.cons (Still.func AllST.nil AllST.nil) AllST.nil))) (AllST.cons (Still.fptr (AllST.cons tS (AllST.cons tS (AllST.cons tS (AllST.cons tI (AllST.cons tB (AllST.cons tS (AllST.cons tS (AllST.cons tI (AllST.cons tI (AllST.cons tI AllST.nil))))))))))) (AllST.cons (Still.fptr (AllST.cons tS (AllST.cons tI (AllST.cons tS (AllST.cons tI (AllST.cons tS (AllST.cons tS (AllST.cons tS AllST.nil)))))))) AllST.nil)))) (AllST.cons (Still.func AllST.nil (AllST.cons (Still.fptr (AllST.cons tI (AllST.cons (qN qg _ (nl rfl)) (AllST.cons (qN qE _ (nl rfl)) AllST.nil)))) (AllST.cons (Still.fptr (AllST.cons tS (AllST.cons tI (AllST.cons tS (AllST.cons tI (AllST.cons tS (AllST.cons tS (AllST.cons tS AllST.nil)))))))) AllST.nil))) AllST.nil))))))) (FzL.cons (Fz.func FzL.nil FzL.nil) FzL.nil)) (qny N a b c d) tI)) az) ?_)
 refine Goes.ret ?_
 obtain rfl:=si h
 exact(gw2 [.i (w64 (1+e))] (Ub tI))
def qjl (a:qo) (b:ky):Option Bool:=
 (qpB a b.Amount).bind fun c=>
 some c
theorem qoz (a:qo) (b:ky) {res:Bool} (h:qjl a b=some res):qJ ZT (.fn 117) [.fptr [.func (.func 139) [] [],.func (.func 140) [] []] 0,.fptr (.str a.lot.Name::(kB a.lot.Yarn a.lot.Dye a.lot.Stock a.known a.hold.Lot a.hold.Order a.hold.Reserved a.hold.Taken a.free)) 0,.fptr (kA b.Kind b.Day b.Lot b.Amount b.Yarn b.Dye b.Order) 0] [] (.bool res) []:=by
 unfold qjl at h
 refine Uc Tryz.func117 rfl rfl (m:=10) rfl (rs:=[.tmp 3]) rfl (l:=[(0,.fptr [.func (.func 139) [] [],.func (.func 140) [] []] 0),(1,.fptr (.str a.lot.Name::(kB a.lot.Yarn a.lot.Dye a.lot.Stock a.known a.hold.Lot a.hold.Order a.hold.Reserved a.hold.Taken a.free)) 0),(2,.fptr (kA b.Kind b.Day b.Lot b.Amount b.Yarn b.Dye b.Order) 0)]) rfl ?_
 refine sh fol [(0,.fptr [.func (.func 139) [] [],.func (.func 140) [] []] 0),(1,.fptr (.str a.lot.Name::(kB a.lot.Yarn a.lot.Dye a.lot.Stock a.known a.hold.Lot a.hold.Order a.hold.Reserved a.hold.Taken a.free)) 0),(2,.fptr (kA b.Kind b.Day b.Lot b.Amount b.Yarn b.Dye b.Order) 0)] ?_
 obtain⟨d,c,h⟩:=bnd h
 refine sq (gr fol [5] (kA6 d) (ac (cv (qub a b.Amount c)) az) ?_)
 refine Goes.ret ?_
 obtain rfl:=si h
 exact(gw2 [.bool d] (Ub tB))
def qkP (a:qo) (b:ky):Option Bool:=
 (qjl a b).bind fun c=>
 some (!c)
theorem qqN (a:qo) (b:ky) {res:Bool} (h:qkP a b=some res):qJ ZT (.fn 177) [.func (.func 117) [] [.fptr [.func (.func 139) [] [],.func (.func 140) [] []] 0,.fptr (.str a.lot.Name::(kB a.lot.Yarn a.lot.Dye a.lot.Stock a.known a.hold.Lot a.hold.Order a.hold.Reserved a.hold.Taken a.free)) 0,.fptr (kA b.Kind b.Day b.Lot b.Amount b.Yarn b.Dye b.Order) 0]] [] (.bool res) []:=by
 unfold qkP at h
 refine Uc Tryz.func177 rfl rfl (m:=6) rfl (rs:=[.tmp 2]) rfl (l:=[(0,.func (.func 117) [] [.fptr [.func (.func 139) [] [],.func (.func 140) [] []] 0,.fptr (.str a.lot.Name::(kB a.lot.Yarn a.lot.Dye a.lot.Stock a.known a.hold.Lot a.hold.Order a.hold.Reserved a.hold.Taken a.free)) 0,.fptr (kA b.Kind b.Day b.Lot b.Amount b.Yarn b.Dye b.Order) 0])]) rfl ?_
 refine sh fol [(0,.func (.func 117) [] [.fptr [.func (.func 139) [] [],.func (.func 140) [] []] 0,.fptr (.str a.lot.Name::(kB a.lot.Yarn a.lot.Dye a.lot.Stock a.known a.hold.Lot a.hold.Order a.hold.Reserved a.hold.Taken a.free)) 0,.fptr (kA b.Kind b.Day b.Lot b.Amount b.Yarn b.Dye b.Order) 0])] ?_
 obtain⟨d,c,h⟩:=bnd h
 refine sq (gr fol [1] (kAi (!d)) (ac (hs (.call 117 [.fptr [.func (.func 139) [] [],.func (.func 140) [] []] 0,.fptr (.str a.lot.Name::(kB a.lot.Yarn a.lot.Dye a.lot.Stock a.known a.hold.Lot a.hold.Order a.hold.Reserved a.hold.Taken a.free)) 0,.fptr (kA b.Kind b.Day b.Lot b.Amount b.Yarn b.Dye b.Order) 0] [] [] [.fptr [.func (.func 139) [] [],.func (.func 140) [] []] 0,.fptr (.str a.lot.Name::(kB a.lot.Yarn a.lot.Dye a.lot.Stock a.known a.hold.Lot a.hold.Order a.hold.Reserved a.hold.Taken a.free)) 0,.fptr (kA b.Kind b.Day b.Lot b.Amount b.Yarn b.Dye b.Order) 0] (.bool d)) (yX (FzL.cons (Ua (Still.fptr (AllST.cons (Still.func AllST.nil AllST.nil) (AllST.cons (Still.func AllST.nil AllST.nil) AllST.nil)))) (FzL.cons (Ua (Still.fptr (AllST.cons tS (AllST.cons tS (AllST.cons tS (AllST.cons tI (AllST.cons tB (AllST.cons tS (AllST.cons tS (AllST.cons tI (AllST.cons tI (AllST.cons tI AllST.nil)))))))))))) (FzL.cons (Ua (Still.fptr (AllST.cons tS (AllST.cons tI (AllST.cons tS (AllST.cons tI (AllST.cons tS (AllST.cons tS (AllST.cons tS AllST.nil))))))))) FzL.nil))) (qoz a b c) tB)) az) ?_)
 refine Goes.ret ?_
 obtain rfl:=si h
 exact(gw2 [.bool (!d)] (Ub tB))
def qjc (b:qo) (c:ky):Option Bool:=
 (qob b c.Amount).bind fun a=>
 some (decide ((if a.hold.Taken>a.lot.Stock then a.hold.Taken else a.lot.Stock)<=999999999))
theorem qoO (a:qo) (b:ky) {res:Bool} (h:qjc a b=some res):qJ ZT (.fn 118) [.fptr [.func (.func 139) [] [],.func (.func 140) [] []] 0,.fptr (.str a.lot.Name::(kB a.lot.Yarn a.lot.Dye a.lot.Stock a.known a.hold.Lot a.hold.Order a.hold.Reserved a.hold.Taken a.free)) 0,.fptr (kA b.Kind b.Day b.Lot b.Amount b.Yarn b.Dye b.Order) 0] [] (.bool res) []:=by
 unfold qjc at h
 refine Uc Tryz.func118 rfl rfl (m:=19) rfl (rs:=[.tmp 3]) rfl (l:=[(0,.fptr [.func (.func 139) [] [],.func (.func 140) [] []] 0),(1,.fptr (.str a.lot.Name::(kB a.lot.Yarn a.lot.Dye a.lot.Stock a.known a.hold.Lot a.hold.Order a.hold.Reserved a.hold.Taken a.free)) 0),(2,.fptr (kA b.Kind b.Day b.Lot b.Amount b.Yarn b.Dye b.Order) 0)]) rfl ?_
 refine sh fol [(0,.fptr [.func (.func 139) [] [],.func (.func 140) [] []] 0),(1,.fptr (.str a.lot.Name::(kB a.lot.Yarn a.lot.Dye a.lot.Stock a.known a.hold.Lot a.hold.Order a.hold.Reserved a.hold.Taken a.free)) 0),(2,.fptr (kA b.Kind b.Day b.Lot b.Amount b.Yarn b.Dye b.Order) 0)] ?_
 obtain⟨c,d,h⟩:=bnd h
 refine sq (gq fol [5] (kA3 []) (kC c.lot.Name c.lot.Yarn c.lot.Dye c.lot.Stock c.known c.hold.Lot c.hold.Order c.hold.Reserved c.hold.Taken c.free []) (ac (cv (qsF a b.Amount d)) az) ?_)
 refine sh fol (kA6 (decide ((if c.hold.Taken>c.lot.Stock then c.hold.Taken else c.lot.Stock)<=999999999))) ?_
 refine Goes.ret ?_
 obtain rfl:=si h
 exact(gw2 [.bool (decide ((if c.hold.Taken>c.lot.Stock then c.hold.Taken else c.lot.Stock)<=999999999))] (Ub tB))
def qkU (a:qo) (b:ky):Option Bool:=
 (qjc a b).bind fun c=>
 some (!c)
theorem qqS (a:qo) (b:ky) {res:Bool} (h:qkU a b=some res):qJ ZT (.fn 177) [.func (.func 118) [] [.fptr [.func (.func 139) [] [],.func (.func 140) [] []] 0,.fptr (.str a.lot.Name::(kB a.lot.Yarn a.lot.Dye a.lot.Stock a.known a.hold.Lot a.hold.Order a.hold.Reserved a.hold.Taken a.free)) 0,.fptr (kA b.Kind b.Day b.Lot b.Amount b.Yarn b.Dye b.Order) 0]] [] (.bool res) []:=by
 unfold qkU at h
 refine Uc Tryz.func177 rfl rfl (m:=6) rfl (rs:=[.tmp 2]) rfl (l:=[(0,.func (.func 118) [] [.fptr [.func (.func 139) [] [],.func (.func 140) [] []] 0,.fptr (.str a.lot.Name::(kB a.lot.Yarn a.lot.Dye a.lot.Stock a.known a.hold.Lot a.hold.Order a.hold.Reserved a.hold.Taken a.free)) 0,.fptr (kA b.Kind b.Day b.Lot b.Amount b.Yarn b.Dye b.Order) 0])]) rfl ?_
 refine sh fol [(0,.func (.func 118) [] [.fptr [.func (.func 139) [] [],.func (.func 140) [] []] 0,.fptr (.str a.lot.Name::(kB a.lot.Yarn a.lot.Dye a.lot.Stock a.known a.hold.Lot a.hold.Order a.hold.Reserved a.hold.Taken a.free)) 0,.fptr (kA b.Kind b.Day b.Lot b.Amount b.Yarn b.Dye b.Order) 0])] ?_
 obtain⟨d,c,h⟩:=bnd h
 refine sq (gr fol [1] (kAi (!d)) (ac (hs (.call 118 [.fptr [.func (.func 139) [] [],.func (.func 140) [] []] 0,.fptr (.str a.lot.Name::(kB a.lot.Yarn a.lot.Dye a.lot.Stock a.known a.hold.Lot a.hold.Order a.hold.Reserved a.hold.Taken a.free)) 0,.fptr (kA b.Kind b.Day b.Lot b.Amount b.Yarn b.Dye b.Order) 0] [] [] [.fptr [.func (.func 139) [] [],.func (.func 140) [] []] 0,.fptr (.str a.lot.Name::(kB a.lot.Yarn a.lot.Dye a.lot.Stock a.known a.hold.Lot a.hold.Order a.hold.Reserved a.hold.Taken a.free)) 0,.fptr (kA b.Kind b.Day b.Lot b.Amount b.Yarn b.Dye b.Order) 0] (.bool d)) (yX (FzL.cons (Ua (Still.fptr (AllST.cons (Still.func AllST.nil AllST.nil) (AllST.cons (Still.func AllST.nil AllST.nil) AllST.nil)))) (FzL.cons (Ua (Still.fptr (AllST.cons tS (AllST.cons tS (AllST.cons tS (AllST.cons tI (AllST.cons tB (AllST.cons tS (AllST.cons tS (AllST.cons tI (AllST.cons tI (AllST.cons tI AllST.nil)))))))))))) (FzL.cons (Ua (Still.fptr (AllST.cons tS (AllST.cons tI (AllST.cons tS (AllST.cons tI (AllST.cons tS (AllST.cons tS (AllST.cons tS AllST.nil))))))))) FzL.nil))) (qoO a b c) tB)) az) ?_)
 refine Goes.ret ?_
 obtain rfl:=si h
 exact(gw2 [.bool (!d)] (Ub tB))
def qae (N:Nat) (a:ky) (d:StateT) (b:qo):Nat->Int->Option (Unit⊕Int)
 |0,_=>none
 |K+1,c=>
  if c<5 then
  (if c=0 then
  (qcX a d).bind fun i=>
  some i
  else
  if c=1 then
  (qbe a b).bind fun j=>
  some j
  else
  if c=2 then
  (qkP b a).bind fun e=>
  some e
  else
  if c=3 then
  (qkU b a).bind fun f=>
  some f
  else
  if c=4 then
  (qdq N d a).bind fun g=>
  some g
  else
  none:Option Bool).bind fun h=>
  if h=true then
  some (.inr c)
  else
  qae N a d b K (w64 (c+1))
  else
  some (.inl ())
def qf0 (N:Nat) (a:ky) (b:StateT) (c:qo):Option Int:=
 (qae N a b c N 0).bind (fun
 |(.inl ())=>
 some (-1)
 |(.inr d)=>
 some d)
theorem qnL (N:Nat) (a:ky) (c:StateT) (b:qo) {res:Int} (h:qf0 N a c b=some res):qJ ZT (.fn 176) [.fslice 5 (qmW a c b),.func (.func 177) [] []] [] (.i res) []:=by
 unfold qf0 at h
 refine Uc Tryz.func176 rfl rfl (m:=19) rfl (rs:=[.tmp 4]) rfl (l:=[(0,.fslice 5 (qmW a c b)),(1,.func (.func 177) [] [])]) rfl ?_
 refine sh fol [(0,.fslice 5 (qmW a c b)),(1,.func (.func 177) [] [])] ?_
 refine sq ?_
 refine sh fol ((0,.fslice 5 (qmW a c b))::(1,.func (.func 177) [] [])::kBA) ?_
 refine Goes.block ?_
 obtain⟨u,g2,h⟩:=bnd h
 refine Goes.imp (Q:=fun x s'=>(x= .exit 0/\(.inl ())=u/\Sub s' (ofG 19 [],[]))\/(x= .ret/\ ∃y,(.inr y)=u/\qbg ZT [.tmp 4] (.i y) .ret s')) ?_ ?_
 ·refine Ud (fun M s=> ∃(e:Int),s=(ofG 19 ((0,.fslice 5 (qmW a c b))::(1,.func (.func 177) [] [])::(kAJ e)),[])/\qae N a c b M e=some u) ?_ (m:=N) ⟨_,rfl,g2⟩
  rintro M s ⟨e,rfl,g2⟩
  cases M with
  |zero=>simp only[qae]at g2;cases g2
  |succ M=>
   rw[qae]at g2
   refine sh fol ((0,.fslice 5 (qmW a c b))::(1,.func (.func 177) [] [])::(kA5 e (decide (e<5)))) ?_
   refine sq ?_
   refine ihD g2 (fun E g2=>?_) (fun E g2=>?_)
   ·refine Goes.skip ?_
    refine sq (Goes.block ?_)
    refine sh fol ((0,.fslice 5 (qmW a c b))::(1,.func (.func 177) [] [])::(5,.i e)::(kAJ e)) ?_
    refine sq ?_
    obtain⟨v,d,g2⟩:=bnd g2
    refine Goes.cut (s':=(ofG 19 ((0,.fslice 5 (qmW a c b))::(1,.func (.func 177) [] [])::(kK e v)),[])) ?_ ?_
    ·rcases wyD d with⟨z,d⟩|⟨z,d⟩
     ·obtain⟨A,k,d⟩:=bnd d
      obtain rfl:=si d
      exact tr fol [3,5] ((0,.fslice 5 (qmW a c b))::(1,.func (.func 177) [] [])::(kK e A)) (ac (hs (.done (.opt (zi ZT 221 (.fslice 5 (qmW a c b)) (.i e))) (.fptr [.func (.func 115) [] [.fptr (kA a.Kind a.Day a.Lot a.Amount a.Yarn a.Dye a.Order) 0,.fptr (kE c.Day c.Lots c.Holds) 0],.func (.func 116) [] [.fptr (kA a.Kind a.Day a.Lot a.Amount a.Yarn a.Dye a.Order) 0,.fptr (.str b.lot.Name::(kB b.lot.Yarn b.lot.Dye b.lot.Stock b.known b.hold.Lot b.hold.Order b.hold.Reserved b.hold.Taken b.free)) 0],.func (.func 117) [] [.fptr [.func (.func 139) [] [],.func (.func 140) [] []] 0,.fptr (.str b.lot.Name::(kB b.lot.Yarn b.lot.Dye b.lot.Stock b.known b.hold.Lot b.hold.Order b.hold.Reserved b.hold.Taken b.free)) 0,.fptr (kA a.Kind a.Day a.Lot a.Amount a.Yarn a.Dye a.Order) 0],.func (.func 118) [] [.fptr [.func (.func 139) [] [],.func (.func 140) [] []] 0,.fptr (.str b.lot.Name::(kB b.lot.Yarn b.lot.Dye b.lot.Stock b.known b.hold.Lot b.hold.Order b.hold.Reserved b.hold.Taken b.free)) 0,.fptr (kA a.Kind a.Day a.Lot a.Amount a.Yarn a.Dye a.Order) 0],.func (.func 119) [] [.fptr (kE c.Day c.Lots c.Holds) 0,.fptr (kA a.Kind a.Day a.Lot a.Amount a.Yarn a.Dye a.Order) 0]] 0)) (ixA (ot z) (by kernel_rfl))) (ac (hs (.call 177 [.func (.func 115) [] [.fptr (kA a.Kind a.Day a.Lot a.Amount a.Yarn a.Dye a.Order) 0,.fptr (kE c.Day c.Lots c.Holds) 0]] [] [] [.func (.func 115) [] [.fptr (kA a.Kind a.Day a.Lot a.Amount a.Yarn a.Dye a.Order) 0,.fptr (kE c.Day c.Lots c.Holds) 0]] (.bool A)) (yX (FzL.cons (Fz.func FzL.nil (FzL.cons (Ua (Still.fptr (AllST.cons tS (AllST.cons tI (AllST.cons tS (AllST.cons tI (AllST.cons tS (AllST.cons tS (AllST.cons tS AllST.nil))))))))) (FzL.cons (Ua (Still.fptr (AllST.cons tI (AllST.cons (qN qg _ (nl rfl)) (AllST.cons (qN qE _ (nl rfl)) AllST.nil))))) FzL.nil))) FzL.nil) (qgt a c k) tB)) az))
     rcases wyD d with⟨B,d⟩|⟨B,d⟩
     ·obtain⟨C,n,d⟩:=bnd d
      obtain rfl:=si d
      exact tr fol [3,5] ((0,.fslice 5 (qmW a c b))::(1,.func (.func 177) [] [])::(kK e C)) (ac (hs (.done (.opt (zi ZT 221 (.fslice 5 (qmW a c b)) (.i e))) (.fptr [.func (.func 115) [] [.fptr (kA a.Kind a.Day a.Lot a.Amount a.Yarn a.Dye a.Order) 0,.fptr (kE c.Day c.Lots c.Holds) 0],.func (.func 116) [] [.fptr (kA a.Kind a.Day a.Lot a.Amount a.Yarn a.Dye a.Order) 0,.fptr (.str b.lot.Name::(kB b.lot.Yarn b.lot.Dye b.lot.Stock b.known b.hold.Lot b.hold.Order b.hold.Reserved b.hold.Taken b.free)) 0],.func (.func 117) [] [.fptr [.func (.func 139) [] [],.func (.func 140) [] []] 0,.fptr (.str b.lot.Name::(kB b.lot.Yarn b.lot.Dye b.lot.Stock b.known b.hold.Lot b.hold.Order b.hold.Reserved b.hold.Taken b.free)) 0,.fptr (kA a.Kind a.Day a.Lot a.Amount a.Yarn a.Dye a.Order) 0],.func (.func 118) [] [.fptr [.func (.func 139) [] [],.func (.func 140) [] []] 0,.fptr (.str b.lot.Name::(kB b.lot.Yarn b.lot.Dye b.lot.Stock b.known b.hold.Lot b.hold.Order b.hold.Reserved b.hold.Taken b.free)) 0,.fptr (kA a.Kind a.Day a.Lot a.Amount a.Yarn a.Dye a.Order) 0],.func (.func 119) [] [.fptr (kE c.Day c.Lots c.Holds) 0,.fptr (kA a.Kind a.Day a.Lot a.Amount a.Yarn a.Dye a.Order) 0]] 1)) (ixA (ot B) (by kernel_rfl))) (ac (hs (.call 177 [.func (.func 116) [] [.fptr (kA a.Kind a.Day a.Lot a.Amount a.Yarn a.Dye a.Order) 0,.fptr (.str b.lot.Name::(kB b.lot.Yarn b.lot.Dye b.lot.Stock b.known b.hold.Lot b.hold.Order b.hold.Reserved b.hold.Taken b.free)) 0]] [] [] [.func (.func 116) [] [.fptr (kA a.Kind a.Day a.Lot a.Amount a.Yarn a.Dye a.Order) 0,.fptr (.str b.lot.Name::(kB b.lot.Yarn b.lot.Dye b.lot.Stock b.known b.hold.Lot b.hold.Order b.hold.Reserved b.hold.Taken b.free)) 0]] (.bool C)) (yX (FzL.cons (Fz.func FzL.nil (FzL.cons (Ua (Still.fptr (AllST.cons tS (AllST.cons tI (AllST.cons tS (AllST.cons tI (AllST.cons tS (AllST.cons tS (AllST.cons tS AllST.nil))))))))) (FzL.cons (Ua (Still.fptr (AllST.cons tS (AllST.cons tS (AllST.cons tS (AllST.cons tI (AllST.cons tB (AllST.cons tS (AllST.cons tS (AllST.cons tI (AllST.cons tI (AllST.cons tI AllST.nil)))))))))))) FzL.nil))) FzL.nil) (qgj a b n) tB)) az))
     rcases wyD d with⟨D,d⟩|⟨D,d⟩
     ·obtain⟨o,f,d⟩:=bnd d
      obtain rfl:=si d
      exact tr fol [3,5] ((0,.fslice 5 (qmW a c b))::(1,.func (.func 177) [] [])::(kK e o)) (ac (hs (.done (.opt (zi ZT 221 (.fslice 5 (qmW a c b)) (.i e))) (.fptr [.func (.func 115) [] [.fptr (kA a.Kind a.Day a.Lot a.Amount a.Yarn a.Dye a.Order) 0,.fptr (kE c.Day c.Lots c.Holds) 0],.func (.func 116) [] [.fptr (kA a.Kind a.Day a.Lot a.Amount a.Yarn a.Dye a.Order) 0,.fptr (.str b.lot.Name::(kB b.lot.Yarn b.lot.Dye b.lot.Stock b.known b.hold.Lot b.hold.Order b.hold.Reserved b.hold.Taken b.free)) 0],.func (.func 117) [] [.fptr [.func (.func 139) [] [],.func (.func 140) [] []] 0,.fptr (.str b.lot.Name::(kB b.lot.Yarn b.lot.Dye b.lot.Stock b.known b.hold.Lot b.hold.Order b.hold.Reserved b.hold.Taken b.free)) 0,.fptr (kA a.Kind a.Day a.Lot a.Amount a.Yarn a.Dye a.Order) 0],.func (.func 118) [] [.fptr [.func (.func 139) [] [],.func (.func 140) [] []] 0,.fptr (.str b.lot.Name::(kB b.lot.Yarn b.lot.Dye b.lot.Stock b.known b.hold.Lot b.hold.Order b.hold.Reserved b.hold.Taken b.free)) 0,.fptr (kA a.Kind a.Day a.Lot a.Amount a.Yarn a.Dye a.Order) 0],.func (.func 119) [] [.fptr (kE c.Day c.Lots c.Holds) 0,.fptr (kA a.Kind a.Day a.Lot a.Amount a.Yarn a.Dye a.Order) 0]] 2)) (ixA (ot D) (by kernel_rfl))) (ac (hs (.call 177 [.func (.func 117) [] [.fptr [.func (.func 139) [] [],.func (.func 140) [] []] 0,.fptr (.str b.lot.Name::(kB b.lot.Yarn b.lot.Dye b.lot.Stock b.known b.hold.Lot b.hold.Order b.hold.Reserved b.hold.Taken b.free)) 0,.fptr (kA a.Kind a.Day a.Lot a.Amount a.Yarn a.Dye a.Order) 0]] [] [] [.func (.func 117) [] [.fptr [.func (.func 139) [] [],.func (.func 140) [] []] 0,.fptr (.str b.lot.Name::(kB b.lot.Yarn b.lot.Dye b.lot.Stock b.known b.hold.Lot b.hold.Order b.hold.Reserved b.hold.Taken b.free)) 0,.fptr (kA a.Kind a.Day a.Lot a.Amount a.Yarn a.Dye a.Order) 0]] (.bool o)) (yX (FzL.cons (Fz.func FzL.nil (FzL.cons (Ua (Still.fptr (AllST.cons (Still.func AllST.nil AllST.nil) (AllST.cons (Still.func AllST.nil AllST.nil) AllST.nil)))) (FzL.cons (Ua (Still.fptr (AllST.cons tS (AllST.cons tS (AllST.cons tS (AllST.cons tI (AllST.cons tB (AllST.cons tS (AllST.cons tS (AllST.cons tI (AllST.cons tI (AllST.cons tI AllST.nil)))))))))))) (FzL.cons (Ua (Still.fptr (AllST.cons tS (AllST.cons tI (AllST.cons tS (AllST.cons tI (AllST.cons tS (AllST.cons tS (AllST.cons tS AllST.nil))))))))) FzL.nil)))) FzL.nil) (qqN b a f) tB)) az))
     rcases wyD d with⟨p,d⟩|⟨p,d⟩
     ·obtain⟨q,g,d⟩:=bnd d
      obtain rfl:=si d
      exact tr fol [3,5] ((0,.fslice 5 (qmW a c b))::(1,.func (.func 177) [] [])::(kK e q)) (ac (hs (.done (.opt (zi ZT 221 (.fslice 5 (qmW a c b)) (.i e))) (.fptr [.func (.func 115) [] [.fptr (kA a.Kind a.Day a.Lot a.Amount a.Yarn a.Dye a.Order) 0,.fptr (kE c.Day c.Lots c.Holds) 0],.func (.func 116) [] [.fptr (kA a.Kind a.Day a.Lot a.Amount a.Yarn a.Dye a.Order) 0,.fptr (.str b.lot.Name::(kB b.lot.Yarn b.lot.Dye b.lot.Stock b.known b.hold.Lot b.hold.Order b.hold.Reserved b.hold.Taken b.free)) 0],.func (.func 117) [] [.fptr [.func (.func 139) [] [],.func (.func 140) [] []] 0,.fptr (.str b.lot.Name::(kB b.lot.Yarn b.lot.Dye b.lot.Stock b.known b.hold.Lot b.hold.Order b.hold.Reserved b.hold.Taken b.free)) 0,.fptr (kA a.Kind a.Day a.Lot a.Amount a.Yarn a.Dye a.Order) 0],.func (.func 118) [] [.fptr [.func (.func 139) [] [],.func (.func 140) [] []] 0,.fptr (.str b.lot.Name::(kB b.lot.Yarn b.lot.Dye b.lot.Stock b.known b.hold.Lot b.hold.Order b.hold.Reserved b.hold.Taken b.free)) 0,.fptr (kA a.Kind a.Day a.Lot a.Amount a.Yarn a.Dye a.Order) 0],.func (.func 119) [] [.fptr (kE c.Day c.Lots c.Holds) 0,.fptr (kA a.Kind a.Day a.Lot a.Amount a.Yarn a.Dye a.Order) 0]] 3)) (ixA (ot p) (by kernel_rfl))) (ac (hs (.call 177 [.func (.func 118) [] [.fptr [.func (.func 139) [] [],.func (.func 140) [] []] 0,.fptr (.str b.lot.Name::(kB b.lot.Yarn b.lot.Dye b.lot.Stock b.known b.hold.Lot b.hold.Order b.hold.Reserved b.hold.Taken b.free)) 0,.fptr (kA a.Kind a.Day a.Lot a.Amount a.Yarn a.Dye a.Order) 0]] [] [] [.func (.func 118) [] [.fptr [.func (.func 139) [] [],.func (.func 140) [] []] 0,.fptr (.str b.lot.Name::(kB b.lot.Yarn b.lot.Dye b.lot.Stock b.known b.hold.Lot b.hold.Order b.hold.Reserved b.hold.Taken b.free)) 0,.fptr (kA a.Kind a.Day a.Lot a.Amount a.Yarn a.Dye a.Order) 0]] (.bool q)) (yX (FzL.cons (Fz.func FzL.nil (FzL.cons (Ua (Still.fptr (AllST.cons (Still.func AllST.nil AllST.nil) (AllST.cons (Still.func AllST.nil AllST.nil) AllST.nil)))) (FzL.cons (Ua (Still.fptr (AllST.cons tS (AllST.cons tS (AllST.cons tS (AllST.cons tI (AllST.cons tB (AllST.cons tS (AllST.cons tS (AllST.cons tI (AllST.cons tI (AllST.cons tI AllST.nil)))))))))))) (FzL.cons (Ua (Still.fptr (AllST.cons tS (AllST.cons tI (AllST.cons tS (AllST.cons tI (AllST.cons tS (AllST.cons tS (AllST.cons tS AllST.nil))))))))) FzL.nil)))) FzL.nil) (qqS b a g) tB)) az))
     rcases wyD d with⟨r,d⟩|⟨r,d⟩
     ·obtain⟨t,j,d⟩:=bnd d
      obtain rfl:=si d
      exact tr fol [3,5] ((0,.fslice 5 (qmW a c b))::(1,.func (.func 177) [] [])::(kK e t)) (ac (hs (.done (.opt (zi ZT 221 (.fslice 5 (qmW a c b)) (.i e))) (.fptr [.func (.func 115) [] [.fptr (kA a.Kind a.Day a.Lot a.Amount a.Yarn a.Dye a.Order) 0,.fptr (kE c.Day c.Lots c.Holds) 0],.func (.func 116) [] [.fptr (kA a.Kind a.Day a.Lot a.Amount a.Yarn a.Dye a.Order) 0,.fptr (.str b.lot.Name::(kB b.lot.Yarn b.lot.Dye b.lot.Stock b.known b.hold.Lot b.hold.Order b.hold.Reserved b.hold.Taken b.free)) 0],.func (.func 117) [] [.fptr [.func (.func 139) [] [],.func (.func 140) [] []] 0,.fptr (.str b.lot.Name::(kB b.lot.Yarn b.lot.Dye b.lot.Stock b.known b.hold.Lot b.hold.Order b.hold.Reserved b.hold.Taken b.free)) 0,.fptr (kA a.Kind a.Day a.Lot a.Amount a.Yarn a.Dye a.Order) 0],.func (.func 118) [] [.fptr [.func (.func 139) [] [],.func (.func 140) [] []] 0,.fptr (.str b.lot.Name::(kB b.lot.Yarn b.lot.Dye b.lot.Stock b.known b.hold.Lot b.hold.Order b.hold.Reserved b.hold.Taken b.free)) 0,.fptr (kA a.Kind a.Day a.Lot a.Amount a.Yarn a.Dye a.Order) 0],.func (.func 119) [] [.fptr (kE c.Day c.Lots c.Holds) 0,.fptr (kA a.Kind a.Day a.Lot a.Amount a.Yarn a.Dye a.Order) 0]] 4)) (ixA (ot r) (by kernel_rfl))) (ac (hs (.call 177 [.func (.func 119) [] [.fptr (kE c.Day c.Lots c.Holds) 0,.fptr (kA a.Kind a.Day a.Lot a.Amount a.Yarn a.Dye a.Order) 0]] [] [] [.func (.func 119) [] [.fptr (kE c.Day c.Lots c.Holds) 0,.fptr (kA a.Kind a.Day a.Lot a.Amount a.Yarn a.Dye a.Order) 0]] (.bool t)) (yX (FzL.cons (Fz.func FzL.nil (FzL.cons (Ua (Still.fptr (AllST.cons tI (AllST.cons (qN qg _ (nl rfl)) (AllST.cons (qN qE _ (nl rfl)) AllST.nil))))) (FzL.cons (Ua (Still.fptr (AllST.cons tS (AllST.cons tI (AllST.cons tS (AllST.cons tI (AllST.cons tS (AllST.cons tS (AllST.cons tS AllST.nil))))))))) FzL.nil))) FzL.nil) (qgD N c a j) tB)) az))
     cases d
    refine ihB g2 (fun w g2=>?_) (fun w g2=>?_)
    ·refine sh fol (kAz e) ?_
     refine Goes.ret ?_
     obtain rfl:=si g2
     exact Or.inr (⟨rfl,_,rfl,(gw2 [.i e] (Ub tI))⟩)
    refine Goes.skip ?_
    refine gh fol ((0,.fslice 5 (qmW a c b))::(1,.func (.func 177) [] [])::(kAJ (w64 (e+1)))) ?_
    exact⟨M,(ofG 19 ((0,.fslice 5 (qmW a c b))::(1,.func (.func 177) [] [])::(kAJ (w64 (e+1)))),[]),Nat.lt_succ_self _,(Sub.refl _),_,rfl,g2⟩
   refine Goes.exit ?_
   obtain rfl:=si g2
   exact Or.inl (⟨rfl,rfl,(Sub.keep [] rfl rfl)⟩)
 rintro x s' (⟨rfl,rfl,hsub⟩|⟨rfl,F,rfl,hret⟩)
 ·try dsimp only at h
  refine Goes.sub hsub ?_
  refine sh fol kAp ?_
  refine Goes.ret ?_
  obtain rfl:=si h
  exact(gw2 [.i (-1)] (Ub tI))
 try dsimp only at h
 obtain rfl:=si h
 exact hret
def qlE (N:Nat) (a:ky) (b:StateT) (c:qo):Option Int:=
 (qf0 N a b c).bind fun d=>
 some (w64 (1+d))
theorem qtH (N:Nat) (a:ky) (b:StateT) (c:qo) {res:Int} (h:qlE N a b c=some res):qJ ZT (.fn 114) [.fslice 5 (qmW a b c)] [] (.i res) []:=by
 unfold qlE at h
 refine Uc Tryz.func114 rfl rfl (m:=6) rfl (rs:=[.tmp 2]) rfl (l:=[(0,.fslice 5 (qmW a b c))]) rfl ?_
 refine sh fol [(0,.fslice 5 (qmW a b c))] ?_
 obtain⟨e,d,h⟩:=bnd h
 refine sq (gr fol [1] (kA2 (w64 (1+e))) (ac (hs (.call 176 [.fslice 5 (qmW a b c),.func (.func 177) [] []] [] [] [.fslice 5 (qmW a b c),.func (.func 177) [] []] (.i e)) (yX (FzL.cons (Ua (Still.fslice (AllST.cons (Still.func AllST.nil (AllST.cons (Still.fptr (AllST.cons tS (AllST.cons tI (AllST.cons tS (AllST.cons tI (AllST.cons tS (AllST.cons tS (AllST.cons tS AllST.nil)))))))) (AllST.cons (Still.fptr (AllST.cons tI (AllST.cons (qN qg _ (nl rfl)) (AllST.cons (qN qE _ (nl rfl)) AllST.nil)))) AllST.nil))) (AllST.cons (Still.func AllST.nil (AllST.cons (Still.fptr (AllST.cons tS (AllST.cons tI (AllST.cons tS (AllST.cons tI (AllST.cons tS (AllST.cons tS (AllST.cons tS AllST.nil)))))))) (AllST.cons (Still.fptr (AllST.cons tS (AllST.cons tS (AllST.cons tS (AllST.cons tI (AllST.cons tB (AllST.cons tS (AllST.cons tS (AllST.cons tI (AllST.cons tI (AllST.cons tI AllST.nil))))))))))) AllST.nil))) (AllST.cons (Still.func AllST.nil (AllST.cons (Still.fptr (AllST.cons (Still.func AllST.nil AllST.nil) (AllST.cons (Still.func AllST.nil AllST.nil) AllST.nil))) (AllST.cons (Still.fptr (AllST.cons tS (AllST.cons tS (AllST.cons tS (AllST.cons tI (AllST.cons tB (AllST.cons tS (AllST.cons tS (AllST.cons tI (AllST.cons tI (AllST.cons tI AllST.nil))))))))))) (AllST.cons (Still.fptr (AllST.cons tS (AllST.cons tI (AllST.cons tS (AllST.cons tI (AllST.cons tS (AllST.cons tS (AllST.cons tS AllST.nil)))))))) AllST.nil)))) (AllST.cons (Still.func AllST.nil (AllST.cons (Still.fptr (AllST.cons (Still.func AllST.nil AllST.nil) (AllST.cons (Still.func AllST.nil AllST.nil) AllST.nil))) (AllST.cons (Still.fptr (AllST.cons tS (AllST.cons tS (AllST.cons tS (AllST.cons tI (AllST.cons tB (AllST.cons tS (AllST.cons tS (AllST.cons tI (AllST.cons tI (AllST.cons tI AllST.nil))))))))))) (AllST.cons (Still.fptr (AllST.cons tS (AllST.cons tI (AllST.cons tS (AllST.cons tI (AllST.cons tS (AllST.cons tS (AllST.cons tS AllST.nil)))))))) AllST.nil)))) (AllST.cons (Still.func AllST.nil (AllST.cons (Still.fptr (AllST.cons tI (AllST.cons (qN qg _ (nl rfl)) (AllST.cons (qN qE _ (nl rfl)) AllST.nil)))) (AllST.cons (Still.fptr (AllST.cons tS (AllST.cons tI (AllST.cons tS (AllST.cons tI (AllST.cons tS (AllST.cons tS (AllST.cons tS AllST.nil)))))))) AllST.nil))) AllST.nil))))))) (FzL.cons (Fz.func FzL.nil FzL.nil) FzL.nil)) (qnL N a b c d) tI)) az) ?_)
 refine Goes.ret ?_
 obtain rfl:=si h
 exact(gw2 [.i (w64 (1+e))] (Ub tI))
def qiK (a:qo) (b:ky):Option Bool:=
 (qps a b.Amount).bind fun c=>
 some c
theorem qoV (a:qo) (b:ky) {res:Bool} (h:qiK a b=some res):qJ ZT (.fn 117) [.fptr [.func (.func 141) [] [],.func (.func 142) [] []] 0,.fptr (.str a.lot.Name::(kB a.lot.Yarn a.lot.Dye a.lot.Stock a.known a.hold.Lot a.hold.Order a.hold.Reserved a.hold.Taken a.free)) 0,.fptr (kA b.Kind b.Day b.Lot b.Amount b.Yarn b.Dye b.Order) 0] [] (.bool res) []:=by
 unfold qiK at h
 refine Uc Tryz.func117 rfl rfl (m:=10) rfl (rs:=[.tmp 3]) rfl (l:=[(0,.fptr [.func (.func 141) [] [],.func (.func 142) [] []] 0),(1,.fptr (.str a.lot.Name::(kB a.lot.Yarn a.lot.Dye a.lot.Stock a.known a.hold.Lot a.hold.Order a.hold.Reserved a.hold.Taken a.free)) 0),(2,.fptr (kA b.Kind b.Day b.Lot b.Amount b.Yarn b.Dye b.Order) 0)]) rfl ?_
 refine sh fol [(0,.fptr [.func (.func 141) [] [],.func (.func 142) [] []] 0),(1,.fptr (.str a.lot.Name::(kB a.lot.Yarn a.lot.Dye a.lot.Stock a.known a.hold.Lot a.hold.Order a.hold.Reserved a.hold.Taken a.free)) 0),(2,.fptr (kA b.Kind b.Day b.Lot b.Amount b.Yarn b.Dye b.Order) 0)] ?_
 obtain⟨d,c,h⟩:=bnd h
 refine sq (gr fol [5] (kA6 d) (ac (cv (qt9 a b.Amount c)) az) ?_)
 refine Goes.ret ?_
 obtain rfl:=si h
 exact(gw2 [.bool d] (Ub tB))
def qkZ (a:qo) (b:ky):Option Bool:=
 (qiK a b).bind fun c=>
 some (!c)
theorem qqT (a:qo) (b:ky) {res:Bool} (h:qkZ a b=some res):qJ ZT (.fn 177) [.func (.func 117) [] [.fptr [.func (.func 141) [] [],.func (.func 142) [] []] 0,.fptr (.str a.lot.Name::(kB a.lot.Yarn a.lot.Dye a.lot.Stock a.known a.hold.Lot a.hold.Order a.hold.Reserved a.hold.Taken a.free)) 0,.fptr (kA b.Kind b.Day b.Lot b.Amount b.Yarn b.Dye b.Order) 0]] [] (.bool res) []:=by
 unfold qkZ at h
 refine Uc Tryz.func177 rfl rfl (m:=6) rfl (rs:=[.tmp 2]) rfl (l:=[(0,.func (.func 117) [] [.fptr [.func (.func 141) [] [],.func (.func 142) [] []] 0,.fptr (.str a.lot.Name::(kB a.lot.Yarn a.lot.Dye a.lot.Stock a.known a.hold.Lot a.hold.Order a.hold.Reserved a.hold.Taken a.free)) 0,.fptr (kA b.Kind b.Day b.Lot b.Amount b.Yarn b.Dye b.Order) 0])]) rfl ?_
 refine sh fol [(0,.func (.func 117) [] [.fptr [.func (.func 141) [] [],.func (.func 142) [] []] 0,.fptr (.str a.lot.Name::(kB a.lot.Yarn a.lot.Dye a.lot.Stock a.known a.hold.Lot a.hold.Order a.hold.Reserved a.hold.Taken a.free)) 0,.fptr (kA b.Kind b.Day b.Lot b.Amount b.Yarn b.Dye b.Order) 0])] ?_
 obtain⟨d,c,h⟩:=bnd h
 refine sq (gr fol [1] (kAi (!d)) (ac (hs (.call 117 [.fptr [.func (.func 141) [] [],.func (.func 142) [] []] 0,.fptr (.str a.lot.Name::(kB a.lot.Yarn a.lot.Dye a.lot.Stock a.known a.hold.Lot a.hold.Order a.hold.Reserved a.hold.Taken a.free)) 0,.fptr (kA b.Kind b.Day b.Lot b.Amount b.Yarn b.Dye b.Order) 0] [] [] [.fptr [.func (.func 141) [] [],.func (.func 142) [] []] 0,.fptr (.str a.lot.Name::(kB a.lot.Yarn a.lot.Dye a.lot.Stock a.known a.hold.Lot a.hold.Order a.hold.Reserved a.hold.Taken a.free)) 0,.fptr (kA b.Kind b.Day b.Lot b.Amount b.Yarn b.Dye b.Order) 0] (.bool d)) (yX (FzL.cons (Ua (Still.fptr (AllST.cons (Still.func AllST.nil AllST.nil) (AllST.cons (Still.func AllST.nil AllST.nil) AllST.nil)))) (FzL.cons (Ua (Still.fptr (AllST.cons tS (AllST.cons tS (AllST.cons tS (AllST.cons tI (AllST.cons tB (AllST.cons tS (AllST.cons tS (AllST.cons tI (AllST.cons tI (AllST.cons tI AllST.nil)))))))))))) (FzL.cons (Ua (Still.fptr (AllST.cons tS (AllST.cons tI (AllST.cons tS (AllST.cons tI (AllST.cons tS (AllST.cons tS (AllST.cons tS AllST.nil))))))))) FzL.nil))) (qoV a b c) tB)) az) ?_)
 refine Goes.ret ?_
 obtain rfl:=si h
 exact(gw2 [.bool (!d)] (Ub tB))
def qiO (b:qo) (c:ky):Option Bool:=
 (qks b c.Amount).bind fun a=>
 some (decide ((if a.hold.Taken>a.lot.Stock then a.hold.Taken else a.lot.Stock)<=999999999))
theorem qoN (a:qo) (b:ky) {res:Bool} (h:qiO a b=some res):qJ ZT (.fn 118) [.fptr [.func (.func 141) [] [],.func (.func 142) [] []] 0,.fptr (.str a.lot.Name::(kB a.lot.Yarn a.lot.Dye a.lot.Stock a.known a.hold.Lot a.hold.Order a.hold.Reserved a.hold.Taken a.free)) 0,.fptr (kA b.Kind b.Day b.Lot b.Amount b.Yarn b.Dye b.Order) 0] [] (.bool res) []:=by
 unfold qiO at h
 refine Uc Tryz.func118 rfl rfl (m:=19) rfl (rs:=[.tmp 3]) rfl (l:=[(0,.fptr [.func (.func 141) [] [],.func (.func 142) [] []] 0),(1,.fptr (.str a.lot.Name::(kB a.lot.Yarn a.lot.Dye a.lot.Stock a.known a.hold.Lot a.hold.Order a.hold.Reserved a.hold.Taken a.free)) 0),(2,.fptr (kA b.Kind b.Day b.Lot b.Amount b.Yarn b.Dye b.Order) 0)]) rfl ?_
 refine sh fol [(0,.fptr [.func (.func 141) [] [],.func (.func 142) [] []] 0),(1,.fptr (.str a.lot.Name::(kB a.lot.Yarn a.lot.Dye a.lot.Stock a.known a.hold.Lot a.hold.Order a.hold.Reserved a.hold.Taken a.free)) 0),(2,.fptr (kA b.Kind b.Day b.Lot b.Amount b.Yarn b.Dye b.Order) 0)] ?_
 obtain⟨c,d,h⟩:=bnd h
 refine sq (gq fol [5] (kA3 []) (kC c.lot.Name c.lot.Yarn c.lot.Dye c.lot.Stock c.known c.hold.Lot c.hold.Order c.hold.Reserved c.hold.Taken c.free []) (ac (cv (qpP a b.Amount d)) az) ?_)
 refine sh fol (kA6 (decide ((if c.hold.Taken>c.lot.Stock then c.hold.Taken else c.lot.Stock)<=999999999))) ?_
 refine Goes.ret ?_
 obtain rfl:=si h
 exact(gw2 [.bool (decide ((if c.hold.Taken>c.lot.Stock then c.hold.Taken else c.lot.Stock)<=999999999))] (Ub tB))
def qkO (a:qo) (b:ky):Option Bool:=
 (qiO a b).bind fun c=>
 some (!c)
theorem qqM (a:qo) (b:ky) {res:Bool} (h:qkO a b=some res):qJ ZT (.fn 177) [.func (.func 118) [] [.fptr [.func (.func 141) [] [],.func (.func 142) [] []] 0,.fptr (.str a.lot.Name::(kB a.lot.Yarn a.lot.Dye a.lot.Stock a.known a.hold.Lot a.hold.Order a.hold.Reserved a.hold.Taken a.free)) 0,.fptr (kA b.Kind b.Day b.Lot b.Amount b.Yarn b.Dye b.Order) 0]] [] (.bool res) []:=by
 unfold qkO at h
 refine Uc Tryz.func177 rfl rfl (m:=6) rfl (rs:=[.tmp 2]) rfl (l:=[(0,.func (.func 118) [] [.fptr [.func (.func 141) [] [],.func (.func 142) [] []] 0,.fptr (.str a.lot.Name::(kB a.lot.Yarn a.lot.Dye a.lot.Stock a.known a.hold.Lot a.hold.Order a.hold.Reserved a.hold.Taken a.free)) 0,.fptr (kA b.Kind b.Day b.Lot b.Amount b.Yarn b.Dye b.Order) 0])]) rfl ?_
 refine sh fol [(0,.func (.func 118) [] [.fptr [.func (.func 141) [] [],.func (.func 142) [] []] 0,.fptr (.str a.lot.Name::(kB a.lot.Yarn a.lot.Dye a.lot.Stock a.known a.hold.Lot a.hold.Order a.hold.Reserved a.hold.Taken a.free)) 0,.fptr (kA b.Kind b.Day b.Lot b.Amount b.Yarn b.Dye b.Order) 0])] ?_
 obtain⟨d,c,h⟩:=bnd h
 refine sq (gr fol [1] (kAi (!d)) (ac (hs (.call 118 [.fptr [.func (.func 141) [] [],.func (.func 142) [] []] 0,.fptr (.str a.lot.Name::(kB a.lot.Yarn a.lot.Dye a.lot.Stock a.known a.hold.Lot a.hold.Order a.hold.Reserved a.hold.Taken a.free)) 0,.fptr (kA b.Kind b.Day b.Lot b.Amount b.Yarn b.Dye b.Order) 0] [] [] [.fptr [.func (.func 141) [] [],.func (.func 142) [] []] 0,.fptr (.str a.lot.Name::(kB a.lot.Yarn a.lot.Dye a.lot.Stock a.known a.hold.Lot a.hold.Order a.hold.Reserved a.hold.Taken a.free)) 0,.fptr (kA b.Kind b.Day b.Lot b.Amount b.Yarn b.Dye b.Order) 0] (.bool d)) (yX (FzL.cons (Ua (Still.fptr (AllST.cons (Still.func AllST.nil AllST.nil) (AllST.cons (Still.func AllST.nil AllST.nil) AllST.nil)))) (FzL.cons (Ua (Still.fptr (AllST.cons tS (AllST.cons tS (AllST.cons tS (AllST.cons tI (AllST.cons tB (AllST.cons tS (AllST.cons tS (AllST.cons tI (AllST.cons tI (AllST.cons tI AllST.nil)))))))))))) (FzL.cons (Ua (Still.fptr (AllST.cons tS (AllST.cons tI (AllST.cons tS (AllST.cons tI (AllST.cons tS (AllST.cons tS (AllST.cons tS AllST.nil))))))))) FzL.nil))) (qoN a b c) tB)) az) ?_)
 refine Goes.ret ?_
 obtain rfl:=si h
 exact(gw2 [.bool (!d)] (Ub tB))
def qaw (N:Nat) (a:ky) (d:StateT) (b:qo):Nat->Int->Option (Unit⊕Int)
 |0,_=>none
 |K+1,c=>
  if c<5 then
  (if c=0 then
  (qcX a d).bind fun i=>
  some i
  else
  if c=1 then
  (qbe a b).bind fun j=>
  some j
  else
  if c=2 then
  (qkZ b a).bind fun e=>
  some e
  else
  if c=3 then
  (qkO b a).bind fun f=>
  some f
  else
  if c=4 then
  (qdq N d a).bind fun g=>
  some g
  else
  none:Option Bool).bind fun h=>
  if h=true then
  some (.inr c)
  else
  qaw N a d b K (w64 (c+1))
  else
  some (.inl ())
def qf4 (N:Nat) (a:ky) (b:StateT) (c:qo):Option Int:=
 (qaw N a b c N 0).bind (fun
 |(.inl ())=>
 some (-1)
 |(.inr d)=>
 some d)
theorem qnR (N:Nat) (a:ky) (c:StateT) (b:qo) {res:Int} (h:qf4 N a c b=some res):qJ ZT (.fn 176) [.fslice 5 (qmK a c b),.func (.func 177) [] []] [] (.i res) []:=by
 unfold qf4 at h
 refine Uc Tryz.func176 rfl rfl (m:=19) rfl (rs:=[.tmp 4]) rfl (l:=[(0,.fslice 5 (qmK a c b)),(1,.func (.func 177) [] [])]) rfl ?_
 refine sh fol [(0,.fslice 5 (qmK a c b)),(1,.func (.func 177) [] [])] ?_
 refine sq ?_
 refine sh fol ((0,.fslice 5 (qmK a c b))::(1,.func (.func 177) [] [])::kBA) ?_
 refine Goes.block ?_
 obtain⟨u,g2,h⟩:=bnd h
 refine Goes.imp (Q:=fun x s'=>(x= .exit 0/\(.inl ())=u/\Sub s' (ofG 19 [],[]))\/(x= .ret/\ ∃y,(.inr y)=u/\qbg ZT [.tmp 4] (.i y) .ret s')) ?_ ?_
 ·refine Ud (fun M s=> ∃(e:Int),s=(ofG 19 ((0,.fslice 5 (qmK a c b))::(1,.func (.func 177) [] [])::(kAJ e)),[])/\qaw N a c b M e=some u) ?_ (m:=N) ⟨_,rfl,g2⟩
  rintro M s ⟨e,rfl,g2⟩
  cases M with
  |zero=>simp only[qaw]at g2;cases g2
  |succ M=>
   rw[qaw]at g2
   refine sh fol ((0,.fslice 5 (qmK a c b))::(1,.func (.func 177) [] [])::(kA5 e (decide (e<5)))) ?_
   refine sq ?_
   refine ihD g2 (fun E g2=>?_) (fun E g2=>?_)
   ·refine Goes.skip ?_
    refine sq (Goes.block ?_)
    refine sh fol ((0,.fslice 5 (qmK a c b))::(1,.func (.func 177) [] [])::(5,.i e)::(kAJ e)) ?_
    refine sq ?_
    obtain⟨v,d,g2⟩:=bnd g2
    refine Goes.cut (s':=(ofG 19 ((0,.fslice 5 (qmK a c b))::(1,.func (.func 177) [] [])::(kK e v)),[])) ?_ ?_
    ·rcases wyD d with⟨z,d⟩|⟨z,d⟩
     ·obtain⟨A,k,d⟩:=bnd d
      obtain rfl:=si d
      exact tr fol [3,5] ((0,.fslice 5 (qmK a c b))::(1,.func (.func 177) [] [])::(kK e A)) (ac (hs (.done (.opt (zi ZT 221 (.fslice 5 (qmK a c b)) (.i e))) (.fptr [.func (.func 115) [] [.fptr (kA a.Kind a.Day a.Lot a.Amount a.Yarn a.Dye a.Order) 0,.fptr (kE c.Day c.Lots c.Holds) 0],.func (.func 116) [] [.fptr (kA a.Kind a.Day a.Lot a.Amount a.Yarn a.Dye a.Order) 0,.fptr (.str b.lot.Name::(kB b.lot.Yarn b.lot.Dye b.lot.Stock b.known b.hold.Lot b.hold.Order b.hold.Reserved b.hold.Taken b.free)) 0],.func (.func 117) [] [.fptr [.func (.func 141) [] [],.func (.func 142) [] []] 0,.fptr (.str b.lot.Name::(kB b.lot.Yarn b.lot.Dye b.lot.Stock b.known b.hold.Lot b.hold.Order b.hold.Reserved b.hold.Taken b.free)) 0,.fptr (kA a.Kind a.Day a.Lot a.Amount a.Yarn a.Dye a.Order) 0],.func (.func 118) [] [.fptr [.func (.func 141) [] [],.func (.func 142) [] []] 0,.fptr (.str b.lot.Name::(kB b.lot.Yarn b.lot.Dye b.lot.Stock b.known b.hold.Lot b.hold.Order b.hold.Reserved b.hold.Taken b.free)) 0,.fptr (kA a.Kind a.Day a.Lot a.Amount a.Yarn a.Dye a.Order) 0],.func (.func 119) [] [.fptr (kE c.Day c.Lots c.Holds) 0,.fptr (kA a.Kind a.Day a.Lot a.Amount a.Yarn a.Dye a.Order) 0]] 0)) (ixA (ot z) (by kernel_rfl))) (ac (hs (.call 177 [.func (.func 115) [] [.fptr (kA a.Kind a.Day a.Lot a.Amount a.Yarn a.Dye a.Order) 0,.fptr (kE c.Day c.Lots c.Holds) 0]] [] [] [.func (.func 115) [] [.fptr (kA a.Kind a.Day a.Lot a.Amount a.Yarn a.Dye a.Order) 0,.fptr (kE c.Day c.Lots c.Holds) 0]] (.bool A)) (yX (FzL.cons (Fz.func FzL.nil (FzL.cons (Ua (Still.fptr (AllST.cons tS (AllST.cons tI (AllST.cons tS (AllST.cons tI (AllST.cons tS (AllST.cons tS (AllST.cons tS AllST.nil))))))))) (FzL.cons (Ua (Still.fptr (AllST.cons tI (AllST.cons (qN qg _ (nl rfl)) (AllST.cons (qN qE _ (nl rfl)) AllST.nil))))) FzL.nil))) FzL.nil) (qgt a c k) tB)) az))
     rcases wyD d with⟨B,d⟩|⟨B,d⟩
     ·obtain⟨C,n,d⟩:=bnd d
      obtain rfl:=si d
      exact tr fol [3,5] ((0,.fslice 5 (qmK a c b))::(1,.func (.func 177) [] [])::(kK e C)) (ac (hs (.done (.opt (zi ZT 221 (.fslice 5 (qmK a c b)) (.i e))) (.fptr [.func (.func 115) [] [.fptr (kA a.Kind a.Day a.Lot a.Amount a.Yarn a.Dye a.Order) 0,.fptr (kE c.Day c.Lots c.Holds) 0],.func (.func 116) [] [.fptr (kA a.Kind a.Day a.Lot a.Amount a.Yarn a.Dye a.Order) 0,.fptr (.str b.lot.Name::(kB b.lot.Yarn b.lot.Dye b.lot.Stock b.known b.hold.Lot b.hold.Order b.hold.Reserved b.hold.Taken b.free)) 0],.func (.func 117) [] [.fptr [.func (.func 141) [] [],.func (.func 142) [] []] 0,.fptr (.str b.lot.Name::(kB b.lot.Yarn b.lot.Dye b.lot.Stock b.known b.hold.Lot b.hold.Order b.hold.Reserved b.hold.Taken b.free)) 0,.fptr (kA a.Kind a.Day a.Lot a.Amount a.Yarn a.Dye a.Order) 0],.func (.func 118) [] [.fptr [.func (.func 141) [] [],.func (.func 142) [] []] 0,.fptr (.str b.lot.Name::(kB b.lot.Yarn b.lot.Dye b.lot.Stock b.known b.hold.Lot b.hold.Order b.hold.Reserved b.hold.Taken b.free)) 0,.fptr (kA a.Kind a.Day a.Lot a.Amount a.Yarn a.Dye a.Order) 0],.func (.func 119) [] [.fptr (kE c.Day c.Lots c.Holds) 0,.fptr (kA a.Kind a.Day a.Lot a.Amount a.Yarn a.Dye a.Order) 0]] 1)) (ixA (ot B) (by kernel_rfl))) (ac (hs (.call 177 [.func (.func 116) [] [.fptr (kA a.Kind a.Day a.Lot a.Amount a.Yarn a.Dye a.Order) 0,.fptr (.str b.lot.Name::(kB b.lot.Yarn b.lot.Dye b.lot.Stock b.known b.hold.Lot b.hold.Order b.hold.Reserved b.hold.Taken b.free)) 0]] [] [] [.func (.func 116) [] [.fptr (kA a.Kind a.Day a.Lot a.Amount a.Yarn a.Dye a.Order) 0,.fptr (.str b.lot.Name::(kB b.lot.Yarn b.lot.Dye b.lot.Stock b.known b.hold.Lot b.hold.Order b.hold.Reserved b.hold.Taken b.free)) 0]] (.bool C)) (yX (FzL.cons (Fz.func FzL.nil (FzL.cons (Ua (Still.fptr (AllST.cons tS (AllST.cons tI (AllST.cons tS (AllST.cons tI (AllST.cons tS (AllST.cons tS (AllST.cons tS AllST.nil))))))))) (FzL.cons (Ua (Still.fptr (AllST.cons tS (AllST.cons tS (AllST.cons tS (AllST.cons tI (AllST.cons tB (AllST.cons tS (AllST.cons tS (AllST.cons tI (AllST.cons tI (AllST.cons tI AllST.nil)))))))))))) FzL.nil))) FzL.nil) (qgj a b n) tB)) az))
     rcases wyD d with⟨D,d⟩|⟨D,d⟩
     ·obtain⟨o,f,d⟩:=bnd d
      obtain rfl:=si d
      exact tr fol [3,5] ((0,.fslice 5 (qmK a c b))::(1,.func (.func 177) [] [])::(kK e o)) (ac (hs (.done (.opt (zi ZT 221 (.fslice 5 (qmK a c b)) (.i e))) (.fptr [.func (.func 115) [] [.fptr (kA a.Kind a.Day a.Lot a.Amount a.Yarn a.Dye a.Order) 0,.fptr (kE c.Day c.Lots c.Holds) 0],.func (.func 116) [] [.fptr (kA a.Kind a.Day a.Lot a.Amount a.Yarn a.Dye a.Order) 0,.fptr (.str b.lot.Name::(kB b.lot.Yarn b.lot.Dye b.lot.Stock b.known b.hold.Lot b.hold.Order b.hold.Reserved b.hold.Taken b.free)) 0],.func (.func 117) [] [.fptr [.func (.func 141) [] [],.func (.func 142) [] []] 0,.fptr (.str b.lot.Name::(kB b.lot.Yarn b.lot.Dye b.lot.Stock b.known b.hold.Lot b.hold.Order b.hold.Reserved b.hold.Taken b.free)) 0,.fptr (kA a.Kind a.Day a.Lot a.Amount a.Yarn a.Dye a.Order) 0],.func (.func 118) [] [.fptr [.func (.func 141) [] [],.func (.func 142) [] []] 0,.fptr (.str b.lot.Name::(kB b.lot.Yarn b.lot.Dye b.lot.Stock b.known b.hold.Lot b.hold.Order b.hold.Reserved b.hold.Taken b.free)) 0,.fptr (kA a.Kind a.Day a.Lot a.Amount a.Yarn a.Dye a.Order) 0],.func (.func 119) [] [.fptr (kE c.Day c.Lots c.Holds) 0,.fptr (kA a.Kind a.Day a.Lot a.Amount a.Yarn a.Dye a.Order) 0]] 2)) (ixA (ot D) (by kernel_rfl))) (ac (hs (.call 177 [.func (.func 117) [] [.fptr [.func (.func 141) [] [],.func (.func 142) [] []] 0,.fptr (.str b.lot.Name::(kB b.lot.Yarn b.lot.Dye b.lot.Stock b.known b.hold.Lot b.hold.Order b.hold.Reserved b.hold.Taken b.free)) 0,.fptr (kA a.Kind a.Day a.Lot a.Amount a.Yarn a.Dye a.Order) 0]] [] [] [.func (.func 117) [] [.fptr [.func (.func 141) [] [],.func (.func 142) [] []] 0,.fptr (.str b.lot.Name::(kB b.lot.Yarn b.lot.Dye b.lot.Stock b.known b.hold.Lot b.hold.Order b.hold.Reserved b.hold.Taken b.free)) 0,.fptr (kA a.Kind a.Day a.Lot a.Amount a.Yarn a.Dye a.Order) 0]] (.bool o)) (yX (FzL.cons (Fz.func FzL.nil (FzL.cons (Ua (Still.fptr (AllST.cons (Still.func AllST.nil AllST.nil) (AllST.cons (Still.func AllST.nil AllST.nil) AllST.nil)))) (FzL.cons (Ua (Still.fptr (AllST.cons tS (AllST.cons tS (AllST.cons tS (AllST.cons tI (AllST.cons tB (AllST.cons tS (AllST.cons tS (AllST.cons tI (AllST.cons tI (AllST.cons tI AllST.nil)))))))))))) (FzL.cons (Ua (Still.fptr (AllST.cons tS (AllST.cons tI (AllST.cons tS (AllST.cons tI (AllST.cons tS (AllST.cons tS (AllST.cons tS AllST.nil))))))))) FzL.nil)))) FzL.nil) (qqT b a f) tB)) az))
     rcases wyD d with⟨p,d⟩|⟨p,d⟩
     ·obtain⟨q,g,d⟩:=bnd d
      obtain rfl:=si d
      exact tr fol [3,5] ((0,.fslice 5 (qmK a c b))::(1,.func (.func 177) [] [])::(kK e q)) (ac (hs (.done (.opt (zi ZT 221 (.fslice 5 (qmK a c b)) (.i e))) (.fptr [.func (.func 115) [] [.fptr (kA a.Kind a.Day a.Lot a.Amount a.Yarn a.Dye a.Order) 0,.fptr (kE c.Day c.Lots c.Holds) 0],.func (.func 116) [] [.fptr (kA a.Kind a.Day a.Lot a.Amount a.Yarn a.Dye a.Order) 0,.fptr (.str b.lot.Name::(kB b.lot.Yarn b.lot.Dye b.lot.Stock b.known b.hold.Lot b.hold.Order b.hold.Reserved b.hold.Taken b.free)) 0],.func (.func 117) [] [.fptr [.func (.func 141) [] [],.func (.func 142) [] []] 0,.fptr (.str b.lot.Name::(kB b.lot.Yarn b.lot.Dye b.lot.Stock b.known b.hold.Lot b.hold.Order b.hold.Reserved b.hold.Taken b.free)) 0,.fptr (kA a.Kind a.Day a.Lot a.Amount a.Yarn a.Dye a.Order) 0],.func (.func 118) [] [.fptr [.func (.func 141) [] [],.func (.func 142) [] []] 0,.fptr (.str b.lot.Name::(kB b.lot.Yarn b.lot.Dye b.lot.Stock b.known b.hold.Lot b.hold.Order b.hold.Reserved b.hold.Taken b.free)) 0,.fptr (kA a.Kind a.Day a.Lot a.Amount a.Yarn a.Dye a.Order) 0],.func (.func 119) [] [.fptr (kE c.Day c.Lots c.Holds) 0,.fptr (kA a.Kind a.Day a.Lot a.Amount a.Yarn a.Dye a.Order) 0]] 3)) (ixA (ot p) (by kernel_rfl))) (ac (hs (.call 177 [.func (.func 118) [] [.fptr [.func (.func 141) [] [],.func (.func 142) [] []] 0,.fptr (.str b.lot.Name::(kB b.lot.Yarn b.lot.Dye b.lot.Stock b.known b.hold.Lot b.hold.Order b.hold.Reserved b.hold.Taken b.free)) 0,.fptr (kA a.Kind a.Day a.Lot a.Amount a.Yarn a.Dye a.Order) 0]] [] [] [.func (.func 118) [] [.fptr [.func (.func 141) [] [],.func (.func 142) [] []] 0,.fptr (.str b.lot.Name::(kB b.lot.Yarn b.lot.Dye b.lot.Stock b.known b.hold.Lot b.hold.Order b.hold.Reserved b.hold.Taken b.free)) 0,.fptr (kA a.Kind a.Day a.Lot a.Amount a.Yarn a.Dye a.Order) 0]] (.bool q)) (yX (FzL.cons (Fz.func FzL.nil (FzL.cons (Ua (Still.fptr (AllST.cons (Still.func AllST.nil AllST.nil) (AllST.cons (Still.func AllST.nil AllST.nil) AllST.nil)))) (FzL.cons (Ua (Still.fptr (AllST.cons tS (AllST.cons tS (AllST.cons tS (AllST.cons tI (AllST.cons tB (AllST.cons tS (AllST.cons tS (AllST.cons tI (AllST.cons tI (AllST.cons tI AllST.nil)))))))))))) (FzL.cons (Ua (Still.fptr (AllST.cons tS (AllST.cons tI (AllST.cons tS (AllST.cons tI (AllST.cons tS (AllST.cons tS (AllST.cons tS AllST.nil))))))))) FzL.nil)))) FzL.nil) (qqM b a g) tB)) az))
     rcases wyD d with⟨r,d⟩|⟨r,d⟩
     ·obtain⟨t,j,d⟩:=bnd d
      obtain rfl:=si d
      exact tr fol [3,5] ((0,.fslice 5 (qmK a c b))::(1,.func (.func 177) [] [])::(kK e t)) (ac (hs (.done (.opt (zi ZT 221 (.fslice 5 (qmK a c b)) (.i e))) (.fptr [.func (.func 115) [] [.fptr (kA a.Kind a.Day a.Lot a.Amount a.Yarn a.Dye a.Order) 0,.fptr (kE c.Day c.Lots c.Holds) 0],.func (.func 116) [] [.fptr (kA a.Kind a.Day a.Lot a.Amount a.Yarn a.Dye a.Order) 0,.fptr (.str b.lot.Name::(kB b.lot.Yarn b.lot.Dye b.lot.Stock b.known b.hold.Lot b.hold.Order b.hold.Reserved b.hold.Taken b.free)) 0],.func (.func 117) [] [.fptr [.func (.func 141) [] [],.func (.func 142) [] []] 0,.fptr (.str b.lot.Name::(kB b.lot.Yarn b.lot.Dye b.lot.Stock b.known b.hold.Lot b.hold.Order b.hold.Reserved b.hold.Taken b.free)) 0,.fptr (kA a.Kind a.Day a.Lot a.Amount a.Yarn a.Dye a.Order) 0],.func (.func 118) [] [.fptr [.func (.func 141) [] [],.func (.func 142) [] []] 0,.fptr (.str b.lot.Name::(kB b.lot.Yarn b.lot.Dye b.lot.Stock b.known b.hold.Lot b.hold.Order b.hold.Reserved b.hold.Taken b.free)) 0,.fptr (kA a.Kind a.Day a.Lot a.Amount a.Yarn a.Dye a.Order) 0],.func (.func 119) [] [.fptr (kE c.Day c.Lots c.Holds) 0,.fptr (kA a.Kind a.Day a.Lot a.Amount a.Yarn a.Dye a.Order) 0]] 4)) (ixA (ot r) (by kernel_rfl))) (ac (hs (.call 177 [.func (.func 119) [] [.fptr (kE c.Day c.Lots c.Holds) 0,.fptr (kA a.Kind a.Day a.Lot a.Amount a.Yarn a.Dye a.Order) 0]] [] [] [.func (.func 119) [] [.fptr (kE c.Day c.Lots c.Holds) 0,.fptr (kA a.Kind a.Day a.Lot a.Amount a.Yarn a.Dye a.Order) 0]] (.bool t)) (yX (FzL.cons (Fz.func FzL.nil (FzL.cons (Ua (Still.fptr (AllST.cons tI (AllST.cons (qN qg _ (nl rfl)) (AllST.cons (qN qE _ (nl rfl)) AllST.nil))))) (FzL.cons (Ua (Still.fptr (AllST.cons tS (AllST.cons tI (AllST.cons tS (AllST.cons tI (AllST.cons tS (AllST.cons tS (AllST.cons tS AllST.nil))))))))) FzL.nil))) FzL.nil) (qgD N c a j) tB)) az))
     cases d
    refine ihB g2 (fun w g2=>?_) (fun w g2=>?_)
    ·refine sh fol (kAz e) ?_
     refine Goes.ret ?_
     obtain rfl:=si g2
     exact Or.inr (⟨rfl,_,rfl,(gw2 [.i e] (Ub tI))⟩)
    refine Goes.skip ?_
    refine gh fol ((0,.fslice 5 (qmK a c b))::(1,.func (.func 177) [] [])::(kAJ (w64 (e+1)))) ?_
    exact⟨M,(ofG 19 ((0,.fslice 5 (qmK a c b))::(1,.func (.func 177) [] [])::(kAJ (w64 (e+1)))),[]),Nat.lt_succ_self _,(Sub.refl _),_,rfl,g2⟩
   refine Goes.exit ?_
   obtain rfl:=si g2
   exact Or.inl (⟨rfl,rfl,(Sub.keep [] rfl rfl)⟩)
 rintro x s' (⟨rfl,rfl,hsub⟩|⟨rfl,F,rfl,hret⟩)
 ·try dsimp only at h
  refine Goes.sub hsub ?_
  refine sh fol kAp ?_
  refine Goes.ret ?_
  obtain rfl:=si h
  exact(gw2 [.i (-1)] (Ub tI))
 try dsimp only at h
 obtain rfl:=si h
 exact hret
def qlm (N:Nat) (a:ky) (b:StateT) (c:qo):Option Int:=
 (qf4 N a b c).bind fun d=>
 some (w64 (1+d))
theorem qtA (N:Nat) (a:ky) (b:StateT) (c:qo) {res:Int} (h:qlm N a b c=some res):qJ ZT (.fn 114) [.fslice 5 (qmK a b c)] [] (.i res) []:=by
 unfold qlm at h
 refine Uc Tryz.func114 rfl rfl (m:=6) rfl (rs:=[.tmp 2]) rfl (l:=[(0,.fslice 5 (qmK a b c))]) rfl ?_
 refine sh fol [(0,.fslice 5 (qmK a b c))] ?_
 obtain⟨e,d,h⟩:=bnd h
 refine sq (gr fol [1] (kA2 (w64 (1+e))) (ac (hs (.call 176 [.fslice 5 (qmK a b c),.func (.func 177) [] []] [] [] [.fslice 5 (qmK a b c),.func (.func 177) [] []] (.i e)) (yX (FzL.cons (Ua (Still.fslice (AllST.cons (Still.func AllST.nil (AllST.cons (Still.fptr (AllST.cons tS (AllST.cons tI (AllST.cons tS (AllST.cons tI (AllST.cons tS (AllST.cons tS (AllST.cons tS AllST.nil)))))))) (AllST.cons (Still.fptr (AllST.cons tI (AllST.cons (qN qg _ (nl rfl)) (AllST.cons (qN qE _ (nl rfl)) AllST.nil)))) AllST.nil))) (AllST.cons (Still.func AllST.nil (AllST.cons (Still.fptr (AllST.cons tS (AllST.cons tI (AllST.cons tS (AllST.cons tI (AllST.cons tS (AllST.cons tS (AllST.cons tS AllST.nil)))))))) (AllST.cons (Still.fptr (AllST.cons tS (AllST.cons tS (AllST.cons tS (AllST.cons tI (AllST.cons tB (AllST.cons tS (AllST.cons tS (AllST.cons tI (AllST.cons tI (AllST.cons tI AllST.nil))))))))))) AllST.nil))) (AllST.cons (Still.func AllST.nil (AllST.cons (Still.fptr (AllST.cons (Still.func AllST.nil AllST.nil) (AllST.cons (Still.func AllST.nil AllST.nil) AllST.nil))) (AllST.cons (Still.fptr (AllST.cons tS (AllST.cons tS (AllST.cons tS (AllST.cons tI (AllST.cons tB (AllST.cons tS (AllST.cons tS (AllST.cons tI (AllST.cons tI (AllST.cons tI AllST.nil))))))))))) (AllST.cons (Still.fptr (AllST.cons tS (AllST.cons tI (AllST.cons tS (AllST.cons tI (AllST.cons tS (AllST.cons tS (AllST.cons tS AllST.nil)))))))) AllST.nil)))) (AllST.cons (Still.func AllST.nil (AllST.cons (Still.fptr (AllST.cons (Still.func AllST.nil AllST.nil) (AllST.cons (Still.func AllST.nil AllST.nil) AllST.nil))) (AllST.cons (Still.fptr (AllST.cons tS (AllST.cons tS (AllST.cons tS (AllST.cons tI (AllST.cons tB (AllST.cons tS (AllST.cons tS (AllST.cons tI (AllST.cons tI (AllST.cons tI AllST.nil))))))))))) (AllST.cons (Still.fptr (AllST.cons tS (AllST.cons tI (AllST.cons tS (AllST.cons tI (AllST.cons tS (AllST.cons tS (AllST.cons tS AllST.nil)))))))) AllST.nil)))) (AllST.cons (Still.func AllST.nil (AllST.cons (Still.fptr (AllST.cons tI (AllST.cons (qN qg _ (nl rfl)) (AllST.cons (qN qE _ (nl rfl)) AllST.nil)))) (AllST.cons (Still.fptr (AllST.cons tS (AllST.cons tI (AllST.cons tS (AllST.cons tI (AllST.cons tS (AllST.cons tS (AllST.cons tS AllST.nil)))))))) AllST.nil))) AllST.nil))))))) (FzL.cons (Fz.func FzL.nil FzL.nil) FzL.nil)) (qnR N a b c d) tI)) az) ?_)
 refine Goes.ret ?_
 obtain rfl:=si h
 exact(gw2 [.i (w64 (1+e))] (Ub tI))
def qiw (N:Nat) (a:StateT) (e:ky):Option Int:=
 (jJ N a e).bind fun b=>
 (qh5).bind fun i=>
 if(e.Kind==[114,101,99,101,105,118,101])=true then
 (qlR N e a b).bind fun g=>
 some g
 else
 if(e.Kind==[114,101,115,101,114,118,101])=true then
 (qli N e a b).bind fun h=>
 some h
 else
 if(e.Kind==[114,101,108,101,97,115,101])=true then
 (qlN N e a b).bind fun c=>
 some c
 else
 if(e.Kind==[116,97,107,101])=true then
 (qlE N e a b).bind fun d=>
 some d
 else
 if(e.Kind==[114,101,116,117,114,110])=true then
 (qlm N e a b).bind fun f=>
 some f
 else
 none
theorem qr9 (N:Nat) (b:StateT) (e:ky) {res:Int} (h:qiw N b e=some res):qJ ZT (.fn 57) (kAE b.Day b.Lots b.Holds [.agg [.str e.Kind,.i e.Day,.str e.Lot,.i e.Amount,.str e.Yarn,.str e.Dye,.str e.Order]]) [] (.i res) []:=by
 unfold qiw at h
 refine Uc Tryz.func57 rfl rfl (m:=21) rfl (rs:=[.tmp 4]) rfl (l:=(kZ b.Day b.Lots b.Holds [(1,.agg [.str e.Kind,.i e.Day,.str e.Lot,.i e.Amount,.str e.Yarn,.str e.Dye,.str e.Order])])) rfl ?_
 refine sg fol (kN []) (kD b.Day b.Lots b.Holds (kF e.Kind e.Day e.Lot e.Amount e.Yarn e.Dye e.Order [])) ?_
 obtain⟨a,p,h⟩:=bnd h
 refine sq (gq fol [2] (kN [(5,.ptr 2 0)]) (kD b.Day b.Lots b.Holds (kF e.Kind e.Day e.Lot e.Amount e.Yarn e.Dye e.Order (kC a.lot.Name a.lot.Yarn a.lot.Dye a.lot.Stock a.known a.hold.Lot a.hold.Order a.hold.Reserved a.hold.Taken a.free []))) (ac (cv (qeC N b e p)) az) ?_)
 refine sq ?_
 obtain⟨y,c,h⟩:=bnd h
 rcases wyB h with⟨o,h⟩|⟨o,h⟩
 ·refine gq fol [0,3] (kN kAr) (kD b.Day b.Lots b.Holds (kF e.Kind e.Day e.Lot e.Amount e.Yarn e.Dye e.Order (kC a.lot.Name a.lot.Yarn a.lot.Dye a.lot.Stock a.known a.hold.Lot a.hold.Order a.hold.Reserved a.hold.Taken a.free [.cells [.func (.func 132) [] [],.func (.func 133) [] []]]))) (ac (cv (xI c)) (ac (hs (.done (qeR ZT 143 (fm1) (.str e.Kind) false) (.agg [.func (.func 132) [] [],.func (.func 133) [] []])) (qmB qnm [[114,101,99,101,105,118,101],[114,101,115,101,114,118,101],[114,101,108,101,97,115,101],[116,97,107,101],[114,101,116,117,114,110]] (qfQ o) rfl)) az)) ?_
  obtain⟨u,q,h⟩:=bnd h
  refine sq (gq fol [6] (kAz u) (kD b.Day b.Lots b.Holds (kF e.Kind e.Day e.Lot e.Amount e.Yarn e.Dye e.Order (kC a.lot.Name a.lot.Yarn a.lot.Dye a.lot.Stock a.known a.hold.Lot a.hold.Order a.hold.Reserved a.hold.Taken a.free [.cells [.func (.func 132) [] [],.func (.func 133) [] []],.cells [.func (.func 115) [] [.ptr 1 0,.ptr 0 0],.func (.func 116) [] [.ptr 1 0,.ptr 2 0],.func (.func 117) [] [.ptr 3 0,.ptr 2 0,.ptr 1 0],.func (.func 118) [] [.ptr 3 0,.ptr 2 0,.ptr 1 0],.func (.func 119) [] [.ptr 0 0,.ptr 1 0]]]))) (ac (hs (.call 114 [.slice 4 0 5 5 1] (kD b.Day b.Lots b.Holds (kF e.Kind e.Day e.Lot e.Amount e.Yarn e.Dye e.Order (kC a.lot.Name a.lot.Yarn a.lot.Dye a.lot.Stock a.known a.hold.Lot a.hold.Order a.hold.Reserved a.hold.Taken a.free [.cells [.func (.func 132) [] [],.func (.func 133) [] []],.cells [.func (.func 115) [] [.ptr 1 0,.ptr 0 0],.func (.func 116) [] [.ptr 1 0,.ptr 2 0],.func (.func 117) [] [.ptr 3 0,.ptr 2 0,.ptr 1 0],.func (.func 118) [] [.ptr 3 0,.ptr 2 0,.ptr 1 0],.func (.func 119) [] [.ptr 0 0,.ptr 1 0]]]))) [0,1,2,3,4] [.fslice 5 (qnf e b a)] (.i u)) (qe6 (FzL.cons (Fz.lit rfl rfl (FzL.cons (Fz.func FzL.nil (FzL.cons (Fz.ptr rfl rfl (FzL.cons (Ua tS) (FzL.cons (Ua tI) (FzL.cons (Ua tS) (FzL.cons (Ua tI) (FzL.cons (Ua tS) (FzL.cons (Ua tS) (FzL.cons (Ua tS) FzL.nil)))))))) (FzL.cons (Fz.ptr rfl rfl (FzL.cons (Ua tI) (FzL.cons (Ua (qN qg _ (nl rfl))) (FzL.cons (Ua (qN qE _ (nl rfl))) FzL.nil)))) FzL.nil))) (FzL.cons (Fz.func FzL.nil (FzL.cons (Fz.ptr rfl rfl (FzL.cons (Ua tS) (FzL.cons (Ua tI) (FzL.cons (Ua tS) (FzL.cons (Ua tI) (FzL.cons (Ua tS) (FzL.cons (Ua tS) (FzL.cons (Ua tS) FzL.nil)))))))) (FzL.cons (Fz.ptr rfl rfl (FzL.cons (Ua tS) (FzL.cons (Ua tS) (FzL.cons (Ua tS) (FzL.cons (Ua tI) (FzL.cons (Ua tB) (FzL.cons (Ua tS) (FzL.cons (Ua tS) (FzL.cons (Ua tI) (FzL.cons (Ua tI) (FzL.cons (Ua tI) FzL.nil))))))))))) FzL.nil))) (FzL.cons (Fz.func FzL.nil (FzL.cons (Fz.ptr rfl rfl (FzL.cons (Fz.func FzL.nil FzL.nil) (FzL.cons (Fz.func FzL.nil FzL.nil) FzL.nil))) (FzL.cons (Fz.ptr rfl rfl (FzL.cons (Ua tS) (FzL.cons (Ua tS) (FzL.cons (Ua tS) (FzL.cons (Ua tI) (FzL.cons (Ua tB) (FzL.cons (Ua tS) (FzL.cons (Ua tS) (FzL.cons (Ua tI) (FzL.cons (Ua tI) (FzL.cons (Ua tI) FzL.nil))))))))))) (FzL.cons (Fz.ptr rfl rfl (FzL.cons (Ua tS) (FzL.cons (Ua tI) (FzL.cons (Ua tS) (FzL.cons (Ua tI) (FzL.cons (Ua tS) (FzL.cons (Ua tS) (FzL.cons (Ua tS) FzL.nil)))))))) FzL.nil)))) (FzL.cons (Fz.func FzL.nil (FzL.cons (Fz.ptr rfl rfl (FzL.cons (Fz.func FzL.nil FzL.nil) (FzL.cons (Fz.func FzL.nil FzL.nil) FzL.nil))) (FzL.cons (Fz.ptr rfl rfl (FzL.cons (Ua tS) (FzL.cons (Ua tS) (FzL.cons (Ua tS) (FzL.cons (Ua tI) (FzL.cons (Ua tB) (FzL.cons (Ua tS) (FzL.cons (Ua tS) (FzL.cons (Ua tI) (FzL.cons (Ua tI) (FzL.cons (Ua tI) FzL.nil))))))))))) (FzL.cons (Fz.ptr rfl rfl (FzL.cons (Ua tS) (FzL.cons (Ua tI) (FzL.cons (Ua tS) (FzL.cons (Ua tI) (FzL.cons (Ua tS) (FzL.cons (Ua tS) (FzL.cons (Ua tS) FzL.nil)))))))) FzL.nil)))) (FzL.cons (Fz.func FzL.nil (FzL.cons (Fz.ptr rfl rfl (FzL.cons (Ua tI) (FzL.cons (Ua (qN qg _ (nl rfl))) (FzL.cons (Ua (qN qE _ (nl rfl))) FzL.nil)))) (FzL.cons (Fz.ptr rfl rfl (FzL.cons (Ua tS) (FzL.cons (Ua tI) (FzL.cons (Ua tS) (FzL.cons (Ua tI) (FzL.cons (Ua tS) (FzL.cons (Ua tS) (FzL.cons (Ua tS) FzL.nil)))))))) FzL.nil))) FzL.nil)))))) FzL.nil) (qtg N e b a q) tI rfl)) az) ?_)
  refine Goes.ret ?_
  obtain rfl:=si h
  exact(gw2 [.i u] (Ub tI))
 rcases wyB h with⟨r,h⟩|⟨r,h⟩
 ·refine gq fol [0,3] (kN kAr) (kD b.Day b.Lots b.Holds (kF e.Kind e.Day e.Lot e.Amount e.Yarn e.Dye e.Order (kC a.lot.Name a.lot.Yarn a.lot.Dye a.lot.Stock a.known a.hold.Lot a.hold.Order a.hold.Reserved a.hold.Taken a.free [.cells [.func (.func 134) [] [],.func (.func 135) [] []]]))) (ac (cv (xI c)) (ac (hs (.done (qeR ZT 143 (fm1) (.str e.Kind) false) (.agg [.func (.func 134) [] [],.func (.func 135) [] []])) (qmB qnm [[114,101,99,101,105,118,101],[114,101,115,101,114,118,101],[114,101,108,101,97,115,101],[116,97,107,101],[114,101,116,117,114,110]] (zY o (qfQ r)) rfl)) az)) ?_
  obtain⟨v,s,h⟩:=bnd h
  refine sq (gq fol [6] (kAz v) (kD b.Day b.Lots b.Holds (kF e.Kind e.Day e.Lot e.Amount e.Yarn e.Dye e.Order (kC a.lot.Name a.lot.Yarn a.lot.Dye a.lot.Stock a.known a.hold.Lot a.hold.Order a.hold.Reserved a.hold.Taken a.free [.cells [.func (.func 134) [] [],.func (.func 135) [] []],.cells [.func (.func 115) [] [.ptr 1 0,.ptr 0 0],.func (.func 116) [] [.ptr 1 0,.ptr 2 0],.func (.func 117) [] [.ptr 3 0,.ptr 2 0,.ptr 1 0],.func (.func 118) [] [.ptr 3 0,.ptr 2 0,.ptr 1 0],.func (.func 119) [] [.ptr 0 0,.ptr 1 0]]]))) (ac (hs (.call 114 [.slice 4 0 5 5 1] (kD b.Day b.Lots b.Holds (kF e.Kind e.Day e.Lot e.Amount e.Yarn e.Dye e.Order (kC a.lot.Name a.lot.Yarn a.lot.Dye a.lot.Stock a.known a.hold.Lot a.hold.Order a.hold.Reserved a.hold.Taken a.free [.cells [.func (.func 134) [] [],.func (.func 135) [] []],.cells [.func (.func 115) [] [.ptr 1 0,.ptr 0 0],.func (.func 116) [] [.ptr 1 0,.ptr 2 0],.func (.func 117) [] [.ptr 3 0,.ptr 2 0,.ptr 1 0],.func (.func 118) [] [.ptr 3 0,.ptr 2 0,.ptr 1 0],.func (.func 119) [] [.ptr 0 0,.ptr 1 0]]]))) [0,1,2,3,4] [.fslice 5 (qnb e b a)] (.i v)) (qe6 (FzL.cons (Fz.lit rfl rfl (FzL.cons (Fz.func FzL.nil (FzL.cons (Fz.ptr rfl rfl (FzL.cons (Ua tS) (FzL.cons (Ua tI) (FzL.cons (Ua tS) (FzL.cons (Ua tI) (FzL.cons (Ua tS) (FzL.cons (Ua tS) (FzL.cons (Ua tS) FzL.nil)))))))) (FzL.cons (Fz.ptr rfl rfl (FzL.cons (Ua tI) (FzL.cons (Ua (qN qg _ (nl rfl))) (FzL.cons (Ua (qN qE _ (nl rfl))) FzL.nil)))) FzL.nil))) (FzL.cons (Fz.func FzL.nil (FzL.cons (Fz.ptr rfl rfl (FzL.cons (Ua tS) (FzL.cons (Ua tI) (FzL.cons (Ua tS) (FzL.cons (Ua tI) (FzL.cons (Ua tS) (FzL.cons (Ua tS) (FzL.cons (Ua tS) FzL.nil)))))))) (FzL.cons (Fz.ptr rfl rfl (FzL.cons (Ua tS) (FzL.cons (Ua tS) (FzL.cons (Ua tS) (FzL.cons (Ua tI) (FzL.cons (Ua tB) (FzL.cons (Ua tS) (FzL.cons (Ua tS) (FzL.cons (Ua tI) (FzL.cons (Ua tI) (FzL.cons (Ua tI) FzL.nil))))))))))) FzL.nil))) (FzL.cons (Fz.func FzL.nil (FzL.cons (Fz.ptr rfl rfl (FzL.cons (Fz.func FzL.nil FzL.nil) (FzL.cons (Fz.func FzL.nil FzL.nil) FzL.nil))) (FzL.cons (Fz.ptr rfl rfl (FzL.cons (Ua tS) (FzL.cons (Ua tS) (FzL.cons (Ua tS) (FzL.cons (Ua tI) (FzL.cons (Ua tB) (FzL.cons (Ua tS) (FzL.cons (Ua tS) (FzL.cons (Ua tI) (FzL.cons (Ua tI) (FzL.cons (Ua tI) FzL.nil))))))))))) (FzL.cons (Fz.ptr rfl rfl (FzL.cons (Ua tS) (FzL.cons (Ua tI) (FzL.cons (Ua tS) (FzL.cons (Ua tI) (FzL.cons (Ua tS) (FzL.cons (Ua tS) (FzL.cons (Ua tS) FzL.nil)))))))) FzL.nil)))) (FzL.cons (Fz.func FzL.nil (FzL.cons (Fz.ptr rfl rfl (FzL.cons (Fz.func FzL.nil FzL.nil) (FzL.cons (Fz.func FzL.nil FzL.nil) FzL.nil))) (FzL.cons (Fz.ptr rfl rfl (FzL.cons (Ua tS) (FzL.cons (Ua tS) (FzL.cons (Ua tS) (FzL.cons (Ua tI) (FzL.cons (Ua tB) (FzL.cons (Ua tS) (FzL.cons (Ua tS) (FzL.cons (Ua tI) (FzL.cons (Ua tI) (FzL.cons (Ua tI) FzL.nil))))))))))) (FzL.cons (Fz.ptr rfl rfl (FzL.cons (Ua tS) (FzL.cons (Ua tI) (FzL.cons (Ua tS) (FzL.cons (Ua tI) (FzL.cons (Ua tS) (FzL.cons (Ua tS) (FzL.cons (Ua tS) FzL.nil)))))))) FzL.nil)))) (FzL.cons (Fz.func FzL.nil (FzL.cons (Fz.ptr rfl rfl (FzL.cons (Ua tI) (FzL.cons (Ua (qN qg _ (nl rfl))) (FzL.cons (Ua (qN qE _ (nl rfl))) FzL.nil)))) (FzL.cons (Fz.ptr rfl rfl (FzL.cons (Ua tS) (FzL.cons (Ua tI) (FzL.cons (Ua tS) (FzL.cons (Ua tI) (FzL.cons (Ua tS) (FzL.cons (Ua tS) (FzL.cons (Ua tS) FzL.nil)))))))) FzL.nil))) FzL.nil)))))) FzL.nil) (qtx N e b a s) tI rfl)) az) ?_)
  refine Goes.ret ?_
  obtain rfl:=si h
  exact(gw2 [.i v] (Ub tI))
 rcases wyB h with⟨t,h⟩|⟨t,h⟩
 ·refine gq fol [0,3] (kN kAr) (kD b.Day b.Lots b.Holds (kF e.Kind e.Day e.Lot e.Amount e.Yarn e.Dye e.Order (kC a.lot.Name a.lot.Yarn a.lot.Dye a.lot.Stock a.known a.hold.Lot a.hold.Order a.hold.Reserved a.hold.Taken a.free [.cells [.func (.func 137) [] [],.func (.func 138) [] []]]))) (ac (cv (xI c)) (ac (hs (.done (qeR ZT 143 (fm1) (.str e.Kind) false) (.agg [.func (.func 137) [] [],.func (.func 138) [] []])) (qmB qnm [[114,101,99,101,105,118,101],[114,101,115,101,114,118,101],[114,101,108,101,97,115,101],[116,97,107,101],[114,101,116,117,114,110]] (zY o (zY r (qfQ t))) rfl)) az)) ?_
  obtain⟨d,f,h⟩:=bnd h
  refine sq (gq fol [6] (kAz d) (kD b.Day b.Lots b.Holds (kF e.Kind e.Day e.Lot e.Amount e.Yarn e.Dye e.Order (kC a.lot.Name a.lot.Yarn a.lot.Dye a.lot.Stock a.known a.hold.Lot a.hold.Order a.hold.Reserved a.hold.Taken a.free [.cells [.func (.func 137) [] [],.func (.func 138) [] []],.cells [.func (.func 115) [] [.ptr 1 0,.ptr 0 0],.func (.func 116) [] [.ptr 1 0,.ptr 2 0],.func (.func 117) [] [.ptr 3 0,.ptr 2 0,.ptr 1 0],.func (.func 118) [] [.ptr 3 0,.ptr 2 0,.ptr 1 0],.func (.func 119) [] [.ptr 0 0,.ptr 1 0]]]))) (ac (hs (.call 114 [.slice 4 0 5 5 1] (kD b.Day b.Lots b.Holds (kF e.Kind e.Day e.Lot e.Amount e.Yarn e.Dye e.Order (kC a.lot.Name a.lot.Yarn a.lot.Dye a.lot.Stock a.known a.hold.Lot a.hold.Order a.hold.Reserved a.hold.Taken a.free [.cells [.func (.func 137) [] [],.func (.func 138) [] []],.cells [.func (.func 115) [] [.ptr 1 0,.ptr 0 0],.func (.func 116) [] [.ptr 1 0,.ptr 2 0],.func (.func 117) [] [.ptr 3 0,.ptr 2 0,.ptr 1 0],.func (.func 118) [] [.ptr 3 0,.ptr 2 0,.ptr 1 0],.func (.func 119) [] [.ptr 0 0,.ptr 1 0]]]))) [0,1,2,3,4] [.fslice 5 (qm2 e b a)] (.i d)) (qe6 (FzL.cons (Fz.lit rfl rfl (FzL.cons (Fz.func FzL.nil (FzL.cons (Fz.ptr rfl rfl (FzL.cons (Ua tS) (FzL.cons (Ua tI) (FzL.cons (Ua tS) (FzL.cons (Ua tI) (FzL.cons (Ua tS) (FzL.cons (Ua tS) (FzL.cons (Ua tS) FzL.nil)))))))) (FzL.cons (Fz.ptr rfl rfl (FzL.cons (Ua tI) (FzL.cons (Ua (qN qg _ (nl rfl))) (FzL.cons (Ua (qN qE _ (nl rfl))) FzL.nil)))) FzL.nil))) (FzL.cons (Fz.func FzL.nil (FzL.cons (Fz.ptr rfl rfl (FzL.cons (Ua tS) (FzL.cons (Ua tI) (FzL.cons (Ua tS) (FzL.cons (Ua tI) (FzL.cons (Ua tS) (FzL.cons (Ua tS) (FzL.cons (Ua tS) FzL.nil)))))))) (FzL.cons (Fz.ptr rfl rfl (FzL.cons (Ua tS) (FzL.cons (Ua tS) (FzL.cons (Ua tS) (FzL.cons (Ua tI) (FzL.cons (Ua tB) (FzL.cons (Ua tS) (FzL.cons (Ua tS) (FzL.cons (Ua tI) (FzL.cons (Ua tI) (FzL.cons (Ua tI) FzL.nil))))))))))) FzL.nil))) (FzL.cons (Fz.func FzL.nil (FzL.cons (Fz.ptr rfl rfl (FzL.cons (Fz.func FzL.nil FzL.nil) (FzL.cons (Fz.func FzL.nil FzL.nil) FzL.nil))) (FzL.cons (Fz.ptr rfl rfl (FzL.cons (Ua tS) (FzL.cons (Ua tS) (FzL.cons (Ua tS) (FzL.cons (Ua tI) (FzL.cons (Ua tB) (FzL.cons (Ua tS) (FzL.cons (Ua tS) (FzL.cons (Ua tI) (FzL.cons (Ua tI) (FzL.cons (Ua tI) FzL.nil))))))))))) (FzL.cons (Fz.ptr rfl rfl (FzL.cons (Ua tS) (FzL.cons (Ua tI) (FzL.cons (Ua tS) (FzL.cons (Ua tI) (FzL.cons (Ua tS) (FzL.cons (Ua tS) (FzL.cons (Ua tS) FzL.nil)))))))) FzL.nil)))) (FzL.cons (Fz.func FzL.nil (FzL.cons (Fz.ptr rfl rfl (FzL.cons (Fz.func FzL.nil FzL.nil) (FzL.cons (Fz.func FzL.nil FzL.nil) FzL.nil))) (FzL.cons (Fz.ptr rfl rfl (FzL.cons (Ua tS) (FzL.cons (Ua tS) (FzL.cons (Ua tS) (FzL.cons (Ua tI) (FzL.cons (Ua tB) (FzL.cons (Ua tS) (FzL.cons (Ua tS) (FzL.cons (Ua tI) (FzL.cons (Ua tI) (FzL.cons (Ua tI) FzL.nil))))))))))) (FzL.cons (Fz.ptr rfl rfl (FzL.cons (Ua tS) (FzL.cons (Ua tI) (FzL.cons (Ua tS) (FzL.cons (Ua tI) (FzL.cons (Ua tS) (FzL.cons (Ua tS) (FzL.cons (Ua tS) FzL.nil)))))))) FzL.nil)))) (FzL.cons (Fz.func FzL.nil (FzL.cons (Fz.ptr rfl rfl (FzL.cons (Ua tI) (FzL.cons (Ua (qN qg _ (nl rfl))) (FzL.cons (Ua (qN qE _ (nl rfl))) FzL.nil)))) (FzL.cons (Fz.ptr rfl rfl (FzL.cons (Ua tS) (FzL.cons (Ua tI) (FzL.cons (Ua tS) (FzL.cons (Ua tI) (FzL.cons (Ua tS) (FzL.cons (Ua tS) (FzL.cons (Ua tS) FzL.nil)))))))) FzL.nil))) FzL.nil)))))) FzL.nil) (qty N e b a f) tI rfl)) az) ?_)
  refine Goes.ret ?_
  obtain rfl:=si h
  exact(gw2 [.i d] (Ub tI))
 rcases wyB h with⟨w,h⟩|⟨w,h⟩
 ·refine gq fol [0,3] (kN kAr) (kD b.Day b.Lots b.Holds (kF e.Kind e.Day e.Lot e.Amount e.Yarn e.Dye e.Order (kC a.lot.Name a.lot.Yarn a.lot.Dye a.lot.Stock a.known a.hold.Lot a.hold.Order a.hold.Reserved a.hold.Taken a.free [.cells [.func (.func 139) [] [],.func (.func 140) [] []]]))) (ac (cv (xI c)) (ac (hs (.done (qeR ZT 143 (fm1) (.str e.Kind) false) (.agg [.func (.func 139) [] [],.func (.func 140) [] []])) (qmB qnm [[114,101,99,101,105,118,101],[114,101,115,101,114,118,101],[114,101,108,101,97,115,101],[116,97,107,101],[114,101,116,117,114,110]] (zY o (zY r (zY t (qfQ w)))) rfl)) az)) ?_
  obtain⟨g,j,h⟩:=bnd h
  refine sq (gq fol [6] (kAz g) (kD b.Day b.Lots b.Holds (kF e.Kind e.Day e.Lot e.Amount e.Yarn e.Dye e.Order (kC a.lot.Name a.lot.Yarn a.lot.Dye a.lot.Stock a.known a.hold.Lot a.hold.Order a.hold.Reserved a.hold.Taken a.free [.cells [.func (.func 139) [] [],.func (.func 140) [] []],.cells [.func (.func 115) [] [.ptr 1 0,.ptr 0 0],.func (.func 116) [] [.ptr 1 0,.ptr 2 0],.func (.func 117) [] [.ptr 3 0,.ptr 2 0,.ptr 1 0],.func (.func 118) [] [.ptr 3 0,.ptr 2 0,.ptr 1 0],.func (.func 119) [] [.ptr 0 0,.ptr 1 0]]]))) (ac (hs (.call 114 [.slice 4 0 5 5 1] (kD b.Day b.Lots b.Holds (kF e.Kind e.Day e.Lot e.Amount e.Yarn e.Dye e.Order (kC a.lot.Name a.lot.Yarn a.lot.Dye a.lot.Stock a.known a.hold.Lot a.hold.Order a.hold.Reserved a.hold.Taken a.free [.cells [.func (.func 139) [] [],.func (.func 140) [] []],.cells [.func (.func 115) [] [.ptr 1 0,.ptr 0 0],.func (.func 116) [] [.ptr 1 0,.ptr 2 0],.func (.func 117) [] [.ptr 3 0,.ptr 2 0,.ptr 1 0],.func (.func 118) [] [.ptr 3 0,.ptr 2 0,.ptr 1 0],.func (.func 119) [] [.ptr 0 0,.ptr 1 0]]]))) [0,1,2,3,4] [.fslice 5 (qmW e b a)] (.i g)) (qe6 (FzL.cons (Fz.lit rfl rfl (FzL.cons (Fz.func FzL.nil (FzL.cons (Fz.ptr rfl rfl (FzL.cons (Ua tS) (FzL.cons (Ua tI) (FzL.cons (Ua tS) (FzL.cons (Ua tI) (FzL.cons (Ua tS) (FzL.cons (Ua tS) (FzL.cons (Ua tS) FzL.nil)))))))) (FzL.cons (Fz.ptr rfl rfl (FzL.cons (Ua tI) (FzL.cons (Ua (qN qg _ (nl rfl))) (FzL.cons (Ua (qN qE _ (nl rfl))) FzL.nil)))) FzL.nil))) (FzL.cons (Fz.func FzL.nil (FzL.cons (Fz.ptr rfl rfl (FzL.cons (Ua tS) (FzL.cons (Ua tI) (FzL.cons (Ua tS) (FzL.cons (Ua tI) (FzL.cons (Ua tS) (FzL.cons (Ua tS) (FzL.cons (Ua tS) FzL.nil)))))))) (FzL.cons (Fz.ptr rfl rfl (FzL.cons (Ua tS) (FzL.cons (Ua tS) (FzL.cons (Ua tS) (FzL.cons (Ua tI) (FzL.cons (Ua tB) (FzL.cons (Ua tS) (FzL.cons (Ua tS) (FzL.cons (Ua tI) (FzL.cons (Ua tI) (FzL.cons (Ua tI) FzL.nil))))))))))) FzL.nil))) (FzL.cons (Fz.func FzL.nil (FzL.cons (Fz.ptr rfl rfl (FzL.cons (Fz.func FzL.nil FzL.nil) (FzL.cons (Fz.func FzL.nil FzL.nil) FzL.nil))) (FzL.cons (Fz.ptr rfl rfl (FzL.cons (Ua tS) (FzL.cons (Ua tS) (FzL.cons (Ua tS) (FzL.cons (Ua tI) (FzL.cons (Ua tB) (FzL.cons (Ua tS) (FzL.cons (Ua tS) (FzL.cons (Ua tI) (FzL.cons (Ua tI) (FzL.cons (Ua tI) FzL.nil))))))))))) (FzL.cons (Fz.ptr rfl rfl (FzL.cons (Ua tS) (FzL.cons (Ua tI) (FzL.cons (Ua tS) (FzL.cons (Ua tI) (FzL.cons (Ua tS) (FzL.cons (Ua tS) (FzL.cons (Ua tS) FzL.nil)))))))) FzL.nil)))) (FzL.cons (Fz.func FzL.nil (FzL.cons (Fz.ptr rfl rfl (FzL.cons (Fz.func FzL.nil FzL.nil) (FzL.cons (Fz.func FzL.nil FzL.nil) FzL.nil))) (FzL.cons (Fz.ptr rfl rfl (FzL.cons (Ua tS) (FzL.cons (Ua tS) (FzL.cons (Ua tS) (FzL.cons (Ua tI) (FzL.cons (Ua tB) (FzL.cons (Ua tS) (FzL.cons (Ua tS) (FzL.cons (Ua tI) (FzL.cons (Ua tI) (FzL.cons (Ua tI) FzL.nil))))))))))) (FzL.cons (Fz.ptr rfl rfl (FzL.cons (Ua tS) (FzL.cons (Ua tI) (FzL.cons (Ua tS) (FzL.cons (Ua tI) (FzL.cons (Ua tS) (FzL.cons (Ua tS) (FzL.cons (Ua tS) FzL.nil)))))))) FzL.nil)))) (FzL.cons (Fz.func FzL.nil (FzL.cons (Fz.ptr rfl rfl (FzL.cons (Ua tI) (FzL.cons (Ua (qN qg _ (nl rfl))) (FzL.cons (Ua (qN qE _ (nl rfl))) FzL.nil)))) (FzL.cons (Fz.ptr rfl rfl (FzL.cons (Ua tS) (FzL.cons (Ua tI) (FzL.cons (Ua tS) (FzL.cons (Ua tI) (FzL.cons (Ua tS) (FzL.cons (Ua tS) (FzL.cons (Ua tS) FzL.nil)))))))) FzL.nil))) FzL.nil)))))) FzL.nil) (qtH N e b a j) tI rfl)) az) ?_)
  refine Goes.ret ?_
  obtain rfl:=si h
  exact(gw2 [.i g] (Ub tI))
 rcases wyB h with⟨x,h⟩|⟨x,h⟩
 ·refine gq fol [0,3] (kN kAr) (kD b.Day b.Lots b.Holds (kF e.Kind e.Day e.Lot e.Amount e.Yarn e.Dye e.Order (kC a.lot.Name a.lot.Yarn a.lot.Dye a.lot.Stock a.known a.hold.Lot a.hold.Order a.hold.Reserved a.hold.Taken a.free [.cells [.func (.func 141) [] [],.func (.func 142) [] []]]))) (ac (cv (xI c)) (ac (hs (.done (qeR ZT 143 (fm1) (.str e.Kind) false) (.agg [.func (.func 141) [] [],.func (.func 142) [] []])) (qmB qnm [[114,101,99,101,105,118,101],[114,101,115,101,114,118,101],[114,101,108,101,97,115,101],[116,97,107,101],[114,101,116,117,114,110]] (zY o (zY r (zY t (zY w (qfQ x))))) rfl)) az)) ?_
  obtain⟨k,n,h⟩:=bnd h
  refine sq (gq fol [6] (kAz k) (kD b.Day b.Lots b.Holds (kF e.Kind e.Day e.Lot e.Amount e.Yarn e.Dye e.Order (kC a.lot.Name a.lot.Yarn a.lot.Dye a.lot.Stock a.known a.hold.Lot a.hold.Order a.hold.Reserved a.hold.Taken a.free [.cells [.func (.func 141) [] [],.func (.func 142) [] []],.cells [.func (.func 115) [] [.ptr 1 0,.ptr 0 0],.func (.func 116) [] [.ptr 1 0,.ptr 2 0],.func (.func 117) [] [.ptr 3 0,.ptr 2 0,.ptr 1 0],.func (.func 118) [] [.ptr 3 0,.ptr 2 0,.ptr 1 0],.func (.func 119) [] [.ptr 0 0,.ptr 1 0]]]))) (ac (hs (.call 114 [.slice 4 0 5 5 1] (kD b.Day b.Lots b.Holds (kF e.Kind e.Day e.Lot e.Amount e.Yarn e.Dye e.Order (kC a.lot.Name a.lot.Yarn a.lot.Dye a.lot.Stock a.known a.hold.Lot a.hold.Order a.hold.Reserved a.hold.Taken a.free [.cells [.func (.func 141) [] [],.func (.func 142) [] []],.cells [.func (.func 115) [] [.ptr 1 0,.ptr 0 0],.func (.func 116) [] [.ptr 1 0,.ptr 2 0],.func (.func 117) [] [.ptr 3 0,.ptr 2 0,.ptr 1 0],.func (.func 118) [] [.ptr 3 0,.ptr 2 0,.ptr 1 0],.func (.func 119) [] [.ptr 0 0,.ptr 1 0]]]))) [0,1,2,3,4] [.fslice 5 (qmK e b a)] (.i k)) (qe6 (FzL.cons (Fz.lit rfl rfl (FzL.cons (Fz.func FzL.nil (FzL.cons (Fz.ptr rfl rfl (FzL.cons (Ua tS) (FzL.cons (Ua tI) (FzL.cons (Ua tS) (FzL.cons (Ua tI) (FzL.cons (Ua tS) (FzL.cons (Ua tS) (FzL.cons (Ua tS) FzL.nil)))))))) (FzL.cons (Fz.ptr rfl rfl (FzL.cons (Ua tI) (FzL.cons (Ua (qN qg _ (nl rfl))) (FzL.cons (Ua (qN qE _ (nl rfl))) FzL.nil)))) FzL.nil))) (FzL.cons (Fz.func FzL.nil (FzL.cons (Fz.ptr rfl rfl (FzL.cons (Ua tS) (FzL.cons (Ua tI) (FzL.cons (Ua tS) (FzL.cons (Ua tI) (FzL.cons (Ua tS) (FzL.cons (Ua tS) (FzL.cons (Ua tS) FzL.nil)))))))) (FzL.cons (Fz.ptr rfl rfl (FzL.cons (Ua tS) (FzL.cons (Ua tS) (FzL.cons (Ua tS) (FzL.cons (Ua tI) (FzL.cons (Ua tB) (FzL.cons (Ua tS) (FzL.cons (Ua tS) (FzL.cons (Ua tI) (FzL.cons (Ua tI) (FzL.cons (Ua tI) FzL.nil))))))))))) FzL.nil))) (FzL.cons (Fz.func FzL.nil (FzL.cons (Fz.ptr rfl rfl (FzL.cons (Fz.func FzL.nil FzL.nil) (FzL.cons (Fz.func FzL.nil FzL.nil) FzL.nil))) (FzL.cons (Fz.ptr rfl rfl (FzL.cons (Ua tS) (FzL.cons (Ua tS) (FzL.cons (Ua tS) (FzL.cons (Ua tI) (FzL.cons (Ua tB) (FzL.cons (Ua tS) (FzL.cons (Ua tS) (FzL.cons (Ua tI) (FzL.cons (Ua tI) (FzL.cons (Ua tI) FzL.nil))))))))))) (FzL.cons (Fz.ptr rfl rfl (FzL.cons (Ua tS) (FzL.cons (Ua tI) (FzL.cons (Ua tS) (FzL.cons (Ua tI) (FzL.cons (Ua tS) (FzL.cons (Ua tS) (FzL.cons (Ua tS) FzL.nil)))))))) FzL.nil)))) (FzL.cons (Fz.func FzL.nil (FzL.cons (Fz.ptr rfl rfl (FzL.cons (Fz.func FzL.nil FzL.nil) (FzL.cons (Fz.func FzL.nil FzL.nil) FzL.nil))) (FzL.cons (Fz.ptr rfl rfl (FzL.cons (Ua tS) (FzL.cons (Ua tS) (FzL.cons (Ua tS) (FzL.cons (Ua tI) (FzL.cons (Ua tB) (FzL.cons (Ua tS) (FzL.cons (Ua tS) (FzL.cons (Ua tI) (FzL.cons (Ua tI) (FzL.cons (Ua tI) FzL.nil))))))))))) (FzL.cons (Fz.ptr rfl rfl (FzL.cons (Ua tS) (FzL.cons (Ua tI) (FzL.cons (Ua tS) (FzL.cons (Ua tI) (FzL.cons (Ua tS) (FzL.cons (Ua tS) (FzL.cons (Ua tS) FzL.nil)))))))) FzL.nil)))) (FzL.cons (Fz.func FzL.nil (FzL.cons (Fz.ptr rfl rfl (FzL.cons (Ua tI) (FzL.cons (Ua (qN qg _ (nl rfl))) (FzL.cons (Ua (qN qE _ (nl rfl))) FzL.nil)))) (FzL.cons (Fz.ptr rfl rfl (FzL.cons (Ua tS) (FzL.cons (Ua tI) (FzL.cons (Ua tS) (FzL.cons (Ua tI) (FzL.cons (Ua tS) (FzL.cons (Ua tS) (FzL.cons (Ua tS) FzL.nil)))))))) FzL.nil))) FzL.nil)))))) FzL.nil) (qtA N e b a n) tI rfl)) az) ?_)
  refine Goes.ret ?_
  obtain rfl:=si h
  exact(gw2 [.i k] (Ub tI))
 cases h
end Go.Av
