/-
  Walks of functions: what each computes, as a plain function.
-/
import Derived.Test.YtcnioemfifogeaaGreatDoorQGenA1k2
noncomputable section
namespace Go.Av
open Go.Proofs Go.RowKit
set_option linter.unusedSectionVars false
set_option linter.unusedVariables false
set_option linter.unusedSimpArgs false
set_option maxRecDepth 100000
def qeu (a:qw) (b:StateT):Option Bool:=
 some (decide (a.Day>=b.Day))
theorem qi8 (a:qw) (b:StateT) {res:Bool} (h:qeu a b=some res):qE ZT (.fn 115) [.fptr (kA a.Kind a.Day a.Lot a.Amount a.Yarn a.Dye a.Order) 0,.fptr (kG b.Day b.Lots b.Holds) 0] [] (.bool res) []:=by
 unfold qeu at h
 refine Uc Tryz.func115 rfl rfl (m:=8) rfl (rs:=[.tmp 2]) rfl (l:=[(0,.fptr (kA a.Kind a.Day a.Lot a.Amount a.Yarn a.Dye a.Order) 0),(1,.fptr (kG b.Day b.Lots b.Holds) 0)]) rfl ?_
 refine sh fol [(0,.fptr (kA a.Kind a.Day a.Lot a.Amount a.Yarn a.Dye a.Order) 0),(1,.fptr (kG b.Day b.Lots b.Holds) 0)] ?_
 refine sh fol (kAV (decide (a.Day>=b.Day))) ?_
 refine Goes.ret ?_
 obtain rfl:=si h
 exact(gw2 [.bool (decide (a.Day>=b.Day))] (Ub tB))
def xL (a:qw) (b:StateT):Option Bool:=
 (qeu a b).bind fun c=>
 some (!c)
theorem qcN (a:qw) (b:StateT) {res:Bool} (h:xL a b=some res):qE ZT (.fn 177) [.func (.func 115) [] [.fptr (kA a.Kind a.Day a.Lot a.Amount a.Yarn a.Dye a.Order) 0,.fptr (kG b.Day b.Lots b.Holds) 0]] [] (.bool res) []:=by
 unfold xL at h
 refine Uc Tryz.func177 rfl rfl (m:=6) rfl (rs:=[.tmp 2]) rfl (l:=[(0,.func (.func 115) [] [.fptr (kA a.Kind a.Day a.Lot a.Amount a.Yarn a.Dye a.Order) 0,.fptr (kG b.Day b.Lots b.Holds) 0])]) rfl ?_
 refine sh fol [(0,.func (.func 115) [] [.fptr (kA a.Kind a.Day a.Lot a.Amount a.Yarn a.Dye a.Order) 0,.fptr (kG b.Day b.Lots b.Holds) 0])] ?_
 obtain⟨d,c,h⟩:=bnd h
 refine sq (gr fol [1] (kAV (!d)) (ac (hs (.call 115 [.fptr (kA a.Kind a.Day a.Lot a.Amount a.Yarn a.Dye a.Order) 0,.fptr (kG b.Day b.Lots b.Holds) 0] [] [] [.fptr (kA a.Kind a.Day a.Lot a.Amount a.Yarn a.Dye a.Order) 0,.fptr (kG b.Day b.Lots b.Holds) 0] (.bool d)) (jf (FzL.cons (Ua (Still.fptr (AllST.cons tS (AllST.cons tI (AllST.cons tS (AllST.cons tI (AllST.cons tS (AllST.cons tS (AllST.cons tS AllST.nil))))))))) (FzL.cons (Ua (Still.fptr (AllST.cons tI (AllST.cons (qG qo _ (nl rfl)) (AllST.cons (qG qg _ (nl rfl)) AllST.nil))))) FzL.nil)) (qi8 a b c) tB)) az) ?_)
 refine Goes.ret ?_
 obtain rfl:=si h
 exact(gw2 [.bool (!d)] (Ub tB))
def qdn (b:qw) (a:ql):Option Bool:=
 if(!(b.Kind==[114,101,99,101,105,118,101]))=true then
 some a.known
 else
 (if(!a.known)=true then
 some true
 else
 if(a.lot.Yarn==b.Yarn)=true then
 some (a.lot.Dye==b.Dye)
 else
 some false:Option Bool).bind fun c=>
 some c
theorem qjh (b:qw) (a:ql) {res:Bool} (h:qdn b a=some res):qE ZT (.fn 116) [.fptr (kA b.Kind b.Day b.Lot b.Amount b.Yarn b.Dye b.Order) 0,.fptr (.str a.lot.Name::(kB a.lot.Yarn a.lot.Dye a.lot.Stock a.known a.hold.Lot a.hold.Order a.hold.Reserved a.hold.Taken a.free)) 0] [] (.bool res) []:=by
 unfold qdn at h
 refine Uc Tryz.func116 rfl rfl (m:=27) rfl (rs:=[.tmp 2]) rfl (l:=[(0,.fptr (kA b.Kind b.Day b.Lot b.Amount b.Yarn b.Dye b.Order) 0),(1,.fptr (.str a.lot.Name::(kB a.lot.Yarn a.lot.Dye a.lot.Stock a.known a.hold.Lot a.hold.Order a.hold.Reserved a.hold.Taken a.free)) 0)]) rfl ?_
 refine sh fol [(0,.fptr (kA b.Kind b.Day b.Lot b.Amount b.Yarn b.Dye b.Order) 0),(1,.fptr (.str a.lot.Name::(kB a.lot.Yarn a.lot.Dye a.lot.Stock a.known a.hold.Lot a.hold.Order a.hold.Reserved a.hold.Taken a.free)) 0)] ?_
 refine sq ?_
 refine sh fol [(0,.fptr [.str b.Kind,.i b.Day,.str b.Lot,.i b.Amount,.str b.Yarn,.str b.Dye,.str b.Order] 0),(1,.fptr [.str a.lot.Name,.str a.lot.Yarn,.str a.lot.Dye,.i a.lot.Stock,.bool a.known,.str a.hold.Lot,.str a.hold.Order,.i a.hold.Reserved,.i a.hold.Taken,.i a.free] 0),(5,.bool (!(b.Kind==[114,101,99,101,105,118,101])))] ?_
 refine ihB h (fun g h=>?_) (fun g h=>?_)
 ·refine sh fol (kAV a.known) ?_
  refine Goes.ret ?_
  obtain rfl:=si h
  exact(gw2 [.bool a.known] (Ub tB))
 refine Goes.skip ?_
 refine sq ?_
 obtain⟨f,c,h⟩:=bnd h
 refine Goes.cut (s':=(ofG 27 (kAV f),[])) ?_ ?_
 ·rcases wyB c with⟨d,c⟩|⟨d,c⟩
  ·obtain rfl:=si c
   exact tr fol [3] [(2,.bool true)] (ac (gw d) az)
  rcases wyB c with⟨e,c⟩|⟨e,c⟩
  ·obtain rfl:=si c
   exact tr fol [3,10] (kAV (a.lot.Dye==b.Dye)) (ac (gw d) (ac (gw e) az))
  obtain rfl:=si c
  exact tr fol [3,10] kAQ (ac (gw d) (ac (gw e) az))
 refine Goes.ret ?_
 obtain rfl:=si h
 exact(gw2 [.bool f] (Ub tB))
def yO (a:qw) (b:ql):Option Bool:=
 (qdn a b).bind fun c=>
 some (!c)
theorem qcT (b:qw) (a:ql) {res:Bool} (h:yO b a=some res):qE ZT (.fn 177) [.func (.func 116) [] [.fptr (kA b.Kind b.Day b.Lot b.Amount b.Yarn b.Dye b.Order) 0,.fptr (.str a.lot.Name::(kB a.lot.Yarn a.lot.Dye a.lot.Stock a.known a.hold.Lot a.hold.Order a.hold.Reserved a.hold.Taken a.free)) 0]] [] (.bool res) []:=by
 unfold yO at h
 refine Uc Tryz.func177 rfl rfl (m:=6) rfl (rs:=[.tmp 2]) rfl (l:=[(0,.func (.func 116) [] [.fptr (kA b.Kind b.Day b.Lot b.Amount b.Yarn b.Dye b.Order) 0,.fptr (.str a.lot.Name::(kB a.lot.Yarn a.lot.Dye a.lot.Stock a.known a.hold.Lot a.hold.Order a.hold.Reserved a.hold.Taken a.free)) 0])]) rfl ?_
 refine sh fol [(0,.func (.func 116) [] [.fptr (kA b.Kind b.Day b.Lot b.Amount b.Yarn b.Dye b.Order) 0,.fptr (.str a.lot.Name::(kB a.lot.Yarn a.lot.Dye a.lot.Stock a.known a.hold.Lot a.hold.Order a.hold.Reserved a.hold.Taken a.free)) 0])] ?_
 obtain⟨d,c,h⟩:=bnd h
 refine sq (gr fol [1] (kAV (!d)) (ac (hs (.call 116 [.fptr (kA b.Kind b.Day b.Lot b.Amount b.Yarn b.Dye b.Order) 0,.fptr (.str a.lot.Name::(kB a.lot.Yarn a.lot.Dye a.lot.Stock a.known a.hold.Lot a.hold.Order a.hold.Reserved a.hold.Taken a.free)) 0] [] [] [.fptr (kA b.Kind b.Day b.Lot b.Amount b.Yarn b.Dye b.Order) 0,.fptr (.str a.lot.Name::(kB a.lot.Yarn a.lot.Dye a.lot.Stock a.known a.hold.Lot a.hold.Order a.hold.Reserved a.hold.Taken a.free)) 0] (.bool d)) (jf (FzL.cons (Ua (Still.fptr (AllST.cons tS (AllST.cons tI (AllST.cons tS (AllST.cons tI (AllST.cons tS (AllST.cons tS (AllST.cons tS AllST.nil))))))))) (FzL.cons (Ua (Still.fptr (AllST.cons tS (AllST.cons tS (AllST.cons tS (AllST.cons tI (AllST.cons tB (AllST.cons tS (AllST.cons tS (AllST.cons tI (AllST.cons tI (AllST.cons tI AllST.nil)))))))))))) FzL.nil)) (qjh b a c) tB)) az) ?_)
 refine Goes.ret ?_
 obtain rfl:=si h
 exact(gw2 [.bool (!d)] (Ub tB))
def qeG (a:ql) (b:qw):Option Bool:=
 (qjE a b.Amount).bind fun c=>
 some c
theorem qjx (a:ql) (b:qw) {res:Bool} (h:qeG a b=some res):qE ZT (.fn 117) [.fptr [.func (.func 132) [] [],.func (.func 133) [] []] 0,.fptr (.str a.lot.Name::(kB a.lot.Yarn a.lot.Dye a.lot.Stock a.known a.hold.Lot a.hold.Order a.hold.Reserved a.hold.Taken a.free)) 0,.fptr (kA b.Kind b.Day b.Lot b.Amount b.Yarn b.Dye b.Order) 0] [] (.bool res) []:=by
 unfold qeG at h
 refine Uc Tryz.func117 rfl rfl (m:=10) rfl (rs:=[.tmp 3]) rfl (l:=[(0,.fptr [.func (.func 132) [] [],.func (.func 133) [] []] 0),(1,.fptr (.str a.lot.Name::(kB a.lot.Yarn a.lot.Dye a.lot.Stock a.known a.hold.Lot a.hold.Order a.hold.Reserved a.hold.Taken a.free)) 0),(2,.fptr (kA b.Kind b.Day b.Lot b.Amount b.Yarn b.Dye b.Order) 0)]) rfl ?_
 refine sh fol [(0,.fptr [.func (.func 132) [] [],.func (.func 133) [] []] 0),(1,.fptr (.str a.lot.Name::(kB a.lot.Yarn a.lot.Dye a.lot.Stock a.known a.hold.Lot a.hold.Order a.hold.Reserved a.hold.Taken a.free)) 0),(2,.fptr (kA b.Kind b.Day b.Lot b.Amount b.Yarn b.Dye b.Order) 0)] ?_
 obtain⟨d,c,h⟩:=bnd h
 refine sq (gr fol [5] (kAu d) (ac (cv (qot a b.Amount c)) az) ?_)
 refine Goes.ret ?_
 obtain rfl:=si h
 exact(gw2 [.bool d] (Ub tB))
def qgw (a:ql) (b:qw):Option Bool:=
 (qeG a b).bind fun c=>
 some (!c)
theorem qlw (a:ql) (b:qw) {res:Bool} (h:qgw a b=some res):qE ZT (.fn 177) [.func (.func 117) [] [.fptr [.func (.func 132) [] [],.func (.func 133) [] []] 0,.fptr (.str a.lot.Name::(kB a.lot.Yarn a.lot.Dye a.lot.Stock a.known a.hold.Lot a.hold.Order a.hold.Reserved a.hold.Taken a.free)) 0,.fptr (kA b.Kind b.Day b.Lot b.Amount b.Yarn b.Dye b.Order) 0]] [] (.bool res) []:=by
 unfold qgw at h
 refine Uc Tryz.func177 rfl rfl (m:=6) rfl (rs:=[.tmp 2]) rfl (l:=[(0,.func (.func 117) [] [.fptr [.func (.func 132) [] [],.func (.func 133) [] []] 0,.fptr (.str a.lot.Name::(kB a.lot.Yarn a.lot.Dye a.lot.Stock a.known a.hold.Lot a.hold.Order a.hold.Reserved a.hold.Taken a.free)) 0,.fptr (kA b.Kind b.Day b.Lot b.Amount b.Yarn b.Dye b.Order) 0])]) rfl ?_
 refine sh fol [(0,.func (.func 117) [] [.fptr [.func (.func 132) [] [],.func (.func 133) [] []] 0,.fptr (.str a.lot.Name::(kB a.lot.Yarn a.lot.Dye a.lot.Stock a.known a.hold.Lot a.hold.Order a.hold.Reserved a.hold.Taken a.free)) 0,.fptr (kA b.Kind b.Day b.Lot b.Amount b.Yarn b.Dye b.Order) 0])] ?_
 obtain⟨d,c,h⟩:=bnd h
 refine sq (gr fol [1] (kAV (!d)) (ac (hs (.call 117 [.fptr [.func (.func 132) [] [],.func (.func 133) [] []] 0,.fptr (.str a.lot.Name::(kB a.lot.Yarn a.lot.Dye a.lot.Stock a.known a.hold.Lot a.hold.Order a.hold.Reserved a.hold.Taken a.free)) 0,.fptr (kA b.Kind b.Day b.Lot b.Amount b.Yarn b.Dye b.Order) 0] [] [] [.fptr [.func (.func 132) [] [],.func (.func 133) [] []] 0,.fptr (.str a.lot.Name::(kB a.lot.Yarn a.lot.Dye a.lot.Stock a.known a.hold.Lot a.hold.Order a.hold.Reserved a.hold.Taken a.free)) 0,.fptr (kA b.Kind b.Day b.Lot b.Amount b.Yarn b.Dye b.Order) 0] (.bool d)) (jf (FzL.cons (Ua (Still.fptr (AllST.cons (Still.func AllST.nil AllST.nil) (AllST.cons (Still.func AllST.nil AllST.nil) AllST.nil)))) (FzL.cons (Ua (Still.fptr (AllST.cons tS (AllST.cons tS (AllST.cons tS (AllST.cons tI (AllST.cons tB (AllST.cons tS (AllST.cons tS (AllST.cons tI (AllST.cons tI (AllST.cons tI AllST.nil)))))))))))) (FzL.cons (Ua (Still.fptr (AllST.cons tS (AllST.cons tI (AllST.cons tS (AllST.cons tI (AllST.cons tS (AllST.cons tS (AllST.cons tS AllST.nil))))))))) FzL.nil))) (qjx a b c) tB)) az) ?_)
 refine Goes.ret ?_
 obtain rfl:=si h
 exact(gw2 [.bool (!d)] (Ub tB))
def qeM (b:ql) (c:qw):Option Bool:=
 (qfO b c.Amount).bind fun a=>
 some (decide ((if a.hold.Taken>a.lot.Stock then a.hold.Taken else a.lot.Stock)<=999999999))
theorem qjq (a:ql) (b:qw) {res:Bool} (h:qeM a b=some res):qE ZT (.fn 118) [.fptr [.func (.func 132) [] [],.func (.func 133) [] []] 0,.fptr (.str a.lot.Name::(kB a.lot.Yarn a.lot.Dye a.lot.Stock a.known a.hold.Lot a.hold.Order a.hold.Reserved a.hold.Taken a.free)) 0,.fptr (kA b.Kind b.Day b.Lot b.Amount b.Yarn b.Dye b.Order) 0] [] (.bool res) []:=by
 unfold qeM at h
 refine Uc Tryz.func118 rfl rfl (m:=19) rfl (rs:=[.tmp 3]) rfl (l:=[(0,.fptr [.func (.func 132) [] [],.func (.func 133) [] []] 0),(1,.fptr (.str a.lot.Name::(kB a.lot.Yarn a.lot.Dye a.lot.Stock a.known a.hold.Lot a.hold.Order a.hold.Reserved a.hold.Taken a.free)) 0),(2,.fptr (kA b.Kind b.Day b.Lot b.Amount b.Yarn b.Dye b.Order) 0)]) rfl ?_
 refine sh fol [(0,.fptr [.func (.func 132) [] [],.func (.func 133) [] []] 0),(1,.fptr (.str a.lot.Name::(kB a.lot.Yarn a.lot.Dye a.lot.Stock a.known a.hold.Lot a.hold.Order a.hold.Reserved a.hold.Taken a.free)) 0),(2,.fptr (kA b.Kind b.Day b.Lot b.Amount b.Yarn b.Dye b.Order) 0)] ?_
 obtain⟨c,d,h⟩:=bnd h
 refine sq (gq fol [5] (kAH []) (kC c.lot.Name c.lot.Yarn c.lot.Dye c.lot.Stock c.known c.hold.Lot c.hold.Order c.hold.Reserved c.hold.Taken c.free []) (ac (cv (qj4 a b.Amount d)) az) ?_)
 refine sh fol (kAu (decide ((if c.hold.Taken>c.lot.Stock then c.hold.Taken else c.lot.Stock)<=999999999))) ?_
 refine Goes.ret ?_
 obtain rfl:=si h
 exact(gw2 [.bool (decide ((if c.hold.Taken>c.lot.Stock then c.hold.Taken else c.lot.Stock)<=999999999))] (Ub tB))
def qgG (a:ql) (b:qw):Option Bool:=
 (qeM a b).bind fun c=>
 some (!c)
theorem qmv (a:ql) (b:qw) {res:Bool} (h:qgG a b=some res):qE ZT (.fn 177) [.func (.func 118) [] [.fptr [.func (.func 132) [] [],.func (.func 133) [] []] 0,.fptr (.str a.lot.Name::(kB a.lot.Yarn a.lot.Dye a.lot.Stock a.known a.hold.Lot a.hold.Order a.hold.Reserved a.hold.Taken a.free)) 0,.fptr (kA b.Kind b.Day b.Lot b.Amount b.Yarn b.Dye b.Order) 0]] [] (.bool res) []:=by
 unfold qgG at h
 refine Uc Tryz.func177 rfl rfl (m:=6) rfl (rs:=[.tmp 2]) rfl (l:=[(0,.func (.func 118) [] [.fptr [.func (.func 132) [] [],.func (.func 133) [] []] 0,.fptr (.str a.lot.Name::(kB a.lot.Yarn a.lot.Dye a.lot.Stock a.known a.hold.Lot a.hold.Order a.hold.Reserved a.hold.Taken a.free)) 0,.fptr (kA b.Kind b.Day b.Lot b.Amount b.Yarn b.Dye b.Order) 0])]) rfl ?_
 refine sh fol [(0,.func (.func 118) [] [.fptr [.func (.func 132) [] [],.func (.func 133) [] []] 0,.fptr (.str a.lot.Name::(kB a.lot.Yarn a.lot.Dye a.lot.Stock a.known a.hold.Lot a.hold.Order a.hold.Reserved a.hold.Taken a.free)) 0,.fptr (kA b.Kind b.Day b.Lot b.Amount b.Yarn b.Dye b.Order) 0])] ?_
 obtain⟨d,c,h⟩:=bnd h
 refine sq (gr fol [1] (kAV (!d)) (ac (hs (.call 118 [.fptr [.func (.func 132) [] [],.func (.func 133) [] []] 0,.fptr (.str a.lot.Name::(kB a.lot.Yarn a.lot.Dye a.lot.Stock a.known a.hold.Lot a.hold.Order a.hold.Reserved a.hold.Taken a.free)) 0,.fptr (kA b.Kind b.Day b.Lot b.Amount b.Yarn b.Dye b.Order) 0] [] [] [.fptr [.func (.func 132) [] [],.func (.func 133) [] []] 0,.fptr (.str a.lot.Name::(kB a.lot.Yarn a.lot.Dye a.lot.Stock a.known a.hold.Lot a.hold.Order a.hold.Reserved a.hold.Taken a.free)) 0,.fptr (kA b.Kind b.Day b.Lot b.Amount b.Yarn b.Dye b.Order) 0] (.bool d)) (jf (FzL.cons (Ua (Still.fptr (AllST.cons (Still.func AllST.nil AllST.nil) (AllST.cons (Still.func AllST.nil AllST.nil) AllST.nil)))) (FzL.cons (Ua (Still.fptr (AllST.cons tS (AllST.cons tS (AllST.cons tS (AllST.cons tI (AllST.cons tB (AllST.cons tS (AllST.cons tS (AllST.cons tI (AllST.cons tI (AllST.cons tI AllST.nil)))))))))))) (FzL.cons (Ua (Still.fptr (AllST.cons tS (AllST.cons tI (AllST.cons tS (AllST.cons tI (AllST.cons tS (AllST.cons tS (AllST.cons tS AllST.nil))))))))) FzL.nil))) (qjq a b c) tB)) az) ?_)
 refine Goes.ret ?_
 obtain rfl:=si h
 exact(gw2 [.bool (!d)] (Ub tB))
def qdo (N:Nat) (a:StateT) (b:qw):Option Bool:=
 (qbL N a b).bind fun c=>
 (if(c.Lots.length:Int)<=64 then
 some (decide ((c.Holds.length:Int)<=256))
 else
 some false:Option Bool).bind fun d=>
 some d
theorem qju (N:Nat) (b:StateT) (a:qw) {res:Bool} (h:qdo N b a=some res):qE ZT (.fn 119) [.fptr (kG b.Day b.Lots b.Holds) 0,.fptr (kA a.Kind a.Day a.Lot a.Amount a.Yarn a.Dye a.Order) 0] [] (.bool res) []:=by
 unfold qdo at h
 refine Uc Tryz.func119 rfl rfl (m:=17) rfl (rs:=[.tmp 2]) rfl (l:=[(0,.fptr (kG b.Day b.Lots b.Holds) 0),(1,.fptr (kA a.Kind a.Day a.Lot a.Amount a.Yarn a.Dye a.Order) 0)]) rfl ?_
 refine sh fol [(0,.fptr (kG b.Day b.Lots b.Holds) 0),(1,.fptr (kA a.Kind a.Day a.Lot a.Amount a.Yarn a.Dye a.Order) 0)] ?_
 obtain⟨d,e,h⟩:=bnd h
 refine sq (gq fol [2] [(3,.ptr 0 0)] (kD d.Day d.Lots d.Holds []) (ac (cv (qgl N b a e)) az) ?_)
 refine sq ?_
 obtain⟨g,c,h⟩:=bnd h
 refine Goes.cut (s':=(ofG 17 (kAV g),(kD d.Day d.Lots d.Holds []))) ?_ ?_
 ·rcases wyD c with⟨f,c⟩|⟨f,c⟩
  ·obtain rfl:=si c
   exact tr fol [4] (kAV (decide ((d.Holds.length:Int)<=256))) (ac (gw f) az)
  obtain rfl:=si c
  exact tr fol [4] kAQ (ac (gw f) az)
 refine Goes.ret ?_
 obtain rfl:=si h
 exact(gw2 [.bool g] (Ub tB))
def xQ (N:Nat) (a:StateT) (b:qw):Option Bool:=
 (qdo N a b).bind fun c=>
 some (!c)
theorem qcU (N:Nat) (b:StateT) (a:qw) {res:Bool} (h:xQ N b a=some res):qE ZT (.fn 177) [.func (.func 119) [] [.fptr (kG b.Day b.Lots b.Holds) 0,.fptr (kA a.Kind a.Day a.Lot a.Amount a.Yarn a.Dye a.Order) 0]] [] (.bool res) []:=by
 unfold xQ at h
 refine Uc Tryz.func177 rfl rfl (m:=6) rfl (rs:=[.tmp 2]) rfl (l:=[(0,.func (.func 119) [] [.fptr (kG b.Day b.Lots b.Holds) 0,.fptr (kA a.Kind a.Day a.Lot a.Amount a.Yarn a.Dye a.Order) 0])]) rfl ?_
 refine sh fol [(0,.func (.func 119) [] [.fptr (kG b.Day b.Lots b.Holds) 0,.fptr (kA a.Kind a.Day a.Lot a.Amount a.Yarn a.Dye a.Order) 0])] ?_
 obtain⟨d,c,h⟩:=bnd h
 refine sq (gr fol [1] (kAV (!d)) (ac (hs (.call 119 [.fptr (kG b.Day b.Lots b.Holds) 0,.fptr (kA a.Kind a.Day a.Lot a.Amount a.Yarn a.Dye a.Order) 0] [] [] [.fptr (kG b.Day b.Lots b.Holds) 0,.fptr (kA a.Kind a.Day a.Lot a.Amount a.Yarn a.Dye a.Order) 0] (.bool d)) (jf (FzL.cons (Ua (Still.fptr (AllST.cons tI (AllST.cons (qG qo _ (nl rfl)) (AllST.cons (qG qg _ (nl rfl)) AllST.nil))))) (FzL.cons (Ua (Still.fptr (AllST.cons tS (AllST.cons tI (AllST.cons tS (AllST.cons tI (AllST.cons tS (AllST.cons tS (AllST.cons tS AllST.nil))))))))) FzL.nil)) (qju N b a c) tB)) az) ?_)
 refine Goes.ret ?_
 obtain rfl:=si h
 exact(gw2 [.bool (!d)] (Ub tB))
def yA (N:Nat) (a:qw) (d:StateT) (b:ql):Nat->Int->Option (Unit⊕Int)
 |0,_=>none
 |K+1,c=>
  if c<5 then
  (if c=0 then
  (xL a d).bind fun i=>
  some i
  else
  if c=1 then
  (yO a b).bind fun j=>
  some j
  else
  if c=2 then
  (qgw b a).bind fun e=>
  some e
  else
  if c=3 then
  (qgG b a).bind fun f=>
  some f
  else
  if c=4 then
  (xQ N d a).bind fun g=>
  some g
  else
  none:Option Bool).bind fun h=>
  if h=true then
  some (.inr c)
  else
  yA N a d b K (w64 (c+1))
  else
  some (.inl ())
def qcq (N:Nat) (a:qw) (b:StateT) (c:ql):Option Int:=
 (yA N a b c N 0).bind (fun
 |(.inl ())=>
 some (-1)
 |(.inr d)=>
 some d)
theorem qh1 (N:Nat) (a:qw) (c:StateT) (b:ql) {res:Int} (h:qcq N a c b=some res):qE ZT (.fn 176) [.fslice 5 (qhP a c b),.func (.func 177) [] []] [] (.i res) []:=by
 unfold qcq at h
 refine Uc Tryz.func176 rfl rfl (m:=19) rfl (rs:=[.tmp 4]) rfl (l:=[(0,.fslice 5 (qhP a c b)),(1,.func (.func 177) [] [])]) rfl ?_
 refine sh fol [(0,.fslice 5 (qhP a c b)),(1,.func (.func 177) [] [])] ?_
 refine sq ?_
 refine sh fol ((0,.fslice 5 (qhP a c b))::(1,.func (.func 177) [] [])::kA1) ?_
 refine Goes.block ?_
 obtain⟨u,g2,h⟩:=bnd h
 refine Goes.imp (Q:=fun x s'=>(x= .exit 0/\(.inl ())=u/\Sub s' (ofG 19 [],[]))\/(x= .ret/\ ∃y,(.inr y)=u/\jT ZT [.tmp 4] (.i y) .ret s')) ?_ ?_
 ·refine Ud (fun M s=> ∃(e:Int),s=(ofG 19 ((0,.fslice 5 (qhP a c b))::(1,.func (.func 177) [] [])::(kAF e)),[])/\yA N a c b M e=some u) ?_ (m:=N) ⟨_,rfl,g2⟩
  rintro M s ⟨e,rfl,g2⟩
  cases M with
  |zero=>simp only[yA]at g2;cases g2
  |succ M=>
   rw[yA]at g2
   refine sh fol ((0,.fslice 5 (qhP a c b))::(1,.func (.func 177) [] [])::(7,.i 5)::(kAg e (decide (e<5)))) ?_
   refine sq ?_
   refine ihD g2 (fun E g2=>?_) (fun E g2=>?_)
   ·refine Goes.skip ?_
    refine sq (Goes.block ?_)
    refine sh fol ((0,.fslice 5 (qhP a c b))::(1,.func (.func 177) [] [])::(5,.i e)::(kAF e)) ?_
    refine sq ?_
    obtain⟨v,d,g2⟩:=bnd g2
    refine Goes.cut (s':=(ofG 19 ((0,.fslice 5 (qhP a c b))::(1,.func (.func 177) [] [])::(kK e v)),[])) ?_ ?_
    ·rcases wyD d with⟨z,d⟩|⟨z,d⟩
     ·obtain⟨A,k,d⟩:=bnd d
      obtain rfl:=si d
      exact tr fol [3,5] ((0,.fslice 5 (qhP a c b))::(1,.func (.func 177) [] [])::(kK e A)) (ac (hs (.done (.opt (qP ZT 221 (.fslice 5 (qhP a c b)) (.i e))) (.fptr [.func (.func 115) [] [.fptr (kA a.Kind a.Day a.Lot a.Amount a.Yarn a.Dye a.Order) 0,.fptr (kG c.Day c.Lots c.Holds) 0],.func (.func 116) [] [.fptr (kA a.Kind a.Day a.Lot a.Amount a.Yarn a.Dye a.Order) 0,.fptr (.str b.lot.Name::(kB b.lot.Yarn b.lot.Dye b.lot.Stock b.known b.hold.Lot b.hold.Order b.hold.Reserved b.hold.Taken b.free)) 0],.func (.func 117) [] [.fptr [.func (.func 132) [] [],.func (.func 133) [] []] 0,.fptr (.str b.lot.Name::(kB b.lot.Yarn b.lot.Dye b.lot.Stock b.known b.hold.Lot b.hold.Order b.hold.Reserved b.hold.Taken b.free)) 0,.fptr (kA a.Kind a.Day a.Lot a.Amount a.Yarn a.Dye a.Order) 0],.func (.func 118) [] [.fptr [.func (.func 132) [] [],.func (.func 133) [] []] 0,.fptr (.str b.lot.Name::(kB b.lot.Yarn b.lot.Dye b.lot.Stock b.known b.hold.Lot b.hold.Order b.hold.Reserved b.hold.Taken b.free)) 0,.fptr (kA a.Kind a.Day a.Lot a.Amount a.Yarn a.Dye a.Order) 0],.func (.func 119) [] [.fptr (kG c.Day c.Lots c.Holds) 0,.fptr (kA a.Kind a.Day a.Lot a.Amount a.Yarn a.Dye a.Order) 0]] 0)) (ixA (ot z) (by kernel_rfl))) (ac (hs (.call 177 [.func (.func 115) [] [.fptr (kA a.Kind a.Day a.Lot a.Amount a.Yarn a.Dye a.Order) 0,.fptr (kG c.Day c.Lots c.Holds) 0]] [] [] [.func (.func 115) [] [.fptr (kA a.Kind a.Day a.Lot a.Amount a.Yarn a.Dye a.Order) 0,.fptr (kG c.Day c.Lots c.Holds) 0]] (.bool A)) (jf (FzL.cons (Fz.func FzL.nil (FzL.cons (Ua (Still.fptr (AllST.cons tS (AllST.cons tI (AllST.cons tS (AllST.cons tI (AllST.cons tS (AllST.cons tS (AllST.cons tS AllST.nil))))))))) (FzL.cons (Ua (Still.fptr (AllST.cons tI (AllST.cons (qG qo _ (nl rfl)) (AllST.cons (qG qg _ (nl rfl)) AllST.nil))))) FzL.nil))) FzL.nil) (qcN a c k) tB)) az))
     rcases wyD d with⟨B,d⟩|⟨B,d⟩
     ·obtain⟨C,n,d⟩:=bnd d
      obtain rfl:=si d
      exact tr fol [3,5] ((0,.fslice 5 (qhP a c b))::(1,.func (.func 177) [] [])::(kK e C)) (ac (hs (.done (.opt (qP ZT 221 (.fslice 5 (qhP a c b)) (.i e))) (.fptr [.func (.func 115) [] [.fptr (kA a.Kind a.Day a.Lot a.Amount a.Yarn a.Dye a.Order) 0,.fptr (kG c.Day c.Lots c.Holds) 0],.func (.func 116) [] [.fptr (kA a.Kind a.Day a.Lot a.Amount a.Yarn a.Dye a.Order) 0,.fptr (.str b.lot.Name::(kB b.lot.Yarn b.lot.Dye b.lot.Stock b.known b.hold.Lot b.hold.Order b.hold.Reserved b.hold.Taken b.free)) 0],.func (.func 117) [] [.fptr [.func (.func 132) [] [],.func (.func 133) [] []] 0,.fptr (.str b.lot.Name::(kB b.lot.Yarn b.lot.Dye b.lot.Stock b.known b.hold.Lot b.hold.Order b.hold.Reserved b.hold.Taken b.free)) 0,.fptr (kA a.Kind a.Day a.Lot a.Amount a.Yarn a.Dye a.Order) 0],.func (.func 118) [] [.fptr [.func (.func 132) [] [],.func (.func 133) [] []] 0,.fptr (.str b.lot.Name::(kB b.lot.Yarn b.lot.Dye b.lot.Stock b.known b.hold.Lot b.hold.Order b.hold.Reserved b.hold.Taken b.free)) 0,.fptr (kA a.Kind a.Day a.Lot a.Amount a.Yarn a.Dye a.Order) 0],.func (.func 119) [] [.fptr (kG c.Day c.Lots c.Holds) 0,.fptr (kA a.Kind a.Day a.Lot a.Amount a.Yarn a.Dye a.Order) 0]] 1)) (ixA (ot B) (by kernel_rfl))) (ac (hs (.call 177 [.func (.func 116) [] [.fptr (kA a.Kind a.Day a.Lot a.Amount a.Yarn a.Dye a.Order) 0,.fptr (.str b.lot.Name::(kB b.lot.Yarn b.lot.Dye b.lot.Stock b.known b.hold.Lot b.hold.Order b.hold.Reserved b.hold.Taken b.free)) 0]] [] [] [.func (.func 116) [] [.fptr (kA a.Kind a.Day a.Lot a.Amount a.Yarn a.Dye a.Order) 0,.fptr (.str b.lot.Name::(kB b.lot.Yarn b.lot.Dye b.lot.Stock b.known b.hold.Lot b.hold.Order b.hold.Reserved b.hold.Taken b.free)) 0]] (.bool C)) (jf (FzL.cons (Fz.func FzL.nil (FzL.cons (Ua (Still.fptr (AllST.cons tS (AllST.cons tI (AllST.cons tS (AllST.cons tI (AllST.cons tS (AllST.cons tS (AllST.cons tS AllST.nil))))))))) (FzL.cons (Ua (Still.fptr (AllST.cons tS (AllST.cons tS (AllST.cons tS (AllST.cons tI (AllST.cons tB (AllST.cons tS (AllST.cons tS (AllST.cons tI (AllST.cons tI (AllST.cons tI AllST.nil)))))))))))) FzL.nil))) FzL.nil) (qcT a b n) tB)) az))
     rcases wyD d with⟨D,d⟩|⟨D,d⟩
     ·obtain⟨o,f,d⟩:=bnd d
      obtain rfl:=si d
      exact tr fol [3,5] ((0,.fslice 5 (qhP a c b))::(1,.func (.func 177) [] [])::(kK e o)) (ac (hs (.done (.opt (qP ZT 221 (.fslice 5 (qhP a c b)) (.i e))) (.fptr [.func (.func 115) [] [.fptr (kA a.Kind a.Day a.Lot a.Amount a.Yarn a.Dye a.Order) 0,.fptr (kG c.Day c.Lots c.Holds) 0],.func (.func 116) [] [.fptr (kA a.Kind a.Day a.Lot a.Amount a.Yarn a.Dye a.Order) 0,.fptr (.str b.lot.Name::(kB b.lot.Yarn b.lot.Dye b.lot.Stock b.known b.hold.Lot b.hold.Order b.hold.Reserved b.hold.Taken b.free)) 0],.func (.func 117) [] [.fptr [.func (.func 132) [] [],.func (.func 133) [] []] 0,.fptr (.str b.lot.Name::(kB b.lot.Yarn b.lot.Dye b.lot.Stock b.known b.hold.Lot b.hold.Order b.hold.Reserved b.hold.Taken b.free)) 0,.fptr (kA a.Kind a.Day a.Lot a.Amount a.Yarn a.Dye a.Order) 0],.func (.func 118) [] [.fptr [.func (.func 132) [] [],.func (.func 133) [] []] 0,.fptr (.str b.lot.Name::(kB b.lot.Yarn b.lot.Dye b.lot.Stock b.known b.hold.Lot b.hold.Order b.hold.Reserved b.hold.Taken b.free)) 0,.fptr (kA a.Kind a.Day a.Lot a.Amount a.Yarn a.Dye a.Order) 0],.func (.func 119) [] [.fptr (kG c.Day c.Lots c.Holds) 0,.fptr (kA a.Kind a.Day a.Lot a.Amount a.Yarn a.Dye a.Order) 0]] 2)) (ixA (ot D) (by kernel_rfl))) (ac (hs (.call 177 [.func (.func 117) [] [.fptr [.func (.func 132) [] [],.func (.func 133) [] []] 0,.fptr (.str b.lot.Name::(kB b.lot.Yarn b.lot.Dye b.lot.Stock b.known b.hold.Lot b.hold.Order b.hold.Reserved b.hold.Taken b.free)) 0,.fptr (kA a.Kind a.Day a.Lot a.Amount a.Yarn a.Dye a.Order) 0]] [] [] [.func (.func 117) [] [.fptr [.func (.func 132) [] [],.func (.func 133) [] []] 0,.fptr (.str b.lot.Name::(kB b.lot.Yarn b.lot.Dye b.lot.Stock b.known b.hold.Lot b.hold.Order b.hold.Reserved b.hold.Taken b.free)) 0,.fptr (kA a.Kind a.Day a.Lot a.Amount a.Yarn a.Dye a.Order) 0]] (.bool o)) (jf (FzL.cons (Fz.func FzL.nil (FzL.cons (Ua (Still.fptr (AllST.cons (Still.func AllST.nil AllST.nil) (AllST.cons (Still.func AllST.nil AllST.nil) AllST.nil)))) (FzL.cons (Ua (Still.fptr (AllST.cons tS (AllST.cons tS (AllST.cons tS (AllST.cons tI (AllST.cons tB (AllST.cons tS (AllST.cons tS (AllST.cons tI (AllST.cons tI (AllST.cons tI AllST.nil)))))))))))) (FzL.cons (Ua (Still.fptr (AllST.cons tS (AllST.cons tI (AllST.cons tS (AllST.cons tI (AllST.cons tS (AllST.cons tS (AllST.cons tS AllST.nil))))))))) FzL.nil)))) FzL.nil) (qlw b a f) tB)) az))
     rcases wyD d with⟨p,d⟩|⟨p,d⟩
     ·obtain⟨q,g,d⟩:=bnd d
      obtain rfl:=si d
      exact tr fol [3,5] ((0,.fslice 5 (qhP a c b))::(1,.func (.func 177) [] [])::(kK e q)) (ac (hs (.done (.opt (qP ZT 221 (.fslice 5 (qhP a c b)) (.i e))) (.fptr [.func (.func 115) [] [.fptr (kA a.Kind a.Day a.Lot a.Amount a.Yarn a.Dye a.Order) 0,.fptr (kG c.Day c.Lots c.Holds) 0],.func (.func 116) [] [.fptr (kA a.Kind a.Day a.Lot a.Amount a.Yarn a.Dye a.Order) 0,.fptr (.str b.lot.Name::(kB b.lot.Yarn b.lot.Dye b.lot.Stock b.known b.hold.Lot b.hold.Order b.hold.Reserved b.hold.Taken b.free)) 0],.func (.func 117) [] [.fptr [.func (.func 132) [] [],.func (.func 133) [] []] 0,.fptr (.str b.lot.Name::(kB b.lot.Yarn b.lot.Dye b.lot.Stock b.known b.hold.Lot b.hold.Order b.hold.Reserved b.hold.Taken b.free)) 0,.fptr (kA a.Kind a.Day a.Lot a.Amount a.Yarn a.Dye a.Order) 0],.func (.func 118) [] [.fptr [.func (.func 132) [] [],.func (.func 133) [] []] 0,.fptr (.str b.lot.Name::(kB b.lot.Yarn b.lot.Dye b.lot.Stock b.known b.hold.Lot b.hold.Order b.hold.Reserved b.hold.Taken b.free)) 0,.fptr (kA a.Kind a.Day a.Lot a.Amount a.Yarn a.Dye a.Order) 0],.func (.func 119) [] [.fptr (kG c.Day c.Lots c.Holds) 0,.fptr (kA a.Kind a.Day a.Lot a.Amount a.Yarn a.Dye a.Order) 0]] 3)) (ixA (ot p) (by kernel_rfl))) (ac (hs (.call 177 [.func (.func 118) [] [.fptr [.func (.func 132) [] [],.func (.func 133) [] []] 0,.fptr (.str b.lot.Name::(kB b.lot.Yarn b.lot.Dye b.lot.Stock b.known b.hold.Lot b.hold.Order b.hold.Reserved b.hold.Taken b.free)) 0,.fptr (kA a.Kind a.Day a.Lot a.Amount a.Yarn a.Dye a.Order) 0]] [] [] [.func (.func 118) [] [.fptr [.func (.func 132) [] [],.func (.func 133) [] []] 0,.fptr (.str b.lot.Name::(kB b.lot.Yarn b.lot.Dye b.lot.Stock b.known b.hold.Lot b.hold.Order b.hold.Reserved b.hold.Taken b.free)) 0,.fptr (kA a.Kind a.Day a.Lot a.Amount a.Yarn a.Dye a.Order) 0]] (.bool q)) (jf (FzL.cons (Fz.func FzL.nil (FzL.cons (Ua (Still.fptr (AllST.cons (Still.func AllST.nil AllST.nil) (AllST.cons (Still.func AllST.nil AllST.nil) AllST.nil)))) (FzL.cons (Ua (Still.fptr (AllST.cons tS (AllST.cons tS (AllST.cons tS (AllST.cons tI (AllST.cons tB (AllST.cons tS (AllST.cons tS (AllST.cons tI (AllST.cons tI (AllST.cons tI AllST.nil)))))))))))) (FzL.cons (Ua (Still.fptr (AllST.cons tS (AllST.cons tI (AllST.cons tS (AllST.cons tI (AllST.cons tS (AllST.cons tS (AllST.cons tS AllST.nil))))))))) FzL.nil)))) FzL.nil) (qmv b a g) tB)) az))
     rcases wyD d with⟨r,d⟩|⟨r,d⟩
     ·obtain⟨t,j,d⟩:=bnd d
      obtain rfl:=si d
      exact tr fol [3,5] ((0,.fslice 5 (qhP a c b))::(1,.func (.func 177) [] [])::(kK e t)) (ac (hs (.done (.opt (qP ZT 221 (.fslice 5 (qhP a c b)) (.i e))) (.fptr [.func (.func 115) [] [.fptr (kA a.Kind a.Day a.Lot a.Amount a.Yarn a.Dye a.Order) 0,.fptr (kG c.Day c.Lots c.Holds) 0],.func (.func 116) [] [.fptr (kA a.Kind a.Day a.Lot a.Amount a.Yarn a.Dye a.Order) 0,.fptr (.str b.lot.Name::(kB b.lot.Yarn b.lot.Dye b.lot.Stock b.known b.hold.Lot b.hold.Order b.hold.Reserved b.hold.Taken b.free)) 0],.func (.func 117) [] [.fptr [.func (.func 132) [] [],.func (.func 133) [] []] 0,.fptr (.str b.lot.Name::(kB b.lot.Yarn b.lot.Dye b.lot.Stock b.known b.hold.Lot b.hold.Order b.hold.Reserved b.hold.Taken b.free)) 0,.fptr (kA a.Kind a.Day a.Lot a.Amount a.Yarn a.Dye a.Order) 0],.func (.func 118) [] [.fptr [.func (.func 132) [] [],.func (.func 133) [] []] 0,.fptr (.str b.lot.Name::(kB b.lot.Yarn b.lot.Dye b.lot.Stock b.known b.hold.Lot b.hold.Order b.hold.Reserved b.hold.Taken b.free)) 0,.fptr (kA a.Kind a.Day a.Lot a.Amount a.Yarn a.Dye a.Order) 0],.func (.func 119) [] [.fptr (kG c.Day c.Lots c.Holds) 0,.fptr (kA a.Kind a.Day a.Lot a.Amount a.Yarn a.Dye a.Order) 0]] 4)) (ixA (ot r) (by kernel_rfl))) (ac (hs (.call 177 [.func (.func 119) [] [.fptr (kG c.Day c.Lots c.Holds) 0,.fptr (kA a.Kind a.Day a.Lot a.Amount a.Yarn a.Dye a.Order) 0]] [] [] [.func (.func 119) [] [.fptr (kG c.Day c.Lots c.Holds) 0,.fptr (kA a.Kind a.Day a.Lot a.Amount a.Yarn a.Dye a.Order) 0]] (.bool t)) (jf (FzL.cons (Fz.func FzL.nil (FzL.cons (Ua (Still.fptr (AllST.cons tI (AllST.cons (qG qo _ (nl rfl)) (AllST.cons (qG qg _ (nl rfl)) AllST.nil))))) (FzL.cons (Ua (Still.fptr (AllST.cons tS (AllST.cons tI (AllST.cons tS (AllST.cons tI (AllST.cons tS (AllST.cons tS (AllST.cons tS AllST.nil))))))))) FzL.nil))) FzL.nil) (qcU N c a j) tB)) az))
     cases d
    refine ihB g2 (fun w g2=>?_) (fun w g2=>?_)
    ·refine sh fol (kAn e) ?_
     refine Goes.ret ?_
     obtain rfl:=si g2
     exact Or.inr (⟨rfl,_,rfl,(gw2 [.i e] (Ub tI))⟩)
    refine Goes.skip ?_
    refine gh fol ((0,.fslice 5 (qhP a c b))::(1,.func (.func 177) [] [])::(kAF (w64 (e+1)))) ?_
    exact⟨M,(ofG 19 ((0,.fslice 5 (qhP a c b))::(1,.func (.func 177) [] [])::(kAF (w64 (e+1)))),[]),Nat.lt_succ_self _,(Sub.refl _),_,rfl,g2⟩
   refine Goes.exit ?_
   obtain rfl:=si g2
   exact Or.inl (⟨rfl,rfl,(Sub.keep [] rfl rfl)⟩)
 rintro x s' (⟨rfl,rfl,hsub⟩|⟨rfl,F,rfl,hret⟩)
 ·try dsimp only at h
  refine Goes.sub hsub ?_
  refine sh fol kAq ?_
  refine Goes.ret ?_
  obtain rfl:=si h
  exact(gw2 [.i (-1)] (Ub tI))
 try dsimp only at h
 obtain rfl:=si h
 exact hret
def qgv (N:Nat) (a:qw) (b:StateT) (c:ql):Option Int:=
 (qcq N a b c).bind fun d=>
 some (w64 (1+d))
theorem qnZ (N:Nat) (a:qw) (b:StateT) (c:ql) {res:Int} (h:qgv N a b c=some res):qE ZT (.fn 114) [.fslice 5 (qhP a b c)] [] (.i res) []:=by
 unfold qgv at h
 refine Uc Tryz.func114 rfl rfl (m:=6) rfl (rs:=[.tmp 2]) rfl (l:=[(0,.fslice 5 (qhP a b c))]) rfl ?_
 refine sh fol [(0,.fslice 5 (qhP a b c))] ?_
 obtain⟨e,d,h⟩:=bnd h
 refine sq (gr fol [1] (kAt (w64 (1+e))) (ac (hs (.call 176 [.fslice 5 (qhP a b c),.func (.func 177) [] []] [] [] [.fslice 5 (qhP a b c),.func (.func 177) [] []] (.i e)) (jf (FzL.cons (Ua (Still.fslice (AllST.cons (Still.func AllST.nil (AllST.cons (Still.fptr (AllST.cons tS (AllST.cons tI (AllST.cons tS (AllST.cons tI (AllST.cons tS (AllST.cons tS (AllST.cons tS AllST.nil)))))))) (AllST.cons (Still.fptr (AllST.cons tI (AllST.cons (qG qo _ (nl rfl)) (AllST.cons (qG qg _ (nl rfl)) AllST.nil)))) AllST.nil))) (AllST.cons (Still.func AllST.nil (AllST.cons (Still.fptr (AllST.cons tS (AllST.cons tI (AllST.cons tS (AllST.cons tI (AllST.cons tS (AllST.cons tS (AllST.cons tS AllST.nil)))))))) (AllST.cons (Still.fptr (AllST.cons tS (AllST.cons tS (AllST.cons tS (AllST.cons tI (AllST.cons tB (AllST.cons tS (AllST.cons tS (AllST.cons tI (AllST.cons tI (AllST.cons tI AllST.nil))))))))))) AllST.nil))) (AllST.cons (Still.func AllST.nil (AllST.cons (Still.fptr (AllST.cons (Still.func AllST.nil AllST.nil) (AllST.cons (Still.func AllST.nil AllST.nil) AllST.nil))) (AllST.cons (Still.fptr (AllST.cons tS (AllST.cons tS (AllST.cons tS (AllST.cons tI (AllST.cons tB (AllST.cons tS (AllST.cons tS (AllST.cons tI (AllST.cons tI (AllST.cons tI AllST.nil))))))))))) (AllST.cons (Still.fptr (AllST.cons tS (AllST.cons tI (AllST.cons tS (AllST.cons tI (AllST.cons tS (AllST.cons tS (AllST.cons tS AllST.nil)))))))) AllST.nil)))) (AllST.cons (Still.func AllST.nil (AllST.cons (Still.fptr (AllST.cons (Still.func AllST.nil AllST.nil) (AllST.cons (Still.func AllST.nil AllST.nil) AllST.nil))) (AllST.cons (Still.fptr (AllST.cons tS (AllST.cons tS (AllST.cons tS (AllST.cons tI (AllST.cons tB (AllST.cons tS (AllST.cons tS (AllST.cons tI (AllST.cons tI (AllST.cons tI AllST.nil))))))))))) (AllST.cons (Still.fptr (AllST.cons tS (AllST.cons tI (AllST.cons tS (AllST.cons tI (AllST.cons tS (AllST.cons tS (AllST.cons tS AllST.nil)))))))) AllST.nil)))) (AllST.cons (Still.func AllST.nil (AllST.cons (Still.fptr (AllST.cons tI (AllST.cons (qG qo _ (nl rfl)) (AllST.cons (qG qg _ (nl rfl)) AllST.nil)))) (AllST.cons (Still.fptr (AllST.cons tS (AllST.cons tI (AllST.cons tS (AllST.cons tI (AllST.cons tS (AllST.cons tS (AllST.cons tS AllST.nil)))))))) AllST.nil))) AllST.nil))))))) (FzL.cons (Fz.func FzL.nil FzL.nil) FzL.nil)) (qh1 N a b c d) tI)) az) ?_)
 refine Goes.ret ?_
 obtain rfl:=si h
 exact(gw2 [.i (w64 (1+e))] (Ub tI))
def qeN (a:ql) (b:qw):Option Bool:=
 (qjS a b.Amount).bind fun c=>
 some c
theorem qji (a:ql) (b:qw) {res:Bool} (h:qeN a b=some res):qE ZT (.fn 117) [.fptr [.func (.func 134) [] [],.func (.func 135) [] []] 0,.fptr (.str a.lot.Name::(kB a.lot.Yarn a.lot.Dye a.lot.Stock a.known a.hold.Lot a.hold.Order a.hold.Reserved a.hold.Taken a.free)) 0,.fptr (kA b.Kind b.Day b.Lot b.Amount b.Yarn b.Dye b.Order) 0] [] (.bool res) []:=by
 unfold qeN at h
 refine Uc Tryz.func117 rfl rfl (m:=10) rfl (rs:=[.tmp 3]) rfl (l:=[(0,.fptr [.func (.func 134) [] [],.func (.func 135) [] []] 0),(1,.fptr (.str a.lot.Name::(kB a.lot.Yarn a.lot.Dye a.lot.Stock a.known a.hold.Lot a.hold.Order a.hold.Reserved a.hold.Taken a.free)) 0),(2,.fptr (kA b.Kind b.Day b.Lot b.Amount b.Yarn b.Dye b.Order) 0)]) rfl ?_
 refine sh fol [(0,.fptr [.func (.func 134) [] [],.func (.func 135) [] []] 0),(1,.fptr (.str a.lot.Name::(kB a.lot.Yarn a.lot.Dye a.lot.Stock a.known a.hold.Lot a.hold.Order a.hold.Reserved a.hold.Taken a.free)) 0),(2,.fptr (kA b.Kind b.Day b.Lot b.Amount b.Yarn b.Dye b.Order) 0)] ?_
 obtain⟨d,c,h⟩:=bnd h
 refine sq (gr fol [5] (kAu d) (ac (cv (qo3 a b.Amount c)) az) ?_)
 refine Goes.ret ?_
 obtain rfl:=si h
 exact(gw2 [.bool d] (Ub tB))
def qgH (a:ql) (b:qw):Option Bool:=
 (qeN a b).bind fun c=>
 some (!c)
theorem qlX (a:ql) (b:qw) {res:Bool} (h:qgH a b=some res):qE ZT (.fn 177) [.func (.func 117) [] [.fptr [.func (.func 134) [] [],.func (.func 135) [] []] 0,.fptr (.str a.lot.Name::(kB a.lot.Yarn a.lot.Dye a.lot.Stock a.known a.hold.Lot a.hold.Order a.hold.Reserved a.hold.Taken a.free)) 0,.fptr (kA b.Kind b.Day b.Lot b.Amount b.Yarn b.Dye b.Order) 0]] [] (.bool res) []:=by
 unfold qgH at h
 refine Uc Tryz.func177 rfl rfl (m:=6) rfl (rs:=[.tmp 2]) rfl (l:=[(0,.func (.func 117) [] [.fptr [.func (.func 134) [] [],.func (.func 135) [] []] 0,.fptr (.str a.lot.Name::(kB a.lot.Yarn a.lot.Dye a.lot.Stock a.known a.hold.Lot a.hold.Order a.hold.Reserved a.hold.Taken a.free)) 0,.fptr (kA b.Kind b.Day b.Lot b.Amount b.Yarn b.Dye b.Order) 0])]) rfl ?_
 refine sh fol [(0,.func (.func 117) [] [.fptr [.func (.func 134) [] [],.func (.func 135) [] []] 0,.fptr (.str a.lot.Name::(kB a.lot.Yarn a.lot.Dye a.lot.Stock a.known a.hold.Lot a.hold.Order a.hold.Reserved a.hold.Taken a.free)) 0,.fptr (kA b.Kind b.Day b.Lot b.Amount b.Yarn b.Dye b.Order) 0])] ?_
 obtain⟨d,c,h⟩:=bnd h
 refine sq (gr fol [1] (kAV (!d)) (ac (hs (.call 117 [.fptr [.func (.func 134) [] [],.func (.func 135) [] []] 0,.fptr (.str a.lot.Name::(kB a.lot.Yarn a.lot.Dye a.lot.Stock a.known a.hold.Lot a.hold.Order a.hold.Reserved a.hold.Taken a.free)) 0,.fptr (kA b.Kind b.Day b.Lot b.Amount b.Yarn b.Dye b.Order) 0] [] [] [.fptr [.func (.func 134) [] [],.func (.func 135) [] []] 0,.fptr (.str a.lot.Name::(kB a.lot.Yarn a.lot.Dye a.lot.Stock a.known a.hold.Lot a.hold.Order a.hold.Reserved a.hold.Taken a.free)) 0,.fptr (kA b.Kind b.Day b.Lot b.Amount b.Yarn b.Dye b.Order) 0] (.bool d)) (jf (FzL.cons (Ua (Still.fptr (AllST.cons (Still.func AllST.nil AllST.nil) (AllST.cons (Still.func AllST.nil AllST.nil) AllST.nil)))) (FzL.cons (Ua (Still.fptr (AllST.cons tS (AllST.cons tS (AllST.cons tS (AllST.cons tI (AllST.cons tB (AllST.cons tS (AllST.cons tS (AllST.cons tI (AllST.cons tI (AllST.cons tI AllST.nil)))))))))))) (FzL.cons (Ua (Still.fptr (AllST.cons tS (AllST.cons tI (AllST.cons tS (AllST.cons tI (AllST.cons tS (AllST.cons tS (AllST.cons tS AllST.nil))))))))) FzL.nil))) (qji a b c) tB)) az) ?_)
 refine Goes.ret ?_
 obtain rfl:=si h
 exact(gw2 [.bool (!d)] (Ub tB))
def qeR (b:ql) (c:qw):Option Bool:=
 (qfV b c.Amount).bind fun a=>
 some (decide ((if a.hold.Taken>a.lot.Stock then a.hold.Taken else a.lot.Stock)<=999999999))
theorem qi5 (a:ql) (b:qw) {res:Bool} (h:qeR a b=some res):qE ZT (.fn 118) [.fptr [.func (.func 134) [] [],.func (.func 135) [] []] 0,.fptr (.str a.lot.Name::(kB a.lot.Yarn a.lot.Dye a.lot.Stock a.known a.hold.Lot a.hold.Order a.hold.Reserved a.hold.Taken a.free)) 0,.fptr (kA b.Kind b.Day b.Lot b.Amount b.Yarn b.Dye b.Order) 0] [] (.bool res) []:=by
 unfold qeR at h
 refine Uc Tryz.func118 rfl rfl (m:=19) rfl (rs:=[.tmp 3]) rfl (l:=[(0,.fptr [.func (.func 134) [] [],.func (.func 135) [] []] 0),(1,.fptr (.str a.lot.Name::(kB a.lot.Yarn a.lot.Dye a.lot.Stock a.known a.hold.Lot a.hold.Order a.hold.Reserved a.hold.Taken a.free)) 0),(2,.fptr (kA b.Kind b.Day b.Lot b.Amount b.Yarn b.Dye b.Order) 0)]) rfl ?_
 refine sh fol [(0,.fptr [.func (.func 134) [] [],.func (.func 135) [] []] 0),(1,.fptr (.str a.lot.Name::(kB a.lot.Yarn a.lot.Dye a.lot.Stock a.known a.hold.Lot a.hold.Order a.hold.Reserved a.hold.Taken a.free)) 0),(2,.fptr (kA b.Kind b.Day b.Lot b.Amount b.Yarn b.Dye b.Order) 0)] ?_
 obtain⟨c,d,h⟩:=bnd h
 refine sq (gq fol [5] (kAH []) (kC c.lot.Name c.lot.Yarn c.lot.Dye c.lot.Stock c.known c.hold.Lot c.hold.Order c.hold.Reserved c.hold.Taken c.free []) (ac (cv (qkd a b.Amount d)) az) ?_)
 refine sh fol (kAu (decide ((if c.hold.Taken>c.lot.Stock then c.hold.Taken else c.lot.Stock)<=999999999))) ?_
 refine Goes.ret ?_
 obtain rfl:=si h
 exact(gw2 [.bool (decide ((if c.hold.Taken>c.lot.Stock then c.hold.Taken else c.lot.Stock)<=999999999))] (Ub tB))
def qgP (a:ql) (b:qw):Option Bool:=
 (qeR a b).bind fun c=>
 some (!c)
theorem qlN (a:ql) (b:qw) {res:Bool} (h:qgP a b=some res):qE ZT (.fn 177) [.func (.func 118) [] [.fptr [.func (.func 134) [] [],.func (.func 135) [] []] 0,.fptr (.str a.lot.Name::(kB a.lot.Yarn a.lot.Dye a.lot.Stock a.known a.hold.Lot a.hold.Order a.hold.Reserved a.hold.Taken a.free)) 0,.fptr (kA b.Kind b.Day b.Lot b.Amount b.Yarn b.Dye b.Order) 0]] [] (.bool res) []:=by
 unfold qgP at h
 refine Uc Tryz.func177 rfl rfl (m:=6) rfl (rs:=[.tmp 2]) rfl (l:=[(0,.func (.func 118) [] [.fptr [.func (.func 134) [] [],.func (.func 135) [] []] 0,.fptr (.str a.lot.Name::(kB a.lot.Yarn a.lot.Dye a.lot.Stock a.known a.hold.Lot a.hold.Order a.hold.Reserved a.hold.Taken a.free)) 0,.fptr (kA b.Kind b.Day b.Lot b.Amount b.Yarn b.Dye b.Order) 0])]) rfl ?_
 refine sh fol [(0,.func (.func 118) [] [.fptr [.func (.func 134) [] [],.func (.func 135) [] []] 0,.fptr (.str a.lot.Name::(kB a.lot.Yarn a.lot.Dye a.lot.Stock a.known a.hold.Lot a.hold.Order a.hold.Reserved a.hold.Taken a.free)) 0,.fptr (kA b.Kind b.Day b.Lot b.Amount b.Yarn b.Dye b.Order) 0])] ?_
 obtain⟨d,c,h⟩:=bnd h
 refine sq (gr fol [1] (kAV (!d)) (ac (hs (.call 118 [.fptr [.func (.func 134) [] [],.func (.func 135) [] []] 0,.fptr (.str a.lot.Name::(kB a.lot.Yarn a.lot.Dye a.lot.Stock a.known a.hold.Lot a.hold.Order a.hold.Reserved a.hold.Taken a.free)) 0,.fptr (kA b.Kind b.Day b.Lot b.Amount b.Yarn b.Dye b.Order) 0] [] [] [.fptr [.func (.func 134) [] [],.func (.func 135) [] []] 0,.fptr (.str a.lot.Name::(kB a.lot.Yarn a.lot.Dye a.lot.Stock a.known a.hold.Lot a.hold.Order a.hold.Reserved a.hold.Taken a.free)) 0,.fptr (kA b.Kind b.Day b.Lot b.Amount b.Yarn b.Dye b.Order) 0] (.bool d)) (jf (FzL.cons (Ua (Still.fptr (AllST.cons (Still.func AllST.nil AllST.nil) (AllST.cons (Still.func AllST.nil AllST.nil) AllST.nil)))) (FzL.cons (Ua (Still.fptr (AllST.cons tS (AllST.cons tS (AllST.cons tS (AllST.cons tI (AllST.cons tB (AllST.cons tS (AllST.cons tS (AllST.cons tI (AllST.cons tI (AllST.cons tI AllST.nil)))))))))))) (FzL.cons (Ua (Still.fptr (AllST.cons tS (AllST.cons tI (AllST.cons tS (AllST.cons tI (AllST.cons tS (AllST.cons tS (AllST.cons tS AllST.nil))))))))) FzL.nil))) (qi5 a b c) tB)) az) ?_)
 refine Goes.ret ?_
 obtain rfl:=si h
 exact(gw2 [.bool (!d)] (Ub tB))
def yB (N:Nat) (a:qw) (d:StateT) (b:ql):Nat->Int->Option (Unit⊕Int)
 |0,_=>none
 |K+1,c=>
  if c<5 then
  (if c=0 then
  (xL a d).bind fun i=>
  some i
  else
  if c=1 then
  (yO a b).bind fun j=>
  some j
  else
  if c=2 then
  (qgH b a).bind fun e=>
  some e
  else
  if c=3 then
  (qgP b a).bind fun f=>
  some f
  else
  if c=4 then
  (xQ N d a).bind fun g=>
  some g
  else
  none:Option Bool).bind fun h=>
  if h=true then
  some (.inr c)
  else
  yB N a d b K (w64 (c+1))
  else
  some (.inl ())
def qch (N:Nat) (a:qw) (b:StateT) (c:ql):Option Int:=
 (yB N a b c N 0).bind (fun
 |(.inl ())=>
 some (-1)
 |(.inr d)=>
 some d)
theorem qif (N:Nat) (a:qw) (c:StateT) (b:ql) {res:Int} (h:qch N a c b=some res):qE ZT (.fn 176) [.fslice 5 (qhD a c b),.func (.func 177) [] []] [] (.i res) []:=by
 unfold qch at h
 refine Uc Tryz.func176 rfl rfl (m:=19) rfl (rs:=[.tmp 4]) rfl (l:=[(0,.fslice 5 (qhD a c b)),(1,.func (.func 177) [] [])]) rfl ?_
 refine sh fol [(0,.fslice 5 (qhD a c b)),(1,.func (.func 177) [] [])] ?_
 refine sq ?_
 refine sh fol ((0,.fslice 5 (qhD a c b))::(1,.func (.func 177) [] [])::kA1) ?_
 refine Goes.block ?_
 obtain⟨u,g2,h⟩:=bnd h
 refine Goes.imp (Q:=fun x s'=>(x= .exit 0/\(.inl ())=u/\Sub s' (ofG 19 [],[]))\/(x= .ret/\ ∃y,(.inr y)=u/\jT ZT [.tmp 4] (.i y) .ret s')) ?_ ?_
 ·refine Ud (fun M s=> ∃(e:Int),s=(ofG 19 ((0,.fslice 5 (qhD a c b))::(1,.func (.func 177) [] [])::(kAF e)),[])/\yB N a c b M e=some u) ?_ (m:=N) ⟨_,rfl,g2⟩
  rintro M s ⟨e,rfl,g2⟩
  cases M with
  |zero=>simp only[yB]at g2;cases g2
  |succ M=>
   rw[yB]at g2
   refine sh fol ((0,.fslice 5 (qhD a c b))::(1,.func (.func 177) [] [])::(7,.i 5)::(kAg e (decide (e<5)))) ?_
   refine sq ?_
   refine ihD g2 (fun E g2=>?_) (fun E g2=>?_)
   ·refine Goes.skip ?_
    refine sq (Goes.block ?_)
    refine sh fol ((0,.fslice 5 (qhD a c b))::(1,.func (.func 177) [] [])::(5,.i e)::(kAF e)) ?_
    refine sq ?_
    obtain⟨v,d,g2⟩:=bnd g2
    refine Goes.cut (s':=(ofG 19 ((0,.fslice 5 (qhD a c b))::(1,.func (.func 177) [] [])::(kK e v)),[])) ?_ ?_
    ·rcases wyD d with⟨z,d⟩|⟨z,d⟩
     ·obtain⟨A,k,d⟩:=bnd d
      obtain rfl:=si d
      exact tr fol [3,5] ((0,.fslice 5 (qhD a c b))::(1,.func (.func 177) [] [])::(kK e A)) (ac (hs (.done (.opt (qP ZT 221 (.fslice 5 (qhD a c b)) (.i e))) (.fptr [.func (.func 115) [] [.fptr (kA a.Kind a.Day a.Lot a.Amount a.Yarn a.Dye a.Order) 0,.fptr (kG c.Day c.Lots c.Holds) 0],.func (.func 116) [] [.fptr (kA a.Kind a.Day a.Lot a.Amount a.Yarn a.Dye a.Order) 0,.fptr (.str b.lot.Name::(kB b.lot.Yarn b.lot.Dye b.lot.Stock b.known b.hold.Lot b.hold.Order b.hold.Reserved b.hold.Taken b.free)) 0],.func (.func 117) [] [.fptr [.func (.func 134) [] [],.func (.func 135) [] []] 0,.fptr (.str b.lot.Name::(kB b.lot.Yarn b.lot.Dye b.lot.Stock b.known b.hold.Lot b.hold.Order b.hold.Reserved b.hold.Taken b.free)) 0,.fptr (kA a.Kind a.Day a.Lot a.Amount a.Yarn a.Dye a.Order) 0],.func (.func 118) [] [.fptr [.func (.func 134) [] [],.func (.func 135) [] []] 0,.fptr (.str b.lot.Name::(kB b.lot.Yarn b.lot.Dye b.lot.Stock b.known b.hold.Lot b.hold.Order b.hold.Reserved b.hold.Taken b.free)) 0,.fptr (kA a.Kind a.Day a.Lot a.Amount a.Yarn a.Dye a.Order) 0],.func (.func 119) [] [.fptr (kG c.Day c.Lots c.Holds) 0,.fptr (kA a.Kind a.Day a.Lot a.Amount a.Yarn a.Dye a.Order) 0]] 0)) (ixA (ot z) (by kernel_rfl))) (ac (hs (.call 177 [.func (.func 115) [] [.fptr (kA a.Kind a.Day a.Lot a.Amount a.Yarn a.Dye a.Order) 0,.fptr (kG c.Day c.Lots c.Holds) 0]] [] [] [.func (.func 115) [] [.fptr (kA a.Kind a.Day a.Lot a.Amount a.Yarn a.Dye a.Order) 0,.fptr (kG c.Day c.Lots c.Holds) 0]] (.bool A)) (jf (FzL.cons (Fz.func FzL.nil (FzL.cons (Ua (Still.fptr (AllST.cons tS (AllST.cons tI (AllST.cons tS (AllST.cons tI (AllST.cons tS (AllST.cons tS (AllST.cons tS AllST.nil))))))))) (FzL.cons (Ua (Still.fptr (AllST.cons tI (AllST.cons (qG qo _ (nl rfl)) (AllST.cons (qG qg _ (nl rfl)) AllST.nil))))) FzL.nil))) FzL.nil) (qcN a c k) tB)) az))
     rcases wyD d with⟨B,d⟩|⟨B,d⟩
     ·obtain⟨C,n,d⟩:=bnd d
      obtain rfl:=si d
      exact tr fol [3,5] ((0,.fslice 5 (qhD a c b))::(1,.func (.func 177) [] [])::(kK e C)) (ac (hs (.done (.opt (qP ZT 221 (.fslice 5 (qhD a c b)) (.i e))) (.fptr [.func (.func 115) [] [.fptr (kA a.Kind a.Day a.Lot a.Amount a.Yarn a.Dye a.Order) 0,.fptr (kG c.Day c.Lots c.Holds) 0],.func (.func 116) [] [.fptr (kA a.Kind a.Day a.Lot a.Amount a.Yarn a.Dye a.Order) 0,.fptr (.str b.lot.Name::(kB b.lot.Yarn b.lot.Dye b.lot.Stock b.known b.hold.Lot b.hold.Order b.hold.Reserved b.hold.Taken b.free)) 0],.func (.func 117) [] [.fptr [.func (.func 134) [] [],.func (.func 135) [] []] 0,.fptr (.str b.lot.Name::(kB b.lot.Yarn b.lot.Dye b.lot.Stock b.known b.hold.Lot b.hold.Order b.hold.Reserved b.hold.Taken b.free)) 0,.fptr (kA a.Kind a.Day a.Lot a.Amount a.Yarn a.Dye a.Order) 0],.func (.func 118) [] [.fptr [.func (.func 134) [] [],.func (.func 135) [] []] 0,.fptr (.str b.lot.Name::(kB b.lot.Yarn b.lot.Dye b.lot.Stock b.known b.hold.Lot b.hold.Order b.hold.Reserved b.hold.Taken b.free)) 0,.fptr (kA a.Kind a.Day a.Lot a.Amount a.Yarn a.Dye a.Order) 0],.func (.func 119) [] [.fptr (kG c.Day c.Lots c.Holds) 0,.fptr (kA a.Kind a.Day a.Lot a.Amount a.Yarn a.Dye a.Order) 0]] 1)) (ixA (ot B) (by kernel_rfl))) (ac (hs (.call 177 [.func (.func 116) [] [.fptr (kA a.Kind a.Day a.Lot a.Amount a.Yarn a.Dye a.Order) 0,.fptr (.str b.lot.Name::(kB b.lot.Yarn b.lot.Dye b.lot.Stock b.known b.hold.Lot b.hold.Order b.hold.Reserved b.hold.Taken b.free)) 0]] [] [] [.func (.func 116) [] [.fptr (kA a.Kind a.Day a.Lot a.Amount a.Yarn a.Dye a.Order) 0,.fptr (.str b.lot.Name::(kB b.lot.Yarn b.lot.Dye b.lot.Stock b.known b.hold.Lot b.hold.Order b.hold.Reserved b.hold.Taken b.free)) 0]] (.bool C)) (jf (FzL.cons (Fz.func FzL.nil (FzL.cons (Ua (Still.fptr (AllST.cons tS (AllST.cons tI (AllST.cons tS (AllST.cons tI (AllST.cons tS (AllST.cons tS (AllST.cons tS AllST.nil))))))))) (FzL.cons (Ua (Still.fptr (AllST.cons tS (AllST.cons tS (AllST.cons tS (AllST.cons tI (AllST.cons tB (AllST.cons tS (AllST.cons tS (AllST.cons tI (AllST.cons tI (AllST.cons tI AllST.nil)))))))))))) FzL.nil))) FzL.nil) (qcT a b n) tB)) az))
     rcases wyD d with⟨D,d⟩|⟨D,d⟩
     ·obtain⟨o,f,d⟩:=bnd d
      obtain rfl:=si d
      exact tr fol [3,5] ((0,.fslice 5 (qhD a c b))::(1,.func (.func 177) [] [])::(kK e o)) (ac (hs (.done (.opt (qP ZT 221 (.fslice 5 (qhD a c b)) (.i e))) (.fptr [.func (.func 115) [] [.fptr (kA a.Kind a.Day a.Lot a.Amount a.Yarn a.Dye a.Order) 0,.fptr (kG c.Day c.Lots c.Holds) 0],.func (.func 116) [] [.fptr (kA a.Kind a.Day a.Lot a.Amount a.Yarn a.Dye a.Order) 0,.fptr (.str b.lot.Name::(kB b.lot.Yarn b.lot.Dye b.lot.Stock b.known b.hold.Lot b.hold.Order b.hold.Reserved b.hold.Taken b.free)) 0],.func (.func 117) [] [.fptr [.func (.func 134) [] [],.func (.func 135) [] []] 0,.fptr (.str b.lot.Name::(kB b.lot.Yarn b.lot.Dye b.lot.Stock b.known b.hold.Lot b.hold.Order b.hold.Reserved b.hold.Taken b.free)) 0,.fptr (kA a.Kind a.Day a.Lot a.Amount a.Yarn a.Dye a.Order) 0],.func (.func 118) [] [.fptr [.func (.func 134) [] [],.func (.func 135) [] []] 0,.fptr (.str b.lot.Name::(kB b.lot.Yarn b.lot.Dye b.lot.Stock b.known b.hold.Lot b.hold.Order b.hold.Reserved b.hold.Taken b.free)) 0,.fptr (kA a.Kind a.Day a.Lot a.Amount a.Yarn a.Dye a.Order) 0],.func (.func 119) [] [.fptr (kG c.Day c.Lots c.Holds) 0,.fptr (kA a.Kind a.Day a.Lot a.Amount a.Yarn a.Dye a.Order) 0]] 2)) (ixA (ot D) (by kernel_rfl))) (ac (hs (.call 177 [.func (.func 117) [] [.fptr [.func (.func 134) [] [],.func (.func 135) [] []] 0,.fptr (.str b.lot.Name::(kB b.lot.Yarn b.lot.Dye b.lot.Stock b.known b.hold.Lot b.hold.Order b.hold.Reserved b.hold.Taken b.free)) 0,.fptr (kA a.Kind a.Day a.Lot a.Amount a.Yarn a.Dye a.Order) 0]] [] [] [.func (.func 117) [] [.fptr [.func (.func 134) [] [],.func (.func 135) [] []] 0,.fptr (.str b.lot.Name::(kB b.lot.Yarn b.lot.Dye b.lot.Stock b.known b.hold.Lot b.hold.Order b.hold.Reserved b.hold.Taken b.free)) 0,.fptr (kA a.Kind a.Day a.Lot a.Amount a.Yarn a.Dye a.Order) 0]] (.bool o)) (jf (FzL.cons (Fz.func FzL.nil (FzL.cons (Ua (Still.fptr (AllST.cons (Still.func AllST.nil AllST.nil) (AllST.cons (Still.func AllST.nil AllST.nil) AllST.nil)))) (FzL.cons (Ua (Still.fptr (AllST.cons tS (AllST.cons tS (AllST.cons tS (AllST.cons tI (AllST.cons tB (AllST.cons tS (AllST.cons tS (AllST.cons tI (AllST.cons tI (AllST.cons tI AllST.nil)))))))))))) (FzL.cons (Ua (Still.fptr (AllST.cons tS (AllST.cons tI (AllST.cons tS (AllST.cons tI (AllST.cons tS (AllST.cons tS (AllST.cons tS AllST.nil))))))))) FzL.nil)))) FzL.nil) (qlX b a f) tB)) az))
     rcases wyD d with⟨p,d⟩|⟨p,d⟩
     ·obtain⟨q,g,d⟩:=bnd d
      obtain rfl:=si d
      exact tr fol [3,5] ((0,.fslice 5 (qhD a c b))::(1,.func (.func 177) [] [])::(kK e q)) (ac (hs (.done (.opt (qP ZT 221 (.fslice 5 (qhD a c b)) (.i e))) (.fptr [.func (.func 115) [] [.fptr (kA a.Kind a.Day a.Lot a.Amount a.Yarn a.Dye a.Order) 0,.fptr (kG c.Day c.Lots c.Holds) 0],.func (.func 116) [] [.fptr (kA a.Kind a.Day a.Lot a.Amount a.Yarn a.Dye a.Order) 0,.fptr (.str b.lot.Name::(kB b.lot.Yarn b.lot.Dye b.lot.Stock b.known b.hold.Lot b.hold.Order b.hold.Reserved b.hold.Taken b.free)) 0],.func (.func 117) [] [.fptr [.func (.func 134) [] [],.func (.func 135) [] []] 0,.fptr (.str b.lot.Name::(kB b.lot.Yarn b.lot.Dye b.lot.Stock b.known b.hold.Lot b.hold.Order b.hold.Reserved b.hold.Taken b.free)) 0,.fptr (kA a.Kind a.Day a.Lot a.Amount a.Yarn a.Dye a.Order) 0],.func (.func 118) [] [.fptr [.func (.func 134) [] [],.func (.func 135) [] []] 0,.fptr (.str b.lot.Name::(kB b.lot.Yarn b.lot.Dye b.lot.Stock b.known b.hold.Lot b.hold.Order b.hold.Reserved b.hold.Taken b.free)) 0,.fptr (kA a.Kind a.Day a.Lot a.Amount a.Yarn a.Dye a.Order) 0],.func (.func 119) [] [.fptr (kG c.Day c.Lots c.Holds) 0,.fptr (kA a.Kind a.Day a.Lot a.Amount a.Yarn a.Dye a.Order) 0]] 3)) (ixA (ot p) (by kernel_rfl))) (ac (hs (.call 177 [.func (.func 118) [] [.fptr [.func (.func 134) [] [],.func (.func 135) [] []] 0,.fptr (.str b.lot.Name::(kB b.lot.Yarn b.lot.Dye b.lot.Stock b.known b.hold.Lot b.hold.Order b.hold.Reserved b.hold.Taken b.free)) 0,.fptr (kA a.Kind a.Day a.Lot a.Amount a.Yarn a.Dye a.Order) 0]] [] [] [.func (.func 118) [] [.fptr [.func (.func 134) [] [],.func (.func 135) [] []] 0,.fptr (.str b.lot.Name::(kB b.lot.Yarn b.lot.Dye b.lot.Stock b.known b.hold.Lot b.hold.Order b.hold.Reserved b.hold.Taken b.free)) 0,.fptr (kA a.Kind a.Day a.Lot a.Amount a.Yarn a.Dye a.Order) 0]] (.bool q)) (jf (FzL.cons (Fz.func FzL.nil (FzL.cons (Ua (Still.fptr (AllST.cons (Still.func AllST.nil AllST.nil) (AllST.cons (Still.func AllST.nil AllST.nil) AllST.nil)))) (FzL.cons (Ua (Still.fptr (AllST.cons tS (AllST.cons tS (AllST.cons tS (AllST.cons tI (AllST.cons tB (AllST.cons tS (AllST.cons tS (AllST.cons tI (AllST.cons tI (AllST.cons tI AllST.nil)))))))))))) (FzL.cons (Ua (Still.fptr (AllST.cons tS (AllST.cons tI (AllST.cons tS (AllST.cons tI (AllST.cons tS (AllST.cons tS (AllST.cons tS AllST.nil))))))))) FzL.nil)))) FzL.nil) (qlN b a g) tB)) az))
     rcases wyD d with⟨r,d⟩|⟨r,d⟩
     ·obtain⟨t,j,d⟩:=bnd d
      obtain rfl:=si d
      exact tr fol [3,5] ((0,.fslice 5 (qhD a c b))::(1,.func (.func 177) [] [])::(kK e t)) (ac (hs (.done (.opt (qP ZT 221 (.fslice 5 (qhD a c b)) (.i e))) (.fptr [.func (.func 115) [] [.fptr (kA a.Kind a.Day a.Lot a.Amount a.Yarn a.Dye a.Order) 0,.fptr (kG c.Day c.Lots c.Holds) 0],.func (.func 116) [] [.fptr (kA a.Kind a.Day a.Lot a.Amount a.Yarn a.Dye a.Order) 0,.fptr (.str b.lot.Name::(kB b.lot.Yarn b.lot.Dye b.lot.Stock b.known b.hold.Lot b.hold.Order b.hold.Reserved b.hold.Taken b.free)) 0],.func (.func 117) [] [.fptr [.func (.func 134) [] [],.func (.func 135) [] []] 0,.fptr (.str b.lot.Name::(kB b.lot.Yarn b.lot.Dye b.lot.Stock b.known b.hold.Lot b.hold.Order b.hold.Reserved b.hold.Taken b.free)) 0,.fptr (kA a.Kind a.Day a.Lot a.Amount a.Yarn a.Dye a.Order) 0],.func (.func 118) [] [.fptr [.func (.func 134) [] [],.func (.func 135) [] []] 0,.fptr (.str b.lot.Name::(kB b.lot.Yarn b.lot.Dye b.lot.Stock b.known b.hold.Lot b.hold.Order b.hold.Reserved b.hold.Taken b.free)) 0,.fptr (kA a.Kind a.Day a.Lot a.Amount a.Yarn a.Dye a.Order) 0],.func (.func 119) [] [.fptr (kG c.Day c.Lots c.Holds) 0,.fptr (kA a.Kind a.Day a.Lot a.Amount a.Yarn a.Dye a.Order) 0]] 4)) (ixA (ot r) (by kernel_rfl))) (ac (hs (.call 177 [.func (.func 119) [] [.fptr (kG c.Day c.Lots c.Holds) 0,.fptr (kA a.Kind a.Day a.Lot a.Amount a.Yarn a.Dye a.Order) 0]] [] [] [.func (.func 119) [] [.fptr (kG c.Day c.Lots c.Holds) 0,.fptr (kA a.Kind a.Day a.Lot a.Amount a.Yarn a.Dye a.Order) 0]] (.bool t)) (jf (FzL.cons (Fz.func FzL.nil (FzL.cons (Ua (Still.fptr (AllST.cons tI (AllST.cons (qG qo _ (nl rfl)) (AllST.cons (qG qg _ (nl rfl)) AllST.nil))))) (FzL.cons (Ua (Still.fptr (AllST.cons tS (AllST.cons tI (AllST.cons tS (AllST.cons tI (AllST.cons tS (AllST.cons tS (AllST.cons tS AllST.nil))))))))) FzL.nil))) FzL.nil) (qcU N c a j) tB)) az))
     cases d
    refine ihB g2 (fun w g2=>?_) (fun w g2=>?_)
    ·refine sh fol (kAn e) ?_
     refine Goes.ret ?_
     obtain rfl:=si g2
     exact Or.inr (⟨rfl,_,rfl,(gw2 [.i e] (Ub tI))⟩)
    refine Goes.skip ?_
    refine gh fol ((0,.fslice 5 (qhD a c b))::(1,.func (.func 177) [] [])::(kAF (w64 (e+1)))) ?_
    exact⟨M,(ofG 19 ((0,.fslice 5 (qhD a c b))::(1,.func (.func 177) [] [])::(kAF (w64 (e+1)))),[]),Nat.lt_succ_self _,(Sub.refl _),_,rfl,g2⟩
   refine Goes.exit ?_
   obtain rfl:=si g2
   exact Or.inl (⟨rfl,rfl,(Sub.keep [] rfl rfl)⟩)
 rintro x s' (⟨rfl,rfl,hsub⟩|⟨rfl,F,rfl,hret⟩)
 ·try dsimp only at h
  refine Goes.sub hsub ?_
  refine sh fol kAq ?_
  refine Goes.ret ?_
  obtain rfl:=si h
  exact(gw2 [.i (-1)] (Ub tI))
 try dsimp only at h
 obtain rfl:=si h
 exact hret
def qgL (N:Nat) (a:qw) (b:StateT) (c:ql):Option Int:=
 (qch N a b c).bind fun d=>
 some (w64 (1+d))
theorem qn6 (N:Nat) (a:qw) (b:StateT) (c:ql) {res:Int} (h:qgL N a b c=some res):qE ZT (.fn 114) [.fslice 5 (qhD a b c)] [] (.i res) []:=by
 unfold qgL at h
 refine Uc Tryz.func114 rfl rfl (m:=6) rfl (rs:=[.tmp 2]) rfl (l:=[(0,.fslice 5 (qhD a b c))]) rfl ?_
 refine sh fol [(0,.fslice 5 (qhD a b c))] ?_
 obtain⟨e,d,h⟩:=bnd h
 refine sq (gr fol [1] (kAt (w64 (1+e))) (ac (hs (.call 176 [.fslice 5 (qhD a b c),.func (.func 177) [] []] [] [] [.fslice 5 (qhD a b c),.func (.func 177) [] []] (.i e)) (jf (FzL.cons (Ua (Still.fslice (AllST.cons (Still.func AllST.nil (AllST.cons (Still.fptr (AllST.cons tS (AllST.cons tI (AllST.cons tS (AllST.cons tI (AllST.cons tS (AllST.cons tS (AllST.cons tS AllST.nil)))))))) (AllST.cons (Still.fptr (AllST.cons tI (AllST.cons (qG qo _ (nl rfl)) (AllST.cons (qG qg _ (nl rfl)) AllST.nil)))) AllST.nil))) (AllST.cons (Still.func AllST.nil (AllST.cons (Still.fptr (AllST.cons tS (AllST.cons tI (AllST.cons tS (AllST.cons tI (AllST.cons tS (AllST.cons tS (AllST.cons tS AllST.nil)))))))) (AllST.cons (Still.fptr (AllST.cons tS (AllST.cons tS (AllST.cons tS (AllST.cons tI (AllST.cons tB (AllST.cons tS (AllST.cons tS (AllST.cons tI (AllST.cons tI (AllST.cons tI AllST.nil))))))))))) AllST.nil))) (AllST.cons (Still.func AllST.nil (AllST.cons (Still.fptr (AllST.cons (Still.func AllST.nil AllST.nil) (AllST.cons (Still.func AllST.nil AllST.nil) AllST.nil))) (AllST.cons (Still.fptr (AllST.cons tS (AllST.cons tS (AllST.cons tS (AllST.cons tI (AllST.cons tB (AllST.cons tS (AllST.cons tS (AllST.cons tI (AllST.cons tI (AllST.cons tI AllST.nil))))))))))) (AllST.cons (Still.fptr (AllST.cons tS (AllST.cons tI (AllST.cons tS (AllST.cons tI (AllST.cons tS (AllST.cons tS (AllST.cons tS AllST.nil)))))))) AllST.nil)))) (AllST.cons (Still.func AllST.nil (AllST.cons (Still.fptr (AllST.cons (Still.func AllST.nil AllST.nil) (AllST.cons (Still.func AllST.nil AllST.nil) AllST.nil))) (AllST.cons (Still.fptr (AllST.cons tS (AllST.cons tS (AllST.cons tS (AllST.cons tI (AllST.cons tB (AllST.cons tS (AllST.cons tS (AllST.cons tI (AllST.cons tI (AllST.cons tI AllST.nil))))))))))) (AllST.cons (Still.fptr (AllST.cons tS (AllST.cons tI (AllST.cons tS (AllST.cons tI (AllST.cons tS (AllST.cons tS (AllST.cons tS AllST.nil)))))))) AllST.nil)))) (AllST.cons (Still.func AllST.nil (AllST.cons (Still.fptr (AllST.cons tI (AllST.cons (qG qo _ (nl rfl)) (AllST.cons (qG qg _ (nl rfl)) AllST.nil)))) (AllST.cons (Still.fptr (AllST.cons tS (AllST.cons tI (AllST.cons tS (AllST.cons tI (AllST.cons tS (AllST.cons tS (AllST.cons tS AllST.nil)))))))) AllST.nil))) AllST.nil))))))) (FzL.cons (Fz.func FzL.nil FzL.nil) FzL.nil)) (qif N a b c d) tI)) az) ?_)
 refine Goes.ret ?_
 obtain rfl:=si h
 exact(gw2 [.i (w64 (1+e))] (Ub tI))
def qeE (a:ql) (b:qw):Option Bool:=
 (qjU a b.Amount).bind fun c=>
 some c
theorem qjc (a:ql) (b:qw) {res:Bool} (h:qeE a b=some res):qE ZT (.fn 117) [.fptr [.func (.func 137) [] [],.func (.func 138) [] []] 0,.fptr (.str a.lot.Name::(kB a.lot.Yarn a.lot.Dye a.lot.Stock a.known a.hold.Lot a.hold.Order a.hold.Reserved a.hold.Taken a.free)) 0,.fptr (kA b.Kind b.Day b.Lot b.Amount b.Yarn b.Dye b.Order) 0] [] (.bool res) []:=by
 unfold qeE at h
 refine Uc Tryz.func117 rfl rfl (m:=10) rfl (rs:=[.tmp 3]) rfl (l:=[(0,.fptr [.func (.func 137) [] [],.func (.func 138) [] []] 0),(1,.fptr (.str a.lot.Name::(kB a.lot.Yarn a.lot.Dye a.lot.Stock a.known a.hold.Lot a.hold.Order a.hold.Reserved a.hold.Taken a.free)) 0),(2,.fptr (kA b.Kind b.Day b.Lot b.Amount b.Yarn b.Dye b.Order) 0)]) rfl ?_
 refine sh fol [(0,.fptr [.func (.func 137) [] [],.func (.func 138) [] []] 0),(1,.fptr (.str a.lot.Name::(kB a.lot.Yarn a.lot.Dye a.lot.Stock a.known a.hold.Lot a.hold.Order a.hold.Reserved a.hold.Taken a.free)) 0),(2,.fptr (kA b.Kind b.Day b.Lot b.Amount b.Yarn b.Dye b.Order) 0)] ?_
 obtain⟨d,c,h⟩:=bnd h
 refine sq (gr fol [5] (kAu d) (ac (cv (qoO a b.Amount c)) az) ?_)
 refine Goes.ret ?_
 obtain rfl:=si h
 exact(gw2 [.bool d] (Ub tB))
def qgD (a:ql) (b:qw):Option Bool:=
 (qeE a b).bind fun c=>
 some (!c)
theorem qlK (a:ql) (b:qw) {res:Bool} (h:qgD a b=some res):qE ZT (.fn 177) [.func (.func 117) [] [.fptr [.func (.func 137) [] [],.func (.func 138) [] []] 0,.fptr (.str a.lot.Name::(kB a.lot.Yarn a.lot.Dye a.lot.Stock a.known a.hold.Lot a.hold.Order a.hold.Reserved a.hold.Taken a.free)) 0,.fptr (kA b.Kind b.Day b.Lot b.Amount b.Yarn b.Dye b.Order) 0]] [] (.bool res) []:=by
 unfold qgD at h
 refine Uc Tryz.func177 rfl rfl (m:=6) rfl (rs:=[.tmp 2]) rfl (l:=[(0,.func (.func 117) [] [.fptr [.func (.func 137) [] [],.func (.func 138) [] []] 0,.fptr (.str a.lot.Name::(kB a.lot.Yarn a.lot.Dye a.lot.Stock a.known a.hold.Lot a.hold.Order a.hold.Reserved a.hold.Taken a.free)) 0,.fptr (kA b.Kind b.Day b.Lot b.Amount b.Yarn b.Dye b.Order) 0])]) rfl ?_
 refine sh fol [(0,.func (.func 117) [] [.fptr [.func (.func 137) [] [],.func (.func 138) [] []] 0,.fptr (.str a.lot.Name::(kB a.lot.Yarn a.lot.Dye a.lot.Stock a.known a.hold.Lot a.hold.Order a.hold.Reserved a.hold.Taken a.free)) 0,.fptr (kA b.Kind b.Day b.Lot b.Amount b.Yarn b.Dye b.Order) 0])] ?_
 obtain⟨d,c,h⟩:=bnd h
 refine sq (gr fol [1] (kAV (!d)) (ac (hs (.call 117 [.fptr [.func (.func 137) [] [],.func (.func 138) [] []] 0,.fptr (.str a.lot.Name::(kB a.lot.Yarn a.lot.Dye a.lot.Stock a.known a.hold.Lot a.hold.Order a.hold.Reserved a.hold.Taken a.free)) 0,.fptr (kA b.Kind b.Day b.Lot b.Amount b.Yarn b.Dye b.Order) 0] [] [] [.fptr [.func (.func 137) [] [],.func (.func 138) [] []] 0,.fptr (.str a.lot.Name::(kB a.lot.Yarn a.lot.Dye a.lot.Stock a.known a.hold.Lot a.hold.Order a.hold.Reserved a.hold.Taken a.free)) 0,.fptr (kA b.Kind b.Day b.Lot b.Amount b.Yarn b.Dye b.Order) 0] (.bool d)) (jf (FzL.cons (Ua (Still.fptr (AllST.cons (Still.func AllST.nil AllST.nil) (AllST.cons (Still.func AllST.nil AllST.nil) AllST.nil)))) (FzL.cons (Ua (Still.fptr (AllST.cons tS (AllST.cons tS (AllST.cons tS (AllST.cons tI (AllST.cons tB (AllST.cons tS (AllST.cons tS (AllST.cons tI (AllST.cons tI (AllST.cons tI AllST.nil)))))))))))) (FzL.cons (Ua (Still.fptr (AllST.cons tS (AllST.cons tI (AllST.cons tS (AllST.cons tI (AllST.cons tS (AllST.cons tS (AllST.cons tS AllST.nil))))))))) FzL.nil))) (qjc a b c) tB)) az) ?_)
 refine Goes.ret ?_
 obtain rfl:=si h
 exact(gw2 [.bool (!d)] (Ub tB))
def qeC (b:ql) (c:qw):Option Bool:=
 (qfL b c.Amount).bind fun a=>
 some (decide ((if a.hold.Taken>a.lot.Stock then a.hold.Taken else a.lot.Stock)<=999999999))
theorem qja (a:ql) (b:qw) {res:Bool} (h:qeC a b=some res):qE ZT (.fn 118) [.fptr [.func (.func 137) [] [],.func (.func 138) [] []] 0,.fptr (.str a.lot.Name::(kB a.lot.Yarn a.lot.Dye a.lot.Stock a.known a.hold.Lot a.hold.Order a.hold.Reserved a.hold.Taken a.free)) 0,.fptr (kA b.Kind b.Day b.Lot b.Amount b.Yarn b.Dye b.Order) 0] [] (.bool res) []:=by
 unfold qeC at h
 refine Uc Tryz.func118 rfl rfl (m:=19) rfl (rs:=[.tmp 3]) rfl (l:=[(0,.fptr [.func (.func 137) [] [],.func (.func 138) [] []] 0),(1,.fptr (.str a.lot.Name::(kB a.lot.Yarn a.lot.Dye a.lot.Stock a.known a.hold.Lot a.hold.Order a.hold.Reserved a.hold.Taken a.free)) 0),(2,.fptr (kA b.Kind b.Day b.Lot b.Amount b.Yarn b.Dye b.Order) 0)]) rfl ?_
 refine sh fol [(0,.fptr [.func (.func 137) [] [],.func (.func 138) [] []] 0),(1,.fptr (.str a.lot.Name::(kB a.lot.Yarn a.lot.Dye a.lot.Stock a.known a.hold.Lot a.hold.Order a.hold.Reserved a.hold.Taken a.free)) 0),(2,.fptr (kA b.Kind b.Day b.Lot b.Amount b.Yarn b.Dye b.Order) 0)] ?_
 obtain⟨c,d,h⟩:=bnd h
 refine sq (gq fol [5] (kAH []) (kC c.lot.Name c.lot.Yarn c.lot.Dye c.lot.Stock c.known c.hold.Lot c.hold.Order c.hold.Reserved c.hold.Taken c.free []) (ac (cv (qkq a b.Amount d)) az) ?_)
 refine sh fol (kAu (decide ((if c.hold.Taken>c.lot.Stock then c.hold.Taken else c.lot.Stock)<=999999999))) ?_
 refine Goes.ret ?_
 obtain rfl:=si h
 exact(gw2 [.bool (decide ((if c.hold.Taken>c.lot.Stock then c.hold.Taken else c.lot.Stock)<=999999999))] (Ub tB))
def qgz (a:ql) (b:qw):Option Bool:=
 (qeC a b).bind fun c=>
 some (!c)
theorem qlC (a:ql) (b:qw) {res:Bool} (h:qgz a b=some res):qE ZT (.fn 177) [.func (.func 118) [] [.fptr [.func (.func 137) [] [],.func (.func 138) [] []] 0,.fptr (.str a.lot.Name::(kB a.lot.Yarn a.lot.Dye a.lot.Stock a.known a.hold.Lot a.hold.Order a.hold.Reserved a.hold.Taken a.free)) 0,.fptr (kA b.Kind b.Day b.Lot b.Amount b.Yarn b.Dye b.Order) 0]] [] (.bool res) []:=by
 unfold qgz at h
 refine Uc Tryz.func177 rfl rfl (m:=6) rfl (rs:=[.tmp 2]) rfl (l:=[(0,.func (.func 118) [] [.fptr [.func (.func 137) [] [],.func (.func 138) [] []] 0,.fptr (.str a.lot.Name::(kB a.lot.Yarn a.lot.Dye a.lot.Stock a.known a.hold.Lot a.hold.Order a.hold.Reserved a.hold.Taken a.free)) 0,.fptr (kA b.Kind b.Day b.Lot b.Amount b.Yarn b.Dye b.Order) 0])]) rfl ?_
 refine sh fol [(0,.func (.func 118) [] [.fptr [.func (.func 137) [] [],.func (.func 138) [] []] 0,.fptr (.str a.lot.Name::(kB a.lot.Yarn a.lot.Dye a.lot.Stock a.known a.hold.Lot a.hold.Order a.hold.Reserved a.hold.Taken a.free)) 0,.fptr (kA b.Kind b.Day b.Lot b.Amount b.Yarn b.Dye b.Order) 0])] ?_
 obtain⟨d,c,h⟩:=bnd h
 refine sq (gr fol [1] (kAV (!d)) (ac (hs (.call 118 [.fptr [.func (.func 137) [] [],.func (.func 138) [] []] 0,.fptr (.str a.lot.Name::(kB a.lot.Yarn a.lot.Dye a.lot.Stock a.known a.hold.Lot a.hold.Order a.hold.Reserved a.hold.Taken a.free)) 0,.fptr (kA b.Kind b.Day b.Lot b.Amount b.Yarn b.Dye b.Order) 0] [] [] [.fptr [.func (.func 137) [] [],.func (.func 138) [] []] 0,.fptr (.str a.lot.Name::(kB a.lot.Yarn a.lot.Dye a.lot.Stock a.known a.hold.Lot a.hold.Order a.hold.Reserved a.hold.Taken a.free)) 0,.fptr (kA b.Kind b.Day b.Lot b.Amount b.Yarn b.Dye b.Order) 0] (.bool d)) (jf (FzL.cons (Ua (Still.fptr (AllST.cons (Still.func AllST.nil AllST.nil) (AllST.cons (Still.func AllST.nil AllST.nil) AllST.nil)))) (FzL.cons (Ua (Still.fptr (AllST.cons tS (AllST.cons tS (AllST.cons tS (AllST.cons tI (AllST.cons tB (AllST.cons tS (AllST.cons tS (AllST.cons tI (AllST.cons tI (AllST.cons tI AllST.nil)))))))))))) (FzL.cons (Ua (Still.fptr (AllST.cons tS (AllST.cons tI (AllST.cons tS (AllST.cons tI (AllST.cons tS (AllST.cons tS (AllST.cons tS AllST.nil))))))))) FzL.nil))) (qja a b c) tB)) az) ?_)
 refine Goes.ret ?_
 obtain rfl:=si h
 exact(gw2 [.bool (!d)] (Ub tB))
def yc (N:Nat) (a:qw) (d:StateT) (b:ql):Nat->Int->Option (Unit⊕Int)
 |0,_=>none
 |K+1,c=>
  if c<5 then
  (if c=0 then
  (xL a d).bind fun i=>
  some i
  else
  if c=1 then
  (yO a b).bind fun j=>
  some j
  else
  if c=2 then
  (qgD b a).bind fun e=>
  some e
  else
  if c=3 then
  (qgz b a).bind fun f=>
  some f
  else
  if c=4 then
  (xQ N d a).bind fun g=>
  some g
  else
  none:Option Bool).bind fun h=>
  if h=true then
  some (.inr c)
  else
  yc N a d b K (w64 (c+1))
  else
  some (.inl ())
def qcs (N:Nat) (a:qw) (b:StateT) (c:ql):Option Int:=
 (yc N a b c N 0).bind (fun
 |(.inl ())=>
 some (-1)
 |(.inr d)=>
 some d)
theorem qh9 (N:Nat) (a:qw) (c:StateT) (b:ql) {res:Int} (h:qcs N a c b=some res):qE ZT (.fn 176) [.fslice 5 (qhH a c b),.func (.func 177) [] []] [] (.i res) []:=by
 unfold qcs at h
 refine Uc Tryz.func176 rfl rfl (m:=19) rfl (rs:=[.tmp 4]) rfl (l:=[(0,.fslice 5 (qhH a c b)),(1,.func (.func 177) [] [])]) rfl ?_
 refine sh fol [(0,.fslice 5 (qhH a c b)),(1,.func (.func 177) [] [])] ?_
 refine sq ?_
 refine sh fol ((0,.fslice 5 (qhH a c b))::(1,.func (.func 177) [] [])::kA1) ?_
 refine Goes.block ?_
 obtain⟨u,g2,h⟩:=bnd h
 refine Goes.imp (Q:=fun x s'=>(x= .exit 0/\(.inl ())=u/\Sub s' (ofG 19 [],[]))\/(x= .ret/\ ∃y,(.inr y)=u/\jT ZT [.tmp 4] (.i y) .ret s')) ?_ ?_
 ·refine Ud (fun M s=> ∃(e:Int),s=(ofG 19 ((0,.fslice 5 (qhH a c b))::(1,.func (.func 177) [] [])::(kAF e)),[])/\yc N a c b M e=some u) ?_ (m:=N) ⟨_,rfl,g2⟩
  rintro M s ⟨e,rfl,g2⟩
  cases M with
  |zero=>simp only[yc]at g2;cases g2
  |succ M=>
   rw[yc]at g2
   refine sh fol ((0,.fslice 5 (qhH a c b))::(1,.func (.func 177) [] [])::(7,.i 5)::(kAg e (decide (e<5)))) ?_
   refine sq ?_
   refine ihD g2 (fun E g2=>?_) (fun E g2=>?_)
   ·refine Goes.skip ?_
    refine sq (Goes.block ?_)
    refine sh fol ((0,.fslice 5 (qhH a c b))::(1,.func (.func 177) [] [])::(5,.i e)::(kAF e)) ?_
    refine sq ?_
    obtain⟨v,d,g2⟩:=bnd g2
    refine Goes.cut (s':=(ofG 19 ((0,.fslice 5 (qhH a c b))::(1,.func (.func 177) [] [])::(kK e v)),[])) ?_ ?_
    ·rcases wyD d with⟨z,d⟩|⟨z,d⟩
     ·obtain⟨A,k,d⟩:=bnd d
      obtain rfl:=si d
      exact tr fol [3,5] ((0,.fslice 5 (qhH a c b))::(1,.func (.func 177) [] [])::(kK e A)) (ac (hs (.done (.opt (qP ZT 221 (.fslice 5 (qhH a c b)) (.i e))) (.fptr [.func (.func 115) [] [.fptr (kA a.Kind a.Day a.Lot a.Amount a.Yarn a.Dye a.Order) 0,.fptr (kG c.Day c.Lots c.Holds) 0],.func (.func 116) [] [.fptr (kA a.Kind a.Day a.Lot a.Amount a.Yarn a.Dye a.Order) 0,.fptr (.str b.lot.Name::(kB b.lot.Yarn b.lot.Dye b.lot.Stock b.known b.hold.Lot b.hold.Order b.hold.Reserved b.hold.Taken b.free)) 0],.func (.func 117) [] [.fptr [.func (.func 137) [] [],.func (.func 138) [] []] 0,.fptr (.str b.lot.Name::(kB b.lot.Yarn b.lot.Dye b.lot.Stock b.known b.hold.Lot b.hold.Order b.hold.Reserved b.hold.Taken b.free)) 0,.fptr (kA a.Kind a.Day a.Lot a.Amount a.Yarn a.Dye a.Order) 0],.func (.func 118) [] [.fptr [.func (.func 137) [] [],.func (.func 138) [] []] 0,.fptr (.str b.lot.Name::(kB b.lot.Yarn b.lot.Dye b.lot.Stock b.known b.hold.Lot b.hold.Order b.hold.Reserved b.hold.Taken b.free)) 0,.fptr (kA a.Kind a.Day a.Lot a.Amount a.Yarn a.Dye a.Order) 0],.func (.func 119) [] [.fptr (kG c.Day c.Lots c.Holds) 0,.fptr (kA a.Kind a.Day a.Lot a.Amount a.Yarn a.Dye a.Order) 0]] 0)) (ixA (ot z) (by kernel_rfl))) (ac (hs (.call 177 [.func (.func 115) [] [.fptr (kA a.Kind a.Day a.Lot a.Amount a.Yarn a.Dye a.Order) 0,.fptr (kG c.Day c.Lots c.Holds) 0]] [] [] [.func (.func 115) [] [.fptr (kA a.Kind a.Day a.Lot a.Amount a.Yarn a.Dye a.Order) 0,.fptr (kG c.Day c.Lots c.Holds) 0]] (.bool A)) (jf (FzL.cons (Fz.func FzL.nil (FzL.cons (Ua (Still.fptr (AllST.cons tS (AllST.cons tI (AllST.cons tS (AllST.cons tI (AllST.cons tS (AllST.cons tS (AllST.cons tS AllST.nil))))))))) (FzL.cons (Ua (Still.fptr (AllST.cons tI (AllST.cons (qG qo _ (nl rfl)) (AllST.cons (qG qg _ (nl rfl)) AllST.nil))))) FzL.nil))) FzL.nil) (qcN a c k) tB)) az))
     rcases wyD d with⟨B,d⟩|⟨B,d⟩
     ·obtain⟨C,n,d⟩:=bnd d
      obtain rfl:=si d
      exact tr fol [3,5] ((0,.fslice 5 (qhH a c b))::(1,.func (.func 177) [] [])::(kK e C)) (ac (hs (.done (.opt (qP ZT 221 (.fslice 5 (qhH a c b)) (.i e))) (.fptr [.func (.func 115) [] [.fptr (kA a.Kind a.Day a.Lot a.Amount a.Yarn a.Dye a.Order) 0,.fptr (kG c.Day c.Lots c.Holds) 0],.func (.func 116) [] [.fptr (kA a.Kind a.Day a.Lot a.Amount a.Yarn a.Dye a.Order) 0,.fptr (.str b.lot.Name::(kB b.lot.Yarn b.lot.Dye b.lot.Stock b.known b.hold.Lot b.hold.Order b.hold.Reserved b.hold.Taken b.free)) 0],.func (.func 117) [] [.fptr [.func (.func 137) [] [],.func (.func 138) [] []] 0,.fptr (.str b.lot.Name::(kB b.lot.Yarn b.lot.Dye b.lot.Stock b.known b.hold.Lot b.hold.Order b.hold.Reserved b.hold.Taken b.free)) 0,.fptr (kA a.Kind a.Day a.Lot a.Amount a.Yarn a.Dye a.Order) 0],.func (.func 118) [] [.fptr [.func (.func 137) [] [],.func (.func 138) [] []] 0,.fptr (.str b.lot.Name::(kB b.lot.Yarn b.lot.Dye b.lot.Stock b.known b.hold.Lot b.hold.Order b.hold.Reserved b.hold.Taken b.free)) 0,.fptr (kA a.Kind a.Day a.Lot a.Amount a.Yarn a.Dye a.Order) 0],.func (.func 119) [] [.fptr (kG c.Day c.Lots c.Holds) 0,.fptr (kA a.Kind a.Day a.Lot a.Amount a.Yarn a.Dye a.Order) 0]] 1)) (ixA (ot B) (by kernel_rfl))) (ac (hs (.call 177 [.func (.func 116) [] [.fptr (kA a.Kind a.Day a.Lot a.Amount a.Yarn a.Dye a.Order) 0,.fptr (.str b.lot.Name::(kB b.lot.Yarn b.lot.Dye b.lot.Stock b.known b.hold.Lot b.hold.Order b.hold.Reserved b.hold.Taken b.free)) 0]] [] [] [.func (.func 116) [] [.fptr (kA a.Kind a.Day a.Lot a.Amount a.Yarn a.Dye a.Order) 0,.fptr (.str b.lot.Name::(kB b.lot.Yarn b.lot.Dye b.lot.Stock b.known b.hold.Lot b.hold.Order b.hold.Reserved b.hold.Taken b.free)) 0]] (.bool C)) (jf (FzL.cons (Fz.func FzL.nil (FzL.cons (Ua (Still.fptr (AllST.cons tS (AllST.cons tI (AllST.cons tS (AllST.cons tI (AllST.cons tS (AllST.cons tS (AllST.cons tS AllST.nil))))))))) (FzL.cons (Ua (Still.fptr (AllST.cons tS (AllST.cons tS (AllST.cons tS (AllST.cons tI (AllST.cons tB (AllST.cons tS (AllST.cons tS (AllST.cons tI (AllST.cons tI (AllST.cons tI AllST.nil)))))))))))) FzL.nil))) FzL.nil) (qcT a b n) tB)) az))
     rcases wyD d with⟨D,d⟩|⟨D,d⟩
     ·obtain⟨o,f,d⟩:=bnd d
      obtain rfl:=si d
      exact tr fol [3,5] ((0,.fslice 5 (qhH a c b))::(1,.func (.func 177) [] [])::(kK e o)) (ac (hs (.done (.opt (qP ZT 221 (.fslice 5 (qhH a c b)) (.i e))) (.fptr [.func (.func 115) [] [.fptr (kA a.Kind a.Day a.Lot a.Amount a.Yarn a.Dye a.Order) 0,.fptr (kG c.Day c.Lots c.Holds) 0],.func (.func 116) [] [.fptr (kA a.Kind a.Day a.Lot a.Amount a.Yarn a.Dye a.Order) 0,.fptr (.str b.lot.Name::(kB b.lot.Yarn b.lot.Dye b.lot.Stock b.known b.hold.Lot b.hold.Order b.hold.Reserved b.hold.Taken b.free)) 0],.func (.func 117) [] [.fptr [.func (.func 137) [] [],.func (.func 138) [] []] 0,.fptr (.str b.lot.Name::(kB b.lot.Yarn b.lot.Dye b.lot.Stock b.known b.hold.Lot b.hold.Order b.hold.Reserved b.hold.Taken b.free)) 0,.fptr (kA a.Kind a.Day a.Lot a.Amount a.Yarn a.Dye a.Order) 0],.func (.func 118) [] [.fptr [.func (.func 137) [] [],.func (.func 138) [] []] 0,.fptr (.str b.lot.Name::(kB b.lot.Yarn b.lot.Dye b.lot.Stock b.known b.hold.Lot b.hold.Order b.hold.Reserved b.hold.Taken b.free)) 0,.fptr (kA a.Kind a.Day a.Lot a.Amount a.Yarn a.Dye a.Order) 0],.func (.func 119) [] [.fptr (kG c.Day c.Lots c.Holds) 0,.fptr (kA a.Kind a.Day a.Lot a.Amount a.Yarn a.Dye a.Order) 0]] 2)) (ixA (ot D) (by kernel_rfl))) (ac (hs (.call 177 [.func (.func 117) [] [.fptr [.func (.func 137) [] [],.func (.func 138) [] []] 0,.fptr (.str b.lot.Name::(kB b.lot.Yarn b.lot.Dye b.lot.Stock b.known b.hold.Lot b.hold.Order b.hold.Reserved b.hold.Taken b.free)) 0,.fptr (kA a.Kind a.Day a.Lot a.Amount a.Yarn a.Dye a.Order) 0]] [] [] [.func (.func 117) [] [.fptr [.func (.func 137) [] [],.func (.func 138) [] []] 0,.fptr (.str b.lot.Name::(kB b.lot.Yarn b.lot.Dye b.lot.Stock b.known b.hold.Lot b.hold.Order b.hold.Reserved b.hold.Taken b.free)) 0,.fptr (kA a.Kind a.Day a.Lot a.Amount a.Yarn a.Dye a.Order) 0]] (.bool o)) (jf (FzL.cons (Fz.func FzL.nil (FzL.cons (Ua (Still.fptr (AllST.cons (Still.func AllST.nil AllST.nil) (AllST.cons (Still.func AllST.nil AllST.nil) AllST.nil)))) (FzL.cons (Ua (Still.fptr (AllST.cons tS (AllST.cons tS (AllST.cons tS (AllST.cons tI (AllST.cons tB (AllST.cons tS (AllST.cons tS (AllST.cons tI (AllST.cons tI (AllST.cons tI AllST.nil)))))))))))) (FzL.cons (Ua (Still.fptr (AllST.cons tS (AllST.cons tI (AllST.cons tS (AllST.cons tI (AllST.cons tS (AllST.cons tS (AllST.cons tS AllST.nil))))))))) FzL.nil)))) FzL.nil) (qlK b a f) tB)) az))
     rcases wyD d with⟨p,d⟩|⟨p,d⟩
     ·obtain⟨q,g,d⟩:=bnd d
      obtain rfl:=si d
      exact tr fol [3,5] ((0,.fslice 5 (qhH a c b))::(1,.func (.func 177) [] [])::(kK e q)) (ac (hs (.done (.opt (qP ZT 221 (.fslice 5 (qhH a c b)) (.i e))) (.fptr [.func (.func 115) [] [.fptr (kA a.Kind a.Day a.Lot a.Amount a.Yarn a.Dye a.Order) 0,.fptr (kG c.Day c.Lots c.Holds) 0],.func (.func 116) [] [.fptr (kA a.Kind a.Day a.Lot a.Amount a.Yarn a.Dye a.Order) 0,.fptr (.str b.lot.Name::(kB b.lot.Yarn b.lot.Dye b.lot.Stock b.known b.hold.Lot b.hold.Order b.hold.Reserved b.hold.Taken b.free)) 0],.func (.func 117) [] [.fptr [.func (.func 137) [] [],.func (.func 138) [] []] 0,.fptr (.str b.lot.Name::(kB b.lot.Yarn b.lot.Dye b.lot.Stock b.known b.hold.Lot b.hold.Order b.hold.Reserved b.hold.Taken b.free)) 0,.fptr (kA a.Kind a.Day a.Lot a.Amount a.Yarn a.Dye a.Order) 0],.func (.func 118) [] [.fptr [.func (.func 137) [] [],.func (.func 138) [] []] 0,.fptr (.str b.lot.Name::(kB b.lot.Yarn b.lot.Dye b.lot.Stock b.known b.hold.Lot b.hold.Order b.hold.Reserved b.hold.Taken b.free)) 0,.fptr (kA a.Kind a.Day a.Lot a.Amount a.Yarn a.Dye a.Order) 0],.func (.func 119) [] [.fptr (kG c.Day c.Lots c.Holds) 0,.fptr (kA a.Kind a.Day a.Lot a.Amount a.Yarn a.Dye a.Order) 0]] 3)) (ixA (ot p) (by kernel_rfl))) (ac (hs (.call 177 [.func (.func 118) [] [.fptr [.func (.func 137) [] [],.func (.func 138) [] []] 0,.fptr (.str b.lot.Name::(kB b.lot.Yarn b.lot.Dye b.lot.Stock b.known b.hold.Lot b.hold.Order b.hold.Reserved b.hold.Taken b.free)) 0,.fptr (kA a.Kind a.Day a.Lot a.Amount a.Yarn a.Dye a.Order) 0]] [] [] [.func (.func 118) [] [.fptr [.func (.func 137) [] [],.func (.func 138) [] []] 0,.fptr (.str b.lot.Name::(kB b.lot.Yarn b.lot.Dye b.lot.Stock b.known b.hold.Lot b.hold.Order b.hold.Reserved b.hold.Taken b.free)) 0,.fptr (kA a.Kind a.Day a.Lot a.Amount a.Yarn a.Dye a.Order) 0]] (.bool q)) (jf (FzL.cons (Fz.func FzL.nil (FzL.cons (Ua (Still.fptr (AllST.cons (Still.func AllST.nil AllST.nil) (AllST.cons (Still.func AllST.nil AllST.nil) AllST.nil)))) (FzL.cons (Ua (Still.fptr (AllST.cons tS (AllST.cons tS (AllST.cons tS (AllST.cons tI (AllST.cons tB (AllST.cons tS (AllST.cons tS (AllST.cons tI (AllST.cons tI (AllST.cons tI AllST.nil)))))))))))) (FzL.cons (Ua (Still.fptr (AllST.cons tS (AllST.cons tI (AllST.cons tS (AllST.cons tI (AllST.cons tS (AllST.cons tS (AllST.cons tS AllST.nil))))))))) FzL.nil)))) FzL.nil) (qlC b a g) tB)) az))
     rcases wyD d with⟨r,d⟩|⟨r,d⟩
     ·obtain⟨t,j,d⟩:=bnd d
      obtain rfl:=si d
      exact tr fol [3,5] ((0,.fslice 5 (qhH a c b))::(1,.func (.func 177) [] [])::(kK e t)) (ac (hs (.done (.opt (qP ZT 221 (.fslice 5 (qhH a c b)) (.i e))) (.fptr [.func (.func 115) [] [.fptr (kA a.Kind a.Day a.Lot a.Amount a.Yarn a.Dye a.Order) 0,.fptr (kG c.Day c.Lots c.Holds) 0],.func (.func 116) [] [.fptr (kA a.Kind a.Day a.Lot a.Amount a.Yarn a.Dye a.Order) 0,.fptr (.str b.lot.Name::(kB b.lot.Yarn b.lot.Dye b.lot.Stock b.known b.hold.Lot b.hold.Order b.hold.Reserved b.hold.Taken b.free)) 0],.func (.func 117) [] [.fptr [.func (.func 137) [] [],.func (.func 138) [] []] 0,.fptr (.str b.lot.Name::(kB b.lot.Yarn b.lot.Dye b.lot.Stock b.known b.hold.Lot b.hold.Order b.hold.Reserved b.hold.Taken b.free)) 0,.fptr (kA a.Kind a.Day a.Lot a.Amount a.Yarn a.Dye a.Order) 0],.func (.func 118) [] [.fptr [.func (.func 137) [] [],.func (.func 138) [] []] 0,.fptr (.str b.lot.Name::(kB b.lot.Yarn b.lot.Dye b.lot.Stock b.known b.hold.Lot b.hold.Order b.hold.Reserved b.hold.Taken b.free)) 0,.fptr (kA a.Kind a.Day a.Lot a.Amount a.Yarn a.Dye a.Order) 0],.func (.func 119) [] [.fptr (kG c.Day c.Lots c.Holds) 0,.fptr (kA a.Kind a.Day a.Lot a.Amount a.Yarn a.Dye a.Order) 0]] 4)) (ixA (ot r) (by kernel_rfl))) (ac (hs (.call 177 [.func (.func 119) [] [.fptr (kG c.Day c.Lots c.Holds) 0,.fptr (kA a.Kind a.Day a.Lot a.Amount a.Yarn a.Dye a.Order) 0]] [] [] [.func (.func 119) [] [.fptr (kG c.Day c.Lots c.Holds) 0,.fptr (kA a.Kind a.Day a.Lot a.Amount a.Yarn a.Dye a.Order) 0]] (.bool t)) (jf (FzL.cons (Fz.func FzL.nil (FzL.cons (Ua (Still.fptr (AllST.cons tI (AllST.cons (qG qo _ (nl rfl)) (AllST.cons (qG qg _ (nl rfl)) AllST.nil))))) (FzL.cons (Ua (Still.fptr (AllST.cons tS (AllST.cons tI (AllST.cons tS (AllST.cons tI (AllST.cons tS (AllST.cons tS (AllST.cons tS AllST.nil))))))))) FzL.nil))) FzL.nil) (qcU N c a j) tB)) az))
     cases d
    refine ihB g2 (fun w g2=>?_) (fun w g2=>?_)
    ·refine sh fol (kAn e) ?_
     refine Goes.ret ?_
     obtain rfl:=si g2
     exact Or.inr (⟨rfl,_,rfl,(gw2 [.i e] (Ub tI))⟩)
    refine Goes.skip ?_
    refine gh fol ((0,.fslice 5 (qhH a c b))::(1,.func (.func 177) [] [])::(kAF (w64 (e+1)))) ?_
    exact⟨M,(ofG 19 ((0,.fslice 5 (qhH a c b))::(1,.func (.func 177) [] [])::(kAF (w64 (e+1)))),[]),Nat.lt_succ_self _,(Sub.refl _),_,rfl,g2⟩
   refine Goes.exit ?_
   obtain rfl:=si g2
   exact Or.inl (⟨rfl,rfl,(Sub.keep [] rfl rfl)⟩)
 rintro x s' (⟨rfl,rfl,hsub⟩|⟨rfl,F,rfl,hret⟩)
 ·try dsimp only at h
  refine Goes.sub hsub ?_
  refine sh fol kAq ?_
  refine Goes.ret ?_
  obtain rfl:=si h
  exact(gw2 [.i (-1)] (Ub tI))
 try dsimp only at h
 obtain rfl:=si h
 exact hret
def qgx (N:Nat) (a:qw) (b:StateT) (c:ql):Option Int:=
 (qcs N a b c).bind fun d=>
 some (w64 (1+d))
theorem qoi (N:Nat) (a:qw) (b:StateT) (c:ql) {res:Int} (h:qgx N a b c=some res):qE ZT (.fn 114) [.fslice 5 (qhH a b c)] [] (.i res) []:=by
 unfold qgx at h
 refine Uc Tryz.func114 rfl rfl (m:=6) rfl (rs:=[.tmp 2]) rfl (l:=[(0,.fslice 5 (qhH a b c))]) rfl ?_
 refine sh fol [(0,.fslice 5 (qhH a b c))] ?_
 obtain⟨e,d,h⟩:=bnd h
 refine sq (gr fol [1] (kAt (w64 (1+e))) (ac (hs (.call 176 [.fslice 5 (qhH a b c),.func (.func 177) [] []] [] [] [.fslice 5 (qhH a b c),.func (.func 177) [] []] (.i e)) (jf (FzL.cons (Ua (Still.fslice (AllST.cons (Still.func AllST.nil (AllST.cons (Still.fptr (AllST.cons tS (AllST.cons tI (AllST.cons tS (AllST.cons tI (AllST.cons tS (AllST.cons tS (AllST.cons tS AllST.nil)))))))) (AllST.cons (Still.fptr (AllST.cons tI (AllST.cons (qG qo _ (nl rfl)) (AllST.cons (qG qg _ (nl rfl)) AllST.nil)))) AllST.nil))) (AllST.cons (Still.func AllST.nil (AllST.cons (Still.fptr (AllST.cons tS (AllST.cons tI (AllST.cons tS (AllST.cons tI (AllST.cons tS (AllST.cons tS (AllST.cons tS AllST.nil)))))))) (AllST.cons (Still.fptr (AllST.cons tS (AllST.cons tS (AllST.cons tS (AllST.cons tI (AllST.cons tB (AllST.cons tS (AllST.cons tS (AllST.cons tI (AllST.cons tI (AllST.cons tI AllST.nil))))))))))) AllST.nil))) (AllST.cons (Still.func AllST.nil (AllST.cons (Still.fptr (AllST.cons (Still.func AllST.nil AllST.nil) (AllST.cons (Still.func AllST.nil AllST.nil) AllST.nil))) (AllST.cons (Still.fptr (AllST.cons tS (AllST.cons tS (AllST.cons tS (AllST.cons tI (AllST.cons tB (AllST.cons tS (AllST.cons tS (AllST.cons tI (AllST.cons tI (AllST.cons tI AllST.nil))))))))))) (AllST.cons (Still.fptr (AllST.cons tS (AllST.cons tI (AllST.cons tS (AllST.cons tI (AllST.cons tS (AllST.cons tS (AllST.cons tS AllST.nil)))))))) AllST.nil)))) (AllST.cons (Still.func AllST.nil (AllST.cons (Still.fptr (AllST.cons (Still.func AllST.nil AllST.nil) (AllST.cons (Still.func AllST.nil AllST.nil) AllST.nil))) (AllST.cons (Still.fptr (AllST.cons tS (AllST.cons tS (AllST.cons tS (AllST.cons tI (AllST.cons tB (AllST.cons tS (AllST.cons tS (AllST.cons tI (AllST.cons tI (AllST.cons tI AllST.nil))))))))))) (AllST.cons (Still.fptr (AllST.cons tS (AllST.cons tI (AllST.cons tS (AllST.cons tI (AllST.cons tS (AllST.cons tS (AllST.cons tS AllST.nil)))))))) AllST.nil)))) (AllST.cons (Still.func AllST.nil (AllST.cons (Still.fptr (AllST.cons tI (AllST.cons (qG qo _ (nl rfl)) (AllST.cons (qG qg _ (nl rfl)) AllST.nil)))) (AllST.cons (Still.fptr (AllST.cons tS (AllST.cons tI (AllST.cons tS (AllST.cons tI (AllST.cons tS (AllST.cons tS (AllST.cons tS AllST.nil)))))))) AllST.nil))) AllST.nil))))))) (FzL.cons (Fz.func FzL.nil FzL.nil) FzL.nil)) (qh9 N a b c d) tI)) az) ?_)
 refine Goes.ret ?_
 obtain rfl:=si h
 exact(gw2 [.i (w64 (1+e))] (Ub tI))
def qeL (a:ql) (b:qw):Option Bool:=
 (qjQ a b.Amount).bind fun c=>
 some c
theorem qjt (a:ql) (b:qw) {res:Bool} (h:qeL a b=some res):qE ZT (.fn 117) [.fptr [.func (.func 139) [] [],.func (.func 140) [] []] 0,.fptr (.str a.lot.Name::(kB a.lot.Yarn a.lot.Dye a.lot.Stock a.known a.hold.Lot a.hold.Order a.hold.Reserved a.hold.Taken a.free)) 0,.fptr (kA b.Kind b.Day b.Lot b.Amount b.Yarn b.Dye b.Order) 0] [] (.bool res) []:=by
 unfold qeL at h
 refine Uc Tryz.func117 rfl rfl (m:=10) rfl (rs:=[.tmp 3]) rfl (l:=[(0,.fptr [.func (.func 139) [] [],.func (.func 140) [] []] 0),(1,.fptr (.str a.lot.Name::(kB a.lot.Yarn a.lot.Dye a.lot.Stock a.known a.hold.Lot a.hold.Order a.hold.Reserved a.hold.Taken a.free)) 0),(2,.fptr (kA b.Kind b.Day b.Lot b.Amount b.Yarn b.Dye b.Order) 0)]) rfl ?_
 refine sh fol [(0,.fptr [.func (.func 139) [] [],.func (.func 140) [] []] 0),(1,.fptr (.str a.lot.Name::(kB a.lot.Yarn a.lot.Dye a.lot.Stock a.known a.hold.Lot a.hold.Order a.hold.Reserved a.hold.Taken a.free)) 0),(2,.fptr (kA b.Kind b.Day b.Lot b.Amount b.Yarn b.Dye b.Order) 0)] ?_
 obtain⟨d,c,h⟩:=bnd h
 refine sq (gr fol [5] (kAu d) (ac (cv (qoU a b.Amount c)) az) ?_)
 refine Goes.ret ?_
 obtain rfl:=si h
 exact(gw2 [.bool d] (Ub tB))
def qgj (a:ql) (b:qw):Option Bool:=
 (qeL a b).bind fun c=>
 some (!c)
theorem qlq (a:ql) (b:qw) {res:Bool} (h:qgj a b=some res):qE ZT (.fn 177) [.func (.func 117) [] [.fptr [.func (.func 139) [] [],.func (.func 140) [] []] 0,.fptr (.str a.lot.Name::(kB a.lot.Yarn a.lot.Dye a.lot.Stock a.known a.hold.Lot a.hold.Order a.hold.Reserved a.hold.Taken a.free)) 0,.fptr (kA b.Kind b.Day b.Lot b.Amount b.Yarn b.Dye b.Order) 0]] [] (.bool res) []:=by
 unfold qgj at h
 refine Uc Tryz.func177 rfl rfl (m:=6) rfl (rs:=[.tmp 2]) rfl (l:=[(0,.func (.func 117) [] [.fptr [.func (.func 139) [] [],.func (.func 140) [] []] 0,.fptr (.str a.lot.Name::(kB a.lot.Yarn a.lot.Dye a.lot.Stock a.known a.hold.Lot a.hold.Order a.hold.Reserved a.hold.Taken a.free)) 0,.fptr (kA b.Kind b.Day b.Lot b.Amount b.Yarn b.Dye b.Order) 0])]) rfl ?_
 refine sh fol [(0,.func (.func 117) [] [.fptr [.func (.func 139) [] [],.func (.func 140) [] []] 0,.fptr (.str a.lot.Name::(kB a.lot.Yarn a.lot.Dye a.lot.Stock a.known a.hold.Lot a.hold.Order a.hold.Reserved a.hold.Taken a.free)) 0,.fptr (kA b.Kind b.Day b.Lot b.Amount b.Yarn b.Dye b.Order) 0])] ?_
 obtain⟨d,c,h⟩:=bnd h
 refine sq (gr fol [1] (kAV (!d)) (ac (hs (.call 117 [.fptr [.func (.func 139) [] [],.func (.func 140) [] []] 0,.fptr (.str a.lot.Name::(kB a.lot.Yarn a.lot.Dye a.lot.Stock a.known a.hold.Lot a.hold.Order a.hold.Reserved a.hold.Taken a.free)) 0,.fptr (kA b.Kind b.Day b.Lot b.Amount b.Yarn b.Dye b.Order) 0] [] [] [.fptr [.func (.func 139) [] [],.func (.func 140) [] []] 0,.fptr (.str a.lot.Name::(kB a.lot.Yarn a.lot.Dye a.lot.Stock a.known a.hold.Lot a.hold.Order a.hold.Reserved a.hold.Taken a.free)) 0,.fptr (kA b.Kind b.Day b.Lot b.Amount b.Yarn b.Dye b.Order) 0] (.bool d)) (jf (FzL.cons (Ua (Still.fptr (AllST.cons (Still.func AllST.nil AllST.nil) (AllST.cons (Still.func AllST.nil AllST.nil) AllST.nil)))) (FzL.cons (Ua (Still.fptr (AllST.cons tS (AllST.cons tS (AllST.cons tS (AllST.cons tI (AllST.cons tB (AllST.cons tS (AllST.cons tS (AllST.cons tI (AllST.cons tI (AllST.cons tI AllST.nil)))))))))))) (FzL.cons (Ua (Still.fptr (AllST.cons tS (AllST.cons tI (AllST.cons tS (AllST.cons tI (AllST.cons tS (AllST.cons tS (AllST.cons tS AllST.nil))))))))) FzL.nil))) (qjt a b c) tB)) az) ?_)
 refine Goes.ret ?_
 obtain rfl:=si h
 exact(gw2 [.bool (!d)] (Ub tB))
def qeF (b:ql) (c:qw):Option Bool:=
 (qiE b c.Amount).bind fun a=>
 some (decide ((if a.hold.Taken>a.lot.Stock then a.hold.Taken else a.lot.Stock)<=999999999))
theorem qjp (a:ql) (b:qw) {res:Bool} (h:qeF a b=some res):qE ZT (.fn 118) [.fptr [.func (.func 139) [] [],.func (.func 140) [] []] 0,.fptr (.str a.lot.Name::(kB a.lot.Yarn a.lot.Dye a.lot.Stock a.known a.hold.Lot a.hold.Order a.hold.Reserved a.hold.Taken a.free)) 0,.fptr (kA b.Kind b.Day b.Lot b.Amount b.Yarn b.Dye b.Order) 0] [] (.bool res) []:=by
 unfold qeF at h
 refine Uc Tryz.func118 rfl rfl (m:=19) rfl (rs:=[.tmp 3]) rfl (l:=[(0,.fptr [.func (.func 139) [] [],.func (.func 140) [] []] 0),(1,.fptr (.str a.lot.Name::(kB a.lot.Yarn a.lot.Dye a.lot.Stock a.known a.hold.Lot a.hold.Order a.hold.Reserved a.hold.Taken a.free)) 0),(2,.fptr (kA b.Kind b.Day b.Lot b.Amount b.Yarn b.Dye b.Order) 0)]) rfl ?_
 refine sh fol [(0,.fptr [.func (.func 139) [] [],.func (.func 140) [] []] 0),(1,.fptr (.str a.lot.Name::(kB a.lot.Yarn a.lot.Dye a.lot.Stock a.known a.hold.Lot a.hold.Order a.hold.Reserved a.hold.Taken a.free)) 0),(2,.fptr (kA b.Kind b.Day b.Lot b.Amount b.Yarn b.Dye b.Order) 0)] ?_
 obtain⟨c,d,h⟩:=bnd h
 refine sq (gq fol [5] (kAH []) (kC c.lot.Name c.lot.Yarn c.lot.Dye c.lot.Stock c.known c.hold.Lot c.hold.Order c.hold.Reserved c.hold.Taken c.free []) (ac (cv (qni a b.Amount d)) az) ?_)
 refine sh fol (kAu (decide ((if c.hold.Taken>c.lot.Stock then c.hold.Taken else c.lot.Stock)<=999999999))) ?_
 refine Goes.ret ?_
 obtain rfl:=si h
 exact(gw2 [.bool (decide ((if c.hold.Taken>c.lot.Stock then c.hold.Taken else c.lot.Stock)<=999999999))] (Ub tB))
def qgc (a:ql) (b:qw):Option Bool:=
 (qeF a b).bind fun c=>
 some (!c)
theorem qlr (a:ql) (b:qw) {res:Bool} (h:qgc a b=some res):qE ZT (.fn 177) [.func (.func 118) [] [.fptr [.func (.func 139) [] [],.func (.func 140) [] []] 0,.fptr (.str a.lot.Name::(kB a.lot.Yarn a.lot.Dye a.lot.Stock a.known a.hold.Lot a.hold.Order a.hold.Reserved a.hold.Taken a.free)) 0,.fptr (kA b.Kind b.Day b.Lot b.Amount b.Yarn b.Dye b.Order) 0]] [] (.bool res) []:=by
 unfold qgc at h
 refine Uc Tryz.func177 rfl rfl (m:=6) rfl (rs:=[.tmp 2]) rfl (l:=[(0,.func (.func 118) [] [.fptr [.func (.func 139) [] [],.func (.func 140) [] []] 0,.fptr (.str a.lot.Name::(kB a.lot.Yarn a.lot.Dye a.lot.Stock a.known a.hold.Lot a.hold.Order a.hold.Reserved a.hold.Taken a.free)) 0,.fptr (kA b.Kind b.Day b.Lot b.Amount b.Yarn b.Dye b.Order) 0])]) rfl ?_
 refine sh fol [(0,.func (.func 118) [] [.fptr [.func (.func 139) [] [],.func (.func 140) [] []] 0,.fptr (.str a.lot.Name::(kB a.lot.Yarn a.lot.Dye a.lot.Stock a.known a.hold.Lot a.hold.Order a.hold.Reserved a.hold.Taken a.free)) 0,.fptr (kA b.Kind b.Day b.Lot b.Amount b.Yarn b.Dye b.Order) 0])] ?_
 obtain⟨d,c,h⟩:=bnd h
 refine sq (gr fol [1] (kAV (!d)) (ac (hs (.call 118 [.fptr [.func (.func 139) [] [],.func (.func 140) [] []] 0,.fptr (.str a.lot.Name::(kB a.lot.Yarn a.lot.Dye a.lot.Stock a.known a.hold.Lot a.hold.Order a.hold.Reserved a.hold.Taken a.free)) 0,.fptr (kA b.Kind b.Day b.Lot b.Amount b.Yarn b.Dye b.Order) 0] [] [] [.fptr [.func (.func 139) [] [],.func (.func 140) [] []] 0,.fptr (.str a.lot.Name::(kB a.lot.Yarn a.lot.Dye a.lot.Stock a.known a.hold.Lot a.hold.Order a.hold.Reserved a.hold.Taken a.free)) 0,.fptr (kA b.Kind b.Day b.Lot b.Amount b.Yarn b.Dye b.Order) 0] (.bool d)) (jf (FzL.cons (Ua (Still.fptr (AllST.cons (Still.func AllST.nil AllST.nil) (AllST.cons (Still.func AllST.nil AllST.nil) AllST.nil)))) (FzL.cons (Ua (Still.fptr (AllST.cons tS (AllST.cons tS (AllST.cons tS (AllST.cons tI (AllST.cons tB (AllST.cons tS (AllST.cons tS (AllST.cons tI (AllST.cons tI (AllST.cons tI AllST.nil)))))))))))) (FzL.cons (Ua (Still.fptr (AllST.cons tS (AllST.cons tI (AllST.cons tS (AllST.cons tI (AllST.cons tS (AllST.cons tS (AllST.cons tS AllST.nil))))))))) FzL.nil))) (qjp a b c) tB)) az) ?_)
 refine Goes.ret ?_
 obtain rfl:=si h
 exact(gw2 [.bool (!d)] (Ub tB))
def ym (N:Nat) (a:qw) (d:StateT) (b:ql):Nat->Int->Option (Unit⊕Int)
 |0,_=>none
 |K+1,c=>
  if c<5 then
  (if c=0 then
  (xL a d).bind fun i=>
  some i
  else
  if c=1 then
  (yO a b).bind fun j=>
  some j
  else
  if c=2 then
  (qgj b a).bind fun e=>
  some e
  else
  if c=3 then
  (qgc b a).bind fun f=>
  some f
  else
  if c=4 then
  (xQ N d a).bind fun g=>
  some g
  else
  none:Option Bool).bind fun h=>
  if h=true then
  some (.inr c)
  else
  ym N a d b K (w64 (c+1))
  else
  some (.inl ())
def qcw (N:Nat) (a:qw) (b:StateT) (c:ql):Option Int:=
 (ym N a b c N 0).bind (fun
 |(.inl ())=>
 some (-1)
 |(.inr d)=>
 some d)
theorem qib (N:Nat) (a:qw) (c:StateT) (b:ql) {res:Int} (h:qcw N a c b=some res):qE ZT (.fn 176) [.fslice 5 (qhy a c b),.func (.func 177) [] []] [] (.i res) []:=by
 unfold qcw at h
 refine Uc Tryz.func176 rfl rfl (m:=19) rfl (rs:=[.tmp 4]) rfl (l:=[(0,.fslice 5 (qhy a c b)),(1,.func (.func 177) [] [])]) rfl ?_
 refine sh fol [(0,.fslice 5 (qhy a c b)),(1,.func (.func 177) [] [])] ?_
 refine sq ?_
 refine sh fol ((0,.fslice 5 (qhy a c b))::(1,.func (.func 177) [] [])::kA1) ?_
 refine Goes.block ?_
 obtain⟨u,g2,h⟩:=bnd h
 refine Goes.imp (Q:=fun x s'=>(x= .exit 0/\(.inl ())=u/\Sub s' (ofG 19 [],[]))\/(x= .ret/\ ∃y,(.inr y)=u/\jT ZT [.tmp 4] (.i y) .ret s')) ?_ ?_
 ·refine Ud (fun M s=> ∃(e:Int),s=(ofG 19 ((0,.fslice 5 (qhy a c b))::(1,.func (.func 177) [] [])::(kAF e)),[])/\ym N a c b M e=some u) ?_ (m:=N) ⟨_,rfl,g2⟩
  rintro M s ⟨e,rfl,g2⟩
  cases M with
  |zero=>simp only[ym]at g2;cases g2
  |succ M=>
   rw[ym]at g2
   refine sh fol ((0,.fslice 5 (qhy a c b))::(1,.func (.func 177) [] [])::(7,.i 5)::(kAg e (decide (e<5)))) ?_
   refine sq ?_
   refine ihD g2 (fun E g2=>?_) (fun E g2=>?_)
   ·refine Goes.skip ?_
    refine sq (Goes.block ?_)
    refine sh fol ((0,.fslice 5 (qhy a c b))::(1,.func (.func 177) [] [])::(5,.i e)::(kAF e)) ?_
    refine sq ?_
    obtain⟨v,d,g2⟩:=bnd g2
    refine Goes.cut (s':=(ofG 19 ((0,.fslice 5 (qhy a c b))::(1,.func (.func 177) [] [])::(kK e v)),[])) ?_ ?_
    ·rcases wyD d with⟨z,d⟩|⟨z,d⟩
     ·obtain⟨A,k,d⟩:=bnd d
      obtain rfl:=si d
      exact tr fol [3,5] ((0,.fslice 5 (qhy a c b))::(1,.func (.func 177) [] [])::(kK e A)) (ac (hs (.done (.opt (qP ZT 221 (.fslice 5 (qhy a c b)) (.i e))) (.fptr [.func (.func 115) [] [.fptr (kA a.Kind a.Day a.Lot a.Amount a.Yarn a.Dye a.Order) 0,.fptr (kG c.Day c.Lots c.Holds) 0],.func (.func 116) [] [.fptr (kA a.Kind a.Day a.Lot a.Amount a.Yarn a.Dye a.Order) 0,.fptr (.str b.lot.Name::(kB b.lot.Yarn b.lot.Dye b.lot.Stock b.known b.hold.Lot b.hold.Order b.hold.Reserved b.hold.Taken b.free)) 0],.func (.func 117) [] [.fptr [.func (.func 139) [] [],.func (.func 140) [] []] 0,.fptr (.str b.lot.Name::(kB b.lot.Yarn b.lot.Dye b.lot.Stock b.known b.hold.Lot b.hold.Order b.hold.Reserved b.hold.Taken b.free)) 0,.fptr (kA a.Kind a.Day a.Lot a.Amount a.Yarn a.Dye a.Order) 0],.func (.func 118) [] [.fptr [.func (.func 139) [] [],.func (.func 140) [] []] 0,.fptr (.str b.lot.Name::(kB b.lot.Yarn b.lot.Dye b.lot.Stock b.known b.hold.Lot b.hold.Order b.hold.Reserved b.hold.Taken b.free)) 0,.fptr (kA a.Kind a.Day a.Lot a.Amount a.Yarn a.Dye a.Order) 0],.func (.func 119) [] [.fptr (kG c.Day c.Lots c.Holds) 0,.fptr (kA a.Kind a.Day a.Lot a.Amount a.Yarn a.Dye a.Order) 0]] 0)) (ixA (ot z) (by kernel_rfl))) (ac (hs (.call 177 [.func (.func 115) [] [.fptr (kA a.Kind a.Day a.Lot a.Amount a.Yarn a.Dye a.Order) 0,.fptr (kG c.Day c.Lots c.Holds) 0]] [] [] [.func (.func 115) [] [.fptr (kA a.Kind a.Day a.Lot a.Amount a.Yarn a.Dye a.Order) 0,.fptr (kG c.Day c.Lots c.Holds) 0]] (.bool A)) (jf (FzL.cons (Fz.func FzL.nil (FzL.cons (Ua (Still.fptr (AllST.cons tS (AllST.cons tI (AllST.cons tS (AllST.cons tI (AllST.cons tS (AllST.cons tS (AllST.cons tS AllST.nil))))))))) (FzL.cons (Ua (Still.fptr (AllST.cons tI (AllST.cons (qG qo _ (nl rfl)) (AllST.cons (qG qg _ (nl rfl)) AllST.nil))))) FzL.nil))) FzL.nil) (qcN a c k) tB)) az))
     rcases wyD d with⟨B,d⟩|⟨B,d⟩
     ·obtain⟨C,n,d⟩:=bnd d
      obtain rfl:=si d
      exact tr fol [3,5] ((0,.fslice 5 (qhy a c b))::(1,.func (.func 177) [] [])::(kK e C)) (ac (hs (.done (.opt (qP ZT 221 (.fslice 5 (qhy a c b)) (.i e))) (.fptr [.func (.func 115) [] [.fptr (kA a.Kind a.Day a.Lot a.Amount a.Yarn a.Dye a.Order) 0,.fptr (kG c.Day c.Lots c.Holds) 0],.func (.func 116) [] [.fptr (kA a.Kind a.Day a.Lot a.Amount a.Yarn a.Dye a.Order) 0,.fptr (.str b.lot.Name::(kB b.lot.Yarn b.lot.Dye b.lot.Stock b.known b.hold.Lot b.hold.Order b.hold.Reserved b.hold.Taken b.free)) 0],.func (.func 117) [] [.fptr [.func (.func 139) [] [],.func (.func 140) [] []] 0,.fptr (.str b.lot.Name::(kB b.lot.Yarn b.lot.Dye b.lot.Stock b.known b.hold.Lot b.hold.Order b.hold.Reserved b.hold.Taken b.free)) 0,.fptr (kA a.Kind a.Day a.Lot a.Amount a.Yarn a.Dye a.Order) 0],.func (.func 118) [] [.fptr [.func (.func 139) [] [],.func (.func 140) [] []] 0,.fptr (.str b.lot.Name::(kB b.lot.Yarn b.lot.Dye b.lot.Stock b.known b.hold.Lot b.hold.Order b.hold.Reserved b.hold.Taken b.free)) 0,.fptr (kA a.Kind a.Day a.Lot a.Amount a.Yarn a.Dye a.Order) 0],.func (.func 119) [] [.fptr (kG c.Day c.Lots c.Holds) 0,.fptr (kA a.Kind a.Day a.Lot a.Amount a.Yarn a.Dye a.Order) 0]] 1)) (ixA (ot B) (by kernel_rfl))) (ac (hs (.call 177 [.func (.func 116) [] [.fptr (kA a.Kind a.Day a.Lot a.Amount a.Yarn a.Dye a.Order) 0,.fptr (.str b.lot.Name::(kB b.lot.Yarn b.lot.Dye b.lot.Stock b.known b.hold.Lot b.hold.Order b.hold.Reserved b.hold.Taken b.free)) 0]] [] [] [.func (.func 116) [] [.fptr (kA a.Kind a.Day a.Lot a.Amount a.Yarn a.Dye a.Order) 0,.fptr (.str b.lot.Name::(kB b.lot.Yarn b.lot.Dye b.lot.Stock b.known b.hold.Lot b.hold.Order b.hold.Reserved b.hold.Taken b.free)) 0]] (.bool C)) (jf (FzL.cons (Fz.func FzL.nil (FzL.cons (Ua (Still.fptr (AllST.cons tS (AllST.cons tI (AllST.cons tS (AllST.cons tI (AllST.cons tS (AllST.cons tS (AllST.cons tS AllST.nil))))))))) (FzL.cons (Ua (Still.fptr (AllST.cons tS (AllST.cons tS (AllST.cons tS (AllST.cons tI (AllST.cons tB (AllST.cons tS (AllST.cons tS (AllST.cons tI (AllST.cons tI (AllST.cons tI AllST.nil)))))))))))) FzL.nil))) FzL.nil) (qcT a b n) tB)) az))
     rcases wyD d with⟨D,d⟩|⟨D,d⟩
     ·obtain⟨o,f,d⟩:=bnd d
      obtain rfl:=si d
      exact tr fol [3,5] ((0,.fslice 5 (qhy a c b))::(1,.func (.func 177) [] [])::(kK e o)) (ac (hs (.done (.opt (qP ZT 221 (.fslice 5 (qhy a c b)) (.i e))) (.fptr [.func (.func 115) [] [.fptr (kA a.Kind a.Day a.Lot a.Amount a.Yarn a.Dye a.Order) 0,.fptr (kG c.Day c.Lots c.Holds) 0],.func (.func 116) [] [.fptr (kA a.Kind a.Day a.Lot a.Amount a.Yarn a.Dye a.Order) 0,.fptr (.str b.lot.Name::(kB b.lot.Yarn b.lot.Dye b.lot.Stock b.known b.hold.Lot b.hold.Order b.hold.Reserved b.hold.Taken b.free)) 0],.func (.func 117) [] [.fptr [.func (.func 139) [] [],.func (.func 140) [] []] 0,.fptr (.str b.lot.Name::(kB b.lot.Yarn b.lot.Dye b.lot.Stock b.known b.hold.Lot b.hold.Order b.hold.Reserved b.hold.Taken b.free)) 0,.fptr (kA a.Kind a.Day a.Lot a.Amount a.Yarn a.Dye a.Order) 0],.func (.func 118) [] [.fptr [.func (.func 139) [] [],.func (.func 140) [] []] 0,.fptr (.str b.lot.Name::(kB b.lot.Yarn b.lot.Dye b.lot.Stock b.known b.hold.Lot b.hold.Order b.hold.Reserved b.hold.Taken b.free)) 0,.fptr (kA a.Kind a.Day a.Lot a.Amount a.Yarn a.Dye a.Order) 0],.func (.func 119) [] [.fptr (kG c.Day c.Lots c.Holds) 0,.fptr (kA a.Kind a.Day a.Lot a.Amount a.Yarn a.Dye a.Order) 0]] 2)) (ixA (ot D) (by kernel_rfl))) (ac (hs (.call 177 [.func (.func 117) [] [.fptr [.func (.func 139) [] [],.func (.func 140) [] []] 0,.fptr (.str b.lot.Name::(kB b.lot.Yarn b.lot.Dye b.lot.Stock b.known b.hold.Lot b.hold.Order b.hold.Reserved b.hold.Taken b.free)) 0,.fptr (kA a.Kind a.Day a.Lot a.Amount a.Yarn a.Dye a.Order) 0]] [] [] [.func (.func 117) [] [.fptr [.func (.func 139) [] [],.func (.func 140) [] []] 0,.fptr (.str b.lot.Name::(kB b.lot.Yarn b.lot.Dye b.lot.Stock b.known b.hold.Lot b.hold.Order b.hold.Reserved b.hold.Taken b.free)) 0,.fptr (kA a.Kind a.Day a.Lot a.Amount a.Yarn a.Dye a.Order) 0]] (.bool o)) (jf (FzL.cons (Fz.func FzL.nil (FzL.cons (Ua (Still.fptr (AllST.cons (Still.func AllST.nil AllST.nil) (AllST.cons (Still.func AllST.nil AllST.nil) AllST.nil)))) (FzL.cons (Ua (Still.fptr (AllST.cons tS (AllST.cons tS (AllST.cons tS (AllST.cons tI (AllST.cons tB (AllST.cons tS (AllST.cons tS (AllST.cons tI (AllST.cons tI (AllST.cons tI AllST.nil)))))))))))) (FzL.cons (Ua (Still.fptr (AllST.cons tS (AllST.cons tI (AllST.cons tS (AllST.cons tI (AllST.cons tS (AllST.cons tS (AllST.cons tS AllST.nil))))))))) FzL.nil)))) FzL.nil) (qlq b a f) tB)) az))
     rcases wyD d with⟨p,d⟩|⟨p,d⟩
     ·obtain⟨q,g,d⟩:=bnd d
      obtain rfl:=si d
      exact tr fol [3,5] ((0,.fslice 5 (qhy a c b))::(1,.func (.func 177) [] [])::(kK e q)) (ac (hs (.done (.opt (qP ZT 221 (.fslice 5 (qhy a c b)) (.i e))) (.fptr [.func (.func 115) [] [.fptr (kA a.Kind a.Day a.Lot a.Amount a.Yarn a.Dye a.Order) 0,.fptr (kG c.Day c.Lots c.Holds) 0],.func (.func 116) [] [.fptr (kA a.Kind a.Day a.Lot a.Amount a.Yarn a.Dye a.Order) 0,.fptr (.str b.lot.Name::(kB b.lot.Yarn b.lot.Dye b.lot.Stock b.known b.hold.Lot b.hold.Order b.hold.Reserved b.hold.Taken b.free)) 0],.func (.func 117) [] [.fptr [.func (.func 139) [] [],.func (.func 140) [] []] 0,.fptr (.str b.lot.Name::(kB b.lot.Yarn b.lot.Dye b.lot.Stock b.known b.hold.Lot b.hold.Order b.hold.Reserved b.hold.Taken b.free)) 0,.fptr (kA a.Kind a.Day a.Lot a.Amount a.Yarn a.Dye a.Order) 0],.func (.func 118) [] [.fptr [.func (.func 139) [] [],.func (.func 140) [] []] 0,.fptr (.str b.lot.Name::(kB b.lot.Yarn b.lot.Dye b.lot.Stock b.known b.hold.Lot b.hold.Order b.hold.Reserved b.hold.Taken b.free)) 0,.fptr (kA a.Kind a.Day a.Lot a.Amount a.Yarn a.Dye a.Order) 0],.func (.func 119) [] [.fptr (kG c.Day c.Lots c.Holds) 0,.fptr (kA a.Kind a.Day a.Lot a.Amount a.Yarn a.Dye a.Order) 0]] 3)) (ixA (ot p) (by kernel_rfl))) (ac (hs (.call 177 [.func (.func 118) [] [.fptr [.func (.func 139) [] [],.func (.func 140) [] []] 0,.fptr (.str b.lot.Name::(kB b.lot.Yarn b.lot.Dye b.lot.Stock b.known b.hold.Lot b.hold.Order b.hold.Reserved b.hold.Taken b.free)) 0,.fptr (kA a.Kind a.Day a.Lot a.Amount a.Yarn a.Dye a.Order) 0]] [] [] [.func (.func 118) [] [.fptr [.func (.func 139) [] [],.func (.func 140) [] []] 0,.fptr (.str b.lot.Name::(kB b.lot.Yarn b.lot.Dye b.lot.Stock b.known b.hold.Lot b.hold.Order b.hold.Reserved b.hold.Taken b.free)) 0,.fptr (kA a.Kind a.Day a.Lot a.Amount a.Yarn a.Dye a.Order) 0]] (.bool q)) (jf (FzL.cons (Fz.func FzL.nil (FzL.cons (Ua (Still.fptr (AllST.cons (Still.func AllST.nil AllST.nil) (AllST.cons (Still.func AllST.nil AllST.nil) AllST.nil)))) (FzL.cons (Ua (Still.fptr (AllST.cons tS (AllST.cons tS (AllST.cons tS (AllST.cons tI (AllST.cons tB (AllST.cons tS (AllST.cons tS (AllST.cons tI (AllST.cons tI (AllST.cons tI AllST.nil)))))))))))) (FzL.cons (Ua (Still.fptr (AllST.cons tS (AllST.cons tI (AllST.cons tS (AllST.cons tI (AllST.cons tS (AllST.cons tS (AllST.cons tS AllST.nil))))))))) FzL.nil)))) FzL.nil) (qlr b a g) tB)) az))
     rcases wyD d with⟨r,d⟩|⟨r,d⟩
     ·obtain⟨t,j,d⟩:=bnd d
      obtain rfl:=si d
      exact tr fol [3,5] ((0,.fslice 5 (qhy a c b))::(1,.func (.func 177) [] [])::(kK e t)) (ac (hs (.done (.opt (qP ZT 221 (.fslice 5 (qhy a c b)) (.i e))) (.fptr [.func (.func 115) [] [.fptr (kA a.Kind a.Day a.Lot a.Amount a.Yarn a.Dye a.Order) 0,.fptr (kG c.Day c.Lots c.Holds) 0],.func (.func 116) [] [.fptr (kA a.Kind a.Day a.Lot a.Amount a.Yarn a.Dye a.Order) 0,.fptr (.str b.lot.Name::(kB b.lot.Yarn b.lot.Dye b.lot.Stock b.known b.hold.Lot b.hold.Order b.hold.Reserved b.hold.Taken b.free)) 0],.func (.func 117) [] [.fptr [.func (.func 139) [] [],.func (.func 140) [] []] 0,.fptr (.str b.lot.Name::(kB b.lot.Yarn b.lot.Dye b.lot.Stock b.known b.hold.Lot b.hold.Order b.hold.Reserved b.hold.Taken b.free)) 0,.fptr (kA a.Kind a.Day a.Lot a.Amount a.Yarn a.Dye a.Order) 0],.func (.func 118) [] [.fptr [.func (.func 139) [] [],.func (.func 140) [] []] 0,.fptr (.str b.lot.Name::(kB b.lot.Yarn b.lot.Dye b.lot.Stock b.known b.hold.Lot b.hold.Order b.hold.Reserved b.hold.Taken b.free)) 0,.fptr (kA a.Kind a.Day a.Lot a.Amount a.Yarn a.Dye a.Order) 0],.func (.func 119) [] [.fptr (kG c.Day c.Lots c.Holds) 0,.fptr (kA a.Kind a.Day a.Lot a.Amount a.Yarn a.Dye a.Order) 0]] 4)) (ixA (ot r) (by kernel_rfl))) (ac (hs (.call 177 [.func (.func 119) [] [.fptr (kG c.Day c.Lots c.Holds) 0,.fptr (kA a.Kind a.Day a.Lot a.Amount a.Yarn a.Dye a.Order) 0]] [] [] [.func (.func 119) [] [.fptr (kG c.Day c.Lots c.Holds) 0,.fptr (kA a.Kind a.Day a.Lot a.Amount a.Yarn a.Dye a.Order) 0]] (.bool t)) (jf (FzL.cons (Fz.func FzL.nil (FzL.cons (Ua (Still.fptr (AllST.cons tI (AllST.cons (qG qo _ (nl rfl)) (AllST.cons (qG qg _ (nl rfl)) AllST.nil))))) (FzL.cons (Ua (Still.fptr (AllST.cons tS (AllST.cons tI (AllST.cons tS (AllST.cons tI (AllST.cons tS (AllST.cons tS (AllST.cons tS AllST.nil))))))))) FzL.nil))) FzL.nil) (qcU N c a j) tB)) az))
     cases d
    refine ihB g2 (fun w g2=>?_) (fun w g2=>?_)
    ·refine sh fol (kAn e) ?_
     refine Goes.ret ?_
     obtain rfl:=si g2
     exact Or.inr (⟨rfl,_,rfl,(gw2 [.i e] (Ub tI))⟩)
    refine Goes.skip ?_
    refine gh fol ((0,.fslice 5 (qhy a c b))::(1,.func (.func 177) [] [])::(kAF (w64 (e+1)))) ?_
    exact⟨M,(ofG 19 ((0,.fslice 5 (qhy a c b))::(1,.func (.func 177) [] [])::(kAF (w64 (e+1)))),[]),Nat.lt_succ_self _,(Sub.refl _),_,rfl,g2⟩
   refine Goes.exit ?_
   obtain rfl:=si g2
   exact Or.inl (⟨rfl,rfl,(Sub.keep [] rfl rfl)⟩)
 rintro x s' (⟨rfl,rfl,hsub⟩|⟨rfl,F,rfl,hret⟩)
 ·try dsimp only at h
  refine Goes.sub hsub ?_
  refine sh fol kAq ?_
  refine Goes.ret ?_
  obtain rfl:=si h
  exact(gw2 [.i (-1)] (Ub tI))
 try dsimp only at h
 obtain rfl:=si h
 exact hret
def qgR (N:Nat) (a:qw) (b:StateT) (c:ql):Option Int:=
 (qcw N a b c).bind fun d=>
 some (w64 (1+d))
theorem qnU (N:Nat) (a:qw) (b:StateT) (c:ql) {res:Int} (h:qgR N a b c=some res):qE ZT (.fn 114) [.fslice 5 (qhy a b c)] [] (.i res) []:=by
 unfold qgR at h
 refine Uc Tryz.func114 rfl rfl (m:=6) rfl (rs:=[.tmp 2]) rfl (l:=[(0,.fslice 5 (qhy a b c))]) rfl ?_
 refine sh fol [(0,.fslice 5 (qhy a b c))] ?_
 obtain⟨e,d,h⟩:=bnd h
 refine sq (gr fol [1] (kAt (w64 (1+e))) (ac (hs (.call 176 [.fslice 5 (qhy a b c),.func (.func 177) [] []] [] [] [.fslice 5 (qhy a b c),.func (.func 177) [] []] (.i e)) (jf (FzL.cons (Ua (Still.fslice (AllST.cons (Still.func AllST.nil (AllST.cons (Still.fptr (AllST.cons tS (AllST.cons tI (AllST.cons tS (AllST.cons tI (AllST.cons tS (AllST.cons tS (AllST.cons tS AllST.nil)))))))) (AllST.cons (Still.fptr (AllST.cons tI (AllST.cons (qG qo _ (nl rfl)) (AllST.cons (qG qg _ (nl rfl)) AllST.nil)))) AllST.nil))) (AllST.cons (Still.func AllST.nil (AllST.cons (Still.fptr (AllST.cons tS (AllST.cons tI (AllST.cons tS (AllST.cons tI (AllST.cons tS (AllST.cons tS (AllST.cons tS AllST.nil)))))))) (AllST.cons (Still.fptr (AllST.cons tS (AllST.cons tS (AllST.cons tS (AllST.cons tI (AllST.cons tB (AllST.cons tS (AllST.cons tS (AllST.cons tI (AllST.cons tI (AllST.cons tI AllST.nil))))))))))) AllST.nil))) (AllST.cons (Still.func AllST.nil (AllST.cons (Still.fptr (AllST.cons (Still.func AllST.nil AllST.nil) (AllST.cons (Still.func AllST.nil AllST.nil) AllST.nil))) (AllST.cons (Still.fptr (AllST.cons tS (AllST.cons tS (AllST.cons tS (AllST.cons tI (AllST.cons tB (AllST.cons tS (AllST.cons tS (AllST.cons tI (AllST.cons tI (AllST.cons tI AllST.nil))))))))))) (AllST.cons (Still.fptr (AllST.cons tS (AllST.cons tI (AllST.cons tS (AllST.cons tI (AllST.cons tS (AllST.cons tS (AllST.cons tS AllST.nil)))))))) AllST.nil)))) (AllST.cons (Still.func AllST.nil (AllST.cons (Still.fptr (AllST.cons (Still.func AllST.nil AllST.nil) (AllST.cons (Still.func AllST.nil AllST.nil) AllST.nil))) (AllST.cons (Still.fptr (AllST.cons tS (AllST.cons tS (AllST.cons tS (AllST.cons tI (AllST.cons tB (AllST.cons tS (AllST.cons tS (AllST.cons tI (AllST.cons tI (AllST.cons tI AllST.nil))))))))))) (AllST.cons (Still.fptr (AllST.cons tS (AllST.cons tI (AllST.cons tS (AllST.cons tI (AllST.cons tS (AllST.cons tS (AllST.cons tS AllST.nil)))))))) AllST.nil)))) (AllST.cons (Still.func AllST.nil (AllST.cons (Still.fptr (AllST.cons tI (AllST.cons (qG qo _ (nl rfl)) (AllST.cons (qG qg _ (nl rfl)) AllST.nil)))) (AllST.cons (Still.fptr (AllST.cons tS (AllST.cons tI (AllST.cons tS (AllST.cons tI (AllST.cons tS (AllST.cons tS (AllST.cons tS AllST.nil)))))))) AllST.nil))) AllST.nil))))))) (FzL.cons (Fz.func FzL.nil FzL.nil) FzL.nil)) (qib N a b c d) tI)) az) ?_)
 refine Goes.ret ?_
 obtain rfl:=si h
 exact(gw2 [.i (w64 (1+e))] (Ub tI))
def qeI (a:ql) (b:qw):Option Bool:=
 (qj3 a b.Amount).bind fun c=>
 some c
theorem qjl (a:ql) (b:qw) {res:Bool} (h:qeI a b=some res):qE ZT (.fn 117) [.fptr [.func (.func 141) [] [],.func (.func 142) [] []] 0,.fptr (.str a.lot.Name::(kB a.lot.Yarn a.lot.Dye a.lot.Stock a.known a.hold.Lot a.hold.Order a.hold.Reserved a.hold.Taken a.free)) 0,.fptr (kA b.Kind b.Day b.Lot b.Amount b.Yarn b.Dye b.Order) 0] [] (.bool res) []:=by
 unfold qeI at h
 refine Uc Tryz.func117 rfl rfl (m:=10) rfl (rs:=[.tmp 3]) rfl (l:=[(0,.fptr [.func (.func 141) [] [],.func (.func 142) [] []] 0),(1,.fptr (.str a.lot.Name::(kB a.lot.Yarn a.lot.Dye a.lot.Stock a.known a.hold.Lot a.hold.Order a.hold.Reserved a.hold.Taken a.free)) 0),(2,.fptr (kA b.Kind b.Day b.Lot b.Amount b.Yarn b.Dye b.Order) 0)]) rfl ?_
 refine sh fol [(0,.fptr [.func (.func 141) [] [],.func (.func 142) [] []] 0),(1,.fptr (.str a.lot.Name::(kB a.lot.Yarn a.lot.Dye a.lot.Stock a.known a.hold.Lot a.hold.Order a.hold.Reserved a.hold.Taken a.free)) 0),(2,.fptr (kA b.Kind b.Day b.Lot b.Amount b.Yarn b.Dye b.Order) 0)] ?_
 obtain⟨d,c,h⟩:=bnd h
 refine sq (gr fol [5] (kAu d) (ac (cv (qoN a b.Amount c)) az) ?_)
 refine Goes.ret ?_
 obtain rfl:=si h
 exact(gw2 [.bool d] (Ub tB))
def qgg (a:ql) (b:qw):Option Bool:=
 (qeI a b).bind fun c=>
 some (!c)
theorem qlm (a:ql) (b:qw) {res:Bool} (h:qgg a b=some res):qE ZT (.fn 177) [.func (.func 117) [] [.fptr [.func (.func 141) [] [],.func (.func 142) [] []] 0,.fptr (.str a.lot.Name::(kB a.lot.Yarn a.lot.Dye a.lot.Stock a.known a.hold.Lot a.hold.Order a.hold.Reserved a.hold.Taken a.free)) 0,.fptr (kA b.Kind b.Day b.Lot b.Amount b.Yarn b.Dye b.Order) 0]] [] (.bool res) []:=by
 unfold qgg at h
 refine Uc Tryz.func177 rfl rfl (m:=6) rfl (rs:=[.tmp 2]) rfl (l:=[(0,.func (.func 117) [] [.fptr [.func (.func 141) [] [],.func (.func 142) [] []] 0,.fptr (.str a.lot.Name::(kB a.lot.Yarn a.lot.Dye a.lot.Stock a.known a.hold.Lot a.hold.Order a.hold.Reserved a.hold.Taken a.free)) 0,.fptr (kA b.Kind b.Day b.Lot b.Amount b.Yarn b.Dye b.Order) 0])]) rfl ?_
 refine sh fol [(0,.func (.func 117) [] [.fptr [.func (.func 141) [] [],.func (.func 142) [] []] 0,.fptr (.str a.lot.Name::(kB a.lot.Yarn a.lot.Dye a.lot.Stock a.known a.hold.Lot a.hold.Order a.hold.Reserved a.hold.Taken a.free)) 0,.fptr (kA b.Kind b.Day b.Lot b.Amount b.Yarn b.Dye b.Order) 0])] ?_
 obtain⟨d,c,h⟩:=bnd h
 refine sq (gr fol [1] (kAV (!d)) (ac (hs (.call 117 [.fptr [.func (.func 141) [] [],.func (.func 142) [] []] 0,.fptr (.str a.lot.Name::(kB a.lot.Yarn a.lot.Dye a.lot.Stock a.known a.hold.Lot a.hold.Order a.hold.Reserved a.hold.Taken a.free)) 0,.fptr (kA b.Kind b.Day b.Lot b.Amount b.Yarn b.Dye b.Order) 0] [] [] [.fptr [.func (.func 141) [] [],.func (.func 142) [] []] 0,.fptr (.str a.lot.Name::(kB a.lot.Yarn a.lot.Dye a.lot.Stock a.known a.hold.Lot a.hold.Order a.hold.Reserved a.hold.Taken a.free)) 0,.fptr (kA b.Kind b.Day b.Lot b.Amount b.Yarn b.Dye b.Order) 0] (.bool d)) (jf (FzL.cons (Ua (Still.fptr (AllST.cons (Still.func AllST.nil AllST.nil) (AllST.cons (Still.func AllST.nil AllST.nil) AllST.nil)))) (FzL.cons (Ua (Still.fptr (AllST.cons tS (AllST.cons tS (AllST.cons tS (AllST.cons tI (AllST.cons tB (AllST.cons tS (AllST.cons tS (AllST.cons tI (AllST.cons tI (AllST.cons tI AllST.nil)))))))))))) (FzL.cons (Ua (Still.fptr (AllST.cons tS (AllST.cons tI (AllST.cons tS (AllST.cons tI (AllST.cons tS (AllST.cons tS (AllST.cons tS AllST.nil))))))))) FzL.nil))) (qjl a b c) tB)) az) ?_)
 refine Goes.ret ?_
 obtain rfl:=si h
 exact(gw2 [.bool (!d)] (Ub tB))
def qeP (b:ql) (c:qw):Option Bool:=
 (qfU b c.Amount).bind fun a=>
 some (decide ((if a.hold.Taken>a.lot.Stock then a.hold.Taken else a.lot.Stock)<=999999999))
theorem qjr (a:ql) (b:qw) {res:Bool} (h:qeP a b=some res):qE ZT (.fn 118) [.fptr [.func (.func 141) [] [],.func (.func 142) [] []] 0,.fptr (.str a.lot.Name::(kB a.lot.Yarn a.lot.Dye a.lot.Stock a.known a.hold.Lot a.hold.Order a.hold.Reserved a.hold.Taken a.free)) 0,.fptr (kA b.Kind b.Day b.Lot b.Amount b.Yarn b.Dye b.Order) 0] [] (.bool res) []:=by
 unfold qeP at h
 refine Uc Tryz.func118 rfl rfl (m:=19) rfl (rs:=[.tmp 3]) rfl (l:=[(0,.fptr [.func (.func 141) [] [],.func (.func 142) [] []] 0),(1,.fptr (.str a.lot.Name::(kB a.lot.Yarn a.lot.Dye a.lot.Stock a.known a.hold.Lot a.hold.Order a.hold.Reserved a.hold.Taken a.free)) 0),(2,.fptr (kA b.Kind b.Day b.Lot b.Amount b.Yarn b.Dye b.Order) 0)]) rfl ?_
 refine sh fol [(0,.fptr [.func (.func 141) [] [],.func (.func 142) [] []] 0),(1,.fptr (.str a.lot.Name::(kB a.lot.Yarn a.lot.Dye a.lot.Stock a.known a.hold.Lot a.hold.Order a.hold.Reserved a.hold.Taken a.free)) 0),(2,.fptr (kA b.Kind b.Day b.Lot b.Amount b.Yarn b.Dye b.Order) 0)] ?_
 obtain⟨c,d,h⟩:=bnd h
 refine sq (gq fol [5] (kAH []) (kC c.lot.Name c.lot.Yarn c.lot.Dye c.lot.Stock c.known c.hold.Lot c.hold.Order c.hold.Reserved c.hold.Taken c.free []) (ac (cv (qkk a b.Amount d)) az) ?_)
 refine sh fol (kAu (decide ((if c.hold.Taken>c.lot.Stock then c.hold.Taken else c.lot.Stock)<=999999999))) ?_
 refine Goes.ret ?_
 obtain rfl:=si h
 exact(gw2 [.bool (decide ((if c.hold.Taken>c.lot.Stock then c.hold.Taken else c.lot.Stock)<=999999999))] (Ub tB))
def qgb (a:ql) (b:qw):Option Bool:=
 (qeP a b).bind fun c=>
 some (!c)
theorem qlj (a:ql) (b:qw) {res:Bool} (h:qgb a b=some res):qE ZT (.fn 177) [.func (.func 118) [] [.fptr [.func (.func 141) [] [],.func (.func 142) [] []] 0,.fptr (.str a.lot.Name::(kB a.lot.Yarn a.lot.Dye a.lot.Stock a.known a.hold.Lot a.hold.Order a.hold.Reserved a.hold.Taken a.free)) 0,.fptr (kA b.Kind b.Day b.Lot b.Amount b.Yarn b.Dye b.Order) 0]] [] (.bool res) []:=by
 unfold qgb at h
 refine Uc Tryz.func177 rfl rfl (m:=6) rfl (rs:=[.tmp 2]) rfl (l:=[(0,.func (.func 118) [] [.fptr [.func (.func 141) [] [],.func (.func 142) [] []] 0,.fptr (.str a.lot.Name::(kB a.lot.Yarn a.lot.Dye a.lot.Stock a.known a.hold.Lot a.hold.Order a.hold.Reserved a.hold.Taken a.free)) 0,.fptr (kA b.Kind b.Day b.Lot b.Amount b.Yarn b.Dye b.Order) 0])]) rfl ?_
 refine sh fol [(0,.func (.func 118) [] [.fptr [.func (.func 141) [] [],.func (.func 142) [] []] 0,.fptr (.str a.lot.Name::(kB a.lot.Yarn a.lot.Dye a.lot.Stock a.known a.hold.Lot a.hold.Order a.hold.Reserved a.hold.Taken a.free)) 0,.fptr (kA b.Kind b.Day b.Lot b.Amount b.Yarn b.Dye b.Order) 0])] ?_
 obtain⟨d,c,h⟩:=bnd h
 refine sq (gr fol [1] (kAV (!d)) (ac (hs (.call 118 [.fptr [.func (.func 141) [] [],.func (.func 142) [] []] 0,.fptr (.str a.lot.Name::(kB a.lot.Yarn a.lot.Dye a.lot.Stock a.known a.hold.Lot a.hold.Order a.hold.Reserved a.hold.Taken a.free)) 0,.fptr (kA b.Kind b.Day b.Lot b.Amount b.Yarn b.Dye b.Order) 0] [] [] [.fptr [.func (.func 141) [] [],.func (.func 142) [] []] 0,.fptr (.str a.lot.Name::(kB a.lot.Yarn a.lot.Dye a.lot.Stock a.known a.hold.Lot a.hold.Order a.hold.Reserved a.hold.Taken a.free)) 0,.fptr (kA b.Kind b.Day b.Lot b.Amount b.Yarn b.Dye b.Order) 0] (.bool d)) (jf (FzL.cons (Ua (Still.fptr (AllST.cons (Still.func AllST.nil AllST.nil) (AllST.cons (Still.func AllST.nil AllST.nil) AllST.nil)))) (FzL.cons (Ua (Still.fptr (AllST.cons tS (AllST.cons tS (AllST.cons tS (AllST.cons tI (AllST.cons tB (AllST.cons tS (AllST.cons tS (AllST.cons tI (AllST.cons tI (AllST.cons tI AllST.nil)))))))))))) (FzL.cons (Ua (Still.fptr (AllST.cons tS (AllST.cons tI (AllST.cons tS (AllST.cons tI (AllST.cons tS (AllST.cons tS (AllST.cons tS AllST.nil))))))))) FzL.nil))) (qjr a b c) tB)) az) ?_)
 refine Goes.ret ?_
 obtain rfl:=si h
 exact(gw2 [.bool (!d)] (Ub tB))
def yu (N:Nat) (a:qw) (d:StateT) (b:ql):Nat->Int->Option (Unit⊕Int)
 |0,_=>none
 |K+1,c=>
  if c<5 then
  (if c=0 then
  (xL a d).bind fun i=>
  some i
  else
  if c=1 then
  (yO a b).bind fun j=>
  some j
  else
  if c=2 then
  (qgg b a).bind fun e=>
  some e
  else
  if c=3 then
  (qgb b a).bind fun f=>
  some f
  else
  if c=4 then
  (xQ N d a).bind fun g=>
  some g
  else
  none:Option Bool).bind fun h=>
  if h=true then
  some (.inr c)
  else
  yu N a d b K (w64 (c+1))
  else
  some (.inl ())
def qcj (N:Nat) (a:qw) (b:StateT) (c:ql):Option Int:=
 (yu N a b c N 0).bind (fun
 |(.inl ())=>
 some (-1)
 |(.inr d)=>
 some d)
theorem qiq (N:Nat) (a:qw) (c:StateT) (b:ql) {res:Int} (h:qcj N a c b=some res):qE ZT (.fn 176) [.fslice 5 (qhM a c b),.func (.func 177) [] []] [] (.i res) []:=by
 unfold qcj at h
 refine Uc Tryz.func176 rfl rfl (m:=19) rfl (rs:=[.tmp 4]) rfl (l:=[(0,.fslice 5 (qhM a c b)),(1,.func (.func 177) [] [])]) rfl ?_
 refine sh fol [(0,.fslice 5 (qhM a c b)),(1,.func (.func 177) [] [])] ?_
 refine sq ?_
 refine sh fol ((0,.fslice 5 (qhM a c b))::(1,.func (.func 177) [] [])::kA1) ?_
 refine Goes.block ?_
 obtain⟨u,g2,h⟩:=bnd h
 refine Goes.imp (Q:=fun x s'=>(x= .exit 0/\(.inl ())=u/\Sub s' (ofG 19 [],[]))\/(x= .ret/\ ∃y,(.inr y)=u/\jT ZT [.tmp 4] (.i y) .ret s')) ?_ ?_
 ·refine Ud (fun M s=> ∃(e:Int),s=(ofG 19 ((0,.fslice 5 (qhM a c b))::(1,.func (.func 177) [] [])::(kAF e)),[])/\yu N a c b M e=some u) ?_ (m:=N) ⟨_,rfl,g2⟩
  rintro M s ⟨e,rfl,g2⟩
  cases M with
  |zero=>simp only[yu]at g2;cases g2
  |succ M=>
   rw[yu]at g2
   refine sh fol ((0,.fslice 5 (qhM a c b))::(1,.func (.func 177) [] [])::(7,.i 5)::(kAg e (decide (e<5)))) ?_
   refine sq ?_
   refine ihD g2 (fun E g2=>?_) (fun E g2=>?_)
   ·refine Goes.skip ?_
    refine sq (Goes.block ?_)
    refine sh fol ((0,.fslice 5 (qhM a c b))::(1,.func (.func 177) [] [])::(5,.i e)::(kAF e)) ?_
    refine sq ?_
    obtain⟨v,d,g2⟩:=bnd g2
    refine Goes.cut (s':=(ofG 19 ((0,.fslice 5 (qhM a c b))::(1,.func (.func 177) [] [])::(kK e v)),[])) ?_ ?_
    ·rcases wyD d with⟨z,d⟩|⟨z,d⟩
     ·obtain⟨A,k,d⟩:=bnd d
      obtain rfl:=si d
      exact tr fol [3,5] ((0,.fslice 5 (qhM a c b))::(1,.func (.func 177) [] [])::(kK e A)) (ac (hs (.done (.opt (qP ZT 221 (.fslice 5 (qhM a c b)) (.i e))) (.fptr [.func (.func 115) [] [.fptr (kA a.Kind a.Day a.Lot a.Amount a.Yarn a.Dye a.Order) 0,.fptr (kG c.Day c.Lots c.Holds) 0],.func (.func 116) [] [.fptr (kA a.Kind a.Day a.Lot a.Amount a.Yarn a.Dye a.Order) 0,.fptr (.str b.lot.Name::(kB b.lot.Yarn b.lot.Dye b.lot.Stock b.known b.hold.Lot b.hold.Order b.hold.Reserved b.hold.Taken b.free)) 0],.func (.func 117) [] [.fptr [.func (.func 141) [] [],.func (.func 142) [] []] 0,.fptr (.str b.lot.Name::(kB b.lot.Yarn b.lot.Dye b.lot.Stock b.known b.hold.Lot b.hold.Order b.hold.Reserved b.hold.Taken b.free)) 0,.fptr (kA a.Kind a.Day a.Lot a.Amount a.Yarn a.Dye a.Order) 0],.func (.func 118) [] [.fptr [.func (.func 141) [] [],.func (.func 142) [] []] 0,.fptr (.str b.lot.Name::(kB b.lot.Yarn b.lot.Dye b.lot.Stock b.known b.hold.Lot b.hold.Order b.hold.Reserved b.hold.Taken b.free)) 0,.fptr (kA a.Kind a.Day a.Lot a.Amount a.Yarn a.Dye a.Order) 0],.func (.func 119) [] [.fptr (kG c.Day c.Lots c.Holds) 0,.fptr (kA a.Kind a.Day a.Lot a.Amount a.Yarn a.Dye a.Order) 0]] 0)) (ixA (ot z) (by kernel_rfl))) (ac (hs (.call 177 [.func (.func 115) [] [.fptr (kA a.Kind a.Day a.Lot a.Amount a.Yarn a.Dye a.Order) 0,.fptr (kG c.Day c.Lots c.Holds) 0]] [] [] [.func (.func 115) [] [.fptr (kA a.Kind a.Day a.Lot a.Amount a.Yarn a.Dye a.Order) 0,.fptr (kG c.Day c.Lots c.Holds) 0]] (.bool A)) (jf (FzL.cons (Fz.func FzL.nil (FzL.cons (Ua (Still.fptr (AllST.cons tS (AllST.cons tI (AllST.cons tS (AllST.cons tI (AllST.cons tS (AllST.cons tS (AllST.cons tS AllST.nil))))))))) (FzL.cons (Ua (Still.fptr (AllST.cons tI (AllST.cons (qG qo _ (nl rfl)) (AllST.cons (qG qg _ (nl rfl)) AllST.nil))))) FzL.nil))) FzL.nil) (qcN a c k) tB)) az))
     rcases wyD d with⟨B,d⟩|⟨B,d⟩
     ·obtain⟨C,n,d⟩:=bnd d
      obtain rfl:=si d
      exact tr fol [3,5] ((0,.fslice 5 (qhM a c b))::(1,.func (.func 177) [] [])::(kK e C)) (ac (hs (.done (.opt (qP ZT 221 (.fslice 5 (qhM a c b)) (.i e))) (.fptr [.func (.func 115) [] [.fptr (kA a.Kind a.Day a.Lot a.Amount a.Yarn a.Dye a.Order) 0,.fptr (kG c.Day c.Lots c.Holds) 0],.func (.func 116) [] [.fptr (kA a.Kind a.Day a.Lot a.Amount a.Yarn a.Dye a.Order) 0,.fptr (.str b.lot.Name::(kB b.lot.Yarn b.lot.Dye b.lot.Stock b.known b.hold.Lot b.hold.Order b.hold.Reserved b.hold.Taken b.free)) 0],.func (.func 117) [] [.fptr [.func (.func 141) [] [],.func (.func 142) [] []] 0,.fptr (.str b.lot.Name::(kB b.lot.Yarn b.lot.Dye b.lot.Stock b.known b.hold.Lot b.hold.Order b.hold.Reserved b.hold.Taken b.free)) 0,.fptr (kA a.Kind a.Day a.Lot a.Amount a.Yarn a.Dye a.Order) 0],.func (.func 118) [] [.fptr [.func (.func 141) [] [],.func (.func 142) [] []] 0,.fptr (.str b.lot.Name::(kB b.lot.Yarn b.lot.Dye b.lot.Stock b.known b.hold.Lot b.hold.Order b.hold.Reserved b.hold.Taken b.free)) 0,.fptr (kA a.Kind a.Day a.Lot a.Amount a.Yarn a.Dye a.Order) 0],.func (.func 119) [] [.fptr (kG c.Day c.Lots c.Holds) 0,.fptr (kA a.Kind a.Day a.Lot a.Amount a.Yarn a.Dye a.Order) 0]] 1)) (ixA (ot B) (by kernel_rfl))) (ac (hs (.call 177 [.func (.func 116) [] [.fptr (kA a.Kind a.Day a.Lot a.Amount a.Yarn a.Dye a.Order) 0,.fptr (.str b.lot.Name::(kB b.lot.Yarn b.lot.Dye b.lot.Stock b.known b.hold.Lot b.hold.Order b.hold.Reserved b.hold.Taken b.free)) 0]] [] [] [.func (.func 116) [] [.fptr (kA a.Kind a.Day a.Lot a.Amount a.Yarn a.Dye a.Order) 0,.fptr (.str b.lot.Name::(kB b.lot.Yarn b.lot.Dye b.lot.Stock b.known b.hold.Lot b.hold.Order b.hold.Reserved b.hold.Taken b.free)) 0]] (.bool C)) (jf (FzL.cons (Fz.func FzL.nil (FzL.cons (Ua (Still.fptr (AllST.cons tS (AllST.cons tI (AllST.cons tS (AllST.cons tI (AllST.cons tS (AllST.cons tS (AllST.cons tS AllST.nil))))))))) (FzL.cons (Ua (Still.fptr (AllST.cons tS (AllST.cons tS (AllST.cons tS (AllST.cons tI (AllST.cons tB (AllST.cons tS (AllST.cons tS (AllST.cons tI (AllST.cons tI (AllST.cons tI AllST.nil)))))))))))) FzL.nil))) FzL.nil) (qcT a b n) tB)) az))
     rcases wyD d with⟨D,d⟩|⟨D,d⟩
     ·obtain⟨o,f,d⟩:=bnd d
      obtain rfl:=si d
      exact tr fol [3,5] ((0,.fslice 5 (qhM a c b))::(1,.func (.func 177) [] [])::(kK e o)) (ac (hs (.done (.opt (qP ZT 221 (.fslice 5 (qhM a c b)) (.i e))) (.fptr [.func (.func 115) [] [.fptr (kA a.Kind a.Day a.Lot a.Amount a.Yarn a.Dye a.Order) 0,.fptr (kG c.Day c.Lots c.Holds) 0],.func (.func 116) [] [.fptr (kA a.Kind a.Day a.Lot a.Amount a.Yarn a.Dye a.Order) 0,.fptr (.str b.lot.Name::(kB b.lot.Yarn b.lot.Dye b.lot.Stock b.known b.hold.Lot b.hold.Order b.hold.Reserved b.hold.Taken b.free)) 0],.func (.func 117) [] [.fptr [.func (.func 141) [] [],.func (.func 142) [] []] 0,.fptr (.str b.lot.Name::(kB b.lot.Yarn b.lot.Dye b.lot.Stock b.known b.hold.Lot b.hold.Order b.hold.Reserved b.hold.Taken b.free)) 0,.fptr (kA a.Kind a.Day a.Lot a.Amount a.Yarn a.Dye a.Order) 0],.func (.func 118) [] [.fptr [.func (.func 141) [] [],.func (.func 142) [] []] 0,.fptr (.str b.lot.Name::(kB b.lot.Yarn b.lot.Dye b.lot.Stock b.known b.hold.Lot b.hold.Order b.hold.Reserved b.hold.Taken b.free)) 0,.fptr (kA a.Kind a.Day a.Lot a.Amount a.Yarn a.Dye a.Order) 0],.func (.func 119) [] [.fptr (kG c.Day c.Lots c.Holds) 0,.fptr (kA a.Kind a.Day a.Lot a.Amount a.Yarn a.Dye a.Order) 0]] 2)) (ixA (ot D) (by kernel_rfl))) (ac (hs (.call 177 [.func (.func 117) [] [.fptr [.func (.func 141) [] [],.func (.func 142) [] []] 0,.fptr (.str b.lot.Name::(kB b.lot.Yarn b.lot.Dye b.lot.Stock b.known b.hold.Lot b.hold.Order b.hold.Reserved b.hold.Taken b.free)) 0,.fptr (kA a.Kind a.Day a.Lot a.Amount a.Yarn a.Dye a.Order) 0]] [] [] [.func (.func 117) [] [.fptr [.func (.func 141) [] [],.func (.func 142) [] []] 0,.fptr (.str b.lot.Name::(kB b.lot.Yarn b.lot.Dye b.lot.Stock b.known b.hold.Lot b.hold.Order b.hold.Reserved b.hold.Taken b.free)) 0,.fptr (kA a.Kind a.Day a.Lot a.Amount a.Yarn a.Dye a.Order) 0]] (.bool o)) (jf (FzL.cons (Fz.func FzL.nil (FzL.cons (Ua (Still.fptr (AllST.cons (Still.func AllST.nil AllST.nil) (AllST.cons (Still.func AllST.nil AllST.nil) AllST.nil)))) (FzL.cons (Ua (Still.fptr (AllST.cons tS (AllST.cons tS (AllST.cons tS (AllST.cons tI (AllST.cons tB (AllST.cons tS (AllST.cons tS (AllST.cons tI (AllST.cons tI (AllST.cons tI AllST.nil)))))))))))) (FzL.cons (Ua (Still.fptr (AllST.cons tS (AllST.cons tI (AllST.cons tS (AllST.cons tI (AllST.cons tS (AllST.cons tS (AllST.cons tS AllST.nil))))))))) FzL.nil)))) FzL.nil) (qlm b a f) tB)) az))
     rcases wyD d with⟨p,d⟩|⟨p,d⟩
     ·obtain⟨q,g,d⟩:=bnd d
      obtain rfl:=si d
      exact tr fol [3,5] ((0,.fslice 5 (qhM a c b))::(1,.func (.func 177) [] [])::(kK e q)) (ac (hs (.done (.opt (qP ZT 221 (.fslice 5 (qhM a c b)) (.i e))) (.fptr [.func (.func 115) [] [.fptr (kA a.Kind a.Day a.Lot a.Amount a.Yarn a.Dye a.Order) 0,.fptr (kG c.Day c.Lots c.Holds) 0],.func (.func 116) [] [.fptr (kA a.Kind a.Day a.Lot a.Amount a.Yarn a.Dye a.Order) 0,.fptr (.str b.lot.Name::(kB b.lot.Yarn b.lot.Dye b.lot.Stock b.known b.hold.Lot b.hold.Order b.hold.Reserved b.hold.Taken b.free)) 0],.func (.func 117) [] [.fptr [.func (.func 141) [] [],.func (.func 142) [] []] 0,.fptr (.str b.lot.Name::(kB b.lot.Yarn b.lot.Dye b.lot.Stock b.known b.hold.Lot b.hold.Order b.hold.Reserved b.hold.Taken b.free)) 0,.fptr (kA a.Kind a.Day a.Lot a.Amount a.Yarn a.Dye a.Order) 0],.func (.func 118) [] [.fptr [.func (.func 141) [] [],.func (.func 142) [] []] 0,.fptr (.str b.lot.Name::(kB b.lot.Yarn b.lot.Dye b.lot.Stock b.known b.hold.Lot b.hold.Order b.hold.Reserved b.hold.Taken b.free)) 0,.fptr (kA a.Kind a.Day a.Lot a.Amount a.Yarn a.Dye a.Order) 0],.func (.func 119) [] [.fptr (kG c.Day c.Lots c.Holds) 0,.fptr (kA a.Kind a.Day a.Lot a.Amount a.Yarn a.Dye a.Order) 0]] 3)) (ixA (ot p) (by kernel_rfl))) (ac (hs (.call 177 [.func (.func 118) [] [.fptr [.func (.func 141) [] [],.func (.func 142) [] []] 0,.fptr (.str b.lot.Name::(kB b.lot.Yarn b.lot.Dye b.lot.Stock b.known b.hold.Lot b.hold.Order b.hold.Reserved b.hold.Taken b.free)) 0,.fptr (kA a.Kind a.Day a.Lot a.Amount a.Yarn a.Dye a.Order) 0]] [] [] [.func (.func 118) [] [.fptr [.func (.func 141) [] [],.func (.func 142) [] []] 0,.fptr (.str b.lot.Name::(kB b.lot.Yarn b.lot.Dye b.lot.Stock b.known b.hold.Lot b.hold.Order b.hold.Reserved b.hold.Taken b.free)) 0,.fptr (kA a.Kind a.Day a.Lot a.Amount a.Yarn a.Dye a.Order) 0]] (.bool q)) (jf (FzL.cons (Fz.func FzL.nil (FzL.cons (Ua (Still.fptr (AllST.cons (Still.func AllST.nil AllST.nil) (AllST.cons (Still.func AllST.nil AllST.nil) AllST.nil)))) (FzL.cons (Ua (Still.fptr (AllST.cons tS (AllST.cons tS (AllST.cons tS (AllST.cons tI (AllST.cons tB (AllST.cons tS (AllST.cons tS (AllST.cons tI (AllST.cons tI (AllST.cons tI AllST.nil)))))))))))) (FzL.cons (Ua (Still.fptr (AllST.cons tS (AllST.cons tI (AllST.cons tS (AllST.cons tI (AllST.cons tS (AllST.cons tS (AllST.cons tS AllST.nil))))))))) FzL.nil)))) FzL.nil) (qlj b a g) tB)) az))
     rcases wyD d with⟨r,d⟩|⟨r,d⟩
     ·obtain⟨t,j,d⟩:=bnd d
      obtain rfl:=si d
      exact tr fol [3,5] ((0,.fslice 5 (qhM a c b))::(1,.func (.func 177) [] [])::(kK e t)) (ac (hs (.done (.opt (qP ZT 221 (.fslice 5 (qhM a c b)) (.i e))) (.fptr [.func (.func 115) [] [.fptr (kA a.Kind a.Day a.Lot a.Amount a.Yarn a.Dye a.Order) 0,.fptr (kG c.Day c.Lots c.Holds) 0],.func (.func 116) [] [.fptr (kA a.Kind a.Day a.Lot a.Amount a.Yarn a.Dye a.Order) 0,.fptr (.str b.lot.Name::(kB b.lot.Yarn b.lot.Dye b.lot.Stock b.known b.hold.Lot b.hold.Order b.hold.Reserved b.hold.Taken b.free)) 0],.func (.func 117) [] [.fptr [.func (.func 141) [] [],.func (.func 142) [] []] 0,.fptr (.str b.lot.Name::(kB b.lot.Yarn b.lot.Dye b.lot.Stock b.known b.hold.Lot b.hold.Order b.hold.Reserved b.hold.Taken b.free)) 0,.fptr (kA a.Kind a.Day a.Lot a.Amount a.Yarn a.Dye a.Order) 0],.func (.func 118) [] [.fptr [.func (.func 141) [] [],.func (.func 142) [] []] 0,.fptr (.str b.lot.Name::(kB b.lot.Yarn b.lot.Dye b.lot.Stock b.known b.hold.Lot b.hold.Order b.hold.Reserved b.hold.Taken b.free)) 0,.fptr (kA a.Kind a.Day a.Lot a.Amount a.Yarn a.Dye a.Order) 0],.func (.func 119) [] [.fptr (kG c.Day c.Lots c.Holds) 0,.fptr (kA a.Kind a.Day a.Lot a.Amount a.Yarn a.Dye a.Order) 0]] 4)) (ixA (ot r) (by kernel_rfl))) (ac (hs (.call 177 [.func (.func 119) [] [.fptr (kG c.Day c.Lots c.Holds) 0,.fptr (kA a.Kind a.Day a.Lot a.Amount a.Yarn a.Dye a.Order) 0]] [] [] [.func (.func 119) [] [.fptr (kG c.Day c.Lots c.Holds) 0,.fptr (kA a.Kind a.Day a.Lot a.Amount a.Yarn a.Dye a.Order) 0]] (.bool t)) (jf (FzL.cons (Fz.func FzL.nil (FzL.cons (Ua (Still.fptr (AllST.cons tI (AllST.cons (qG qo _ (nl rfl)) (AllST.cons (qG qg _ (nl rfl)) AllST.nil))))) (FzL.cons (Ua (Still.fptr (AllST.cons tS (AllST.cons tI (AllST.cons tS (AllST.cons tI (AllST.cons tS (AllST.cons tS (AllST.cons tS AllST.nil))))))))) FzL.nil))) FzL.nil) (qcU N c a j) tB)) az))
     cases d
    refine ihB g2 (fun w g2=>?_) (fun w g2=>?_)
    ·refine sh fol (kAn e) ?_
     refine Goes.ret ?_
     obtain rfl:=si g2
     exact Or.inr (⟨rfl,_,rfl,(gw2 [.i e] (Ub tI))⟩)
    refine Goes.skip ?_
    refine gh fol ((0,.fslice 5 (qhM a c b))::(1,.func (.func 177) [] [])::(kAF (w64 (e+1)))) ?_
    exact⟨M,(ofG 19 ((0,.fslice 5 (qhM a c b))::(1,.func (.func 177) [] [])::(kAF (w64 (e+1)))),[]),Nat.lt_succ_self _,(Sub.refl _),_,rfl,g2⟩
   refine Goes.exit ?_
   obtain rfl:=si g2
   exact Or.inl (⟨rfl,rfl,(Sub.keep [] rfl rfl)⟩)
 rintro x s' (⟨rfl,rfl,hsub⟩|⟨rfl,F,rfl,hret⟩)
 ·try dsimp only at h
  refine Goes.sub hsub ?_
  refine sh fol kAq ?_
  refine Goes.ret ?_
  obtain rfl:=si h
  exact(gw2 [.i (-1)] (Ub tI))
 try dsimp only at h
 obtain rfl:=si h
 exact hret
def qgT (N:Nat) (a:qw) (b:StateT) (c:ql):Option Int:=
 (qcj N a b c).bind fun d=>
 some (w64 (1+d))
theorem qok (N:Nat) (a:qw) (b:StateT) (c:ql) {res:Int} (h:qgT N a b c=some res):qE ZT (.fn 114) [.fslice 5 (qhM a b c)] [] (.i res) []:=by
 unfold qgT at h
 refine Uc Tryz.func114 rfl rfl (m:=6) rfl (rs:=[.tmp 2]) rfl (l:=[(0,.fslice 5 (qhM a b c))]) rfl ?_
 refine sh fol [(0,.fslice 5 (qhM a b c))] ?_
 obtain⟨e,d,h⟩:=bnd h
 refine sq (gr fol [1] (kAt (w64 (1+e))) (ac (hs (.call 176 [.fslice 5 (qhM a b c),.func (.func 177) [] []] [] [] [.fslice 5 (qhM a b c),.func (.func 177) [] []] (.i e)) (jf (FzL.cons (Ua (Still.fslice (AllST.cons (Still.func AllST.nil (AllST.cons (Still.fptr (AllST.cons tS (AllST.cons tI (AllST.cons tS (AllST.cons tI (AllST.cons tS (AllST.cons tS (AllST.cons tS AllST.nil)))))))) (AllST.cons (Still.fptr (AllST.cons tI (AllST.cons (qG qo _ (nl rfl)) (AllST.cons (qG qg _ (nl rfl)) AllST.nil)))) AllST.nil))) (AllST.cons (Still.func AllST.nil (AllST.cons (Still.fptr (AllST.cons tS (AllST.cons tI (AllST.cons tS (AllST.cons tI (AllST.cons tS (AllST.cons tS (AllST.cons tS AllST.nil)))))))) (AllST.cons (Still.fptr (AllST.cons tS (AllST.cons tS (AllST.cons tS (AllST.cons tI (AllST.cons tB (AllST.cons tS (AllST.cons tS (AllST.cons tI (AllST.cons tI (AllST.cons tI AllST.nil))))))))))) AllST.nil))) (AllST.cons (Still.func AllST.nil (AllST.cons (Still.fptr (AllST.cons (Still.func AllST.nil AllST.nil) (AllST.cons (Still.func AllST.nil AllST.nil) AllST.nil))) (AllST.cons (Still.fptr (AllST.cons tS (AllST.cons tS (AllST.cons tS (AllST.cons tI (AllST.cons tB (AllST.cons tS (AllST.cons tS (AllST.cons tI (AllST.cons tI (AllST.cons tI AllST.nil))))))))))) (AllST.cons (Still.fptr (AllST.cons tS (AllST.cons tI (AllST.cons tS (AllST.cons tI (AllST.cons tS (AllST.cons tS (AllST.cons tS AllST.nil)))))))) AllST.nil)))) (AllST.cons (Still.func AllST.nil (AllST.cons (Still.fptr (AllST.cons (Still.func AllST.nil AllST.nil) (AllST.cons (Still.func AllST.nil AllST.nil) AllST.nil))) (AllST.cons (Still.fptr (AllST.cons tS (AllST.cons tS (AllST.cons tS (AllST.cons tI (AllST.cons tB (AllST.cons tS (AllST.cons tS (AllST.cons tI (AllST.cons tI (AllST.cons tI AllST.nil))))))))))) (AllST.cons (Still.fptr (AllST.cons tS (AllST.cons tI (AllST.cons tS (AllST.cons tI (AllST.cons tS (AllST.cons tS (AllST.cons tS AllST.nil)))))))) AllST.nil)))) (AllST.cons (Still.func AllST.nil (AllST.cons (Still.fptr (AllST.cons tI (AllST.cons (qG qo _ (nl rfl)) (AllST.cons (qG qg _ (nl rfl)) AllST.nil)))) (AllST.cons (Still.fptr (AllST.cons tS (AllST.cons tI (AllST.cons tS (AllST.cons tI (AllST.cons tS (AllST.cons tS (AllST.cons tS AllST.nil)))))))) AllST.nil))) AllST.nil))))))) (FzL.cons (Fz.func FzL.nil FzL.nil) FzL.nil)) (qiq N a b c d) tI)) az) ?_)
 refine Goes.ret ?_
 obtain rfl:=si h
 exact(gw2 [.i (w64 (1+e))] (Ub tI))
def qdz (N:Nat) (a:StateT) (e:qw):Option Int:=
 (zR N a e).bind fun b=>
 (qd0).bind fun i=>
 if(e.Kind==[114,101,99,101,105,118,101])=true then
 (qgv N e a b).bind fun g=>
 some g
 else
 if(e.Kind==[114,101,115,101,114,118,101])=true then
 (qgL N e a b).bind fun h=>
 some h
 else
 if(e.Kind==[114,101,108,101,97,115,101])=true then
 (qgx N e a b).bind fun c=>
 some c
 else
 if(e.Kind==[116,97,107,101])=true then
 (qgR N e a b).bind fun d=>
 some d
 else
 if(e.Kind==[114,101,116,117,114,110])=true then
 (qgT N e a b).bind fun f=>
 some f
 else
 none
theorem qhW (N:Nat) (b:StateT) (e:qw) {res:Int} (h:qdz N b e=some res):qE ZT (.fn 57) (kY b.Day b.Lots b.Holds [.agg [.str e.Kind,.i e.Day,.str e.Lot,.i e.Amount,.str e.Yarn,.str e.Dye,.str e.Order]]) [] (.i res) []:=by
 unfold qdz at h
 refine Uc Tryz.func57 rfl rfl (m:=21) rfl (rs:=[.tmp 4]) rfl (l:=(kAA b.Day b.Lots b.Holds (kAz e.Kind e.Day e.Lot e.Amount e.Yarn e.Dye e.Order))) rfl ?_
 refine sg fol (kL []) (kD b.Day b.Lots b.Holds (kE e.Kind e.Day e.Lot e.Amount e.Yarn e.Dye e.Order [])) ?_
 obtain⟨a,p,h⟩:=bnd h
 refine sq (gq fol [2] (kL [(5,.ptr 2 0)]) (kD b.Day b.Lots b.Holds (kE e.Kind e.Day e.Lot e.Amount e.Yarn e.Dye e.Order (kC a.lot.Name a.lot.Yarn a.lot.Dye a.lot.Stock a.known a.hold.Lot a.hold.Order a.hold.Reserved a.hold.Taken a.free []))) (ac (cv (qba N b e p)) az) ?_)
 refine sq ?_
 obtain⟨y,c,h⟩:=bnd h
 rcases wyB h with⟨o,h⟩|⟨o,h⟩
 ·refine gq fol [0,3] (kL (kAD [])) (kD b.Day b.Lots b.Holds (kE e.Kind e.Day e.Lot e.Amount e.Yarn e.Dye e.Order (kC a.lot.Name a.lot.Yarn a.lot.Dye a.lot.Stock a.known a.hold.Lot a.hold.Order a.hold.Reserved a.hold.Taken a.free [.cells [.func (.func 132) [] [],.func (.func 133) [] []]]))) (ac (cv (vR c)) (ac (hs (.done (qbk ZT 143 (fm1) (.str e.Kind) false) (.agg [.func (.func 132) [] [],.func (.func 133) [] []])) (qhu qh0 [[114,101,99,101,105,118,101],[114,101,115,101,114,118,101],[114,101,108,101,97,115,101],[116,97,107,101],[114,101,116,117,114,110]] (qb4 o) rfl)) az)) ?_
  obtain⟨u,q,h⟩:=bnd h
  refine sq (gq fol [6] (kAn u) (kD b.Day b.Lots b.Holds (kE e.Kind e.Day e.Lot e.Amount e.Yarn e.Dye e.Order (kC a.lot.Name a.lot.Yarn a.lot.Dye a.lot.Stock a.known a.hold.Lot a.hold.Order a.hold.Reserved a.hold.Taken a.free [.cells [.func (.func 132) [] [],.func (.func 133) [] []],.cells [.func (.func 115) [] [.ptr 1 0,.ptr 0 0],.func (.func 116) [] [.ptr 1 0,.ptr 2 0],.func (.func 117) [] [.ptr 3 0,.ptr 2 0,.ptr 1 0],.func (.func 118) [] [.ptr 3 0,.ptr 2 0,.ptr 1 0],.func (.func 119) [] [.ptr 0 0,.ptr 1 0]]]))) (ac (hs (.call 114 [.slice 4 0 5 5 1] (kD b.Day b.Lots b.Holds (kE e.Kind e.Day e.Lot e.Amount e.Yarn e.Dye e.Order (kC a.lot.Name a.lot.Yarn a.lot.Dye a.lot.Stock a.known a.hold.Lot a.hold.Order a.hold.Reserved a.hold.Taken a.free [.cells [.func (.func 132) [] [],.func (.func 133) [] []],.cells [.func (.func 115) [] [.ptr 1 0,.ptr 0 0],.func (.func 116) [] [.ptr 1 0,.ptr 2 0],.func (.func 117) [] [.ptr 3 0,.ptr 2 0,.ptr 1 0],.func (.func 118) [] [.ptr 3 0,.ptr 2 0,.ptr 1 0],.func (.func 119) [] [.ptr 0 0,.ptr 1 0]]]))) [0,1,2,3,4] [.fslice 5 (qhP e b a)] (.i u)) (qcC (FzL.cons (Fz.lit rfl rfl (FzL.cons (Fz.func FzL.nil (FzL.cons (Fz.ptr rfl rfl (FzL.cons (Ua tS) (FzL.cons (Ua tI) (FzL.cons (Ua tS) (FzL.cons (Ua tI) (FzL.cons (Ua tS) (FzL.cons (Ua tS) (FzL.cons (Ua tS) FzL.nil)))))))) (FzL.cons (Fz.ptr rfl rfl (FzL.cons (Ua tI) (FzL.cons (Ua (qG qo _ (nl rfl))) (FzL.cons (Ua (qG qg _ (nl rfl))) FzL.nil)))) FzL.nil))) (FzL.cons (Fz.func FzL.nil (FzL.cons (Fz.ptr rfl rfl (FzL.cons (Ua tS) (FzL.cons (Ua tI) (FzL.cons (Ua tS) (FzL.cons (Ua tI) (FzL.cons (Ua tS) (FzL.cons (Ua tS) (FzL.cons (Ua tS) FzL.nil)))))))) (FzL.cons (Fz.ptr rfl rfl (FzL.cons (Ua tS) (FzL.cons (Ua tS) (FzL.cons (Ua tS) (FzL.cons (Ua tI) (FzL.cons (Ua tB) (FzL.cons (Ua tS) (FzL.cons (Ua tS) (FzL.cons (Ua tI) (FzL.cons (Ua tI) (FzL.cons (Ua tI) FzL.nil))))))))))) FzL.nil))) (FzL.cons (Fz.func FzL.nil (FzL.cons (Fz.ptr rfl rfl (FzL.cons (Fz.func FzL.nil FzL.nil) (FzL.cons (Fz.func FzL.nil FzL.nil) FzL.nil))) (FzL.cons (Fz.ptr rfl rfl (FzL.cons (Ua tS) (FzL.cons (Ua tS) (FzL.cons (Ua tS) (FzL.cons (Ua tI) (FzL.cons (Ua tB) (FzL.cons (Ua tS) (FzL.cons (Ua tS) (FzL.cons (Ua tI) (FzL.cons (Ua tI) (FzL.cons (Ua tI) FzL.nil))))))))))) (FzL.cons (Fz.ptr rfl rfl (FzL.cons (Ua tS) (FzL.cons (Ua tI) (FzL.cons (Ua tS) (FzL.cons (Ua tI) (FzL.cons (Ua tS) (FzL.cons (Ua tS) (FzL.cons (Ua tS) FzL.nil)))))))) FzL.nil)))) (FzL.cons (Fz.func FzL.nil (FzL.cons (Fz.ptr rfl rfl (FzL.cons (Fz.func FzL.nil FzL.nil) (FzL.cons (Fz.func FzL.nil FzL.nil) FzL.nil))) (FzL.cons (Fz.ptr rfl rfl (FzL.cons (Ua tS) (FzL.cons (Ua tS) (FzL.cons (Ua tS) (FzL.cons (Ua tI) (FzL.cons (Ua tB) (FzL.cons (Ua tS) (FzL.cons (Ua tS) (FzL.cons (Ua tI) (FzL.cons (Ua tI) (FzL.cons (Ua tI) FzL.nil))))))))))) (FzL.cons (Fz.ptr rfl rfl (FzL.cons (Ua tS) (FzL.cons (Ua tI) (FzL.cons (Ua tS) (FzL.cons (Ua tI) (FzL.cons (Ua tS) (FzL.cons (Ua tS) (FzL.cons (Ua tS) FzL.nil)))))))) FzL.nil)))) (FzL.cons (Fz.func FzL.nil (FzL.cons (Fz.ptr rfl rfl (FzL.cons (Ua tI) (FzL.cons (Ua (qG qo _ (nl rfl))) (FzL.cons (Ua (qG qg _ (nl rfl))) FzL.nil)))) (FzL.cons (Fz.ptr rfl rfl (FzL.cons (Ua tS) (FzL.cons (Ua tI) (FzL.cons (Ua tS) (FzL.cons (Ua tI) (FzL.cons (Ua tS) (FzL.cons (Ua tS) (FzL.cons (Ua tS) FzL.nil)))))))) FzL.nil))) FzL.nil)))))) FzL.nil) (qnZ N e b a q) tI rfl)) az) ?_)
  refine Goes.ret ?_
  obtain rfl:=si h
  exact(gw2 [.i u] (Ub tI))
 rcases wyB h with⟨r,h⟩|⟨r,h⟩
 ·refine gq fol [0,3] (kL (kAD [])) (kD b.Day b.Lots b.Holds (kE e.Kind e.Day e.Lot e.Amount e.Yarn e.Dye e.Order (kC a.lot.Name a.lot.Yarn a.lot.Dye a.lot.Stock a.known a.hold.Lot a.hold.Order a.hold.Reserved a.hold.Taken a.free [.cells [.func (.func 134) [] [],.func (.func 135) [] []]]))) (ac (cv (vR c)) (ac (hs (.done (qbk ZT 143 (fm1) (.str e.Kind) false) (.agg [.func (.func 134) [] [],.func (.func 135) [] []])) (qhu qh0 [[114,101,99,101,105,118,101],[114,101,115,101,114,118,101],[114,101,108,101,97,115,101],[116,97,107,101],[114,101,116,117,114,110]] (zi o (qb4 r)) rfl)) az)) ?_
  obtain⟨v,s,h⟩:=bnd h
  refine sq (gq fol [6] (kAn v) (kD b.Day b.Lots b.Holds (kE e.Kind e.Day e.Lot e.Amount e.Yarn e.Dye e.Order (kC a.lot.Name a.lot.Yarn a.lot.Dye a.lot.Stock a.known a.hold.Lot a.hold.Order a.hold.Reserved a.hold.Taken a.free [.cells [.func (.func 134) [] [],.func (.func 135) [] []],.cells [.func (.func 115) [] [.ptr 1 0,.ptr 0 0],.func (.func 116) [] [.ptr 1 0,.ptr 2 0],.func (.func 117) [] [.ptr 3 0,.ptr 2 0,.ptr 1 0],.func (.func 118) [] [.ptr 3 0,.ptr 2 0,.ptr 1 0],.func (.func 119) [] [.ptr 0 0,.ptr 1 0]]]))) (ac (hs (.call 114 [.slice 4 0 5 5 1] (kD b.Day b.Lots b.Holds (kE e.Kind e.Day e.Lot e.Amount e.Yarn e.Dye e.Order (kC a.lot.Name a.lot.Yarn a.lot.Dye a.lot.Stock a.known a.hold.Lot a.hold.Order a.hold.Reserved a.hold.Taken a.free [.cells [.func (.func 134) [] [],.func (.func 135) [] []],.cells [.func (.func 115) [] [.ptr 1 0,.ptr 0 0],.func (.func 116) [] [.ptr 1 0,.ptr 2 0],.func (.func 117) [] [.ptr 3 0,.ptr 2 0,.ptr 1 0],.func (.func 118) [] [.ptr 3 0,.ptr 2 0,.ptr 1 0],.func (.func 119) [] [.ptr 0 0,.ptr 1 0]]]))) [0,1,2,3,4] [.fslice 5 (qhD e b a)] (.i v)) (qcC (FzL.cons (Fz.lit rfl rfl (FzL.cons (Fz.func FzL.nil (FzL.cons (Fz.ptr rfl rfl (FzL.cons (Ua tS) (FzL.cons (Ua tI) (FzL.cons (Ua tS) (FzL.cons (Ua tI) (FzL.cons (Ua tS) (FzL.cons (Ua tS) (FzL.cons (Ua tS) FzL.nil)))))))) (FzL.cons (Fz.ptr rfl rfl (FzL.cons (Ua tI) (FzL.cons (Ua (qG qo _ (nl rfl))) (FzL.cons (Ua (qG qg _ (nl rfl))) FzL.nil)))) FzL.nil))) (FzL.cons (Fz.func FzL.nil (FzL.cons (Fz.ptr rfl rfl (FzL.cons (Ua tS) (FzL.cons (Ua tI) (FzL.cons (Ua tS) (FzL.cons (Ua tI) (FzL.cons (Ua tS) (FzL.cons (Ua tS) (FzL.cons (Ua tS) FzL.nil)))))))) (FzL.cons (Fz.ptr rfl rfl (FzL.cons (Ua tS) (FzL.cons (Ua tS) (FzL.cons (Ua tS) (FzL.cons (Ua tI) (FzL.cons (Ua tB) (FzL.cons (Ua tS) (FzL.cons (Ua tS) (FzL.cons (Ua tI) (FzL.cons (Ua tI) (FzL.cons (Ua tI) FzL.nil))))))))))) FzL.nil))) (FzL.cons (Fz.func FzL.nil (FzL.cons (Fz.ptr rfl rfl (FzL.cons (Fz.func FzL.nil FzL.nil) (FzL.cons (Fz.func FzL.nil FzL.nil) FzL.nil))) (FzL.cons (Fz.ptr rfl rfl (FzL.cons (Ua tS) (FzL.cons (Ua tS) (FzL.cons (Ua tS) (FzL.cons (Ua tI) (FzL.cons (Ua tB) (FzL.cons (Ua tS) (FzL.cons (Ua tS) (FzL.cons (Ua tI) (FzL.cons (Ua tI) (FzL.cons (Ua tI) FzL.nil))))))))))) (FzL.cons (Fz.ptr rfl rfl (FzL.cons (Ua tS) (FzL.cons (Ua tI) (FzL.cons (Ua tS) (FzL.cons (Ua tI) (FzL.cons (Ua tS) (FzL.cons (Ua tS) (FzL.cons (Ua tS) FzL.nil)))))))) FzL.nil)))) (FzL.cons (Fz.func FzL.nil (FzL.cons (Fz.ptr rfl rfl (FzL.cons (Fz.func FzL.nil FzL.nil) (FzL.cons (Fz.func FzL.nil FzL.nil) FzL.nil))) (FzL.cons (Fz.ptr rfl rfl (FzL.cons (Ua tS) (FzL.cons (Ua tS) (FzL.cons (Ua tS) (FzL.cons (Ua tI) (FzL.cons (Ua tB) (FzL.cons (Ua tS) (FzL.cons (Ua tS) (FzL.cons (Ua tI) (FzL.cons (Ua tI) (FzL.cons (Ua tI) FzL.nil))))))))))) (FzL.cons (Fz.ptr rfl rfl (FzL.cons (Ua tS) (FzL.cons (Ua tI) (FzL.cons (Ua tS) (FzL.cons (Ua tI) (FzL.cons (Ua tS) (FzL.cons (Ua tS) (FzL.cons (Ua tS) FzL.nil)))))))) FzL.nil)))) (FzL.cons (Fz.func FzL.nil (FzL.cons (Fz.ptr rfl rfl (FzL.cons (Ua tI) (FzL.cons (Ua (qG qo _ (nl rfl))) (FzL.cons (Ua (qG qg _ (nl rfl))) FzL.nil)))) (FzL.cons (Fz.ptr rfl rfl (FzL.cons (Ua tS) (FzL.cons (Ua tI) (FzL.cons (Ua tS) (FzL.cons (Ua tI) (FzL.cons (Ua tS) (FzL.cons (Ua tS) (FzL.cons (Ua tS) FzL.nil)))))))) FzL.nil))) FzL.nil)))))) FzL.nil) (qn6 N e b a s) tI rfl)) az) ?_)
  refine Goes.ret ?_
  obtain rfl:=si h
  exact(gw2 [.i v] (Ub tI))
 rcases wyB h with⟨t,h⟩|⟨t,h⟩
 ·refine gq fol [0,3] (kL (kAD [])) (kD b.Day b.Lots b.Holds (kE e.Kind e.Day e.Lot e.Amount e.Yarn e.Dye e.Order (kC a.lot.Name a.lot.Yarn a.lot.Dye a.lot.Stock a.known a.hold.Lot a.hold.Order a.hold.Reserved a.hold.Taken a.free [.cells [.func (.func 137) [] [],.func (.func 138) [] []]]))) (ac (cv (vR c)) (ac (hs (.done (qbk ZT 143 (fm1) (.str e.Kind) false) (.agg [.func (.func 137) [] [],.func (.func 138) [] []])) (qhu qh0 [[114,101,99,101,105,118,101],[114,101,115,101,114,118,101],[114,101,108,101,97,115,101],[116,97,107,101],[114,101,116,117,114,110]] (zi o (zi r (qb4 t))) rfl)) az)) ?_
  obtain⟨d,f,h⟩:=bnd h
  refine sq (gq fol [6] (kAn d) (kD b.Day b.Lots b.Holds (kE e.Kind e.Day e.Lot e.Amount e.Yarn e.Dye e.Order (kC a.lot.Name a.lot.Yarn a.lot.Dye a.lot.Stock a.known a.hold.Lot a.hold.Order a.hold.Reserved a.hold.Taken a.free [.cells [.func (.func 137) [] [],.func (.func 138) [] []],.cells [.func (.func 115) [] [.ptr 1 0,.ptr 0 0],.func (.func 116) [] [.ptr 1 0,.ptr 2 0],.func (.func 117) [] [.ptr 3 0,.ptr 2 0,.ptr 1 0],.func (.func 118) [] [.ptr 3 0,.ptr 2 0,.ptr 1 0],.func (.func 119) [] [.ptr 0 0,.ptr 1 0]]]))) (ac (hs (.call 114 [.slice 4 0 5 5 1] (kD b.Day b.Lots b.Holds (kE e.Kind e.Day e.Lot e.Amount e.Yarn e.Dye e.Order (kC a.lot.Name a.lot.Yarn a.lot.Dye a.lot.Stock a.known a.hold.Lot a.hold.Order a.hold.Reserved a.hold.Taken a.free [.cells [.func (.func 137) [] [],.func (.func 138) [] []],.cells [.func (.func 115) [] [.ptr 1 0,.ptr 0 0],.func (.func 116) [] [.ptr 1 0,.ptr 2 0],.func (.func 117) [] [.ptr 3 0,.ptr 2 0,.ptr 1 0],.func (.func 118) [] [.ptr 3 0,.ptr 2 0,.ptr 1 0],.func (.func 119) [] [.ptr 0 0,.ptr 1 0]]]))) [0,1,2,3,4] [.fslice 5 (qhH e b a)] (.i d)) (qcC (FzL.cons (Fz.lit rfl rfl (FzL.cons (Fz.func FzL.nil (FzL.cons (Fz.ptr rfl rfl (FzL.cons (Ua tS) (FzL.cons (Ua tI) (FzL.cons (Ua tS) (FzL.cons (Ua tI) (FzL.cons (Ua tS) (FzL.cons (Ua tS) (FzL.cons (Ua tS) FzL.nil)))))))) (FzL.cons (Fz.ptr rfl rfl (FzL.cons (Ua tI) (FzL.cons (Ua (qG qo _ (nl rfl))) (FzL.cons (Ua (qG qg _ (nl rfl))) FzL.nil)))) FzL.nil))) (FzL.cons (Fz.func FzL.nil (FzL.cons (Fz.ptr rfl rfl (FzL.cons (Ua tS) (FzL.cons (Ua tI) (FzL.cons (Ua tS) (FzL.cons (Ua tI) (FzL.cons (Ua tS) (FzL.cons (Ua tS) (FzL.cons (Ua tS) FzL.nil)))))))) (FzL.cons (Fz.ptr rfl rfl (FzL.cons (Ua tS) (FzL.cons (Ua tS) (FzL.cons (Ua tS) (FzL.cons (Ua tI) (FzL.cons (Ua tB) (FzL.cons (Ua tS) (FzL.cons (Ua tS) (FzL.cons (Ua tI) (FzL.cons (Ua tI) (FzL.cons (Ua tI) FzL.nil))))))))))) FzL.nil))) (FzL.cons (Fz.func FzL.nil (FzL.cons (Fz.ptr rfl rfl (FzL.cons (Fz.func FzL.nil FzL.nil) (FzL.cons (Fz.func FzL.nil FzL.nil) FzL.nil))) (FzL.cons (Fz.ptr rfl rfl (FzL.cons (Ua tS) (FzL.cons (Ua tS) (FzL.cons (Ua tS) (FzL.cons (Ua tI) (FzL.cons (Ua tB) (FzL.cons (Ua tS) (FzL.cons (Ua tS) (FzL.cons (Ua tI) (FzL.cons (Ua tI) (FzL.cons (Ua tI) FzL.nil))))))))))) (FzL.cons (Fz.ptr rfl rfl (FzL.cons (Ua tS) (FzL.cons (Ua tI) (FzL.cons (Ua tS) (FzL.cons (Ua tI) (FzL.cons (Ua tS) (FzL.cons (Ua tS) (FzL.cons (Ua tS) FzL.nil)))))))) FzL.nil)))) (FzL.cons (Fz.func FzL.nil (FzL.cons (Fz.ptr rfl rfl (FzL.cons (Fz.func FzL.nil FzL.nil) (FzL.cons (Fz.func FzL.nil FzL.nil) FzL.nil))) (FzL.cons (Fz.ptr rfl rfl (FzL.cons (Ua tS) (FzL.cons (Ua tS) (FzL.cons (Ua tS) (FzL.cons (Ua tI) (FzL.cons (Ua tB) (FzL.cons (Ua tS) (FzL.cons (Ua tS) (FzL.cons (Ua tI) (FzL.cons (Ua tI) (FzL.cons (Ua tI) FzL.nil))))))))))) (FzL.cons (Fz.ptr rfl rfl (FzL.cons (Ua tS) (FzL.cons (Ua tI) (FzL.cons (Ua tS) (FzL.cons (Ua tI) (FzL.cons (Ua tS) (FzL.cons (Ua tS) (FzL.cons (Ua tS) FzL.nil)))))))) FzL.nil)))) (FzL.cons (Fz.func FzL.nil (FzL.cons (Fz.ptr rfl rfl (FzL.cons (Ua tI) (FzL.cons (Ua (qG qo _ (nl rfl))) (FzL.cons (Ua (qG qg _ (nl rfl))) FzL.nil)))) (FzL.cons (Fz.ptr rfl rfl (FzL.cons (Ua tS) (FzL.cons (Ua tI) (FzL.cons (Ua tS) (FzL.cons (Ua tI) (FzL.cons (Ua tS) (FzL.cons (Ua tS) (FzL.cons (Ua tS) FzL.nil)))))))) FzL.nil))) FzL.nil)))))) FzL.nil) (qoi N e b a f) tI rfl)) az) ?_)
  refine Goes.ret ?_
  obtain rfl:=si h
  exact(gw2 [.i d] (Ub tI))
 rcases wyB h with⟨w,h⟩|⟨w,h⟩
 ·refine gq fol [0,3] (kL (kAD [])) (kD b.Day b.Lots b.Holds (kE e.Kind e.Day e.Lot e.Amount e.Yarn e.Dye e.Order (kC a.lot.Name a.lot.Yarn a.lot.Dye a.lot.Stock a.known a.hold.Lot a.hold.Order a.hold.Reserved a.hold.Taken a.free [.cells [.func (.func 139) [] [],.func (.func 140) [] []]]))) (ac (cv (vR c)) (ac (hs (.done (qbk ZT 143 (fm1) (.str e.Kind) false) (.agg [.func (.func 139) [] [],.func (.func 140) [] []])) (qhu qh0 [[114,101,99,101,105,118,101],[114,101,115,101,114,118,101],[114,101,108,101,97,115,101],[116,97,107,101],[114,101,116,117,114,110]] (zi o (zi r (zi t (qb4 w)))) rfl)) az)) ?_
  obtain⟨g,j,h⟩:=bnd h
  refine sq (gq fol [6] (kAn g) (kD b.Day b.Lots b.Holds (kE e.Kind e.Day e.Lot e.Amount e.Yarn e.Dye e.Order (kC a.lot.Name a.lot.Yarn a.lot.Dye a.lot.Stock a.known a.hold.Lot a.hold.Order a.hold.Reserved a.hold.Taken a.free [.cells [.func (.func 139) [] [],.func (.func 140) [] []],.cells [.func (.func 115) [] [.ptr 1 0,.ptr 0 0],.func (.func 116) [] [.ptr 1 0,.ptr 2 0],.func (.func 117) [] [.ptr 3 0,.ptr 2 0,.ptr 1 0],.func (.func 118) [] [.ptr 3 0,.ptr 2 0,.ptr 1 0],.func (.func 119) [] [.ptr 0 0,.ptr 1 0]]]))) (ac (hs (.call 114 [.slice 4 0 5 5 1] (kD b.Day b.Lots b.Holds (kE e.Kind e.Day e.Lot e.Amount e.Yarn e.Dye e.Order (kC a.lot.Name a.lot.Yarn a.lot.Dye a.lot.Stock a.known a.hold.Lot a.hold.Order a.hold.Reserved a.hold.Taken a.free [.cells [.func (.func 139) [] [],.func (.func 140) [] []],.cells [.func (.func 115) [] [.ptr 1 0,.ptr 0 0],.func (.func 116) [] [.ptr 1 0,.ptr 2 0],.func (.func 117) [] [.ptr 3 0,.ptr 2 0,.ptr 1 0],.func (.func 118) [] [.ptr 3 0,.ptr 2 0,.ptr 1 0],.func (.func 119) [] [.ptr 0 0,.ptr 1 0]]]))) [0,1,2,3,4] [.fslice 5 (qhy e b a)] (.i g)) (qcC (FzL.cons (Fz.lit rfl rfl (FzL.cons (Fz.func FzL.nil (FzL.cons (Fz.ptr rfl rfl (FzL.cons (Ua tS) (FzL.cons (Ua tI) (FzL.cons (Ua tS) (FzL.cons (Ua tI) (FzL.cons (Ua tS) (FzL.cons (Ua tS) (FzL.cons (Ua tS) FzL.nil)))))))) (FzL.cons (Fz.ptr rfl rfl (FzL.cons (Ua tI) (FzL.cons (Ua (qG qo _ (nl rfl))) (FzL.cons (Ua (qG qg _ (nl rfl))) FzL.nil)))) FzL.nil))) (FzL.cons (Fz.func FzL.nil (FzL.cons (Fz.ptr rfl rfl (FzL.cons (Ua tS) (FzL.cons (Ua tI) (FzL.cons (Ua tS) (FzL.cons (Ua tI) (FzL.cons (Ua tS) (FzL.cons (Ua tS) (FzL.cons (Ua tS) FzL.nil)))))))) (FzL.cons (Fz.ptr rfl rfl (FzL.cons (Ua tS) (FzL.cons (Ua tS) (FzL.cons (Ua tS) (FzL.cons (Ua tI) (FzL.cons (Ua tB) (FzL.cons (Ua tS) (FzL.cons (Ua tS) (FzL.cons (Ua tI) (FzL.cons (Ua tI) (FzL.cons (Ua tI) FzL.nil))))))))))) FzL.nil))) (FzL.cons (Fz.func FzL.nil (FzL.cons (Fz.ptr rfl rfl (FzL.cons (Fz.func FzL.nil FzL.nil) (FzL.cons (Fz.func FzL.nil FzL.nil) FzL.nil))) (FzL.cons (Fz.ptr rfl rfl (FzL.cons (Ua tS) (FzL.cons (Ua tS) (FzL.cons (Ua tS) (FzL.cons (Ua tI) (FzL.cons (Ua tB) (FzL.cons (Ua tS) (FzL.cons (Ua tS) (FzL.cons (Ua tI) (FzL.cons (Ua tI) (FzL.cons (Ua tI) FzL.nil))))))))))) (FzL.cons (Fz.ptr rfl rfl (FzL.cons (Ua tS) (FzL.cons (Ua tI) (FzL.cons (Ua tS) (FzL.cons (Ua tI) (FzL.cons (Ua tS) (FzL.cons (Ua tS) (FzL.cons (Ua tS) FzL.nil)))))))) FzL.nil)))) (FzL.cons (Fz.func FzL.nil (FzL.cons (Fz.ptr rfl rfl (FzL.cons (Fz.func FzL.nil FzL.nil) (FzL.cons (Fz.func FzL.nil FzL.nil) FzL.nil))) (FzL.cons (Fz.ptr rfl rfl (FzL.cons (Ua tS) (FzL.cons (Ua tS) (FzL.cons (Ua tS) (FzL.cons (Ua tI) (FzL.cons (Ua tB) (FzL.cons (Ua tS) (FzL.cons (Ua tS) (FzL.cons (Ua tI) (FzL.cons (Ua tI) (FzL.cons (Ua tI) FzL.nil))))))))))) (FzL.cons (Fz.ptr rfl rfl (FzL.cons (Ua tS) (FzL.cons (Ua tI) (FzL.cons (Ua tS) (FzL.cons (Ua tI) (FzL.cons (Ua tS) (FzL.cons (Ua tS) (FzL.cons (Ua tS) FzL.nil)))))))) FzL.nil)))) (FzL.cons (Fz.func FzL.nil (FzL.cons (Fz.ptr rfl rfl (FzL.cons (Ua tI) (FzL.cons (Ua (qG qo _ (nl rfl))) (FzL.cons (Ua (qG qg _ (nl rfl))) FzL.nil)))) (FzL.cons (Fz.ptr rfl rfl (FzL.cons (Ua tS) (FzL.cons (Ua tI) (FzL.cons (Ua tS) (FzL.cons (Ua tI) (FzL.cons (Ua tS) (FzL.cons (Ua tS) (FzL.cons (Ua tS) FzL.nil)))))))) FzL.nil))) FzL.nil)))))) FzL.nil) (qnU N e b a j) tI rfl)) az) ?_)
  refine Goes.ret ?_
  obtain rfl:=si h
  exact(gw2 [.i g] (Ub tI))
 rcases wyB h with⟨x,h⟩|⟨x,h⟩
 ·refine gq fol [0,3] (kL (kAD [])) (kD b.Day b.Lots b.Holds (kE e.Kind e.Day e.Lot e.Amount e.Yarn e.Dye e.Order (kC a.lot.Name a.lot.Yarn a.lot.Dye a.lot.Stock a.known a.hold.Lot a.hold.Order a.hold.Reserved a.hold.Taken a.free [.cells [.func (.func 141) [] [],.func (.func 142) [] []]]))) (ac (cv (vR c)) (ac (hs (.done (qbk ZT 143 (fm1) (.str e.Kind) false) (.agg [.func (.func 141) [] [],.func (.func 142) [] []])) (qhu qh0 [[114,101,99,101,105,118,101],[114,101,115,101,114,118,101],[114,101,108,101,97,115,101],[116,97,107,101],[114,101,116,117,114,110]] (zi o (zi r (zi t (zi w (qb4 x))))) rfl)) az)) ?_
  obtain⟨k,n,h⟩:=bnd h
  refine sq (gq fol [6] (kAn k) (kD b.Day b.Lots b.Holds (kE e.Kind e.Day e.Lot e.Amount e.Yarn e.Dye e.Order (kC a.lot.Name a.lot.Yarn a.lot.Dye a.lot.Stock a.known a.hold.Lot a.hold.Order a.hold.Reserved a.hold.Taken a.free [.cells [.func (.func 141) [] [],.func (.func 142) [] []],.cells [.func (.func 115) [] [.ptr 1 0,.ptr 0 0],.func (.func 116) [] [.ptr 1 0,.ptr 2 0],.func (.func 117) [] [.ptr 3 0,.ptr 2 0,.ptr 1 0],.func (.func 118) [] [.ptr 3 0,.ptr 2 0,.ptr 1 0],.func (.func 119) [] [.ptr 0 0,.ptr 1 0]]]))) (ac (hs (.call 114 [.slice 4 0 5 5 1] (kD b.Day b.Lots b.Holds (kE e.Kind e.Day e.Lot e.Amount e.Yarn e.Dye e.Order (kC a.lot.Name a.lot.Yarn a.lot.Dye a.lot.Stock a.known a.hold.Lot a.hold.Order a.hold.Reserved a.hold.Taken a.free [.cells [.func (.func 141) [] [],.func (.func 142) [] []],.cells [.func (.func 115) [] [.ptr 1 0,.ptr 0 0],.func (.func 116) [] [.ptr 1 0,.ptr 2 0],.func (.func 117) [] [.ptr 3 0,.ptr 2 0,.ptr 1 0],.func (.func 118) [] [.ptr 3 0,.ptr 2 0,.ptr 1 0],.func (.func 119) [] [.ptr 0 0,.ptr 1 0]]]))) [0,1,2,3,4] [.fslice 5 (qhM e b a)] (.i k)) (qcC (FzL.cons (Fz.lit rfl rfl (FzL.cons (Fz.func FzL.nil (FzL.cons (Fz.ptr rfl rfl (FzL.cons (Ua tS) (FzL.cons (Ua tI) (FzL.cons (Ua tS) (FzL.cons (Ua tI) (FzL.cons (Ua tS) (FzL.cons (Ua tS) (FzL.cons (Ua tS) FzL.nil)))))))) (FzL.cons (Fz.ptr rfl rfl (FzL.cons (Ua tI) (FzL.cons (Ua (qG qo _ (nl rfl))) (FzL.cons (Ua (qG qg _ (nl rfl))) FzL.nil)))) FzL.nil))) (FzL.cons (Fz.func FzL.nil (FzL.cons (Fz.ptr rfl rfl (FzL.cons (Ua tS) (FzL.cons (Ua tI) (FzL.cons (Ua tS) (FzL.cons (Ua tI) (FzL.cons (Ua tS) (FzL.cons (Ua tS) (FzL.cons (Ua tS) FzL.nil)))))))) (FzL.cons (Fz.ptr rfl rfl (FzL.cons (Ua tS) (FzL.cons (Ua tS) (FzL.cons (Ua tS) (FzL.cons (Ua tI) (FzL.cons (Ua tB) (FzL.cons (Ua tS) (FzL.cons (Ua tS) (FzL.cons (Ua tI) (FzL.cons (Ua tI) (FzL.cons (Ua tI) FzL.nil))))))))))) FzL.nil))) (FzL.cons (Fz.func FzL.nil (FzL.cons (Fz.ptr rfl rfl (FzL.cons (Fz.func FzL.nil FzL.nil) (FzL.cons (Fz.func FzL.nil FzL.nil) FzL.nil))) (FzL.cons (Fz.ptr rfl rfl (FzL.cons (Ua tS) (FzL.cons (Ua tS) (FzL.cons (Ua tS) (FzL.cons (Ua tI) (FzL.cons (Ua tB) (FzL.cons (Ua tS) (FzL.cons (Ua tS) (FzL.cons (Ua tI) (FzL.cons (Ua tI) (FzL.cons (Ua tI) FzL.nil))))))))))) (FzL.cons (Fz.ptr rfl rfl (FzL.cons (Ua tS) (FzL.cons (Ua tI) (FzL.cons (Ua tS) (FzL.cons (Ua tI) (FzL.cons (Ua tS) (FzL.cons (Ua tS) (FzL.cons (Ua tS) FzL.nil)))))))) FzL.nil)))) (FzL.cons (Fz.func FzL.nil (FzL.cons (Fz.ptr rfl rfl (FzL.cons (Fz.func FzL.nil FzL.nil) (FzL.cons (Fz.func FzL.nil FzL.nil) FzL.nil))) (FzL.cons (Fz.ptr rfl rfl (FzL.cons (Ua tS) (FzL.cons (Ua tS) (FzL.cons (Ua tS) (FzL.cons (Ua tI) (FzL.cons (Ua tB) (FzL.cons (Ua tS) (FzL.cons (Ua tS) (FzL.cons (Ua tI) (FzL.cons (Ua tI) (FzL.cons (Ua tI) FzL.nil))))))))))) (FzL.cons (Fz.ptr rfl rfl (FzL.cons (Ua tS) (FzL.cons (Ua tI) (FzL.cons (Ua tS) (FzL.cons (Ua tI) (FzL.cons (Ua tS) (FzL.cons (Ua tS) (FzL.cons (Ua tS) FzL.nil)))))))) FzL.nil)))) (FzL.cons (Fz.func FzL.nil (FzL.cons (Fz.ptr rfl rfl (FzL.cons (Ua tI) (FzL.cons (Ua (qG qo _ (nl rfl))) (FzL.cons (Ua (qG qg _ (nl rfl))) FzL.nil)))) (FzL.cons (Fz.ptr rfl rfl (FzL.cons (Ua tS) (FzL.cons (Ua tI) (FzL.cons (Ua tS) (FzL.cons (Ua tI) (FzL.cons (Ua tS) (FzL.cons (Ua tS) (FzL.cons (Ua tS) FzL.nil)))))))) FzL.nil))) FzL.nil)))))) FzL.nil) (qok N e b a n) tI rfl)) az) ?_)
  refine Goes.ret ?_
  obtain rfl:=si h
  exact(gw2 [.i k] (Ub tI))
 cases h
end Go.Av
