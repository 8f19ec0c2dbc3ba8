/-
  Walks of functions: what each computes, as a plain function.
-/
import Derived.Test.YtcnioemfifogeaaGreatDoorQGenA1e2
noncomputable section
namespace Go.Av
open Go.Proofs Go.RowKit
set_option linter.unusedSectionVars false
set_option linter.unusedVariables false
set_option linter.unusedSimpArgs false
set_option maxRecDepth 100000
def yG (a:qh) (b:qm):Option Bool:=
 some (decide (a.Day>=b.Day))
theorem qbO (a:qh) (b:qm) {res:Bool} (h:yG a b=some res):qf ZT (.fn 115) [.fptr (kA a.Kind a.Day a.Lot a.Amount a.Yarn a.Dye a.Order) 0,.fptr (kH b.Day b.Lots b.Holds) 0] [] (.bool res) []:=by
 unfold yG at h
 refine Uc Tryz.func115 rfl rfl (m:=8) rfl (rs:=[.tmp 2]) rfl (l:=[(0,.fptr (kA a.Kind a.Day a.Lot a.Amount a.Yarn a.Dye a.Order) 0),(1,.fptr (kH b.Day b.Lots b.Holds) 0)]) rfl ?_
 refine sh fol [(0,.fptr (kA a.Kind a.Day a.Lot a.Amount a.Yarn a.Dye a.Order) 0),(1,.fptr (kH b.Day b.Lots b.Holds) 0)] ?_
 refine sh fol (kAV (decide (a.Day>=b.Day))) ?_
 refine Goes.ret ?_
 obtain rfl:=si h
 exact(gw2 [.bool (decide (a.Day>=b.Day))] (Ub tB))
def zq (a:qh) (b:qm):Option Bool:=
 (yG a b).bind fun c=>
 some (!c)
theorem jJ (a:qh) (b:qm) {res:Bool} (h:zq a b=some res):qf ZT (.fn 177) [.func (.func 115) [] [.fptr (kA a.Kind a.Day a.Lot a.Amount a.Yarn a.Dye a.Order) 0,.fptr (kH b.Day b.Lots b.Holds) 0]] [] (.bool res) []:=by
 unfold zq at h
 refine Uc Tryz.func177 rfl rfl (m:=6) rfl (rs:=[.tmp 2]) rfl (l:=[(0,.func (.func 115) [] [.fptr (kA a.Kind a.Day a.Lot a.Amount a.Yarn a.Dye a.Order) 0,.fptr (kH b.Day b.Lots b.Holds) 0])]) rfl ?_
 refine sh fol [(0,.func (.func 115) [] [.fptr (kA a.Kind a.Day a.Lot a.Amount a.Yarn a.Dye a.Order) 0,.fptr (kH b.Day b.Lots b.Holds) 0])] ?_
 obtain⟨d,c,h⟩:=bnd h
 refine sq (gr fol [1] (kAV (!d)) (ac (hs (.call 115 [.fptr (kA a.Kind a.Day a.Lot a.Amount a.Yarn a.Dye a.Order) 0,.fptr (kH b.Day b.Lots b.Holds) 0] [] [] [.fptr (kA a.Kind a.Day a.Lot a.Amount a.Yarn a.Dye a.Order) 0,.fptr (kH b.Day b.Lots b.Holds) 0] (.bool d)) (qE (FzL.cons (Ua (Still.fptr (AllST.cons tS (AllST.cons tI (AllST.cons tS (AllST.cons tI (AllST.cons tS (AllST.cons tS (AllST.cons tS AllST.nil))))))))) (FzL.cons (Ua (Still.fptr (AllST.cons tI (AllST.cons (qg qb _ (nl rfl)) (AllST.cons (qg qa _ (nl rfl)) AllST.nil))))) FzL.nil)) (qbO a b c) tB)) az) ?_)
 refine Goes.ret ?_
 obtain rfl:=si h
 exact(gw2 [.bool (!d)] (Ub tB))
def j3 (b:qh) (a:qc):Option Bool:=
 if(!(b.Kind==[114,101,99,101,105,118,101]))=true then
 some a.known
 else
 (if(!a.known)=true then
 some true
 else
 if(a.lot.Yarn==b.Yarn)=true then
 some (a.lot.Dye==b.Dye)
 else
 some false:Option Bool).bind fun c=>
 some c
theorem qbK (b:qh) (a:qc) {res:Bool} (h:j3 b a=some res):qf ZT (.fn 116) [.fptr (kA b.Kind b.Day b.Lot b.Amount b.Yarn b.Dye b.Order) 0,.fptr (.str a.lot.Name::(kB a.lot.Yarn a.lot.Dye a.lot.Stock a.known a.hold.Lot a.hold.Order a.hold.Reserved a.hold.Taken a.free)) 0] [] (.bool res) []:=by
 unfold j3 at h
 refine Uc Tryz.func116 rfl rfl (m:=27) rfl (rs:=[.tmp 2]) rfl (l:=[(0,.fptr (kA b.Kind b.Day b.Lot b.Amount b.Yarn b.Dye b.Order) 0),(1,.fptr (.str a.lot.Name::(kB a.lot.Yarn a.lot.Dye a.lot.Stock a.known a.hold.Lot a.hold.Order a.hold.Reserved a.hold.Taken a.free)) 0)]) rfl ?_
 refine sh fol [(0,.fptr (kA b.Kind b.Day b.Lot b.Amount b.Yarn b.Dye b.Order) 0),(1,.fptr (.str a.lot.Name::(kB a.lot.Yarn a.lot.Dye a.lot.Stock a.known a.hold.Lot a.hold.Order a.hold.Reserved a.hold.Taken a.free)) 0)] ?_
 refine sq ?_
 refine sh fol [(0,.fptr [.str b.Kind,.i b.Day,.str b.Lot,.i b.Amount,.str b.Yarn,.str b.Dye,.str b.Order] 0),(1,.fptr [.str a.lot.Name,.str a.lot.Yarn,.str a.lot.Dye,.i a.lot.Stock,.bool a.known,.str a.hold.Lot,.str a.hold.Order,.i a.hold.Reserved,.i a.hold.Taken,.i a.free] 0),(5,.bool (!(b.Kind==[114,101,99,101,105,118,101])))] ?_
 refine ihB h (fun g h=>?_) (fun g h=>?_)
 ·refine sh fol (kAV a.known) ?_
  refine Goes.ret ?_
  obtain rfl:=si h
  exact(gw2 [.bool a.known] (Ub tB))
 refine Goes.skip ?_
 refine sq ?_
 obtain⟨f,c,h⟩:=bnd h
 refine Goes.cut (s':=(ofG 27 (kAV f),[])) ?_ ?_
 ·rcases wyB c with⟨d,c⟩|⟨d,c⟩
  ·obtain rfl:=si c
   exact tr fol [3] [(2,.bool true)] (ac (gw d) az)
  rcases wyB c with⟨e,c⟩|⟨e,c⟩
  ·obtain rfl:=si c
   exact tr fol [3,10] (kAV (a.lot.Dye==b.Dye)) (ac (gw d) (ac (gw e) az))
  obtain rfl:=si c
  exact tr fol [3,10] kAc (ac (gw d) (ac (gw e) az))
 refine Goes.ret ?_
 obtain rfl:=si h
 exact(gw2 [.bool f] (Ub tB))
def q9 (a:qh) (b:qc):Option Bool:=
 (j3 a b).bind fun c=>
 some (!c)
theorem jE (b:qh) (a:qc) {res:Bool} (h:q9 b a=some res):qf ZT (.fn 177) [.func (.func 116) [] [.fptr (kA b.Kind b.Day b.Lot b.Amount b.Yarn b.Dye b.Order) 0,.fptr (.str a.lot.Name::(kB a.lot.Yarn a.lot.Dye a.lot.Stock a.known a.hold.Lot a.hold.Order a.hold.Reserved a.hold.Taken a.free)) 0]] [] (.bool res) []:=by
 unfold q9 at h
 refine Uc Tryz.func177 rfl rfl (m:=6) rfl (rs:=[.tmp 2]) rfl (l:=[(0,.func (.func 116) [] [.fptr (kA b.Kind b.Day b.Lot b.Amount b.Yarn b.Dye b.Order) 0,.fptr (.str a.lot.Name::(kB a.lot.Yarn a.lot.Dye a.lot.Stock a.known a.hold.Lot a.hold.Order a.hold.Reserved a.hold.Taken a.free)) 0])]) rfl ?_
 refine sh fol [(0,.func (.func 116) [] [.fptr (kA b.Kind b.Day b.Lot b.Amount b.Yarn b.Dye b.Order) 0,.fptr (.str a.lot.Name::(kB a.lot.Yarn a.lot.Dye a.lot.Stock a.known a.hold.Lot a.hold.Order a.hold.Reserved a.hold.Taken a.free)) 0])] ?_
 obtain⟨d,c,h⟩:=bnd h
 refine sq (gr fol [1] (kAV (!d)) (ac (hs (.call 116 [.fptr (kA b.Kind b.Day b.Lot b.Amount b.Yarn b.Dye b.Order) 0,.fptr (.str a.lot.Name::(kB a.lot.Yarn a.lot.Dye a.lot.Stock a.known a.hold.Lot a.hold.Order a.hold.Reserved a.hold.Taken a.free)) 0] [] [] [.fptr (kA b.Kind b.Day b.Lot b.Amount b.Yarn b.Dye b.Order) 0,.fptr (.str a.lot.Name::(kB a.lot.Yarn a.lot.Dye a.lot.Stock a.known a.hold.Lot a.hold.Order a.hold.Reserved a.hold.Taken a.free)) 0] (.bool d)) (qE (FzL.cons (Ua (Still.fptr (AllST.cons tS (AllST.cons tI (AllST.cons tS (AllST.cons tI (AllST.cons tS (AllST.cons tS (AllST.cons tS AllST.nil))))))))) (FzL.cons (Ua (Still.fptr (AllST.cons tS (AllST.cons tS (AllST.cons tS (AllST.cons tI (AllST.cons tB (AllST.cons tS (AllST.cons tS (AllST.cons tI (AllST.cons tI (AllST.cons tI AllST.nil)))))))))))) FzL.nil)) (qbK b a c) tB)) az) ?_)
 refine Goes.ret ?_
 obtain rfl:=si h
 exact(gw2 [.bool (!d)] (Ub tB))
def yI (a:qc) (b:qh):Option Bool:=
 (qbT a b.Amount).bind fun c=>
 some c
theorem qbI (a:qc) (b:qh) {res:Bool} (h:yI a b=some res):qf ZT (.fn 117) [.fptr [.func (.func 132) [] [],.func (.func 133) [] []] 0,.fptr (.str a.lot.Name::(kB a.lot.Yarn a.lot.Dye a.lot.Stock a.known a.hold.Lot a.hold.Order a.hold.Reserved a.hold.Taken a.free)) 0,.fptr (kA b.Kind b.Day b.Lot b.Amount b.Yarn b.Dye b.Order) 0] [] (.bool res) []:=by
 unfold yI at h
 refine Uc Tryz.func117 rfl rfl (m:=10) rfl (rs:=[.tmp 3]) rfl (l:=[(0,.fptr [.func (.func 132) [] [],.func (.func 133) [] []] 0),(1,.fptr (.str a.lot.Name::(kB a.lot.Yarn a.lot.Dye a.lot.Stock a.known a.hold.Lot a.hold.Order a.hold.Reserved a.hold.Taken a.free)) 0),(2,.fptr (kA b.Kind b.Day b.Lot b.Amount b.Yarn b.Dye b.Order) 0)]) rfl ?_
 refine sh fol [(0,.fptr [.func (.func 132) [] [],.func (.func 133) [] []] 0),(1,.fptr (.str a.lot.Name::(kB a.lot.Yarn a.lot.Dye a.lot.Stock a.known a.hold.Lot a.hold.Order a.hold.Reserved a.hold.Taken a.free)) 0),(2,.fptr (kA b.Kind b.Day b.Lot b.Amount b.Yarn b.Dye b.Order) 0)] ?_
 obtain⟨d,c,h⟩:=bnd h
 refine sq (gr fol [5] (kAw d) (ac (cv (qeJ a b.Amount c)) az) ?_)
 refine Goes.ret ?_
 obtain rfl:=si h
 exact(gw2 [.bool d] (Ub tB))
def qab (a:qc) (b:qh):Option Bool:=
 (yI a b).bind fun c=>
 some (!c)
theorem qdb (a:qc) (b:qh) {res:Bool} (h:qab a b=some res):qf ZT (.fn 177) [.func (.func 117) [] [.fptr [.func (.func 132) [] [],.func (.func 133) [] []] 0,.fptr (.str a.lot.Name::(kB a.lot.Yarn a.lot.Dye a.lot.Stock a.known a.hold.Lot a.hold.Order a.hold.Reserved a.hold.Taken a.free)) 0,.fptr (kA b.Kind b.Day b.Lot b.Amount b.Yarn b.Dye b.Order) 0]] [] (.bool res) []:=by
 unfold qab at h
 refine Uc Tryz.func177 rfl rfl (m:=6) rfl (rs:=[.tmp 2]) rfl (l:=[(0,.func (.func 117) [] [.fptr [.func (.func 132) [] [],.func (.func 133) [] []] 0,.fptr (.str a.lot.Name::(kB a.lot.Yarn a.lot.Dye a.lot.Stock a.known a.hold.Lot a.hold.Order a.hold.Reserved a.hold.Taken a.free)) 0,.fptr (kA b.Kind b.Day b.Lot b.Amount b.Yarn b.Dye b.Order) 0])]) rfl ?_
 refine sh fol [(0,.func (.func 117) [] [.fptr [.func (.func 132) [] [],.func (.func 133) [] []] 0,.fptr (.str a.lot.Name::(kB a.lot.Yarn a.lot.Dye a.lot.Stock a.known a.hold.Lot a.hold.Order a.hold.Reserved a.hold.Taken a.free)) 0,.fptr (kA b.Kind b.Day b.Lot b.Amount b.Yarn b.Dye b.Order) 0])] ?_
 obtain⟨d,c,h⟩:=bnd h
 refine sq (gr fol [1] (kAV (!d)) (ac (hs (.call 117 [.fptr [.func (.func 132) [] [],.func (.func 133) [] []] 0,.fptr (.str a.lot.Name::(kB a.lot.Yarn a.lot.Dye a.lot.Stock a.known a.hold.Lot a.hold.Order a.hold.Reserved a.hold.Taken a.free)) 0,.fptr (kA b.Kind b.Day b.Lot b.Amount b.Yarn b.Dye b.Order) 0] [] [] [.fptr [.func (.func 132) [] [],.func (.func 133) [] []] 0,.fptr (.str a.lot.Name::(kB a.lot.Yarn a.lot.Dye a.lot.Stock a.known a.hold.Lot a.hold.Order a.hold.Reserved a.hold.Taken a.free)) 0,.fptr (kA b.Kind b.Day b.Lot b.Amount b.Yarn b.Dye b.Order) 0] (.bool d)) (qE (FzL.cons (Ua (Still.fptr (AllST.cons (Still.func AllST.nil AllST.nil) (AllST.cons (Still.func AllST.nil AllST.nil) AllST.nil)))) (FzL.cons (Ua (Still.fptr (AllST.cons tS (AllST.cons tS (AllST.cons tS (AllST.cons tI (AllST.cons tB (AllST.cons tS (AllST.cons tS (AllST.cons tI (AllST.cons tI (AllST.cons tI AllST.nil)))))))))))) (FzL.cons (Ua (Still.fptr (AllST.cons tS (AllST.cons tI (AllST.cons tS (AllST.cons tI (AllST.cons tS (AllST.cons tS (AllST.cons tS AllST.nil))))))))) FzL.nil))) (qbI a b c) tB)) az) ?_)
 refine Goes.ret ?_
 obtain rfl:=si h
 exact(gw2 [.bool (!d)] (Ub tB))
def yD (b:qc) (c:qh):Option Bool:=
 (xx b c.Amount).bind fun a=>
 some (decide ((if a.hold.Taken>a.lot.Stock then a.hold.Taken else a.lot.Stock)<=999999999))
theorem qbD (a:qc) (b:qh) {res:Bool} (h:yD a b=some res):qf ZT (.fn 118) [.fptr [.func (.func 132) [] [],.func (.func 133) [] []] 0,.fptr (.str a.lot.Name::(kB a.lot.Yarn a.lot.Dye a.lot.Stock a.known a.hold.Lot a.hold.Order a.hold.Reserved a.hold.Taken a.free)) 0,.fptr (kA b.Kind b.Day b.Lot b.Amount b.Yarn b.Dye b.Order) 0] [] (.bool res) []:=by
 unfold yD at h
 refine Uc Tryz.func118 rfl rfl (m:=19) rfl (rs:=[.tmp 3]) rfl (l:=[(0,.fptr [.func (.func 132) [] [],.func (.func 133) [] []] 0),(1,.fptr (.str a.lot.Name::(kB a.lot.Yarn a.lot.Dye a.lot.Stock a.known a.hold.Lot a.hold.Order a.hold.Reserved a.hold.Taken a.free)) 0),(2,.fptr (kA b.Kind b.Day b.Lot b.Amount b.Yarn b.Dye b.Order) 0)]) rfl ?_
 refine sh fol [(0,.fptr [.func (.func 132) [] [],.func (.func 133) [] []] 0),(1,.fptr (.str a.lot.Name::(kB a.lot.Yarn a.lot.Dye a.lot.Stock a.known a.hold.Lot a.hold.Order a.hold.Reserved a.hold.Taken a.free)) 0),(2,.fptr (kA b.Kind b.Day b.Lot b.Amount b.Yarn b.Dye b.Order) 0)] ?_
 obtain⟨c,d,h⟩:=bnd h
 refine sq (gq fol [5] kAz (kC c.lot.Name c.lot.Yarn c.lot.Dye c.lot.Stock c.known c.hold.Lot c.hold.Order c.hold.Reserved c.hold.Taken c.free []) (ac (cv (qb3 a b.Amount d)) az) ?_)
 refine sh fol (kAw (decide ((if c.hold.Taken>c.lot.Stock then c.hold.Taken else c.lot.Stock)<=999999999))) ?_
 refine Goes.ret ?_
 obtain rfl:=si h
 exact(gw2 [.bool (decide ((if c.hold.Taken>c.lot.Stock then c.hold.Taken else c.lot.Stock)<=999999999))] (Ub tB))
def qak (a:qc) (b:qh):Option Bool:=
 (yD a b).bind fun c=>
 some (!c)
theorem qcR (a:qc) (b:qh) {res:Bool} (h:qak a b=some res):qf ZT (.fn 177) [.func (.func 118) [] [.fptr [.func (.func 132) [] [],.func (.func 133) [] []] 0,.fptr (.str a.lot.Name::(kB a.lot.Yarn a.lot.Dye a.lot.Stock a.known a.hold.Lot a.hold.Order a.hold.Reserved a.hold.Taken a.free)) 0,.fptr (kA b.Kind b.Day b.Lot b.Amount b.Yarn b.Dye b.Order) 0]] [] (.bool res) []:=by
 unfold qak at h
 refine Uc Tryz.func177 rfl rfl (m:=6) rfl (rs:=[.tmp 2]) rfl (l:=[(0,.func (.func 118) [] [.fptr [.func (.func 132) [] [],.func (.func 133) [] []] 0,.fptr (.str a.lot.Name::(kB a.lot.Yarn a.lot.Dye a.lot.Stock a.known a.hold.Lot a.hold.Order a.hold.Reserved a.hold.Taken a.free)) 0,.fptr (kA b.Kind b.Day b.Lot b.Amount b.Yarn b.Dye b.Order) 0])]) rfl ?_
 refine sh fol [(0,.func (.func 118) [] [.fptr [.func (.func 132) [] [],.func (.func 133) [] []] 0,.fptr (.str a.lot.Name::(kB a.lot.Yarn a.lot.Dye a.lot.Stock a.known a.hold.Lot a.hold.Order a.hold.Reserved a.hold.Taken a.free)) 0,.fptr (kA b.Kind b.Day b.Lot b.Amount b.Yarn b.Dye b.Order) 0])] ?_
 obtain⟨d,c,h⟩:=bnd h
 refine sq (gr fol [1] (kAV (!d)) (ac (hs (.call 118 [.fptr [.func (.func 132) [] [],.func (.func 133) [] []] 0,.fptr (.str a.lot.Name::(kB a.lot.Yarn a.lot.Dye a.lot.Stock a.known a.hold.Lot a.hold.Order a.hold.Reserved a.hold.Taken a.free)) 0,.fptr (kA b.Kind b.Day b.Lot b.Amount b.Yarn b.Dye b.Order) 0] [] [] [.fptr [.func (.func 132) [] [],.func (.func 133) [] []] 0,.fptr (.str a.lot.Name::(kB a.lot.Yarn a.lot.Dye a.lot.Stock a.known a.hold.Lot a.hold.Order a.hold.Reserved a.hold.Taken a.free)) 0,.fptr (kA b.Kind b.Day b.Lot b.Amount b.Yarn b.Dye b.Order) 0] (.bool d)) (qE (FzL.cons (Ua (Still.fptr (AllST.cons (Still.func AllST.nil AllST.nil) (AllST.cons (Still.func AllST.nil AllST.nil) AllST.nil)))) (FzL.cons (Ua (Still.fptr (AllST.cons tS (AllST.cons tS (AllST.cons tS (AllST.cons tI (AllST.cons tB (AllST.cons tS (AllST.cons tS (AllST.cons tI (AllST.cons tI (AllST.cons tI AllST.nil)))))))))))) (FzL.cons (Ua (Still.fptr (AllST.cons tS (AllST.cons tI (AllST.cons tS (AllST.cons tI (AllST.cons tS (AllST.cons tS (AllST.cons tS AllST.nil))))))))) FzL.nil))) (qbD a b c) tB)) az) ?_)
 refine Goes.ret ?_
 obtain rfl:=si h
 exact(gw2 [.bool (!d)] (Ub tB))
def j4 (N:Nat) (a:qm) (b:qh):Option Bool:=
 (jV N a b).bind fun c=>
 (if(c.Lots.length:Int)<=64 then
 some (decide ((c.Holds.length:Int)<=256))
 else
 some false:Option Bool).bind fun d=>
 some d
theorem qbN (N:Nat) (b:qm) (a:qh) {res:Bool} (h:j4 N b a=some res):qf ZT (.fn 119) [.fptr (kH b.Day b.Lots b.Holds) 0,.fptr (kA a.Kind a.Day a.Lot a.Amount a.Yarn a.Dye a.Order) 0] [] (.bool res) []:=by
 unfold j4 at h
 refine Uc Tryz.func119 rfl rfl (m:=17) rfl (rs:=[.tmp 2]) rfl (l:=[(0,.fptr (kH b.Day b.Lots b.Holds) 0),(1,.fptr (kA a.Kind a.Day a.Lot a.Amount a.Yarn a.Dye a.Order) 0)]) rfl ?_
 refine sh fol [(0,.fptr (kH b.Day b.Lots b.Holds) 0),(1,.fptr (kA a.Kind a.Day a.Lot a.Amount a.Yarn a.Dye a.Order) 0)] ?_
 obtain⟨d,e,h⟩:=bnd h
 refine sq (gq fol [2] [(3,.ptr 0 0)] (kE d.Day d.Lots d.Holds []) (ac (cv (qbk N b a e)) az) ?_)
 refine sq ?_
 obtain⟨g,c,h⟩:=bnd h
 refine Goes.cut (s':=(ofG 17 (kAV g),(kE d.Day d.Lots d.Holds []))) ?_ ?_
 ·rcases wyD c with⟨f,c⟩|⟨f,c⟩
  ·obtain rfl:=si c
   exact tr fol [4] (kAV (decide ((d.Holds.length:Int)<=256))) (ac (gw f) az)
  obtain rfl:=si c
  exact tr fol [4] kAc (ac (gw f) az)
 refine Goes.ret ?_
 obtain rfl:=si h
 exact(gw2 [.bool g] (Ub tB))
def zo (N:Nat) (a:qm) (b:qh):Option Bool:=
 (j4 N a b).bind fun c=>
 some (!c)
theorem jH (N:Nat) (b:qm) (a:qh) {res:Bool} (h:zo N b a=some res):qf ZT (.fn 177) [.func (.func 119) [] [.fptr (kH b.Day b.Lots b.Holds) 0,.fptr (kA a.Kind a.Day a.Lot a.Amount a.Yarn a.Dye a.Order) 0]] [] (.bool res) []:=by
 unfold zo at h
 refine Uc Tryz.func177 rfl rfl (m:=6) rfl (rs:=[.tmp 2]) rfl (l:=[(0,.func (.func 119) [] [.fptr (kH b.Day b.Lots b.Holds) 0,.fptr (kA a.Kind a.Day a.Lot a.Amount a.Yarn a.Dye a.Order) 0])]) rfl ?_
 refine sh fol [(0,.func (.func 119) [] [.fptr (kH b.Day b.Lots b.Holds) 0,.fptr (kA a.Kind a.Day a.Lot a.Amount a.Yarn a.Dye a.Order) 0])] ?_
 obtain⟨d,c,h⟩:=bnd h
 refine sq (gr fol [1] (kAV (!d)) (ac (hs (.call 119 [.fptr (kH b.Day b.Lots b.Holds) 0,.fptr (kA a.Kind a.Day a.Lot a.Amount a.Yarn a.Dye a.Order) 0] [] [] [.fptr (kH b.Day b.Lots b.Holds) 0,.fptr (kA a.Kind a.Day a.Lot a.Amount a.Yarn a.Dye a.Order) 0] (.bool d)) (qE (FzL.cons (Ua (Still.fptr (AllST.cons tI (AllST.cons (qg qb _ (nl rfl)) (AllST.cons (qg qa _ (nl rfl)) AllST.nil))))) (FzL.cons (Ua (Still.fptr (AllST.cons tS (AllST.cons tI (AllST.cons tS (AllST.cons tI (AllST.cons tS (AllST.cons tS (AllST.cons tS AllST.nil))))))))) FzL.nil)) (qbN N b a c) tB)) az) ?_)
 refine Goes.ret ?_
 obtain rfl:=si h
 exact(gw2 [.bool (!d)] (Ub tB))
def qU (N:Nat) (a:qh) (d:qm) (b:qc):Nat->Int->Option (Unit⊕Int)
 |0,_=>none
 |K+1,c=>
  if c<5 then
  (if c=0 then
  (zq a d).bind fun i=>
  some i
  else
  if c=1 then
  (q9 a b).bind fun j=>
  some j
  else
  if c=2 then
  (qab b a).bind fun e=>
  some e
  else
  if c=3 then
  (qak b a).bind fun f=>
  some f
  else
  if c=4 then
  (zo N d a).bind fun g=>
  some g
  else
  none:Option Bool).bind fun h=>
  if h=true then
  some (.inr c)
  else
  qU N a d b K (w64 (c+1))
  else
  some (.inl ())
def jB (N:Nat) (a:qh) (b:qm) (c:qc):Option Int:=
 (qU N a b c N 0).bind (fun
 |(.inl ())=>
 some (-1)
 |(.inr d)=>
 some d)
theorem qbb (N:Nat) (a:qh) (c:qm) (b:qc) {res:Int} (h:jB N a c b=some res):qf ZT (.fn 176) [.fslice 5 (qaJ a c b),.func (.func 177) [] []] [] (.i res) []:=by
 unfold jB at h
 refine Uc Tryz.func176 rfl rfl (m:=19) rfl (rs:=[.tmp 4]) rfl (l:=[(0,.fslice 5 (qaJ a c b)),(1,.func (.func 177) [] [])]) rfl ?_
 refine sh fol [(0,.fslice 5 (qaJ a c b)),(1,.func (.func 177) [] [])] ?_
 refine sq ?_
 refine sh fol ((0,.fslice 5 (qaJ a c b))::(1,.func (.func 177) [] [])::kA0) ?_
 refine Goes.block ?_
 obtain⟨u,g2,h⟩:=bnd h
 refine Goes.imp (Q:=fun x s'=>(x= .exit 0/\(.inl ())=u/\Sub s' (ofG 19 [],[]))\/(x= .ret/\ ∃y,(.inr y)=u/\qP ZT [.tmp 4] (.i y) .ret s')) ?_ ?_
 ·refine Ud (fun M s=> ∃(e:Int),s=(ofG 19 ((0,.fslice 5 (qaJ a c b))::(1,.func (.func 177) [] [])::(kAH e)),[])/\qU N a c b M e=some u) ?_ (m:=N) ⟨_,rfl,g2⟩
  rintro M s ⟨e,rfl,g2⟩
  cases M with
  |zero=>simp only[qU]at g2;cases g2
  |succ M=>
   rw[qU]at g2
   refine sh fol ((0,.fslice 5 (qaJ a c b))::(1,.func (.func 177) [] [])::(kAv e (decide (e<5)))) ?_
   refine sq ?_
   refine ihD g2 (fun E g2=>?_) (fun E g2=>?_)
   ·refine Goes.skip ?_
    refine sq (Goes.block ?_)
    refine sh fol ((0,.fslice 5 (qaJ a c b))::(1,.func (.func 177) [] [])::(5,.i e)::(kAH e)) ?_
    refine sq ?_
    obtain⟨v,d,g2⟩:=bnd g2
    refine Goes.cut (s':=(ofG 19 ((0,.fslice 5 (qaJ a c b))::(1,.func (.func 177) [] [])::(kL e v)),[])) ?_ ?_
    ·rcases wyD d with⟨z,d⟩|⟨z,d⟩
     ·obtain⟨A,k,d⟩:=bnd d
      obtain rfl:=si d
      exact tr fol [3,5] ((0,.fslice 5 (qaJ a c b))::(1,.func (.func 177) [] [])::(kL e A)) (ac (hs (.done (.opt (qo ZT 221 (.fslice 5 (qaJ a c b)) (.i e))) (.fptr [.func (.func 115) [] [.fptr (kA a.Kind a.Day a.Lot a.Amount a.Yarn a.Dye a.Order) 0,.fptr (kH c.Day c.Lots c.Holds) 0],.func (.func 116) [] [.fptr (kA a.Kind a.Day a.Lot a.Amount a.Yarn a.Dye a.Order) 0,.fptr (.str b.lot.Name::(kB b.lot.Yarn b.lot.Dye b.lot.Stock b.known b.hold.Lot b.hold.Order b.hold.Reserved b.hold.Taken b.free)) 0],.func (.func 117) [] [.fptr [.func (.func 132) [] [],.func (.func 133) [] []] 0,.fptr (.str b.lot.Name::(kB b.lot.Yarn b.lot.Dye b.lot.Stock b.known b.hold.Lot b.hold.Order b.hold.Reserved b.hold.Taken b.free)) 0,.fptr (kA a.Kind a.Day a.Lot a.Amount a.Yarn a.Dye a.Order) 0],.func (.func 118) [] [.fptr [.func (.func 132) [] [],.func (.func 133) [] []] 0,.fptr (.str b.lot.Name::(kB b.lot.Yarn b.lot.Dye b.lot.Stock b.known b.hold.Lot b.hold.Order b.hold.Reserved b.hold.Taken b.free)) 0,.fptr (kA a.Kind a.Day a.Lot a.Amount a.Yarn a.Dye a.Order) 0],.func (.func 119) [] [.fptr (kH c.Day c.Lots c.Holds) 0,.fptr (kA a.Kind a.Day a.Lot a.Amount a.Yarn a.Dye a.Order) 0]] 0)) (ixA (ot z) (by kernel_rfl))) (ac (hs (.call 177 [.func (.func 115) [] [.fptr (kA a.Kind a.Day a.Lot a.Amount a.Yarn a.Dye a.Order) 0,.fptr (kH c.Day c.Lots c.Holds) 0]] [] [] [.func (.func 115) [] [.fptr (kA a.Kind a.Day a.Lot a.Amount a.Yarn a.Dye a.Order) 0,.fptr (kH c.Day c.Lots c.Holds) 0]] (.bool A)) (qE (FzL.cons (Fz.func FzL.nil (FzL.cons (Ua (Still.fptr (AllST.cons tS (AllST.cons tI (AllST.cons tS (AllST.cons tI (AllST.cons tS (AllST.cons tS (AllST.cons tS AllST.nil))))))))) (FzL.cons (Ua (Still.fptr (AllST.cons tI (AllST.cons (qg qb _ (nl rfl)) (AllST.cons (qg qa _ (nl rfl)) AllST.nil))))) FzL.nil))) FzL.nil) (jJ a c k) tB)) az))
     rcases wyD d with⟨B,d⟩|⟨B,d⟩
     ·obtain⟨C,n,d⟩:=bnd d
      obtain rfl:=si d
      exact tr fol [3,5] ((0,.fslice 5 (qaJ a c b))::(1,.func (.func 177) [] [])::(kL e C)) (ac (hs (.done (.opt (qo ZT 221 (.fslice 5 (qaJ a c b)) (.i e))) (.fptr [.func (.func 115) [] [.fptr (kA a.Kind a.Day a.Lot a.Amount a.Yarn a.Dye a.Order) 0,.fptr (kH c.Day c.Lots c.Holds) 0],.func (.func 116) [] [.fptr (kA a.Kind a.Day a.Lot a.Amount a.Yarn a.Dye a.Order) 0,.fptr (.str b.lot.Name::(kB b.lot.Yarn b.lot.Dye b.lot.Stock b.known b.hold.Lot b.hold.Order b.hold.Reserved b.hold.Taken b.free)) 0],.func (.func 117) [] [.fptr [.func (.func 132) [] [],.func (.func 133) [] []] 0,.fptr (.str b.lot.Name::(kB b.lot.Yarn b.lot.Dye b.lot.Stock b.known b.hold.Lot b.hold.Order b.hold.Reserved b.hold.Taken b.free)) 0,.fptr (kA a.Kind a.Day a.Lot a.Amount a.Yarn a.Dye a.Order) 0],.func (.func 118) [] [.fptr [.func (.func 132) [] [],.func (.func 133) [] []] 0,.fptr (.str b.lot.Name::(kB b.lot.Yarn b.lot.Dye b.lot.Stock b.known b.hold.Lot b.hold.Order b.hold.Reserved b.hold.Taken b.free)) 0,.fptr (kA a.Kind a.Day a.Lot a.Amount a.Yarn a.Dye a.Order) 0],.func (.func 119) [] [.fptr (kH c.Day c.Lots c.Holds) 0,.fptr (kA a.Kind a.Day a.Lot a.Amount a.Yarn a.Dye a.Order) 0]] 1)) (ixA (ot B) (by kernel_rfl))) (ac (hs (.call 177 [.func (.func 116) [] [.fptr (kA a.Kind a.Day a.Lot a.Amount a.Yarn a.Dye a.Order) 0,.fptr (.str b.lot.Name::(kB b.lot.Yarn b.lot.Dye b.lot.Stock b.known b.hold.Lot b.hold.Order b.hold.Reserved b.hold.Taken b.free)) 0]] [] [] [.func (.func 116) [] [.fptr (kA a.Kind a.Day a.Lot a.Amount a.Yarn a.Dye a.Order) 0,.fptr (.str b.lot.Name::(kB b.lot.Yarn b.lot.Dye b.lot.Stock b.known b.hold.Lot b.hold.Order b.hold.Reserved b.hold.Taken b.free)) 0]] (.bool C)) (qE (FzL.cons (Fz.func FzL.nil (FzL.cons (Ua (Still.fptr (AllST.cons tS (AllST.cons tI (AllST.cons tS (AllST.cons tI (AllST.cons tS (AllST.cons tS (AllST.cons tS AllST.nil))))))))) (FzL.cons (Ua (Still.fptr (AllST.cons tS (AllST.cons tS (AllST.cons tS (AllST.cons tI (AllST.cons tB (AllST.cons tS (AllST.cons tS (AllST.cons tI (AllST.cons tI (AllST.cons tI AllST.nil)))))))))))) FzL.nil))) FzL.nil) (jE a b n) tB)) az))
     rcases wyD d with⟨D,d⟩|⟨D,d⟩
     ·obtain⟨o,f,d⟩:=bnd d
      obtain rfl:=si d
      exact tr fol [3,5] ((0,.fslice 5 (qaJ a c b))::(1,.func (.func 177) [] [])::(kL e o)) (ac (hs (.done (.opt (qo ZT 221 (.fslice 5 (qaJ a c b)) (.i e))) (.fptr [.func (.func 115) [] [.fptr (kA a.Kind a.Day a.Lot a.Amount a.Yarn a.Dye a.Order) 0,.fptr (kH c.Day c.Lots c.Holds) 0],.func (.func 116) [] [.fptr (kA a.Kind a.Day a.Lot a.Amount a.Yarn a.Dye a.Order) 0,.fptr (.str b.lot.Name::(kB b.lot.Yarn b.lot.Dye b.lot.Stock b.known b.hold.Lot b.hold.Order b.hold.Reserved b.hold.Taken b.free)) 0],.func (.func 117) [] [.fptr [.func (.func 132) [] [],.func (.func 133) [] []] 0,.fptr (.str b.lot.Name::(kB b.lot.Yarn b.lot.Dye b.lot.Stock b.known b.hold.Lot b.hold.Order b.hold.Reserved b.hold.Taken b.free)) 0,.fptr (kA a.Kind a.Day a.Lot a.Amount a.Yarn a.Dye a.Order) 0],.func (.func 118) [] [.fptr [.func (.func 132) [] [],.func (.func 133) [] []] 0,.fptr (.str b.lot.Name::(kB b.lot.Yarn b.lot.Dye b.lot.Stock b.known b.hold.Lot b.hold.Order b.hold.Reserved b.hold.Taken b.free)) 0,.fptr (kA a.Kind a.Day a.Lot a.Amount a.Yarn a.Dye a.Order) 0],.func (.func 119) [] [.fptr (kH c.Day c.Lots c.Holds) 0,.fptr (kA a.Kind a.Day a.Lot a.Amount a.Yarn a.Dye a.Order) 0]] 2)) (ixA (ot D) (by kernel_rfl))) (ac (hs (.call 177 [.func (.func 117) [] [.fptr [.func (.func 132) [] [],.func (.func 133) [] []] 0,.fptr (.str b.lot.Name::(kB b.lot.Yarn b.lot.Dye b.lot.Stock b.known b.hold.Lot b.hold.Order b.hold.Reserved b.hold.Taken b.free)) 0,.fptr (kA a.Kind a.Day a.Lot a.Amount a.Yarn a.Dye a.Order) 0]] [] [] [.func (.func 117) [] [.fptr [.func (.func 132) [] [],.func (.func 133) [] []] 0,.fptr (.str b.lot.Name::(kB b.lot.Yarn b.lot.Dye b.lot.Stock b.known b.hold.Lot b.hold.Order b.hold.Reserved b.hold.Taken b.free)) 0,.fptr (kA a.Kind a.Day a.Lot a.Amount a.Yarn a.Dye a.Order) 0]] (.bool o)) (qE (FzL.cons (Fz.func FzL.nil (FzL.cons (Ua (Still.fptr (AllST.cons (Still.func AllST.nil AllST.nil) (AllST.cons (Still.func AllST.nil AllST.nil) AllST.nil)))) (FzL.cons (Ua (Still.fptr (AllST.cons tS (AllST.cons tS (AllST.cons tS (AllST.cons tI (AllST.cons tB (AllST.cons tS (AllST.cons tS (AllST.cons tI (AllST.cons tI (AllST.cons tI AllST.nil)))))))))))) (FzL.cons (Ua (Still.fptr (AllST.cons tS (AllST.cons tI (AllST.cons tS (AllST.cons tI (AllST.cons tS (AllST.cons tS (AllST.cons tS AllST.nil))))))))) FzL.nil)))) FzL.nil) (qdb b a f) tB)) az))
     rcases wyD d with⟨p,d⟩|⟨p,d⟩
     ·obtain⟨q,g,d⟩:=bnd d
      obtain rfl:=si d
      exact tr fol [3,5] ((0,.fslice 5 (qaJ a c b))::(1,.func (.func 177) [] [])::(kL e q)) (ac (hs (.done (.opt (qo ZT 221 (.fslice 5 (qaJ a c b)) (.i e))) (.fptr [.func (.func 115) [] [.fptr (kA a.Kind a.Day a.Lot a.Amount a.Yarn a.Dye a.Order) 0,.fptr (kH c.Day c.Lots c.Holds) 0],.func (.func 116) [] [.fptr (kA a.Kind a.Day a.Lot a.Amount a.Yarn a.Dye a.Order) 0,.fptr (.str b.lot.Name::(kB b.lot.Yarn b.lot.Dye b.lot.Stock b.known b.hold.Lot b.hold.Order b.hold.Reserved b.hold.Taken b.free)) 0],.func (.func 117) [] [.fptr [.func (.func 132) [] [],.func (.func 133) [] []] 0,.fptr (.str b.lot.Name::(kB b.lot.Yarn b.lot.Dye b.lot.Stock b.known b.hold.Lot b.hold.Order b.hold.Reserved b.hold.Taken b.free)) 0,.fptr (kA a.Kind a.Day a.Lot a.Amount a.Yarn a.Dye a.Order) 0],.func (.func 118) [] [.fptr [.func (.func 132) [] [],.func (.func 133) [] []] 0,.fptr (.str b.lot.Name::(kB b.lot.Yarn b.lot.Dye b.lot.Stock b.known b.hold.Lot b.hold.Order b.hold.Reserved b.hold.Taken b.free)) 0,.fptr (kA a.Kind a.Day a.Lot a.Amount a.Yarn a.Dye a.Order) 0],.func (.func 119) [] [.fptr (kH c.Day c.Lots c.Holds) 0,.fptr (kA a.Kind a.Day a.Lot a.Amount a.Yarn a.Dye a.Order) 0]] 3)) (ixA (ot p) (by kernel_rfl))) (ac (hs (.call 177 [.func (.func 118) [] [.fptr [.func (.func 132) [] [],.func (.func 133) [] []] 0,.fptr (.str b.lot.Name::(kB b.lot.Yarn b.lot.Dye b.lot.Stock b.known b.hold.Lot b.hold.Order b.hold.Reserved b.hold.Taken b.free)) 0,.fptr (kA a.Kind a.Day a.Lot a.Amount a.Yarn a.Dye a.Order) 0]] [] [] [.func (.func 118) [] [.fptr [.func (.func 132) [] [],.func (.func 133) [] []] 0,.fptr (.str b.lot.Name::(kB b.lot.Yarn b.lot.Dye b.lot.Stock b.known b.hold.Lot b.hold.Order b.hold.Reserved b.hold.Taken b.free)) 0,.fptr (kA a.Kind a.Day a.Lot a.Amount a.Yarn a.Dye a.Order) 0]] (.bool q)) (qE (FzL.cons (Fz.func FzL.nil (FzL.cons (Ua (Still.fptr (AllST.cons (Still.func AllST.nil AllST.nil) (AllST.cons (Still.func AllST.nil AllST.nil) AllST.nil)))) (FzL.cons (Ua (Still.fptr (AllST.cons tS (AllST.cons tS (AllST.cons tS (AllST.cons tI (AllST.cons tB (AllST.cons tS (AllST.cons tS (AllST.cons tI (AllST.cons tI (AllST.cons tI AllST.nil)))))))))))) (FzL.cons (Ua (Still.fptr (AllST.cons tS (AllST.cons tI (AllST.cons tS (AllST.cons tI (AllST.cons tS (AllST.cons tS (AllST.cons tS AllST.nil))))))))) FzL.nil)))) FzL.nil) (qcR b a g) tB)) az))
     rcases wyD d with⟨r,d⟩|⟨r,d⟩
     ·obtain⟨t,j,d⟩:=bnd d
      obtain rfl:=si d
      exact tr fol [3,5] ((0,.fslice 5 (qaJ a c b))::(1,.func (.func 177) [] [])::(kL e t)) (ac (hs (.done (.opt (qo ZT 221 (.fslice 5 (qaJ a c b)) (.i e))) (.fptr [.func (.func 115) [] [.fptr (kA a.Kind a.Day a.Lot a.Amount a.Yarn a.Dye a.Order) 0,.fptr (kH c.Day c.Lots c.Holds) 0],.func (.func 116) [] [.fptr (kA a.Kind a.Day a.Lot a.Amount a.Yarn a.Dye a.Order) 0,.fptr (.str b.lot.Name::(kB b.lot.Yarn b.lot.Dye b.lot.Stock b.known b.hold.Lot b.hold.Order b.hold.Reserved b.hold.Taken b.free)) 0],.func (.func 117) [] [.fptr [.func (.func 132) [] [],.func (.func 133) [] []] 0,.fptr (.str b.lot.Name::(kB b.lot.Yarn b.lot.Dye b.lot.Stock b.known b.hold.Lot b.hold.Order b.hold.Reserved b.hold.Taken b.free)) 0,.fptr (kA a.Kind a.Day a.Lot a.Amount a.Yarn a.Dye a.Order) 0],.func (.func 118) [] [.fptr [.func (.func 132) [] [],.func (.func 133) [] []] 0,.fptr (.str b.lot.Name::(kB b.lot.Yarn b.lot.Dye b.lot.Stock b.known b.hold.Lot b.hold.Order b.hold.Reserved b.hold.Taken b.free)) 0,.fptr (kA a.Kind a.Day a.Lot a.Amount a.Yarn a.Dye a.Order) 0],.func (.func 119) [] [.fptr (kH c.Day c.Lots c.Holds) 0,.fptr (kA a.Kind a.Day a.Lot a.Amount a.Yarn a.Dye a.Order) 0]] 4)) (ixA (ot r) (by kernel_rfl))) (ac (hs (.call 177 [.func (.func 119) [] [.fptr (kH c.Day c.Lots c.Holds) 0,.fptr (kA a.Kind a.Day a.Lot a.Amount a.Yarn a.Dye a.Order) 0]] [] [] [.func (.func 119) [] [.fptr (kH c.Day c.Lots c.Holds) 0,.fptr (kA a.Kind a.Day a.Lot a.Amount a.Yarn a.Dye a.Order) 0]] (.bool t)) (qE (FzL.cons (Fz.func FzL.nil (FzL.cons (Ua (Still.fptr (AllST.cons tI (AllST.cons (qg qb _ (nl rfl)) (AllST.cons (qg qa _ (nl rfl)) AllST.nil))))) (FzL.cons (Ua (Still.fptr (AllST.cons tS (AllST.cons tI (AllST.cons tS (AllST.cons tI (AllST.cons tS (AllST.cons tS (AllST.cons tS AllST.nil))))))))) FzL.nil))) FzL.nil) (jH N c a j) tB)) az))
     cases d
    refine ihB g2 (fun w g2=>?_) (fun w g2=>?_)
    ·refine sh fol (kAs e) ?_
     refine Goes.ret ?_
     obtain rfl:=si g2
     exact Or.inr (⟨rfl,_,rfl,(gw2 [.i e] (Ub tI))⟩)
    refine Goes.skip ?_
    refine gh fol ((0,.fslice 5 (qaJ a c b))::(1,.func (.func 177) [] [])::(kAH (w64 (e+1)))) ?_
    exact⟨M,(ofG 19 ((0,.fslice 5 (qaJ a c b))::(1,.func (.func 177) [] [])::(kAH (w64 (e+1)))),[]),Nat.lt_succ_self _,(Sub.refl _),_,rfl,g2⟩
   refine Goes.exit ?_
   obtain rfl:=si g2
   exact Or.inl (⟨rfl,rfl,(Sub.keep [] rfl rfl)⟩)
 rintro x s' (⟨rfl,rfl,hsub⟩|⟨rfl,F,rfl,hret⟩)
 ·try dsimp only at h
  refine Goes.sub hsub ?_
  refine sh fol kAq ?_
  refine Goes.ret ?_
  obtain rfl:=si h
  exact(gw2 [.i (-1)] (Ub tI))
 try dsimp only at h
 obtain rfl:=si h
 exact hret
def xY (N:Nat) (a:qh) (b:qm) (c:qc):Option Int:=
 (jB N a b c).bind fun d=>
 some (w64 (1+d))
theorem qew (N:Nat) (a:qh) (b:qm) (c:qc) {res:Int} (h:xY N a b c=some res):qf ZT (.fn 114) [.fslice 5 (qaJ a b c)] [] (.i res) []:=by
 unfold xY at h
 refine Uc Tryz.func114 rfl rfl (m:=6) rfl (rs:=[.tmp 2]) rfl (l:=[(0,.fslice 5 (qaJ a b c))]) rfl ?_
 refine sh fol [(0,.fslice 5 (qaJ a b c))] ?_
 obtain⟨e,d,h⟩:=bnd h
 refine sq (gr fol [1] (kAu (w64 (1+e))) (ac (hs (.call 176 [.fslice 5 (qaJ a b c),.func (.func 177) [] []] [] [] [.fslice 5 (qaJ a b c),.func (.func 177) [] []] (.i e)) (qE (FzL.cons (Ua (Still.fslice (AllST.cons (Still.func AllST.nil (AllST.cons (Still.fptr (AllST.cons tS (AllST.cons tI (AllST.cons tS (AllST.cons tI (AllST.cons tS (AllST.cons tS (AllST.cons tS AllST.nil)))))))) (AllST.cons (Still.fptr (AllST.cons tI (AllST.cons (qg qb _ (nl rfl)) (AllST.cons (qg qa _ (nl rfl)) AllST.nil)))) AllST.nil))) (AllST.cons (Still.func AllST.nil (AllST.cons (Still.fptr (AllST.cons tS (AllST.cons tI (AllST.cons tS (AllST.cons tI (AllST.cons tS (AllST.cons tS (AllST.cons tS AllST.nil)))))))) (AllST.cons (Still.fptr (AllST.cons tS (AllST.cons tS (AllST.cons tS (AllST.cons tI (AllST.cons tB (AllST.cons tS (AllST.cons tS (AllST.cons tI (AllST.cons tI (AllST.cons tI AllST.nil))))))))))) AllST.nil))) (AllST.cons (Still.func AllST.nil (AllST.cons (Still.fptr (AllST.cons (Still.func AllST.nil AllST.nil) (AllST.cons (Still.func AllST.nil AllST.nil) AllST.nil))) (AllST.cons (Still.fptr (AllST.cons tS (AllST.cons tS (AllST.cons tS (AllST.cons tI (AllST.cons tB (AllST.cons tS (AllST.cons tS (AllST.cons tI (AllST.cons tI (AllST.cons tI AllST.nil))))))))))) (AllST.cons (Still.fptr (AllST.cons tS (AllST.cons tI (AllST.cons tS (AllST.cons tI (AllST.cons tS (AllST.cons tS (AllST.cons tS AllST.nil)))))))) AllST.nil)))) (AllST.cons (Still.func AllST.nil (AllST.cons (Still.fptr (AllST.cons (Still.func AllST.nil AllST.nil) (AllST.cons (Still.func AllST.nil AllST.nil) AllST.nil))) (AllST.cons (Still.fptr (AllST.cons tS (AllST.cons tS (AllST.cons tS (AllST.cons tI (AllST.cons tB (AllST.cons tS (AllST.cons tS (AllST.cons tI (AllST.cons tI (AllST.cons tI AllST.nil))))))))))) (AllST.cons (Still.fptr (AllST.cons tS (AllST.cons tI (AllST.cons tS (AllST.cons tI (AllST.cons tS (AllST.cons tS (AllST.cons tS AllST.nil)))))))) AllST.nil)))) (AllST.cons (Still.func AllST.nil (AllST.cons (Still.fptr (AllST.cons tI (AllST.cons (qg qb _ (nl rfl)) (AllST.cons (qg qa _ (nl rfl)) AllST.nil)))) (AllST.cons (Still.fptr (AllST.cons tS (AllST.cons tI (AllST.cons tS (AllST.cons tI (AllST.cons tS (AllST.cons tS (AllST.cons tS AllST.nil)))))))) AllST.nil))) AllST.nil))))))) (FzL.cons (Fz.func FzL.nil FzL.nil) FzL.nil)) (qbb N a b c d) tI)) az) ?_)
 refine Goes.ret ?_
 obtain rfl:=si h
 exact(gw2 [.i (w64 (1+e))] (Ub tI))
def yx (a:qc) (b:qh):Option Bool:=
 (qbW a b.Amount).bind fun c=>
 some c
theorem qbE (a:qc) (b:qh) {res:Bool} (h:yx a b=some res):qf ZT (.fn 117) [.fptr [.func (.func 134) [] [],.func (.func 135) [] []] 0,.fptr (.str a.lot.Name::(kB a.lot.Yarn a.lot.Dye a.lot.Stock a.known a.hold.Lot a.hold.Order a.hold.Reserved a.hold.Taken a.free)) 0,.fptr (kA b.Kind b.Day b.Lot b.Amount b.Yarn b.Dye b.Order) 0] [] (.bool res) []:=by
 unfold yx at h
 refine Uc Tryz.func117 rfl rfl (m:=10) rfl (rs:=[.tmp 3]) rfl (l:=[(0,.fptr [.func (.func 134) [] [],.func (.func 135) [] []] 0),(1,.fptr (.str a.lot.Name::(kB a.lot.Yarn a.lot.Dye a.lot.Stock a.known a.hold.Lot a.hold.Order a.hold.Reserved a.hold.Taken a.free)) 0),(2,.fptr (kA b.Kind b.Day b.Lot b.Amount b.Yarn b.Dye b.Order) 0)]) rfl ?_
 refine sh fol [(0,.fptr [.func (.func 134) [] [],.func (.func 135) [] []] 0),(1,.fptr (.str a.lot.Name::(kB a.lot.Yarn a.lot.Dye a.lot.Stock a.known a.hold.Lot a.hold.Order a.hold.Reserved a.hold.Taken a.free)) 0),(2,.fptr (kA b.Kind b.Day b.Lot b.Amount b.Yarn b.Dye b.Order) 0)] ?_
 obtain⟨d,c,h⟩:=bnd h
 refine sq (gr fol [5] (kAw d) (ac (cv (qeQ a b.Amount c)) az) ?_)
 refine Goes.ret ?_
 obtain rfl:=si h
 exact(gw2 [.bool d] (Ub tB))
def qad (a:qc) (b:qh):Option Bool:=
 (yx a b).bind fun c=>
 some (!c)
theorem qdm (a:qc) (b:qh) {res:Bool} (h:qad a b=some res):qf ZT (.fn 177) [.func (.func 117) [] [.fptr [.func (.func 134) [] [],.func (.func 135) [] []] 0,.fptr (.str a.lot.Name::(kB a.lot.Yarn a.lot.Dye a.lot.Stock a.known a.hold.Lot a.hold.Order a.hold.Reserved a.hold.Taken a.free)) 0,.fptr (kA b.Kind b.Day b.Lot b.Amount b.Yarn b.Dye b.Order) 0]] [] (.bool res) []:=by
 unfold qad at h
 refine Uc Tryz.func177 rfl rfl (m:=6) rfl (rs:=[.tmp 2]) rfl (l:=[(0,.func (.func 117) [] [.fptr [.func (.func 134) [] [],.func (.func 135) [] []] 0,.fptr (.str a.lot.Name::(kB a.lot.Yarn a.lot.Dye a.lot.Stock a.known a.hold.Lot a.hold.Order a.hold.Reserved a.hold.Taken a.free)) 0,.fptr (kA b.Kind b.Day b.Lot b.Amount b.Yarn b.Dye b.Order) 0])]) rfl ?_
 refine sh fol [(0,.func (.func 117) [] [.fptr [.func (.func 134) [] [],.func (.func 135) [] []] 0,.fptr (.str a.lot.Name::(kB a.lot.Yarn a.lot.Dye a.lot.Stock a.known a.hold.Lot a.hold.Order a.hold.Reserved a.hold.Taken a.free)) 0,.fptr (kA b.Kind b.Day b.Lot b.Amount b.Yarn b.Dye b.Order) 0])] ?_
 obtain⟨d,c,h⟩:=bnd h
 refine sq (gr fol [1] (kAV (!d)) (ac (hs (.call 117 [.fptr [.func (.func 134) [] [],.func (.func 135) [] []] 0,.fptr (.str a.lot.Name::(kB a.lot.Yarn a.lot.Dye a.lot.Stock a.known a.hold.Lot a.hold.Order a.hold.Reserved a.hold.Taken a.free)) 0,.fptr (kA b.Kind b.Day b.Lot b.Amount b.Yarn b.Dye b.Order) 0] [] [] [.fptr [.func (.func 134) [] [],.func (.func 135) [] []] 0,.fptr (.str a.lot.Name::(kB a.lot.Yarn a.lot.Dye a.lot.Stock a.known a.hold.Lot a.hold.Order a.hold.Reserved a.hold.Taken a.free)) 0,.fptr (kA b.Kind b.Day b.Lot b.Amount b.Yarn b.Dye b.Order) 0] (.bool d)) (qE (FzL.cons (Ua (Still.fptr (AllST.cons (Still.func AllST.nil AllST.nil) (AllST.cons (Still.func AllST.nil AllST.nil) AllST.nil)))) (FzL.cons (Ua (Still.fptr (AllST.cons tS (AllST.cons tS (AllST.cons tS (AllST.cons tI (AllST.cons tB (AllST.cons tS (AllST.cons tS (AllST.cons tI (AllST.cons tI (AllST.cons tI AllST.nil)))))))))))) (FzL.cons (Ua (Still.fptr (AllST.cons tS (AllST.cons tI (AllST.cons tS (AllST.cons tI (AllST.cons tS (AllST.cons tS (AllST.cons tS AllST.nil))))))))) FzL.nil))) (qbE a b c) tB)) az) ?_)
 refine Goes.ret ?_
 obtain rfl:=si h
 exact(gw2 [.bool (!d)] (Ub tB))
def yL (b:qc) (c:qh):Option Bool:=
 (xy b c.Amount).bind fun a=>
 some (decide ((if a.hold.Taken>a.lot.Stock then a.hold.Taken else a.lot.Stock)<=999999999))
theorem qbM (a:qc) (b:qh) {res:Bool} (h:yL a b=some res):qf ZT (.fn 118) [.fptr [.func (.func 134) [] [],.func (.func 135) [] []] 0,.fptr (.str a.lot.Name::(kB a.lot.Yarn a.lot.Dye a.lot.Stock a.known a.hold.Lot a.hold.Order a.hold.Reserved a.hold.Taken a.free)) 0,.fptr (kA b.Kind b.Day b.Lot b.Amount b.Yarn b.Dye b.Order) 0] [] (.bool res) []:=by
 unfold yL at h
 refine Uc Tryz.func118 rfl rfl (m:=19) rfl (rs:=[.tmp 3]) rfl (l:=[(0,.fptr [.func (.func 134) [] [],.func (.func 135) [] []] 0),(1,.fptr (.str a.lot.Name::(kB a.lot.Yarn a.lot.Dye a.lot.Stock a.known a.hold.Lot a.hold.Order a.hold.Reserved a.hold.Taken a.free)) 0),(2,.fptr (kA b.Kind b.Day b.Lot b.Amount b.Yarn b.Dye b.Order) 0)]) rfl ?_
 refine sh fol [(0,.fptr [.func (.func 134) [] [],.func (.func 135) [] []] 0),(1,.fptr (.str a.lot.Name::(kB a.lot.Yarn a.lot.Dye a.lot.Stock a.known a.hold.Lot a.hold.Order a.hold.Reserved a.hold.Taken a.free)) 0),(2,.fptr (kA b.Kind b.Day b.Lot b.Amount b.Yarn b.Dye b.Order) 0)] ?_
 obtain⟨c,d,h⟩:=bnd h
 refine sq (gq fol [5] kAz (kC c.lot.Name c.lot.Yarn c.lot.Dye c.lot.Stock c.known c.hold.Lot c.hold.Order c.hold.Reserved c.hold.Taken c.free []) (ac (cv (qb6 a b.Amount d)) az) ?_)
 refine sh fol (kAw (decide ((if c.hold.Taken>c.lot.Stock then c.hold.Taken else c.lot.Stock)<=999999999))) ?_
 refine Goes.ret ?_
 obtain rfl:=si h
 exact(gw2 [.bool (decide ((if c.hold.Taken>c.lot.Stock then c.hold.Taken else c.lot.Stock)<=999999999))] (Ub tB))
def xU (a:qc) (b:qh):Option Bool:=
 (yL a b).bind fun c=>
 some (!c)
theorem qcN (a:qc) (b:qh) {res:Bool} (h:xU a b=some res):qf ZT (.fn 177) [.func (.func 118) [] [.fptr [.func (.func 134) [] [],.func (.func 135) [] []] 0,.fptr (.str a.lot.Name::(kB a.lot.Yarn a.lot.Dye a.lot.Stock a.known a.hold.Lot a.hold.Order a.hold.Reserved a.hold.Taken a.free)) 0,.fptr (kA b.Kind b.Day b.Lot b.Amount b.Yarn b.Dye b.Order) 0]] [] (.bool res) []:=by
 unfold xU at h
 refine Uc Tryz.func177 rfl rfl (m:=6) rfl (rs:=[.tmp 2]) rfl (l:=[(0,.func (.func 118) [] [.fptr [.func (.func 134) [] [],.func (.func 135) [] []] 0,.fptr (.str a.lot.Name::(kB a.lot.Yarn a.lot.Dye a.lot.Stock a.known a.hold.Lot a.hold.Order a.hold.Reserved a.hold.Taken a.free)) 0,.fptr (kA b.Kind b.Day b.Lot b.Amount b.Yarn b.Dye b.Order) 0])]) rfl ?_
 refine sh fol [(0,.func (.func 118) [] [.fptr [.func (.func 134) [] [],.func (.func 135) [] []] 0,.fptr (.str a.lot.Name::(kB a.lot.Yarn a.lot.Dye a.lot.Stock a.known a.hold.Lot a.hold.Order a.hold.Reserved a.hold.Taken a.free)) 0,.fptr (kA b.Kind b.Day b.Lot b.Amount b.Yarn b.Dye b.Order) 0])] ?_
 obtain⟨d,c,h⟩:=bnd h
 refine sq (gr fol [1] (kAV (!d)) (ac (hs (.call 118 [.fptr [.func (.func 134) [] [],.func (.func 135) [] []] 0,.fptr (.str a.lot.Name::(kB a.lot.Yarn a.lot.Dye a.lot.Stock a.known a.hold.Lot a.hold.Order a.hold.Reserved a.hold.Taken a.free)) 0,.fptr (kA b.Kind b.Day b.Lot b.Amount b.Yarn b.Dye b.Order) 0] [] [] [.fptr [.func (.func 134) [] [],.func (.func 135) [] []] 0,.fptr (.str a.lot.Name::(kB a.lot.Yarn a.lot.Dye a.lot.Stock a.known a.hold.Lot a.hold.Order a.hold.Reserved a.hold.Taken a.free)) 0,.fptr (kA b.Kind b.Day b.Lot b.Amount b.Yarn b.Dye b.Order) 0] (.bool d)) (qE (FzL.cons (Ua (Still.fptr (AllST.cons (Still.func AllST.nil AllST.nil) (AllST.cons (Still.func AllST.nil AllST.nil) AllST.nil)))) (FzL.cons (Ua (Still.fptr (AllST.cons tS (AllST.cons tS (AllST.cons tS (AllST.cons tI (AllST.cons tB (AllST.cons tS (AllST.cons tS (AllST.cons tI (AllST.cons tI (AllST.cons tI AllST.nil)))))))))))) (FzL.cons (Ua (Still.fptr (AllST.cons tS (AllST.cons tI (AllST.cons tS (AllST.cons tI (AllST.cons tS (AllST.cons tS (AllST.cons tS AllST.nil))))))))) FzL.nil))) (qbM a b c) tB)) az) ?_)
 refine Goes.ret ?_
 obtain rfl:=si h
 exact(gw2 [.bool (!d)] (Ub tB))
def qV (N:Nat) (a:qh) (d:qm) (b:qc):Nat->Int->Option (Unit⊕Int)
 |0,_=>none
 |K+1,c=>
  if c<5 then
  (if c=0 then
  (zq a d).bind fun i=>
  some i
  else
  if c=1 then
  (q9 a b).bind fun j=>
  some j
  else
  if c=2 then
  (qad b a).bind fun e=>
  some e
  else
  if c=3 then
  (xU b a).bind fun f=>
  some f
  else
  if c=4 then
  (zo N d a).bind fun g=>
  some g
  else
  none:Option Bool).bind fun h=>
  if h=true then
  some (.inr c)
  else
  qV N a d b K (w64 (c+1))
  else
  some (.inl ())
def jA (N:Nat) (a:qh) (b:qm) (c:qc):Option Int:=
 (qV N a b c N 0).bind (fun
 |(.inl ())=>
 some (-1)
 |(.inr d)=>
 some d)
theorem qa6 (N:Nat) (a:qh) (c:qm) (b:qc) {res:Int} (h:jA N a c b=some res):qf ZT (.fn 176) [.fslice 5 (qaM a c b),.func (.func 177) [] []] [] (.i res) []:=by
 unfold jA at h
 refine Uc Tryz.func176 rfl rfl (m:=19) rfl (rs:=[.tmp 4]) rfl (l:=[(0,.fslice 5 (qaM a c b)),(1,.func (.func 177) [] [])]) rfl ?_
 refine sh fol [(0,.fslice 5 (qaM a c b)),(1,.func (.func 177) [] [])] ?_
 refine sq ?_
 refine sh fol ((0,.fslice 5 (qaM a c b))::(1,.func (.func 177) [] [])::kA0) ?_
 refine Goes.block ?_
 obtain⟨u,g2,h⟩:=bnd h
 refine Goes.imp (Q:=fun x s'=>(x= .exit 0/\(.inl ())=u/\Sub s' (ofG 19 [],[]))\/(x= .ret/\ ∃y,(.inr y)=u/\qP ZT [.tmp 4] (.i y) .ret s')) ?_ ?_
 ·refine Ud (fun M s=> ∃(e:Int),s=(ofG 19 ((0,.fslice 5 (qaM a c b))::(1,.func (.func 177) [] [])::(kAH e)),[])/\qV N a c b M e=some u) ?_ (m:=N) ⟨_,rfl,g2⟩
  rintro M s ⟨e,rfl,g2⟩
  cases M with
  |zero=>simp only[qV]at g2;cases g2
  |succ M=>
   rw[qV]at g2
   refine sh fol ((0,.fslice 5 (qaM a c b))::(1,.func (.func 177) [] [])::(kAv e (decide (e<5)))) ?_
   refine sq ?_
   refine ihD g2 (fun E g2=>?_) (fun E g2=>?_)
   ·refine Goes.skip ?_
    refine sq (Goes.block ?_)
    refine sh fol ((0,.fslice 5 (qaM a c b))::(1,.func (.func 177) [] [])::(5,.i e)::(kAH e)) ?_
    refine sq ?_
    obtain⟨v,d,g2⟩:=bnd g2
    refine Goes.cut (s':=(ofG 19 ((0,.fslice 5 (qaM a c b))::(1,.func (.func 177) [] [])::(kL e v)),[])) ?_ ?_
    ·rcases wyD d with⟨z,d⟩|⟨z,d⟩
     ·obtain⟨A,k,d⟩:=bnd d
      obtain rfl:=si d
      exact tr fol [3,5] ((0,.fslice 5 (qaM a c b))::(1,.func (.func 177) [] [])::(kL e A)) (ac (hs (.done (.opt (qo ZT 221 (.fslice 5 (qaM a c b)) (.i e))) (.fptr [.func (.func 115) [] [.fptr (kA a.Kind a.Day a.Lot a.Amount a.Yarn a.Dye a.Order) 0,.fptr (kH c.Day c.Lots c.Holds) 0],.func (.func 116) [] [.fptr (kA a.Kind a.Day a.Lot a.Amount a.Yarn a.Dye a.Order) 0,.fptr (.str b.lot.Name::(kB b.lot.Yarn b.lot.Dye b.lot.Stock b.known b.hold.Lot b.hold.Order b.hold.Reserved b.hold.Taken b.free)) 0],.func (.func 117) [] [.fptr [.func (.func 134) [] [],.func (.func 135) [] []] 0,.fptr (.str b.lot.Name::(kB b.lot.Yarn b.lot.Dye b.lot.Stock b.known b.hold.Lot b.hold.Order b.hold.Reserved b.hold.Taken b.free)) 0,.fptr (kA a.Kind a.Day a.Lot a.Amount a.Yarn a.Dye a.Order) 0],.func (.func 118) [] [.fptr [.func (.func 134) [] [],.func (.func 135) [] []] 0,.fptr (.str b.lot.Name::(kB b.lot.Yarn b.lot.Dye b.lot.Stock b.known b.hold.Lot b.hold.Order b.hold.Reserved b.hold.Taken b.free)) 0,.fptr (kA a.Kind a.Day a.Lot a.Amount a.Yarn a.Dye a.Order) 0],.func (.func 119) [] [.fptr (kH c.Day c.Lots c.Holds) 0,.fptr (kA a.Kind a.Day a.Lot a.Amount a.Yarn a.Dye a.Order) 0]] 0)) (ixA (ot z) (by kernel_rfl))) (ac (hs (.call 177 [.func (.func 115) [] [.fptr (kA a.Kind a.Day a.Lot a.Amount a.Yarn a.Dye a.Order) 0,.fptr (kH c.Day c.Lots c.Holds) 0]] [] [] [.func (.func 115) [] [.fptr (kA a.Kind a.Day a.Lot a.Amount a.Yarn a.Dye a.Order) 0,.fptr (kH c.Day c.Lots c.Holds) 0]] (.bool A)) (qE (FzL.cons (Fz.func FzL.nil (FzL.cons (Ua (Still.fptr (AllST.cons tS (AllST.cons tI (AllST.cons tS (AllST.cons tI (AllST.cons tS (AllST.cons tS (AllST.cons tS AllST.nil))))))))) (FzL.cons (Ua (Still.fptr (AllST.cons tI (AllST.cons (qg qb _ (nl rfl)) (AllST.cons (qg qa _ (nl rfl)) AllST.nil))))) FzL.nil))) FzL.nil) (jJ a c k) tB)) az))
     rcases wyD d with⟨B,d⟩|⟨B,d⟩
     ·obtain⟨C,n,d⟩:=bnd d
      obtain rfl:=si d
      exact tr fol [3,5] ((0,.fslice 5 (qaM a c b))::(1,.func (.func 177) [] [])::(kL e C)) (ac (hs (.done (.opt (qo ZT 221 (.fslice 5 (qaM a c b)) (.i e))) (.fptr [.func (.func 115) [] [.fptr (kA a.Kind a.Day a.Lot a.Amount a.Yarn a.Dye a.Order) 0,.fptr (kH c.Day c.Lots c.Holds) 0],.func (.func 116) [] [.fptr (kA a.Kind a.Day a.Lot a.Amount a.Yarn a.Dye a.Order) 0,.fptr (.str b.lot.Name::(kB b.lot.Yarn b.lot.Dye b.lot.Stock b.known b.hold.Lot b.hold.Order b.hold.Reserved b.hold.Taken b.free)) 0],.func (.func 117) [] [.fptr [.func (.func 134) [] [],.func (.func 135) [] []] 0,.fptr (.str b.lot.Name::(kB b.lot.Yarn b.lot.Dye b.lot.Stock b.known b.hold.Lot b.hold.Order b.hold.Reserved b.hold.Taken b.free)) 0,.fptr (kA a.Kind a.Day a.Lot a.Amount a.Yarn a.Dye a.Order) 0],.func (.func 118) [] [.fptr [.func (.func 134) [] [],.func (.func 135) [] []] 0,.fptr (.str b.lot.Name::(kB b.lot.Yarn b.lot.Dye b.lot.Stock b.known b.hold.Lot b.hold.Order b.hold.Reserved b.hold.Taken b.free)) 0,.fptr (kA a.Kind a.Day a.Lot a.Amount a.Yarn a.Dye a.Order) 0],.func (.func 119) [] [.fptr (kH c.Day c.Lots c.Holds) 0,.fptr (kA a.Kind a.Day a.Lot a.Amount a.Yarn a.Dye a.Order) 0]] 1)) (ixA (ot B) (by kernel_rfl))) (ac (hs (.call 177 [.func (.func 116) [] [.fptr (kA a.Kind a.Day a.Lot a.Amount a.Yarn a.Dye a.Order) 0,.fptr (.str b.lot.Name::(kB b.lot.Yarn b.lot.Dye b.lot.Stock b.known b.hold.Lot b.hold.Order b.hold.Reserved b.hold.Taken b.free)) 0]] [] [] [.func (.func 116) [] [.fptr (kA a.Kind a.Day a.Lot a.Amount a.Yarn a.Dye a.Order) 0,.fptr (.str b.lot.Name::(kB b.lot.Yarn b.lot.Dye b.lot.Stock b.known b.hold.Lot b.hold.Order b.hold.Reserved b.hold.Taken b.free)) 0]] (.bool C)) (qE (FzL.cons (Fz.func FzL.nil (FzL.cons (Ua (Still.fptr (AllST.cons tS (AllST.cons tI (AllST.cons tS (AllST.cons tI (AllST.cons tS (AllST.cons tS (AllST.cons tS AllST.nil))))))))) (FzL.cons (Ua (Still.fptr (AllST.cons tS (AllST.cons tS (AllST.cons tS (AllST.cons tI (AllST.cons tB (AllST.cons tS (AllST.cons tS (AllST.cons tI (AllST.cons tI (AllST.cons tI AllST.nil)))))))))))) FzL.nil))) FzL.nil) (jE a b n) tB)) az))
     rcases wyD d with⟨D,d⟩|⟨D,d⟩
     ·obtain⟨o,f,d⟩:=bnd d
      obtain rfl:=si d
      exact tr fol [3,5] ((0,.fslice 5 (qaM a c b))::(1,.func (.func 177) [] [])::(kL e o)) (ac (hs (.done (.opt (qo ZT 221 (.fslice 5 (qaM a c b)) (.i e))) (.fptr [.func (.func 115) [] [.fptr (kA a.Kind a.Day a.Lot a.Amount a.Yarn a.Dye a.Order) 0,.fptr (kH c.Day c.Lots c.Holds) 0],.func (.func 116) [] [.fptr (kA a.Kind a.Day a.Lot a.Amount a.Yarn a.Dye a.Order) 0,.fptr (.str b.lot.Name::(kB b.lot.Yarn b.lot.Dye b.lot.Stock b.known b.hold.Lot b.hold.Order b.hold.Reserved b.hold.Taken b.free)) 0],.func (.func 117) [] [.fptr [.func (.func 134) [] [],.func (.func 135) [] []] 0,.fptr (.str b.lot.Name::(kB b.lot.Yarn b.lot.Dye b.lot.Stock b.known b.hold.Lot b.hold.Order b.hold.Reserved b.hold.Taken b.free)) 0,.fptr (kA a.Kind a.Day a.Lot a.Amount a.Yarn a.Dye a.Order) 0],.func (.func 118) [] [.fptr [.func (.func 134) [] [],.func (.func 135) [] []] 0,.fptr (.str b.lot.Name::(kB b.lot.Yarn b.lot.Dye b.lot.Stock b.known b.hold.Lot b.hold.Order b.hold.Reserved b.hold.Taken b.free)) 0,.fptr (kA a.Kind a.Day a.Lot a.Amount a.Yarn a.Dye a.Order) 0],.func (.func 119) [] [.fptr (kH c.Day c.Lots c.Holds) 0,.fptr (kA a.Kind a.Day a.Lot a.Amount a.Yarn a.Dye a.Order) 0]] 2)) (ixA (ot D) (by kernel_rfl))) (ac (hs (.call 177 [.func (.func 117) [] [.fptr [.func (.func 134) [] [],.func (.func 135) [] []] 0,.fptr (.str b.lot.Name::(kB b.lot.Yarn b.lot.Dye b.lot.Stock b.known b.hold.Lot b.hold.Order b.hold.Reserved b.hold.Taken b.free)) 0,.fptr (kA a.Kind a.Day a.Lot a.Amount a.Yarn a.Dye a.Order) 0]] [] [] [.func (.func 117) [] [.fptr [.func (.func 134) [] [],.func (.func 135) [] []] 0,.fptr (.str b.lot.Name::(kB b.lot.Yarn b.lot.Dye b.lot.Stock b.known b.hold.Lot b.hold.Order b.hold.Reserved b.hold.Taken b.free)) 0,.fptr (kA a.Kind a.Day a.Lot a.Amount a.Yarn a.Dye a.Order) 0]] (.bool o)) (qE (FzL.cons (Fz.func FzL.nil (FzL.cons (Ua (Still.fptr (AllST.cons (Still.func AllST.nil AllST.nil) (AllST.cons (Still.func AllST.nil AllST.nil) AllST.nil)))) (FzL.cons (Ua (Still.fptr (AllST.cons tS (AllST.cons tS (AllST.cons tS (AllST.cons tI (AllST.cons tB (AllST.cons tS (AllST.cons tS (AllST.cons tI (AllST.cons tI (AllST.cons tI AllST.nil)))))))))))) (FzL.cons (Ua (Still.fptr (AllST.cons tS (AllST.cons tI (AllST.cons tS (AllST.cons tI (AllST.cons tS (AllST.cons tS (AllST.cons tS AllST.nil))))))))) FzL.nil)))) FzL.nil) (qdm b a f) tB)) az))
     rcases wyD d with⟨p,d⟩|⟨p,d⟩
     ·obtain⟨q,g,d⟩:=bnd d
      obtain rfl:=si d
      exact tr fol [3,5] ((0,.fslice 5 (qaM a c b))::(1,.func (.func 177) [] [])::(kL e q)) (ac (hs (.done (.opt (qo ZT 221 (.fslice 5 (qaM a c b)) (.i e))) (.fptr [.func (.func 115) [] [.fptr (kA a.Kind a.Day a.Lot a.Amount a.Yarn a.Dye a.Order) 0,.fptr (kH c.Day c.Lots c.Holds) 0],.func (.func 116) [] [.fptr (kA a.Kind a.Day a.Lot a.Amount a.Yarn a.Dye a.Order) 0,.fptr (.str b.lot.Name::(kB b.lot.Yarn b.lot.Dye b.lot.Stock b.known b.hold.Lot b.hold.Order b.hold.Reserved b.hold.Taken b.free)) 0],.func (.func 117) [] [.fptr [.func (.func 134) [] [],.func (.func 135) [] []] 0,.fptr (.str b.lot.Name::(kB b.lot.Yarn b.lot.Dye b.lot.Stock b.known b.hold.Lot b.hold.Order b.hold.Reserved b.hold.Taken b.free)) 0,.fptr (kA a.Kind a.Day a.Lot a.Amount a.Yarn a.Dye a.Order) 0],.func (.func 118) [] [.fptr [.func (.func 134) [] [],.func (.func 135) [] []] 0,.fptr (.str b.lot.Name::(kB b.lot.Yarn b.lot.Dye b.lot.Stock b.known b.hold.Lot b.hold.Order b.hold.Reserved b.hold.Taken b.free)) 0,.fptr (kA a.Kind a.Day a.Lot a.Amount a.Yarn a.Dye a.Order) 0],.func (.func 119) [] [.fptr (kH c.Day c.Lots c.Holds) 0,.fptr (kA a.Kind a.Day a.Lot a.Amount a.Yarn a.Dye a.Order) 0]] 3)) (ixA (ot p) (by kernel_rfl))) (ac (hs (.call 177 [.func (.func 118) [] [.fptr [.func (.func 134) [] [],.func (.func 135) [] []] 0,.fptr (.str b.lot.Name::(kB b.lot.Yarn b.lot.Dye b.lot.Stock b.known b.hold.Lot b.hold.Order b.hold.Reserved b.hold.Taken b.free)) 0,.fptr (kA a.Kind a.Day a.Lot a.Amount a.Yarn a.Dye a.Order) 0]] [] [] [.func (.func 118) [] [.fptr [.func (.func 134) [] [],.func (.func 135) [] []] 0,.fptr (.str b.lot.Name::(kB b.lot.Yarn b.lot.Dye b.lot.Stock b.known b.hold.Lot b.hold.Order b.hold.Reserved b.hold.Taken b.free)) 0,.fptr (kA a.Kind a.Day a.Lot a.Amount a.Yarn a.Dye a.Order) 0]] (.bool q)) (qE (FzL.cons (Fz.func FzL.nil (FzL.cons (Ua (Still.fptr (AllST.cons (Still.func AllST.nil AllST.nil) (AllST.cons (Still.func AllST.nil AllST.nil) AllST.nil)))) (FzL.cons (Ua (Still.fptr (AllST.cons tS (AllST.cons tS (AllST.cons tS (AllST.cons tI (AllST.cons tB (AllST.cons tS (AllST.cons tS (AllST.cons tI (AllST.cons tI (AllST.cons tI AllST.nil)))))))))))) (FzL.cons (Ua (Still.fptr (AllST.cons tS (AllST.cons tI (AllST.cons tS (AllST.cons tI (AllST.cons tS (AllST.cons tS (AllST.cons tS AllST.nil))))))))) FzL.nil)))) FzL.nil) (qcN b a g) tB)) az))
     rcases wyD d with⟨r,d⟩|⟨r,d⟩
     ·obtain⟨t,j,d⟩:=bnd d
      obtain rfl:=si d
      exact tr fol [3,5] ((0,.fslice 5 (qaM a c b))::(1,.func (.func 177) [] [])::(kL e t)) (ac (hs (.done (.opt (qo ZT 221 (.fslice 5 (qaM a c b)) (.i e))) (.fptr [.func (.func 115) [] [.fptr (kA a.Kind a.Day a.Lot a.Amount a.Yarn a.Dye a.Order) 0,.fptr (kH c.Day c.Lots c.Holds) 0],.func (.func 116) [] [.fptr (kA a.Kind a.Day a.Lot a.Amount a.Yarn a.Dye a.Order) 0,.fptr (.str b.lot.Name::(kB b.lot.Yarn b.lot.Dye b.lot.Stock b.known b.hold.Lot b.hold.Order b.hold.Reserved b.hold.Taken b.free)) 0],.func (.func 117) [] [.fptr [.func (.func 134) [] [],.func (.func 135) [] []] 0,.fptr (.str b.lot.Name::(kB b.lot.Yarn b.lot.Dye b.lot.Stock b.known b.hold.Lot b.hold.Order b.hold.Reserved b.hold.Taken b.free)) 0,.fptr (kA a.Kind a.Day a.Lot a.Amount a.Yarn a.Dye a.Order) 0],.func (.func 118) [] [.fptr [.func (.func 134) [] [],.func (.func 135) [] []] 0,.fptr (.str b.lot.Name::(kB b.lot.Yarn b.lot.Dye b.lot.Stock b.known b.hold.Lot b.hold.Order b.hold.Reserved b.hold.Taken b.free)) 0,.fptr (kA a.Kind a.Day a.Lot a.Amount a.Yarn a.Dye a.Order) 0],.func (.func 119) [] [.fptr (kH c.Day c.Lots c.Holds) 0,.fptr (kA a.Kind a.Day a.Lot a.Amount a.Yarn a.Dye a.Order) 0]] 4)) (ixA (ot r) (by kernel_rfl))) (ac (hs (.call 177 [.func (.func 119) [] [.fptr (kH c.Day c.Lots c.Holds) 0,.fptr (kA a.Kind a.Day a.Lot a.Amount a.Yarn a.Dye a.Order) 0]] [] [] [.func (.func 119) [] [.fptr (kH c.Day c.Lots c.Holds) 0,.fptr (kA a.Kind a.Day a.Lot a.Amount a.Yarn a.Dye a.Order) 0]] (.bool t)) (qE (FzL.cons (Fz.func FzL.nil (FzL.cons (Ua (Still.fptr (AllST.cons tI (AllST.cons (qg qb _ (nl rfl)) (AllST.cons (qg qa _ (nl rfl)) AllST.nil))))) (FzL.cons (Ua (Still.fptr (AllST.cons tS (AllST.cons tI (AllST.cons tS (AllST.cons tI (AllST.cons tS (AllST.cons tS (AllST.cons tS AllST.nil))))))))) FzL.nil))) FzL.nil) (jH N c a j) tB)) az))
     cases d
    refine ihB g2 (fun w g2=>?_) (fun w g2=>?_)
    ·refine sh fol (kAs e) ?_
     refine Goes.ret ?_
     obtain rfl:=si g2
     exact Or.inr (⟨rfl,_,rfl,(gw2 [.i e] (Ub tI))⟩)
    refine Goes.skip ?_
    refine gh fol ((0,.fslice 5 (qaM a c b))::(1,.func (.func 177) [] [])::(kAH (w64 (e+1)))) ?_
    exact⟨M,(ofG 19 ((0,.fslice 5 (qaM a c b))::(1,.func (.func 177) [] [])::(kAH (w64 (e+1)))),[]),Nat.lt_succ_self _,(Sub.refl _),_,rfl,g2⟩
   refine Goes.exit ?_
   obtain rfl:=si g2
   exact Or.inl (⟨rfl,rfl,(Sub.keep [] rfl rfl)⟩)
 rintro x s' (⟨rfl,rfl,hsub⟩|⟨rfl,F,rfl,hret⟩)
 ·try dsimp only at h
  refine Goes.sub hsub ?_
  refine sh fol kAq ?_
  refine Goes.ret ?_
  obtain rfl:=si h
  exact(gw2 [.i (-1)] (Ub tI))
 try dsimp only at h
 obtain rfl:=si h
 exact hret
def xW (N:Nat) (a:qh) (b:qm) (c:qc):Option Int:=
 (jA N a b c).bind fun d=>
 some (w64 (1+d))
theorem qeh (N:Nat) (a:qh) (b:qm) (c:qc) {res:Int} (h:xW N a b c=some res):qf ZT (.fn 114) [.fslice 5 (qaM a b c)] [] (.i res) []:=by
 unfold xW at h
 refine Uc Tryz.func114 rfl rfl (m:=6) rfl (rs:=[.tmp 2]) rfl (l:=[(0,.fslice 5 (qaM a b c))]) rfl ?_
 refine sh fol [(0,.fslice 5 (qaM a b c))] ?_
 obtain⟨e,d,h⟩:=bnd h
 refine sq (gr fol [1] (kAu (w64 (1+e))) (ac (hs (.call 176 [.fslice 5 (qaM a b c),.func (.func 177) [] []] [] [] [.fslice 5 (qaM a b c),.func (.func 177) [] []] (.i e)) (qE (FzL.cons (Ua (Still.fslice (AllST.cons (Still.func AllST.nil (AllST.cons (Still.fptr (AllST.cons tS (AllST.cons tI (AllST.cons tS (AllST.cons tI (AllST.cons tS (AllST.cons tS (AllST.cons tS AllST.nil)))))))) (AllST.cons (Still.fptr (AllST.cons tI (AllST.cons (qg qb _ (nl rfl)) (AllST.cons (qg qa _ (nl rfl)) AllST.nil)))) AllST.nil))) (AllST.cons (Still.func AllST.nil (AllST.cons (Still.fptr (AllST.cons tS (AllST.cons tI (AllST.cons tS (AllST.cons tI (AllST.cons tS (AllST.cons tS (AllST.cons tS AllST.nil)))))))) (AllST.cons (Still.fptr (AllST.cons tS (AllST.cons tS (AllST.cons tS (AllST.cons tI (AllST.cons tB (AllST.cons tS (AllST.cons tS (AllST.cons tI (AllST.cons tI (AllST.cons tI AllST.nil))))))))))) AllST.nil))) (AllST.cons (Still.func AllST.nil (AllST.cons (Still.fptr (AllST.cons (Still.func AllST.nil AllST.nil) (AllST.cons (Still.func AllST.nil AllST.nil) AllST.nil))) (AllST.cons (Still.fptr (AllST.cons tS (AllST.cons tS (AllST.cons tS (AllST.cons tI (AllST.cons tB (AllST.cons tS (AllST.cons tS (AllST.cons tI (AllST.cons tI (AllST.cons tI AllST.nil))))))))))) (AllST.cons (Still.fptr (AllST.cons tS (AllST.cons tI (AllST.cons tS (AllST.cons tI (AllST.cons tS (AllST.cons tS (AllST.cons tS AllST.nil)))))))) AllST.nil)))) (AllST.cons (Still.func AllST.nil (AllST.cons (Still.fptr (AllST.cons (Still.func AllST.nil AllST.nil) (AllST.cons (Still.func AllST.nil AllST.nil) AllST.nil))) (AllST.cons (Still.fptr (AllST.cons tS (AllST.cons tS (AllST.cons tS (AllST.cons tI (AllST.cons tB (AllST.cons tS (AllST.cons tS (AllST.cons tI (AllST.cons tI (AllST.cons tI AllST.nil))))))))))) (AllST.cons (Still.fptr (AllST.cons tS (AllST.cons tI (AllST.cons tS (AllST.cons tI (AllST.cons tS (AllST.cons tS (AllST.cons tS AllST.nil)))))))) AllST.nil)))) (AllST.cons (Still.func AllST.nil (AllST.cons (Still.fptr (AllST.cons tI (AllST.cons (qg qb _ (nl rfl)) (AllST.cons (qg qa _ (nl rfl)) AllST.nil)))) (AllST.cons (Still.fptr (AllST.cons tS (AllST.cons tI (AllST.cons tS (AllST.cons tI (AllST.cons tS (AllST.cons tS (AllST.cons tS AllST.nil)))))))) AllST.nil))) AllST.nil))))))) (FzL.cons (Fz.func FzL.nil FzL.nil) FzL.nil)) (qa6 N a b c d) tI)) az) ?_)
 refine Goes.ret ?_
 obtain rfl:=si h
 exact(gw2 [.i (w64 (1+e))] (Ub tI))
def yE (a:qc) (b:qh):Option Bool:=
 (qbY a b.Amount).bind fun c=>
 some c
theorem qbF (a:qc) (b:qh) {res:Bool} (h:yE a b=some res):qf ZT (.fn 117) [.fptr [.func (.func 137) [] [],.func (.func 138) [] []] 0,.fptr (.str a.lot.Name::(kB a.lot.Yarn a.lot.Dye a.lot.Stock a.known a.hold.Lot a.hold.Order a.hold.Reserved a.hold.Taken a.free)) 0,.fptr (kA b.Kind b.Day b.Lot b.Amount b.Yarn b.Dye b.Order) 0] [] (.bool res) []:=by
 unfold yE at h
 refine Uc Tryz.func117 rfl rfl (m:=10) rfl (rs:=[.tmp 3]) rfl (l:=[(0,.fptr [.func (.func 137) [] [],.func (.func 138) [] []] 0),(1,.fptr (.str a.lot.Name::(kB a.lot.Yarn a.lot.Dye a.lot.Stock a.known a.hold.Lot a.hold.Order a.hold.Reserved a.hold.Taken a.free)) 0),(2,.fptr (kA b.Kind b.Day b.Lot b.Amount b.Yarn b.Dye b.Order) 0)]) rfl ?_
 refine sh fol [(0,.fptr [.func (.func 137) [] [],.func (.func 138) [] []] 0),(1,.fptr (.str a.lot.Name::(kB a.lot.Yarn a.lot.Dye a.lot.Stock a.known a.hold.Lot a.hold.Order a.hold.Reserved a.hold.Taken a.free)) 0),(2,.fptr (kA b.Kind b.Day b.Lot b.Amount b.Yarn b.Dye b.Order) 0)] ?_
 obtain⟨d,c,h⟩:=bnd h
 refine sq (gr fol [5] (kAw d) (ac (cv (qeH a b.Amount c)) az) ?_)
 refine Goes.ret ?_
 obtain rfl:=si h
 exact(gw2 [.bool d] (Ub tB))
def qac (a:qc) (b:qh):Option Bool:=
 (yE a b).bind fun c=>
 some (!c)
theorem qcZ (a:qc) (b:qh) {res:Bool} (h:qac a b=some res):qf ZT (.fn 177) [.func (.func 117) [] [.fptr [.func (.func 137) [] [],.func (.func 138) [] []] 0,.fptr (.str a.lot.Name::(kB a.lot.Yarn a.lot.Dye a.lot.Stock a.known a.hold.Lot a.hold.Order a.hold.Reserved a.hold.Taken a.free)) 0,.fptr (kA b.Kind b.Day b.Lot b.Amount b.Yarn b.Dye b.Order) 0]] [] (.bool res) []:=by
 unfold qac at h
 refine Uc Tryz.func177 rfl rfl (m:=6) rfl (rs:=[.tmp 2]) rfl (l:=[(0,.func (.func 117) [] [.fptr [.func (.func 137) [] [],.func (.func 138) [] []] 0,.fptr (.str a.lot.Name::(kB a.lot.Yarn a.lot.Dye a.lot.Stock a.known a.hold.Lot a.hold.Order a.hold.Reserved a.hold.Taken a.free)) 0,.fptr (kA b.Kind b.Day b.Lot b.Amount b.Yarn b.Dye b.Order) 0])]) rfl ?_
 refine sh fol [(0,.func (.func 117) [] [.fptr [.func (.func 137) [] [],.func (.func 138) [] []] 0,.fptr (.str a.lot.Name::(kB a.lot.Yarn a.lot.Dye a.lot.Stock a.known a.hold.Lot a.hold.Order a.hold.Reserved a.hold.Taken a.free)) 0,.fptr (kA b.Kind b.Day b.Lot b.Amount b.Yarn b.Dye b.Order) 0])] ?_
 obtain⟨d,c,h⟩:=bnd h
 refine sq (gr fol [1] (kAV (!d)) (ac (hs (.call 117 [.fptr [.func (.func 137) [] [],.func (.func 138) [] []] 0,.fptr (.str a.lot.Name::(kB a.lot.Yarn a.lot.Dye a.lot.Stock a.known a.hold.Lot a.hold.Order a.hold.Reserved a.hold.Taken a.free)) 0,.fptr (kA b.Kind b.Day b.Lot b.Amount b.Yarn b.Dye b.Order) 0] [] [] [.fptr [.func (.func 137) [] [],.func (.func 138) [] []] 0,.fptr (.str a.lot.Name::(kB a.lot.Yarn a.lot.Dye a.lot.Stock a.known a.hold.Lot a.hold.Order a.hold.Reserved a.hold.Taken a.free)) 0,.fptr (kA b.Kind b.Day b.Lot b.Amount b.Yarn b.Dye b.Order) 0] (.bool d)) (qE (FzL.cons (Ua (Still.fptr (AllST.cons (Still.func AllST.nil AllST.nil) (AllST.cons (Still.func AllST.nil AllST.nil) AllST.nil)))) (FzL.cons (Ua (Still.fptr (AllST.cons tS (AllST.cons tS (AllST.cons tS (AllST.cons tI (AllST.cons tB (AllST.cons tS (AllST.cons tS (AllST.cons tI (AllST.cons tI (AllST.cons tI AllST.nil)))))))))))) (FzL.cons (Ua (Still.fptr (AllST.cons tS (AllST.cons tI (AllST.cons tS (AllST.cons tI (AllST.cons tS (AllST.cons tS (AllST.cons tS AllST.nil))))))))) FzL.nil))) (qbF a b c) tB)) az) ?_)
 refine Goes.ret ?_
 obtain rfl:=si h
 exact(gw2 [.bool (!d)] (Ub tB))
def yw (b:qc) (c:qh):Option Bool:=
 (xz b c.Amount).bind fun a=>
 some (decide ((if a.hold.Taken>a.lot.Stock then a.hold.Taken else a.lot.Stock)<=999999999))
theorem qbP (a:qc) (b:qh) {res:Bool} (h:yw a b=some res):qf ZT (.fn 118) [.fptr [.func (.func 137) [] [],.func (.func 138) [] []] 0,.fptr (.str a.lot.Name::(kB a.lot.Yarn a.lot.Dye a.lot.Stock a.known a.hold.Lot a.hold.Order a.hold.Reserved a.hold.Taken a.free)) 0,.fptr (kA b.Kind b.Day b.Lot b.Amount b.Yarn b.Dye b.Order) 0] [] (.bool res) []:=by
 unfold yw at h
 refine Uc Tryz.func118 rfl rfl (m:=19) rfl (rs:=[.tmp 3]) rfl (l:=[(0,.fptr [.func (.func 137) [] [],.func (.func 138) [] []] 0),(1,.fptr (.str a.lot.Name::(kB a.lot.Yarn a.lot.Dye a.lot.Stock a.known a.hold.Lot a.hold.Order a.hold.Reserved a.hold.Taken a.free)) 0),(2,.fptr (kA b.Kind b.Day b.Lot b.Amount b.Yarn b.Dye b.Order) 0)]) rfl ?_
 refine sh fol [(0,.fptr [.func (.func 137) [] [],.func (.func 138) [] []] 0),(1,.fptr (.str a.lot.Name::(kB a.lot.Yarn a.lot.Dye a.lot.Stock a.known a.hold.Lot a.hold.Order a.hold.Reserved a.hold.Taken a.free)) 0),(2,.fptr (kA b.Kind b.Day b.Lot b.Amount b.Yarn b.Dye b.Order) 0)] ?_
 obtain⟨c,d,h⟩:=bnd h
 refine sq (gq fol [5] kAz (kC c.lot.Name c.lot.Yarn c.lot.Dye c.lot.Stock c.known c.hold.Lot c.hold.Order c.hold.Reserved c.hold.Taken c.free []) (ac (cv (qb8 a b.Amount d)) az) ?_)
 refine sh fol (kAw (decide ((if c.hold.Taken>c.lot.Stock then c.hold.Taken else c.lot.Stock)<=999999999))) ?_
 refine Goes.ret ?_
 obtain rfl:=si h
 exact(gw2 [.bool (decide ((if c.hold.Taken>c.lot.Stock then c.hold.Taken else c.lot.Stock)<=999999999))] (Ub tB))
def xX (a:qc) (b:qh):Option Bool:=
 (yw a b).bind fun c=>
 some (!c)
theorem qdj (a:qc) (b:qh) {res:Bool} (h:xX a b=some res):qf ZT (.fn 177) [.func (.func 118) [] [.fptr [.func (.func 137) [] [],.func (.func 138) [] []] 0,.fptr (.str a.lot.Name::(kB a.lot.Yarn a.lot.Dye a.lot.Stock a.known a.hold.Lot a.hold.Order a.hold.Reserved a.hold.Taken a.free)) 0,.fptr (kA b.Kind b.Day b.Lot b.Amount b.Yarn b.Dye b.Order) 0]] [] (.bool res) []:=by
 unfold xX at h
 refine Uc Tryz.func177 rfl rfl (m:=6) rfl (rs:=[.tmp 2]) rfl (l:=[(0,.func (.func 118) [] [.fptr [.func (.func 137) [] [],.func (.func 138) [] []] 0,.fptr (.str a.lot.Name::(kB a.lot.Yarn a.lot.Dye a.lot.Stock a.known a.hold.Lot a.hold.Order a.hold.Reserved a.hold.Taken a.free)) 0,.fptr (kA b.Kind b.Day b.Lot b.Amount b.Yarn b.Dye b.Order) 0])]) rfl ?_
 refine sh fol [(0,.func (.func 118) [] [.fptr [.func (.func 137) [] [],.func (.func 138) [] []] 0,.fptr (.str a.lot.Name::(kB a.lot.Yarn a.lot.Dye a.lot.Stock a.known a.hold.Lot a.hold.Order a.hold.Reserved a.hold.Taken a.free)) 0,.fptr (kA b.Kind b.Day b.Lot b.Amount b.Yarn b.Dye b.Order) 0])] ?_
 obtain⟨d,c,h⟩:=bnd h
 refine sq (gr fol [1] (kAV (!d)) (ac (hs (.call 118 [.fptr [.func (.func 137) [] [],.func (.func 138) [] []] 0,.fptr (.str a.lot.Name::(kB a.lot.Yarn a.lot.Dye a.lot.Stock a.known a.hold.Lot a.hold.Order a.hold.Reserved a.hold.Taken a.free)) 0,.fptr (kA b.Kind b.Day b.Lot b.Amount b.Yarn b.Dye b.Order) 0] [] [] [.fptr [.func (.func 137) [] [],.func (.func 138) [] []] 0,.fptr (.str a.lot.Name::(kB a.lot.Yarn a.lot.Dye a.lot.Stock a.known a.hold.Lot a.hold.Order a.hold.Reserved a.hold.Taken a.free)) 0,.fptr (kA b.Kind b.Day b.Lot b.Amount b.Yarn b.Dye b.Order) 0] (.bool d)) (qE (FzL.cons (Ua (Still.fptr (AllST.cons (Still.func AllST.nil AllST.nil) (AllST.cons (Still.func AllST.nil AllST.nil) AllST.nil)))) (FzL.cons (Ua (Still.fptr (AllST.cons tS (AllST.cons tS (AllST.cons tS (AllST.cons tI (AllST.cons tB (AllST.cons tS (AllST.cons tS (AllST.cons tI (AllST.cons tI (AllST.cons tI AllST.nil)))))))))))) (FzL.cons (Ua (Still.fptr (AllST.cons tS (AllST.cons tI (AllST.cons tS (AllST.cons tI (AllST.cons tS (AllST.cons tS (AllST.cons tS AllST.nil))))))))) FzL.nil))) (qbP a b c) tB)) az) ?_)
 refine Goes.ret ?_
 obtain rfl:=si h
 exact(gw2 [.bool (!d)] (Ub tB))
def qW (N:Nat) (a:qh) (d:qm) (b:qc):Nat->Int->Option (Unit⊕Int)
 |0,_=>none
 |K+1,c=>
  if c<5 then
  (if c=0 then
  (zq a d).bind fun i=>
  some i
  else
  if c=1 then
  (q9 a b).bind fun j=>
  some j
  else
  if c=2 then
  (qac b a).bind fun e=>
  some e
  else
  if c=3 then
  (xX b a).bind fun f=>
  some f
  else
  if c=4 then
  (zo N d a).bind fun g=>
  some g
  else
  none:Option Bool).bind fun h=>
  if h=true then
  some (.inr c)
  else
  qW N a d b K (w64 (c+1))
  else
  some (.inl ())
def jw (N:Nat) (a:qh) (b:qm) (c:qc):Option Int:=
 (qW N a b c N 0).bind (fun
 |(.inl ())=>
 some (-1)
 |(.inr d)=>
 some d)
theorem qbd (N:Nat) (a:qh) (c:qm) (b:qc) {res:Int} (h:jw N a c b=some res):qf ZT (.fn 176) [.fslice 5 (qaO a c b),.func (.func 177) [] []] [] (.i res) []:=by
 unfold jw at h
 refine Uc Tryz.func176 rfl rfl (m:=19) rfl (rs:=[.tmp 4]) rfl (l:=[(0,.fslice 5 (qaO a c b)),(1,.func (.func 177) [] [])]) rfl ?_
 refine sh fol [(0,.fslice 5 (qaO a c b)),(1,.func (.func 177) [] [])] ?_
 refine sq ?_
 refine sh fol ((0,.fslice 5 (qaO a c b))::(1,.func (.func 177) [] [])::kA0) ?_
 refine Goes.block ?_
 obtain⟨u,g2,h⟩:=bnd h
 refine Goes.imp (Q:=fun x s'=>(x= .exit 0/\(.inl ())=u/\Sub s' (ofG 19 [],[]))\/(x= .ret/\ ∃y,(.inr y)=u/\qP ZT [.tmp 4] (.i y) .ret s')) ?_ ?_
 ·refine Ud (fun M s=> ∃(e:Int),s=(ofG 19 ((0,.fslice 5 (qaO a c b))::(1,.func (.func 177) [] [])::(kAH e)),[])/\qW N a c b M e=some u) ?_ (m:=N) ⟨_,rfl,g2⟩
  rintro M s ⟨e,rfl,g2⟩
  cases M with
  |zero=>simp only[qW]at g2;cases g2
  |succ M=>
   rw[qW]at g2
   refine sh fol ((0,.fslice 5 (qaO a c b))::(1,.func (.func 177) [] [])::(kAv e (decide (e<5)))) ?_
   refine sq ?_
   refine ihD g2 (fun E g2=>?_) (fun E g2=>?_)
   ·refine Goes.skip ?_
    refine sq (Goes.block ?_)
    refine sh fol ((0,.fslice 5 (qaO a c b))::(1,.func (.func 177) [] [])::(5,.i e)::(kAH e)) ?_
    refine sq ?_
    obtain⟨v,d,g2⟩:=bnd g2
    refine Goes.cut (s':=(ofG 19 ((0,.fslice 5 (qaO a c b))::(1,.func (.func 177) [] [])::(kL e v)),[])) ?_ ?_
    ·rcases wyD d with⟨z,d⟩|⟨z,d⟩
     ·obtain⟨A,k,d⟩:=bnd d
      obtain rfl:=si d
      exact tr fol [3,5] ((0,.fslice 5 (qaO a c b))::(1,.func (.func 177) [] [])::(kL e A)) (ac (hs (.done (.opt (qo ZT 221 (.fslice 5 (qaO a c b)) (.i e))) (.fptr [.func (.func 115) [] [.fptr (kA a.Kind a.Day a.Lot a.Amount a.Yarn a.Dye a.Order) 0,.fptr (kH c.Day c.Lots c.Holds) 0],.func (.func 116) [] [.fptr (kA a.Kind a.Day a.Lot a.Amount a.Yarn a.Dye a.Order) 0,.fptr (.str b.lot.Name::(kB b.lot.Yarn b.lot.Dye b.lot.Stock b.known b.hold.Lot b.hold.Order b.hold.Reserved b.hold.Taken b.free)) 0],.func (.func 117) [] [.fptr [.func (.func 137) [] [],.func (.func 138) [] []] 0,.fptr (.str b.lot.Name::(kB b.lot.Yarn b.lot.Dye b.lot.Stock b.known b.hold.Lot b.hold.Order b.hold.Reserved b.hold.Taken b.free)) 0,.fptr (kA a.Kind a.Day a.Lot a.Amount a.Yarn a.Dye a.Order) 0],.func (.func 118) [] [.fptr [.func (.func 137) [] [],.func (.func 138) [] []] 0,.fptr (.str b.lot.Name::(kB b.lot.Yarn b.lot.Dye b.lot.Stock b.known b.hold.Lot b.hold.Order b.hold.Reserved b.hold.Taken b.free)) 0,.fptr (kA a.Kind a.Day a.Lot a.Amount a.Yarn a.Dye a.Order) 0],.func (.func 119) [] [.fptr (kH c.Day c.Lots c.Holds) 0,.fptr (kA a.Kind a.Day a.Lot a.Amount a.Yarn a.Dye a.Order) 0]] 0)) (ixA (ot z) (by kernel_rfl))) (ac (hs (.call 177 [.func (.func 115) [] [.fptr (kA a.Kind a.Day a.Lot a.Amount a.Yarn a.Dye a.Order) 0,.fptr (kH c.Day c.Lots c.Holds) 0]] [] [] [.func (.func 115) [] [.fptr (kA a.Kind a.Day a.Lot a.Amount a.Yarn a.Dye a.Order) 0,.fptr (kH c.Day c.Lots c.Holds) 0]] (.bool A)) (qE (FzL.cons (Fz.func FzL.nil (FzL.cons (Ua (Still.fptr (AllST.cons tS (AllST.cons tI (AllST.cons tS (AllST.cons tI (AllST.cons tS (AllST.cons tS (AllST.cons tS AllST.nil))))))))) (FzL.cons (Ua (Still.fptr (AllST.cons tI (AllST.cons (qg qb _ (nl rfl)) (AllST.cons (qg qa _ (nl rfl)) AllST.nil))))) FzL.nil))) FzL.nil) (jJ a c k) tB)) az))
     rcases wyD d with⟨B,d⟩|⟨B,d⟩
     ·obtain⟨C,n,d⟩:=bnd d
      obtain rfl:=si d
      exact tr fol [3,5] ((0,.fslice 5 (qaO a c b))::(1,.func (.func 177) [] [])::(kL e C)) (ac (hs (.done (.opt (qo ZT 221 (.fslice 5 (qaO a c b)) (.i e))) (.fptr [.func (.func 115) [] [.fptr (kA a.Kind a.Day a.Lot a.Amount a.Yarn a.Dye a.Order) 0,.fptr (kH c.Day c.Lots c.Holds) 0],.func (.func 116) [] [.fptr (kA a.Kind a.Day a.Lot a.Amount a.Yarn a.Dye a.Order) 0,.fptr (.str b.lot.Name::(kB b.lot.Yarn b.lot.Dye b.lot.Stock b.known b.hold.Lot b.hold.Order b.hold.Reserved b.hold.Taken b.free)) 0],.func (.func 117) [] [.fptr [.func (.func 137) [] [],.func (.func 138) [] []] 0,.fptr (.str b.lot.Name::(kB b.lot.Yarn b.lot.Dye b.lot.Stock b.known b.hold.Lot b.hold.Order b.hold.Reserved b.hold.Taken b.free)) 0,.fptr (kA a.Kind a.Day a.Lot a.Amount a.Yarn a.Dye a.Order) 0],.func (.func 118) [] [.fptr [.func (.func 137) [] [],.func (.func 138) [] []] 0,.fptr (.str b.lot.Name::(kB b.lot.Yarn b.lot.Dye b.lot.Stock b.known b.hold.Lot b.hold.Order b.hold.Reserved b.hold.Taken b.free)) 0,.fptr (kA a.Kind a.Day a.Lot a.Amount a.Yarn a.Dye a.Order) 0],.func (.func 119) [] [.fptr (kH c.Day c.Lots c.Holds) 0,.fptr (kA a.Kind a.Day a.Lot a.Amount a.Yarn a.Dye a.Order) 0]] 1)) (ixA (ot B) (by kernel_rfl))) (ac (hs (.call 177 [.func (.func 116) [] [.fptr (kA a.Kind a.Day a.Lot a.Amount a.Yarn a.Dye a.Order) 0,.fptr (.str b.lot.Name::(kB b.lot.Yarn b.lot.Dye b.lot.Stock b.known b.hold.Lot b.hold.Order b.hold.Reserved b.hold.Taken b.free)) 0]] [] [] [.func (.func 116) [] [.fptr (kA a.Kind a.Day a.Lot a.Amount a.Yarn a.Dye a.Order) 0,.fptr (.str b.lot.Name::(kB b.lot.Yarn b.lot.Dye b.lot.Stock b.known b.hold.Lot b.hold.Order b.hold.Reserved b.hold.Taken b.free)) 0]] (.bool C)) (qE (FzL.cons (Fz.func FzL.nil (FzL.cons (Ua (Still.fptr (AllST.cons tS (AllST.cons tI (AllST.cons tS (AllST.cons tI (AllST.cons tS (AllST.cons tS (AllST.cons tS AllST.nil))))))))) (FzL.cons (Ua (Still.fptr (AllST.cons tS (AllST.cons tS (AllST.cons tS (AllST.cons tI (AllST.cons tB (AllST.cons tS (AllST.cons tS (AllST.cons tI (AllST.cons tI (AllST.cons tI AllST.nil)))))))))))) FzL.nil))) FzL.nil) (jE a b n) tB)) az))
     rcases wyD d with⟨D,d⟩|⟨D,d⟩
     ·obtain⟨o,f,d⟩:=bnd d
      obtain rfl:=si d
      exact tr fol [3,5] ((0,.fslice 5 (qaO a c b))::(1,.func (.func 177) [] [])::(kL e o)) (ac (hs (.done (.opt (qo ZT 221 (.fslice 5 (qaO a c b)) (.i e))) (.fptr [.func (.func 115) [] [.fptr (kA a.Kind a.Day a.Lot a.Amount a.Yarn a.Dye a.Order) 0,.fptr (kH c.Day c.Lots c.Holds) 0],.func (.func 116) [] [.fptr (kA a.Kind a.Day a.Lot a.Amount a.Yarn a.Dye a.Order) 0,.fptr (.str b.lot.Name::(kB b.lot.Yarn b.lot.Dye b.lot.Stock b.known b.hold.Lot b.hold.Order b.hold.Reserved b.hold.Taken b.free)) 0],.func (.func 117) [] [.fptr [.func (.func 137) [] [],.func (.func 138) [] []] 0,.fptr (.str b.lot.Name::(kB b.lot.Yarn b.lot.Dye b.lot.Stock b.known b.hold.Lot b.hold.Order b.hold.Reserved b.hold.Taken b.free)) 0,.fptr (kA a.Kind a.Day a.Lot a.Amount a.Yarn a.Dye a.Order) 0],.func (.func 118) [] [.fptr [.func (.func 137) [] [],.func (.func 138) [] []] 0,.fptr (.str b.lot.Name::(kB b.lot.Yarn b.lot.Dye b.lot.Stock b.known b.hold.Lot b.hold.Order b.hold.Reserved b.hold.Taken b.free)) 0,.fptr (kA a.Kind a.Day a.Lot a.Amount a.Yarn a.Dye a.Order) 0],.func (.func 119) [] [.fptr (kH c.Day c.Lots c.Holds) 0,.fptr (kA a.Kind a.Day a.Lot a.Amount a.Yarn a.Dye a.Order) 0]] 2)) (ixA (ot D) (by kernel_rfl))) (ac (hs (.call 177 [.func (.func 117) [] [.fptr [.func (.func 137) [] [],.func (.func 138) [] []] 0,.fptr (.str b.lot.Name::(kB b.lot.Yarn b.lot.Dye b.lot.Stock b.known b.hold.Lot b.hold.Order b.hold.Reserved b.hold.Taken b.free)) 0,.fptr (kA a.Kind a.Day a.Lot a.Amount a.Yarn a.Dye a.Order) 0]] [] [] [.func (.func 117) [] [.fptr [.func (.func 137) [] [],.func (.func 138) [] []] 0,.fptr (.str b.lot.Name::(kB b.lot.Yarn b.lot.Dye b.lot.Stock b.known b.hold.Lot b.hold.Order b.hold.Reserved b.hold.Taken b.free)) 0,.fptr (kA a.Kind a.Day a.Lot a.Amount a.Yarn a.Dye a.Order) 0]] (.bool o)) (qE (FzL.cons (Fz.func FzL.nil (FzL.cons (Ua (Still.fptr (AllST.cons (Still.func AllST.nil AllST.nil) (AllST.cons (Still.func AllST.nil AllST.nil) AllST.nil)))) (FzL.cons (Ua (Still.fptr (AllST.cons tS (AllST.cons tS (AllST.cons tS (AllST.cons tI (AllST.cons tB (AllST.cons tS (AllST.cons tS (AllST.cons tI (AllST.cons tI (AllST.cons tI AllST.nil)))))))))))) (FzL.cons (Ua (Still.fptr (AllST.cons tS (AllST.cons tI (AllST.cons tS (AllST.cons tI (AllST.cons tS (AllST.cons tS (AllST.cons tS AllST.nil))))))))) FzL.nil)))) FzL.nil) (qcZ b a f) tB)) az))
     rcases wyD d with⟨p,d⟩|⟨p,d⟩
     ·obtain⟨q,g,d⟩:=bnd d
      obtain rfl:=si d
      exact tr fol [3,5] ((0,.fslice 5 (qaO a c b))::(1,.func (.func 177) [] [])::(kL e q)) (ac (hs (.done (.opt (qo ZT 221 (.fslice 5 (qaO a c b)) (.i e))) (.fptr [.func (.func 115) [] [.fptr (kA a.Kind a.Day a.Lot a.Amount a.Yarn a.Dye a.Order) 0,.fptr (kH c.Day c.Lots c.Holds) 0],.func (.func 116) [] [.fptr (kA a.Kind a.Day a.Lot a.Amount a.Yarn a.Dye a.Order) 0,.fptr (.str b.lot.Name::(kB b.lot.Yarn b.lot.Dye b.lot.Stock b.known b.hold.Lot b.hold.Order b.hold.Reserved b.hold.Taken b.free)) 0],.func (.func 117) [] [.fptr [.func (.func 137) [] [],.func (.func 138) [] []] 0,.fptr (.str b.lot.Name::(kB b.lot.Yarn b.lot.Dye b.lot.Stock b.known b.hold.Lot b.hold.Order b.hold.Reserved b.hold.Taken b.free)) 0,.fptr (kA a.Kind a.Day a.Lot a.Amount a.Yarn a.Dye a.Order) 0],.func (.func 118) [] [.fptr [.func (.func 137) [] [],.func (.func 138) [] []] 0,.fptr (.str b.lot.Name::(kB b.lot.Yarn b.lot.Dye b.lot.Stock b.known b.hold.Lot b.hold.Order b.hold.Reserved b.hold.Taken b.free)) 0,.fptr (kA a.Kind a.Day a.Lot a.Amount a.Yarn a.Dye a.Order) 0],.func (.func 119) [] [.fptr (kH c.Day c.Lots c.Holds) 0,.fptr (kA a.Kind a.Day a.Lot a.Amount a.Yarn a.Dye a.Order) 0]] 3)) (ixA (ot p) (by kernel_rfl))) (ac (hs (.call 177 [.func (.func 118) [] [.fptr [.func (.func 137) [] [],.func (.func 138) [] []] 0,.fptr (.str b.lot.Name::(kB b.lot.Yarn b.lot.Dye b.lot.Stock b.known b.hold.Lot b.hold.Order b.hold.Reserved b.hold.Taken b.free)) 0,.fptr (kA a.Kind a.Day a.Lot a.Amount a.Yarn a.Dye a.Order) 0]] [] [] [.func (.func 118) [] [.fptr [.func (.func 137) [] [],.func (.func 138) [] []] 0,.fptr (.str b.lot.Name::(kB b.lot.Yarn b.lot.Dye b.lot.Stock b.known b.hold.Lot b.hold.Order b.hold.Reserved b.hold.Taken b.free)) 0,.fptr (kA a.Kind a.Day a.Lot a.Amount a.Yarn a.Dye a.Order) 0]] (.bool q)) (qE (FzL.cons (Fz.func FzL.nil (FzL.cons (Ua (Still.fptr (AllST.cons (Still.func AllST.nil AllST.nil) (AllST.cons (Still.func AllST.nil AllST.nil) AllST.nil)))) (FzL.cons (Ua (Still.fptr (AllST.cons tS (AllST.cons tS (AllST.cons tS (AllST.cons tI (AllST.cons tB (AllST.cons tS (AllST.cons tS (AllST.cons tI (AllST.cons tI (AllST.cons tI AllST.nil)))))))))))) (FzL.cons (Ua (Still.fptr (AllST.cons tS (AllST.cons tI (AllST.cons tS (AllST.cons tI (AllST.cons tS (AllST.cons tS (AllST.cons tS AllST.nil))))))))) FzL.nil)))) FzL.nil) (qdj b a g) tB)) az))
     rcases wyD d with⟨r,d⟩|⟨r,d⟩
     ·obtain⟨t,j,d⟩:=bnd d
      obtain rfl:=si d
      exact tr fol [3,5] ((0,.fslice 5 (qaO a c b))::(1,.func (.func 177) [] [])::(kL e t)) (ac (hs (.done (.opt (qo ZT 221 (.fslice 5 (qaO a c b)) (.i e))) (.fptr [.func (.func 115) [] [.fptr (kA a.Kind a.Day a.Lot a.Amount a.Yarn a.Dye a.Order) 0,.fptr (kH c.Day c.Lots c.Holds) 0],.func (.func 116) [] [.fptr (kA a.Kind a.Day a.Lot a.Amount a.Yarn a.Dye a.Order) 0,.fptr (.str b.lot.Name::(kB b.lot.Yarn b.lot.Dye b.lot.Stock b.known b.hold.Lot b.hold.Order b.hold.Reserved b.hold.Taken b.free)) 0],.func (.func 117) [] [.fptr [.func (.func 137) [] [],.func (.func 138) [] []] 0,.fptr (.str b.lot.Name::(kB b.lot.Yarn b.lot.Dye b.lot.Stock b.known b.hold.Lot b.hold.Order b.hold.Reserved b.hold.Taken b.free)) 0,.fptr (kA a.Kind a.Day a.Lot a.Amount a.Yarn a.Dye a.Order) 0],.func (.func 118) [] [.fptr [.func (.func 137) [] [],.func (.func 138) [] []] 0,.fptr (.str b.lot.Name::(kB b.lot.Yarn b.lot.Dye b.lot.Stock b.known b.hold.Lot b.hold.Order b.hold.Reserved b.hold.Taken b.free)) 0,.fptr (kA a.Kind a.Day a.Lot a.Amount a.Yarn a.Dye a.Order) 0],.func (.func 119) [] [.fptr (kH c.Day c.Lots c.Holds) 0,.fptr (kA a.Kind a.Day a.Lot a.Amount a.Yarn a.Dye a.Order) 0]] 4)) (ixA (ot r) (by kernel_rfl))) (ac (hs (.call 177 [.func (.func 119) [] [.fptr (kH c.Day c.Lots c.Holds) 0,.fptr (kA a.Kind a.Day a.Lot a.Amount a.Yarn a.Dye a.Order) 0]] [] [] [.func (.func 119) [] [.fptr (kH c.Day c.Lots c.Holds) 0,.fptr (kA a.Kind a.Day a.Lot a.Amount a.Yarn a.Dye a.Order) 0]] (.bool t)) (qE (FzL.cons (Fz.func FzL.nil (FzL.cons (Ua (Still.fptr (AllST.cons tI (AllST.cons (qg qb _ (nl rfl)) (AllST.cons (qg qa _ (nl rfl)) AllST.nil))))) (FzL.cons (Ua (Still.fptr (AllST.cons tS (AllST.cons tI (AllST.cons tS (AllST.cons tI (AllST.cons tS (AllST.cons tS (AllST.cons tS AllST.nil))))))))) FzL.nil))) FzL.nil) (jH N c a j) tB)) az))
     cases d
    refine ihB g2 (fun w g2=>?_) (fun w g2=>?_)
    ·refine sh fol (kAs e) ?_
     refine Goes.ret ?_
     obtain rfl:=si g2
     exact Or.inr (⟨rfl,_,rfl,(gw2 [.i e] (Ub tI))⟩)
    refine Goes.skip ?_
    refine gh fol ((0,.fslice 5 (qaO a c b))::(1,.func (.func 177) [] [])::(kAH (w64 (e+1)))) ?_
    exact⟨M,(ofG 19 ((0,.fslice 5 (qaO a c b))::(1,.func (.func 177) [] [])::(kAH (w64 (e+1)))),[]),Nat.lt_succ_self _,(Sub.refl _),_,rfl,g2⟩
   refine Goes.exit ?_
   obtain rfl:=si g2
   exact Or.inl (⟨rfl,rfl,(Sub.keep [] rfl rfl)⟩)
 rintro x s' (⟨rfl,rfl,hsub⟩|⟨rfl,F,rfl,hret⟩)
 ·try dsimp only at h
  refine Goes.sub hsub ?_
  refine sh fol kAq ?_
  refine Goes.ret ?_
  obtain rfl:=si h
  exact(gw2 [.i (-1)] (Ub tI))
 try dsimp only at h
 obtain rfl:=si h
 exact hret
def qag (N:Nat) (a:qh) (b:qm) (c:qc):Option Int:=
 (jw N a b c).bind fun d=>
 some (w64 (1+d))
theorem qeu (N:Nat) (a:qh) (b:qm) (c:qc) {res:Int} (h:qag N a b c=some res):qf ZT (.fn 114) [.fslice 5 (qaO a b c)] [] (.i res) []:=by
 unfold qag at h
 refine Uc Tryz.func114 rfl rfl (m:=6) rfl (rs:=[.tmp 2]) rfl (l:=[(0,.fslice 5 (qaO a b c))]) rfl ?_
 refine sh fol [(0,.fslice 5 (qaO a b c))] ?_
 obtain⟨e,d,h⟩:=bnd h
 refine sq (gr fol [1] (kAu (w64 (1+e))) (ac (hs (.call 176 [.fslice 5 (qaO a b c),.func (.func 177) [] []] [] [] [.fslice 5 (qaO a b c),.func (.func 177) [] []] (.i e)) (qE (FzL.cons (Ua (Still.fslice (AllST.cons (Still.func AllST.nil (AllST.cons (Still.fptr (AllST.cons tS (AllST.cons tI (AllST.cons tS (AllST.cons tI (AllST.cons tS (AllST.cons tS (AllST.cons tS AllST.nil)))))))) (AllST.cons (Still.fptr (AllST.cons tI (AllST.cons (qg qb _ (nl rfl)) (AllST.cons (qg qa _ (nl rfl)) AllST.nil)))) AllST.nil))) (AllST.cons (Still.func AllST.nil (AllST.cons (Still.fptr (AllST.cons tS (AllST.cons tI (AllST.cons tS (AllST.cons tI (AllST.cons tS (AllST.cons tS (AllST.cons tS AllST.nil)))))))) (AllST.cons (Still.fptr (AllST.cons tS (AllST.cons tS (AllST.cons tS (AllST.cons tI (AllST.cons tB (AllST.cons tS (AllST.cons tS (AllST.cons tI (AllST.cons tI (AllST.cons tI AllST.nil))))))))))) AllST.nil))) (AllST.cons (Still.func AllST.nil (AllST.cons (Still.fptr (AllST.cons (Still.func AllST.nil AllST.nil) (AllST.cons (Still.func AllST.nil AllST.nil) AllST.nil))) (AllST.cons (Still.fptr (AllST.cons tS (AllST.cons tS (AllST.cons tS (AllST.cons tI (AllST.cons tB (AllST.cons tS (AllST.cons tS (AllST.cons tI (AllST.cons tI (AllST.cons tI AllST.nil))))))))))) (AllST.cons (Still.fptr (AllST.cons tS (AllST.cons tI (AllST.cons tS (AllST.cons tI (AllST.cons tS (AllST.cons tS (AllST.cons tS AllST.nil)))))))) AllST.nil)))) (AllST.cons (Still.func AllST.nil (AllST.cons (Still.fptr (AllST.cons (Still.func AllST.nil AllST.nil) (AllST.cons (Still.func AllST.nil AllST.nil) AllST.nil))) (AllST.cons (Still.fptr (AllST.cons tS (AllST.cons tS (AllST.cons tS (AllST.cons tI (AllST.cons tB (AllST.cons tS (AllST.cons tS (AllST.cons tI (AllST.cons tI (AllST.cons tI AllST.nil))))))))))) (AllST.cons (Still.fptr (AllST.cons tS (AllST.cons tI (AllST.cons tS (AllST.cons tI (AllST.cons tS (AllST.cons tS (AllST.cons tS AllST.nil)))))))) AllST.nil)))) (AllST.cons (Still.func AllST.nil (AllST.cons (Still.fptr (AllST.cons tI (AllST.cons (qg qb _ (nl rfl)) (AllST.cons (qg qa _ (nl rfl)) AllST.nil)))) (AllST.cons (Still.fptr (AllST.cons tS (AllST.cons tI (AllST.cons tS (AllST.cons tI (AllST.cons tS (AllST.cons tS (AllST.cons tS AllST.nil)))))))) AllST.nil))) AllST.nil))))))) (FzL.cons (Fz.func FzL.nil FzL.nil) FzL.nil)) (qbd N a b c d) tI)) az) ?_)
 refine Goes.ret ?_
 obtain rfl:=si h
 exact(gw2 [.i (w64 (1+e))] (Ub tI))
def yu (a:qc) (b:qh):Option Bool:=
 (qb0 a b.Amount).bind fun c=>
 some c
theorem qbL (a:qc) (b:qh) {res:Bool} (h:yu a b=some res):qf ZT (.fn 117) [.fptr [.func (.func 139) [] [],.func (.func 140) [] []] 0,.fptr (.str a.lot.Name::(kB a.lot.Yarn a.lot.Dye a.lot.Stock a.known a.hold.Lot a.hold.Order a.hold.Reserved a.hold.Taken a.free)) 0,.fptr (kA b.Kind b.Day b.Lot b.Amount b.Yarn b.Dye b.Order) 0] [] (.bool res) []:=by
 unfold yu at h
 refine Uc Tryz.func117 rfl rfl (m:=10) rfl (rs:=[.tmp 3]) rfl (l:=[(0,.fptr [.func (.func 139) [] [],.func (.func 140) [] []] 0),(1,.fptr (.str a.lot.Name::(kB a.lot.Yarn a.lot.Dye a.lot.Stock a.known a.hold.Lot a.hold.Order a.hold.Reserved a.hold.Taken a.free)) 0),(2,.fptr (kA b.Kind b.Day b.Lot b.Amount b.Yarn b.Dye b.Order) 0)]) rfl ?_
 refine sh fol [(0,.fptr [.func (.func 139) [] [],.func (.func 140) [] []] 0),(1,.fptr (.str a.lot.Name::(kB a.lot.Yarn a.lot.Dye a.lot.Stock a.known a.hold.Lot a.hold.Order a.hold.Reserved a.hold.Taken a.free)) 0),(2,.fptr (kA b.Kind b.Day b.Lot b.Amount b.Yarn b.Dye b.Order) 0)] ?_
 obtain⟨d,c,h⟩:=bnd h
 refine sq (gr fol [5] (kAw d) (ac (cv (qeP a b.Amount c)) az) ?_)
 refine Goes.ret ?_
 obtain rfl:=si h
 exact(gw2 [.bool d] (Ub tB))
def xK (a:qc) (b:qh):Option Bool:=
 (yu a b).bind fun c=>
 some (!c)
theorem qcI (a:qc) (b:qh) {res:Bool} (h:xK a b=some res):qf ZT (.fn 177) [.func (.func 117) [] [.fptr [.func (.func 139) [] [],.func (.func 140) [] []] 0,.fptr (.str a.lot.Name::(kB a.lot.Yarn a.lot.Dye a.lot.Stock a.known a.hold.Lot a.hold.Order a.hold.Reserved a.hold.Taken a.free)) 0,.fptr (kA b.Kind b.Day b.Lot b.Amount b.Yarn b.Dye b.Order) 0]] [] (.bool res) []:=by
 unfold xK at h
 refine Uc Tryz.func177 rfl rfl (m:=6) rfl (rs:=[.tmp 2]) rfl (l:=[(0,.func (.func 117) [] [.fptr [.func (.func 139) [] [],.func (.func 140) [] []] 0,.fptr (.str a.lot.Name::(kB a.lot.Yarn a.lot.Dye a.lot.Stock a.known a.hold.Lot a.hold.Order a.hold.Reserved a.hold.Taken a.free)) 0,.fptr (kA b.Kind b.Day b.Lot b.Amount b.Yarn b.Dye b.Order) 0])]) rfl ?_
 refine sh fol [(0,.func (.func 117) [] [.fptr [.func (.func 139) [] [],.func (.func 140) [] []] 0,.fptr (.str a.lot.Name::(kB a.lot.Yarn a.lot.Dye a.lot.Stock a.known a.hold.Lot a.hold.Order a.hold.Reserved a.hold.Taken a.free)) 0,.fptr (kA b.Kind b.Day b.Lot b.Amount b.Yarn b.Dye b.Order) 0])] ?_
 obtain⟨d,c,h⟩:=bnd h
 refine sq (gr fol [1] (kAV (!d)) (ac (hs (.call 117 [.fptr [.func (.func 139) [] [],.func (.func 140) [] []] 0,.fptr (.str a.lot.Name::(kB a.lot.Yarn a.lot.Dye a.lot.Stock a.known a.hold.Lot a.hold.Order a.hold.Reserved a.hold.Taken a.free)) 0,.fptr (kA b.Kind b.Day b.Lot b.Amount b.Yarn b.Dye b.Order) 0] [] [] [.fptr [.func (.func 139) [] [],.func (.func 140) [] []] 0,.fptr (.str a.lot.Name::(kB a.lot.Yarn a.lot.Dye a.lot.Stock a.known a.hold.Lot a.hold.Order a.hold.Reserved a.hold.Taken a.free)) 0,.fptr (kA b.Kind b.Day b.Lot b.Amount b.Yarn b.Dye b.Order) 0] (.bool d)) (qE (FzL.cons (Ua (Still.fptr (AllST.cons (Still.func AllST.nil AllST.nil) (AllST.cons (Still.func AllST.nil AllST.nil) AllST.nil)))) (FzL.cons (Ua (Still.fptr (AllST.cons tS (AllST.cons tS (AllST.cons tS (AllST.cons tI (AllST.cons tB (AllST.cons tS (AllST.cons tS (AllST.cons tI (AllST.cons tI (AllST.cons tI AllST.nil)))))))))))) (FzL.cons (Ua (Still.fptr (AllST.cons tS (AllST.cons tI (AllST.cons tS (AllST.cons tI (AllST.cons tS (AllST.cons tS (AllST.cons tS AllST.nil))))))))) FzL.nil))) (qbL a b c) tB)) az) ?_)
 refine Goes.ret ?_
 obtain rfl:=si h
 exact(gw2 [.bool (!d)] (Ub tB))
def yC (b:qc) (c:qh):Option Bool:=
 (qbv b c.Amount).bind fun a=>
 some (decide ((if a.hold.Taken>a.lot.Stock then a.hold.Taken else a.lot.Stock)<=999999999))
theorem qbJ (a:qc) (b:qh) {res:Bool} (h:yC a b=some res):qf ZT (.fn 118) [.fptr [.func (.func 139) [] [],.func (.func 140) [] []] 0,.fptr (.str a.lot.Name::(kB a.lot.Yarn a.lot.Dye a.lot.Stock a.known a.hold.Lot a.hold.Order a.hold.Reserved a.hold.Taken a.free)) 0,.fptr (kA b.Kind b.Day b.Lot b.Amount b.Yarn b.Dye b.Order) 0] [] (.bool res) []:=by
 unfold yC at h
 refine Uc Tryz.func118 rfl rfl (m:=19) rfl (rs:=[.tmp 3]) rfl (l:=[(0,.fptr [.func (.func 139) [] [],.func (.func 140) [] []] 0),(1,.fptr (.str a.lot.Name::(kB a.lot.Yarn a.lot.Dye a.lot.Stock a.known a.hold.Lot a.hold.Order a.hold.Reserved a.hold.Taken a.free)) 0),(2,.fptr (kA b.Kind b.Day b.Lot b.Amount b.Yarn b.Dye b.Order) 0)]) rfl ?_
 refine sh fol [(0,.fptr [.func (.func 139) [] [],.func (.func 140) [] []] 0),(1,.fptr (.str a.lot.Name::(kB a.lot.Yarn a.lot.Dye a.lot.Stock a.known a.hold.Lot a.hold.Order a.hold.Reserved a.hold.Taken a.free)) 0),(2,.fptr (kA b.Kind b.Day b.Lot b.Amount b.Yarn b.Dye b.Order) 0)] ?_
 obtain⟨c,d,h⟩:=bnd h
 refine sq (gq fol [5] kAz (kC c.lot.Name c.lot.Yarn c.lot.Dye c.lot.Stock c.known c.hold.Lot c.hold.Order c.hold.Reserved c.hold.Taken c.free []) (ac (cv (qdH a b.Amount d)) az) ?_)
 refine sh fol (kAw (decide ((if c.hold.Taken>c.lot.Stock then c.hold.Taken else c.lot.Stock)<=999999999))) ?_
 refine Goes.ret ?_
 obtain rfl:=si h
 exact(gw2 [.bool (decide ((if c.hold.Taken>c.lot.Stock then c.hold.Taken else c.lot.Stock)<=999999999))] (Ub tB))
def xH (a:qc) (b:qh):Option Bool:=
 (yC a b).bind fun c=>
 some (!c)
theorem qcJ (a:qc) (b:qh) {res:Bool} (h:xH a b=some res):qf ZT (.fn 177) [.func (.func 118) [] [.fptr [.func (.func 139) [] [],.func (.func 140) [] []] 0,.fptr (.str a.lot.Name::(kB a.lot.Yarn a.lot.Dye a.lot.Stock a.known a.hold.Lot a.hold.Order a.hold.Reserved a.hold.Taken a.free)) 0,.fptr (kA b.Kind b.Day b.Lot b.Amount b.Yarn b.Dye b.Order) 0]] [] (.bool res) []:=by
 unfold xH at h
 refine Uc Tryz.func177 rfl rfl (m:=6) rfl (rs:=[.tmp 2]) rfl (l:=[(0,.func (.func 118) [] [.fptr [.func (.func 139) [] [],.func (.func 140) [] []] 0,.fptr (.str a.lot.Name::(kB a.lot.Yarn a.lot.Dye a.lot.Stock a.known a.hold.Lot a.hold.Order a.hold.Reserved a.hold.Taken a.free)) 0,.fptr (kA b.Kind b.Day b.Lot b.Amount b.Yarn b.Dye b.Order) 0])]) rfl ?_
 refine sh fol [(0,.func (.func 118) [] [.fptr [.func (.func 139) [] [],.func (.func 140) [] []] 0,.fptr (.str a.lot.Name::(kB a.lot.Yarn a.lot.Dye a.lot.Stock a.known a.hold.Lot a.hold.Order a.hold.Reserved a.hold.Taken a.free)) 0,.fptr (kA b.Kind b.Day b.Lot b.Amount b.Yarn b.Dye b.Order) 0])] ?_
 obtain⟨d,c,h⟩:=bnd h
 refine sq (gr fol [1] (kAV (!d)) (ac (hs (.call 118 [.fptr [.func (.func 139) [] [],.func (.func 140) [] []] 0,.fptr (.str a.lot.Name::(kB a.lot.Yarn a.lot.Dye a.lot.Stock a.known a.hold.Lot a.hold.Order a.hold.Reserved a.hold.Taken a.free)) 0,.fptr (kA b.Kind b.Day b.Lot b.Amount b.Yarn b.Dye b.Order) 0] [] [] [.fptr [.func (.func 139) [] [],.func (.func 140) [] []] 0,.fptr (.str a.lot.Name::(kB a.lot.Yarn a.lot.Dye a.lot.Stock a.known a.hold.Lot a.hold.Order a.hold.Reserved a.hold.Taken a.free)) 0,.fptr (kA b.Kind b.Day b.Lot b.Amount b.Yarn b.Dye b.Order) 0] (.bool d)) (qE (FzL.cons (Ua (Still.fptr (AllST.cons (Still.func AllST.nil AllST.nil) (AllST.cons (Still.func AllST.nil AllST.nil) AllST.nil)))) (FzL.cons (Ua (Still.fptr (AllST.cons tS (AllST.cons tS (AllST.cons tS (AllST.cons tI (AllST.cons tB (AllST.cons tS (AllST.cons tS (AllST.cons tI (AllST.cons tI (AllST.cons tI AllST.nil)))))))))))) (FzL.cons (Ua (Still.fptr (AllST.cons tS (AllST.cons tI (AllST.cons tS (AllST.cons tI (AllST.cons tS (AllST.cons tS (AllST.cons tS AllST.nil))))))))) FzL.nil))) (qbJ a b c) tB)) az) ?_)
 refine Goes.ret ?_
 obtain rfl:=si h
 exact(gw2 [.bool (!d)] (Ub tB))
def qQ (N:Nat) (a:qh) (d:qm) (b:qc):Nat->Int->Option (Unit⊕Int)
 |0,_=>none
 |K+1,c=>
  if c<5 then
  (if c=0 then
  (zq a d).bind fun i=>
  some i
  else
  if c=1 then
  (q9 a b).bind fun j=>
  some j
  else
  if c=2 then
  (xK b a).bind fun e=>
  some e
  else
  if c=3 then
  (xH b a).bind fun f=>
  some f
  else
  if c=4 then
  (zo N d a).bind fun g=>
  some g
  else
  none:Option Bool).bind fun h=>
  if h=true then
  some (.inr c)
  else
  qQ N a d b K (w64 (c+1))
  else
  some (.inl ())
def jy (N:Nat) (a:qh) (b:qm) (c:qc):Option Int:=
 (qQ N a b c N 0).bind (fun
 |(.inl ())=>
 some (-1)
 |(.inr d)=>
 some d)
theorem qbc (N:Nat) (a:qh) (c:qm) (b:qc) {res:Int} (h:jy N a c b=some res):qf ZT (.fn 176) [.fslice 5 (qaG a c b),.func (.func 177) [] []] [] (.i res) []:=by
 unfold jy at h
 refine Uc Tryz.func176 rfl rfl (m:=19) rfl (rs:=[.tmp 4]) rfl (l:=[(0,.fslice 5 (qaG a c b)),(1,.func (.func 177) [] [])]) rfl ?_
 refine sh fol [(0,.fslice 5 (qaG a c b)),(1,.func (.func 177) [] [])] ?_
 refine sq ?_
 refine sh fol ((0,.fslice 5 (qaG a c b))::(1,.func (.func 177) [] [])::kA0) ?_
 refine Goes.block ?_
 obtain⟨u,g2,h⟩:=bnd h
 refine Goes.imp (Q:=fun x s'=>(x= .exit 0/\(.inl ())=u/\Sub s' (ofG 19 [],[]))\/(x= .ret/\ ∃y,(.inr y)=u/\qP ZT [.tmp 4] (.i y) .ret s')) ?_ ?_
 ·refine Ud (fun M s=> ∃(e:Int),s=(ofG 19 ((0,.fslice 5 (qaG a c b))::(1,.func (.func 177) [] [])::(kAH e)),[])/\qQ N a c b M e=some u) ?_ (m:=N) ⟨_,rfl,g2⟩
  rintro M s ⟨e,rfl,g2⟩
  cases M with
  |zero=>simp only[qQ]at g2;cases g2
  |succ M=>
   rw[qQ]at g2
   refine sh fol ((0,.fslice 5 (qaG a c b))::(1,.func (.func 177) [] [])::(kAv e (decide (e<5)))) ?_
   refine sq ?_
   refine ihD g2 (fun E g2=>?_) (fun E g2=>?_)
   ·refine Goes.skip ?_
    refine sq (Goes.block ?_)
    refine sh fol ((0,.fslice 5 (qaG a c b))::(1,.func (.func 177) [] [])::(5,.i e)::(kAH e)) ?_
    refine sq ?_
    obtain⟨v,d,g2⟩:=bnd g2
    refine Goes.cut (s':=(ofG 19 ((0,.fslice 5 (qaG a c b))::(1,.func (.func 177) [] [])::(kL e v)),[])) ?_ ?_
    ·rcases wyD d with⟨z,d⟩|⟨z,d⟩
     ·obtain⟨A,k,d⟩:=bnd d
      obtain rfl:=si d
      exact tr fol [3,5] ((0,.fslice 5 (qaG a c b))::(1,.func (.func 177) [] [])::(kL e A)) (ac (hs (.done (.opt (qo ZT 221 (.fslice 5 (qaG a c b)) (.i e))) (.fptr [.func (.func 115) [] [.fptr (kA a.Kind a.Day a.Lot a.Amount a.Yarn a.Dye a.Order) 0,.fptr (kH c.Day c.Lots c.Holds) 0],.func (.func 116) [] [.fptr (kA a.Kind a.Day a.Lot a.Amount a.Yarn a.Dye a.Order) 0,.fptr (.str b.lot.Name::(kB b.lot.Yarn b.lot.Dye b.lot.Stock b.known b.hold.Lot b.hold.Order b.hold.Reserved b.hold.Taken b.free)) 0],.func (.func 117) [] [.fptr [.func (.func 139) [] [],.func (.func 140) [] []] 0,.fptr (.str b.lot.Name::(kB b.lot.Yarn b.lot.Dye b.lot.Stock b.known b.hold.Lot b.hold.Order b.hold.Reserved b.hold.Taken b.free)) 0,.fptr (kA a.Kind a.Day a.Lot a.Amount a.Yarn a.Dye a.Order) 0],.func (.func 118) [] [.fptr [.func (.func 139) [] [],.func (.func 140) [] []] 0,.fptr (.str b.lot.Name::(kB b.lot.Yarn b.lot.Dye b.lot.Stock b.known b.hold.Lot b.hold.Order b.hold.Reserved b.hold.Taken b.free)) 0,.fptr (kA a.Kind a.Day a.Lot a.Amount a.Yarn a.Dye a.Order) 0],.func (.func 119) [] [.fptr (kH c.Day c.Lots c.Holds) 0,.fptr (kA a.Kind a.Day a.Lot a.Amount a.Yarn a.Dye a.Order) 0]] 0)) (ixA (ot z) (by kernel_rfl))) (ac (hs (.call 177 [.func (.func 115) [] [.fptr (kA a.Kind a.Day a.Lot a.Amount a.Yarn a.Dye a.Order) 0,.fptr (kH c.Day c.Lots c.Holds) 0]] [] [] [.func (.func 115) [] [.fptr (kA a.Kind a.Day a.Lot a.Amount a.Yarn a.Dye a.Order) 0,.fptr (kH c.Day c.Lots c.Holds) 0]] (.bool A)) (qE (FzL.cons (Fz.func FzL.nil (FzL.cons (Ua (Still.fptr (AllST.cons tS (AllST.cons tI (AllST.cons tS (AllST.cons tI (AllST.cons tS (AllST.cons tS (AllST.cons tS AllST.nil))))))))) (FzL.cons (Ua (Still.fptr (AllST.cons tI (AllST.cons (qg qb _ (nl rfl)) (AllST.cons (qg qa _ (nl rfl)) AllST.nil))))) FzL.nil))) FzL.nil) (jJ a c k) tB)) az))
     rcases wyD d with⟨B,d⟩|⟨B,d⟩
     ·obtain⟨C,n,d⟩:=bnd d
      obtain rfl:=si d
      exact tr fol [3,5] ((0,.fslice 5 (qaG a c b))::(1,.func (.func 177) [] [])::(kL e C)) (ac (hs (.done (.opt (qo ZT 221 (.fslice 5 (qaG a c b)) (.i e))) (.fptr [.func (.func 115) [] [.fptr (kA a.Kind a.Day a.Lot a.Amount a.Yarn a.Dye a.Order) 0,.fptr (kH c.Day c.Lots c.Holds) 0],.func (.func 116) [] [.fptr (kA a.Kind a.Day a.Lot a.Amount a.Yarn a.Dye a.Order) 0,.fptr (.str b.lot.Name::(kB b.lot.Yarn b.lot.Dye b.lot.Stock b.known b.hold.Lot b.hold.Order b.hold.Reserved b.hold.Taken b.free)) 0],.func (.func 117) [] [.fptr [.func (.func 139) [] [],.func (.func 140) [] []] 0,.fptr (.str b.lot.Name::(kB b.lot.Yarn b.lot.Dye b.lot.Stock b.known b.hold.Lot b.hold.Order b.hold.Reserved b.hold.Taken b.free)) 0,.fptr (kA a.Kind a.Day a.Lot a.Amount a.Yarn a.Dye a.Order) 0],.func (.func 118) [] [.fptr [.func (.func 139) [] [],.func (.func 140) [] []] 0,.fptr (.str b.lot.Name::(kB b.lot.Yarn b.lot.Dye b.lot.Stock b.known b.hold.Lot b.hold.Order b.hold.Reserved b.hold.Taken b.free)) 0,.fptr (kA a.Kind a.Day a.Lot a.Amount a.Yarn a.Dye a.Order) 0],.func (.func 119) [] [.fptr (kH c.Day c.Lots c.Holds) 0,.fptr (kA a.Kind a.Day a.Lot a.Amount a.Yarn a.Dye a.Order) 0]] 1)) (ixA (ot B) (by kernel_rfl))) (ac (hs (.call 177 [.func (.func 116) [] [.fptr (kA a.Kind a.Day a.Lot a.Amount a.Yarn a.Dye a.Order) 0,.fptr (.str b.lot.Name::(kB b.lot.Yarn b.lot.Dye b.lot.Stock b.known b.hold.Lot b.hold.Order b.hold.Reserved b.hold.Taken b.free)) 0]] [] [] [.func (.func 116) [] [.fptr (kA a.Kind a.Day a.Lot a.Amount a.Yarn a.Dye a.Order) 0,.fptr (.str b.lot.Name::(kB b.lot.Yarn b.lot.Dye b.lot.Stock b.known b.hold.Lot b.hold.Order b.hold.Reserved b.hold.Taken b.free)) 0]] (.bool C)) (qE (FzL.cons (Fz.func FzL.nil (FzL.cons (Ua (Still.fptr (AllST.cons tS (AllST.cons tI (AllST.cons tS (AllST.cons tI (AllST.cons tS (AllST.cons tS (AllST.cons tS AllST.nil))))))))) (FzL.cons (Ua (Still.fptr (AllST.cons tS (AllST.cons tS (AllST.cons tS (AllST.cons tI (AllST.cons tB (AllST.cons tS (AllST.cons tS (AllST.cons tI (AllST.cons tI (AllST.cons tI AllST.nil)))))))))))) FzL.nil))) FzL.nil) (jE a b n) tB)) az))
     rcases wyD d with⟨D,d⟩|⟨D,d⟩
     ·obtain⟨o,f,d⟩:=bnd d
      obtain rfl:=si d
      exact tr fol [3,5] ((0,.fslice 5 (qaG a c b))::(1,.func (.func 177) [] [])::(kL e o)) (ac (hs (.done (.opt (qo ZT 221 (.fslice 5 (qaG a c b)) (.i e))) (.fptr [.func (.func 115) [] [.fptr (kA a.Kind a.Day a.Lot a.Amount a.Yarn a.Dye a.Order) 0,.fptr (kH c.Day c.Lots c.Holds) 0],.func (.func 116) [] [.fptr (kA a.Kind a.Day a.Lot a.Amount a.Yarn a.Dye a.Order) 0,.fptr (.str b.lot.Name::(kB b.lot.Yarn b.lot.Dye b.lot.Stock b.known b.hold.Lot b.hold.Order b.hold.Reserved b.hold.Taken b.free)) 0],.func (.func 117) [] [.fptr [.func (.func 139) [] [],.func (.func 140) [] []] 0,.fptr (.str b.lot.Name::(kB b.lot.Yarn b.lot.Dye b.lot.Stock b.known b.hold.Lot b.hold.Order b.hold.Reserved b.hold.Taken b.free)) 0,.fptr (kA a.Kind a.Day a.Lot a.Amount a.Yarn a.Dye a.Order) 0],.func (.func 118) [] [.fptr [.func (.func 139) [] [],.func (.func 140) [] []] 0,.fptr (.str b.lot.Name::(kB b.lot.Yarn b.lot.Dye b.lot.Stock b.known b.hold.Lot b.hold.Order b.hold.Reserved b.hold.Taken b.free)) 0,.fptr (kA a.Kind a.Day a.Lot a.Amount a.Yarn a.Dye a.Order) 0],.func (.func 119) [] [.fptr (kH c.Day c.Lots c.Holds) 0,.fptr (kA a.Kind a.Day a.Lot a.Amount a.Yarn a.Dye a.Order) 0]] 2)) (ixA (ot D) (by kernel_rfl))) (ac (hs (.call 177 [.func (.func 117) [] [.fptr [.func (.func 139) [] [],.func (.func 140) [] []] 0,.fptr (.str b.lot.Name::(kB b.lot.Yarn b.lot.Dye b.lot.Stock b.known b.hold.Lot b.hold.Order b.hold.Reserved b.hold.Taken b.free)) 0,.fptr (kA a.Kind a.Day a.Lot a.Amount a.Yarn a.Dye a.Order) 0]] [] [] [.func (.func 117) [] [.fptr [.func (.func 139) [] [],.func (.func 140) [] []] 0,.fptr (.str b.lot.Name::(kB b.lot.Yarn b.lot.Dye b.lot.Stock b.known b.hold.Lot b.hold.Order b.hold.Reserved b.hold.Taken b.free)) 0,.fptr (kA a.Kind a.Day a.Lot a.Amount a.Yarn a.Dye a.Order) 0]] (.bool o)) (qE (FzL.cons (Fz.func FzL.nil (FzL.cons (Ua (Still.fptr (AllST.cons (Still.func AllST.nil AllST.nil) (AllST.cons (Still.func AllST.nil AllST.nil) AllST.nil)))) (FzL.cons (Ua (Still.fptr (AllST.cons tS (AllST.cons tS (AllST.cons tS (AllST.cons tI (AllST.cons tB (AllST.cons tS (AllST.cons tS (AllST.cons tI (AllST.cons tI (AllST.cons tI AllST.nil)))))))))))) (FzL.cons (Ua (Still.fptr (AllST.cons tS (AllST.cons tI (AllST.cons tS (AllST.cons tI (AllST.cons tS (AllST.cons tS (AllST.cons tS AllST.nil))))))))) FzL.nil)))) FzL.nil) (qcI b a f) tB)) az))
     rcases wyD d with⟨p,d⟩|⟨p,d⟩
     ·obtain⟨q,g,d⟩:=bnd d
      obtain rfl:=si d
      exact tr fol [3,5] ((0,.fslice 5 (qaG a c b))::(1,.func (.func 177) [] [])::(kL e q)) (ac (hs (.done (.opt (qo ZT 221 (.fslice 5 (qaG a c b)) (.i e))) (.fptr [.func (.func 115) [] [.fptr (kA a.Kind a.Day a.Lot a.Amount a.Yarn a.Dye a.Order) 0,.fptr (kH c.Day c.Lots c.Holds) 0],.func (.func 116) [] [.fptr (kA a.Kind a.Day a.Lot a.Amount a.Yarn a.Dye a.Order) 0,.fptr (.str b.lot.Name::(kB b.lot.Yarn b.lot.Dye b.lot.Stock b.known b.hold.Lot b.hold.Order b.hold.Reserved b.hold.Taken b.free)) 0],.func (.func 117) [] [.fptr [.func (.func 139) [] [],.func (.func 140) [] []] 0,.fptr (.str b.lot.Name::(kB b.lot.Yarn b.lot.Dye b.lot.Stock b.known b.hold.Lot b.hold.Order b.hold.Reserved b.hold.Taken b.free)) 0,.fptr (kA a.Kind a.Day a.Lot a.Amount a.Yarn a.Dye a.Order) 0],.func (.func 118) [] [.fptr [.func (.func 139) [] [],.func (.func 140) [] []] 0,.fptr (.str b.lot.Name::(kB b.lot.Yarn b.lot.Dye b.lot.Stock b.known b.hold.Lot b.hold.Order b.hold.Reserved b.hold.Taken b.free)) 0,.fptr (kA a.Kind a.Day a.Lot a.Amount a.Yarn a.Dye a.Order) 0],.func (.func 119) [] [.fptr (kH c.Day c.Lots c.Holds) 0,.fptr (kA a.Kind a.Day a.Lot a.Amount a.Yarn a.Dye a.Order) 0]] 3)) (ixA (ot p) (by kernel_rfl))) (ac (hs (.call 177 [.func (.func 118) [] [.fptr [.func (.func 139) [] [],.func (.func 140) [] []] 0,.fptr (.str b.lot.Name::(kB b.lot.Yarn b.lot.Dye b.lot.Stock b.known b.hold.Lot b.hold.Order b.hold.Reserved b.hold.Taken b.free)) 0,.fptr (kA a.Kind a.Day a.Lot a.Amount a.Yarn a.Dye a.Order) 0]] [] [] [.func (.func 118) [] [.fptr [.func (.func 139) [] [],.func (.func 140) [] []] 0,.fptr (.str b.lot.Name::(kB b.lot.Yarn b.lot.Dye b.lot.Stock b.known b.hold.Lot b.hold.Order b.hold.Reserved b.hold.Taken b.free)) 0,.fptr (kA a.Kind a.Day a.Lot a.Amount a.Yarn a.Dye a.Order) 0]] (.bool q)) (qE (FzL.cons (Fz.func FzL.nil (FzL.cons (Ua (Still.fptr (AllST.cons (Still.func AllST.nil AllST.nil) (AllST.cons (Still.func AllST.nil AllST.nil) AllST.nil)))) (FzL.cons (Ua (Still.fptr (AllST.cons tS (AllST.cons tS (AllST.cons tS (AllST.cons tI (AllST.cons tB (AllST.cons tS (AllST.cons tS (AllST.cons tI (AllST.cons tI (AllST.cons tI AllST.nil)))))))))))) (FzL.cons (Ua (Still.fptr (AllST.cons tS (AllST.cons tI (AllST.cons tS (AllST.cons tI (AllST.cons tS (AllST.cons tS (AllST.cons tS AllST.nil))))))))) FzL.nil)))) FzL.nil) (qcJ b a g) tB)) az))
     rcases wyD d with⟨r,d⟩|⟨r,d⟩
     ·obtain⟨t,j,d⟩:=bnd d
      obtain rfl:=si d
      exact tr fol [3,5] ((0,.fslice 5 (qaG a c b))::(1,.func (.func 177) [] [])::(kL e t)) (ac (hs (.done (.opt (qo ZT 221 (.fslice 5 (qaG a c b)) (.i e))) (.fptr [.func (.func 115) [] [.fptr (kA a.Kind a.Day a.Lot a.Amount a.Yarn a.Dye a.Order) 0,.fptr (kH c.Day c.Lots c.Holds) 0],.func (.func 116) [] [.fptr (kA a.Kind a.Day a.Lot a.Amount a.Yarn a.Dye a.Order) 0,.fptr (.str b.lot.Name::(kB b.lot.Yarn b.lot.Dye b.lot.Stock b.known b.hold.Lot b.hold.Order b.hold.Reserved b.hold.Taken b.free)) 0],.func (.func 117) [] [.fptr [.func (.func 139) [] [],.func (.func 140) [] []] 0,.fptr (.str b.lot.Name::(kB b.lot.Yarn b.lot.Dye b.lot.Stock b.known b.hold.Lot b.hold.Order b.hold.Reserved b.hold.Taken b.free)) 0,.fptr (kA a.Kind a.Day a.Lot a.Amount a.Yarn a.Dye a.Order) 0],.func (.func 118) [] [.fptr [.func (.func 139) [] [],.func (.func 140) [] []] 0,.fptr (.str b.lot.Name::(kB b.lot.Yarn b.lot.Dye b.lot.Stock b.known b.hold.Lot b.hold.Order b.hold.Reserved b.hold.Taken b.free)) 0,.fptr (kA a.Kind a.Day a.Lot a.Amount a.Yarn a.Dye a.Order) 0],.func (.func 119) [] [.fptr (kH c.Day c.Lots c.Holds) 0,.fptr (kA a.Kind a.Day a.Lot a.Amount a.Yarn a.Dye a.Order) 0]] 4)) (ixA (ot r) (by kernel_rfl))) (ac (hs (.call 177 [.func (.func 119) [] [.fptr (kH c.Day c.Lots c.Holds) 0,.fptr (kA a.Kind a.Day a.Lot a.Amount a.Yarn a.Dye a.Order) 0]] [] [] [.func (.func 119) [] [.fptr (kH c.Day c.Lots c.Holds) 0,.fptr (kA a.Kind a.Day a.Lot a.Amount a.Yarn a.Dye a.Order) 0]] (.bool t)) (qE (FzL.cons (Fz.func FzL.nil (FzL.cons (Ua (Still.fptr (AllST.cons tI (AllST.cons (qg qb _ (nl rfl)) (AllST.cons (qg qa _ (nl rfl)) AllST.nil))))) (FzL.cons (Ua (Still.fptr (AllST.cons tS (AllST.cons tI (AllST.cons tS (AllST.cons tI (AllST.cons tS (AllST.cons tS (AllST.cons tS AllST.nil))))))))) FzL.nil))) FzL.nil) (jH N c a j) tB)) az))
     cases d
    refine ihB g2 (fun w g2=>?_) (fun w g2=>?_)
    ·refine sh fol (kAs e) ?_
     refine Goes.ret ?_
     obtain rfl:=si g2
     exact Or.inr (⟨rfl,_,rfl,(gw2 [.i e] (Ub tI))⟩)
    refine Goes.skip ?_
    refine gh fol ((0,.fslice 5 (qaG a c b))::(1,.func (.func 177) [] [])::(kAH (w64 (e+1)))) ?_
    exact⟨M,(ofG 19 ((0,.fslice 5 (qaG a c b))::(1,.func (.func 177) [] [])::(kAH (w64 (e+1)))),[]),Nat.lt_succ_self _,(Sub.refl _),_,rfl,g2⟩
   refine Goes.exit ?_
   obtain rfl:=si g2
   exact Or.inl (⟨rfl,rfl,(Sub.keep [] rfl rfl)⟩)
 rintro x s' (⟨rfl,rfl,hsub⟩|⟨rfl,F,rfl,hret⟩)
 ·try dsimp only at h
  refine Goes.sub hsub ?_
  refine sh fol kAq ?_
  refine Goes.ret ?_
  obtain rfl:=si h
  exact(gw2 [.i (-1)] (Ub tI))
 try dsimp only at h
 obtain rfl:=si h
 exact hret
def qaj (N:Nat) (a:qh) (b:qm) (c:qc):Option Int:=
 (jy N a b c).bind fun d=>
 some (w64 (1+d))
theorem qej (N:Nat) (a:qh) (b:qm) (c:qc) {res:Int} (h:qaj N a b c=some res):qf ZT (.fn 114) [.fslice 5 (qaG a b c)] [] (.i res) []:=by
 unfold qaj at h
 refine Uc Tryz.func114 rfl rfl (m:=6) rfl (rs:=[.tmp 2]) rfl (l:=[(0,.fslice 5 (qaG a b c))]) rfl ?_
 refine sh fol [(0,.fslice 5 (qaG a b c))] ?_
 obtain⟨e,d,h⟩:=bnd h
 refine sq (gr fol [1] (kAu (w64 (1+e))) (ac (hs (.call 176 [.fslice 5 (qaG a b c),.func (.func 177) [] []] [] [] [.fslice 5 (qaG a b c),.func (.func 177) [] []] (.i e)) (qE (FzL.cons (Ua (Still.fslice (AllST.cons (Still.func AllST.nil (AllST.cons (Still.fptr (AllST.cons tS (AllST.cons tI (AllST.cons tS (AllST.cons tI (AllST.cons tS (AllST.cons tS (AllST.cons tS AllST.nil)))))))) (AllST.cons (Still.fptr (AllST.cons tI (AllST.cons (qg qb _ (nl rfl)) (AllST.cons (qg qa _ (nl rfl)) AllST.nil)))) AllST.nil))) (AllST.cons (Still.func AllST.nil (AllST.cons (Still.fptr (AllST.cons tS (AllST.cons tI (AllST.cons tS (AllST.cons tI (AllST.cons tS (AllST.cons tS (AllST.cons tS AllST.nil)))))))) (AllST.cons (Still.fptr (AllST.cons tS (AllST.cons tS (AllST.cons tS (AllST.cons tI (AllST.cons tB (AllST.cons tS (AllST.cons tS (AllST.cons tI (AllST.cons tI (AllST.cons tI AllST.nil))))))))))) AllST.nil))) (AllST.cons (Still.func AllST.nil (AllST.cons (Still.fptr (AllST.cons (Still.func AllST.nil AllST.nil) (AllST.cons (Still.func AllST.nil AllST.nil) AllST.nil))) (AllST.cons (Still.fptr (AllST.cons tS (AllST.cons tS (AllST.cons tS (AllST.cons tI (AllST.cons tB (AllST.cons tS (AllST.cons tS (AllST.cons tI (AllST.cons tI (AllST.cons tI AllST.nil))))))))))) (AllST.cons (Still.fptr (AllST.cons tS (AllST.cons tI (AllST.cons tS (AllST.cons tI (AllST.cons tS (AllST.cons tS (AllST.cons tS AllST.nil)))))))) AllST.nil)))) (AllST.cons (Still.func AllST.nil (AllST.cons (Still.fptr (AllST.cons (Still.func AllST.nil AllST.nil) (AllST.cons (Still.func AllST.nil AllST.nil) AllST.nil))) (AllST.cons (Still.fptr (AllST.cons tS (AllST.cons tS (AllST.cons tS (AllST.cons tI (AllST.cons tB (AllST.cons tS (AllST.cons tS (AllST.cons tI (AllST.cons tI (AllST.cons tI AllST.nil))))))))))) (AllST.cons (Still.fptr (AllST.cons tS (AllST.cons tI (AllST.cons tS (AllST.cons tI (AllST.cons tS (AllST.cons tS (AllST.cons tS AllST.nil)))))))) AllST.nil)))) (AllST.cons (Still.func AllST.nil (AllST.cons (Still.fptr (AllST.cons tI (AllST.cons (qg qb _ (nl rfl)) (AllST.cons (qg qa _ (nl rfl)) AllST.nil)))) (AllST.cons (Still.fptr (AllST.cons tS (AllST.cons tI (AllST.cons tS (AllST.cons tI (AllST.cons tS (AllST.cons tS (AllST.cons tS AllST.nil)))))))) AllST.nil))) AllST.nil))))))) (FzL.cons (Fz.func FzL.nil FzL.nil) FzL.nil)) (qbc N a b c d) tI)) az) ?_)
 refine Goes.ret ?_
 obtain rfl:=si h
 exact(gw2 [.i (w64 (1+e))] (Ub tI))
def yB (a:qc) (b:qh):Option Bool:=
 (qbU a b.Amount).bind fun c=>
 some c
theorem qbG (a:qc) (b:qh) {res:Bool} (h:yB a b=some res):qf ZT (.fn 117) [.fptr [.func (.func 141) [] [],.func (.func 142) [] []] 0,.fptr (.str a.lot.Name::(kB a.lot.Yarn a.lot.Dye a.lot.Stock a.known a.hold.Lot a.hold.Order a.hold.Reserved a.hold.Taken a.free)) 0,.fptr (kA b.Kind b.Day b.Lot b.Amount b.Yarn b.Dye b.Order) 0] [] (.bool res) []:=by
 unfold yB at h
 refine Uc Tryz.func117 rfl rfl (m:=10) rfl (rs:=[.tmp 3]) rfl (l:=[(0,.fptr [.func (.func 141) [] [],.func (.func 142) [] []] 0),(1,.fptr (.str a.lot.Name::(kB a.lot.Yarn a.lot.Dye a.lot.Stock a.known a.hold.Lot a.hold.Order a.hold.Reserved a.hold.Taken a.free)) 0),(2,.fptr (kA b.Kind b.Day b.Lot b.Amount b.Yarn b.Dye b.Order) 0)]) rfl ?_
 refine sh fol [(0,.fptr [.func (.func 141) [] [],.func (.func 142) [] []] 0),(1,.fptr (.str a.lot.Name::(kB a.lot.Yarn a.lot.Dye a.lot.Stock a.known a.hold.Lot a.hold.Order a.hold.Reserved a.hold.Taken a.free)) 0),(2,.fptr (kA b.Kind b.Day b.Lot b.Amount b.Yarn b.Dye b.Order) 0)] ?_
 obtain⟨d,c,h⟩:=bnd h
 refine sq (gr fol [5] (kAw d) (ac (cv (qeL a b.Amount c)) az) ?_)
 refine Goes.ret ?_
 obtain rfl:=si h
 exact(gw2 [.bool d] (Ub tB))
def xL (a:qc) (b:qh):Option Bool:=
 (yB a b).bind fun c=>
 some (!c)
theorem qcL (a:qc) (b:qh) {res:Bool} (h:xL a b=some res):qf ZT (.fn 177) [.func (.func 117) [] [.fptr [.func (.func 141) [] [],.func (.func 142) [] []] 0,.fptr (.str a.lot.Name::(kB a.lot.Yarn a.lot.Dye a.lot.Stock a.known a.hold.Lot a.hold.Order a.hold.Reserved a.hold.Taken a.free)) 0,.fptr (kA b.Kind b.Day b.Lot b.Amount b.Yarn b.Dye b.Order) 0]] [] (.bool res) []:=by
 unfold xL at h
 refine Uc Tryz.func177 rfl rfl (m:=6) rfl (rs:=[.tmp 2]) rfl (l:=[(0,.func (.func 117) [] [.fptr [.func (.func 141) [] [],.func (.func 142) [] []] 0,.fptr (.str a.lot.Name::(kB a.lot.Yarn a.lot.Dye a.lot.Stock a.known a.hold.Lot a.hold.Order a.hold.Reserved a.hold.Taken a.free)) 0,.fptr (kA b.Kind b.Day b.Lot b.Amount b.Yarn b.Dye b.Order) 0])]) rfl ?_
 refine sh fol [(0,.func (.func 117) [] [.fptr [.func (.func 141) [] [],.func (.func 142) [] []] 0,.fptr (.str a.lot.Name::(kB a.lot.Yarn a.lot.Dye a.lot.Stock a.known a.hold.Lot a.hold.Order a.hold.Reserved a.hold.Taken a.free)) 0,.fptr (kA b.Kind b.Day b.Lot b.Amount b.Yarn b.Dye b.Order) 0])] ?_
 obtain⟨d,c,h⟩:=bnd h
 refine sq (gr fol [1] (kAV (!d)) (ac (hs (.call 117 [.fptr [.func (.func 141) [] [],.func (.func 142) [] []] 0,.fptr (.str a.lot.Name::(kB a.lot.Yarn a.lot.Dye a.lot.Stock a.known a.hold.Lot a.hold.Order a.hold.Reserved a.hold.Taken a.free)) 0,.fptr (kA b.Kind b.Day b.Lot b.Amount b.Yarn b.Dye b.Order) 0] [] [] [.fptr [.func (.func 141) [] [],.func (.func 142) [] []] 0,.fptr (.str a.lot.Name::(kB a.lot.Yarn a.lot.Dye a.lot.Stock a.known a.hold.Lot a.hold.Order a.hold.Reserved a.hold.Taken a.free)) 0,.fptr (kA b.Kind b.Day b.Lot b.Amount b.Yarn b.Dye b.Order) 0] (.bool d)) (qE (FzL.cons (Ua (Still.fptr (AllST.cons (Still.func AllST.nil AllST.nil) (AllST.cons (Still.func AllST.nil AllST.nil) AllST.nil)))) (FzL.cons (Ua (Still.fptr (AllST.cons tS (AllST.cons tS (AllST.cons tS (AllST.cons tI (AllST.cons tB (AllST.cons tS (AllST.cons tS (AllST.cons tI (AllST.cons tI (AllST.cons tI AllST.nil)))))))))))) (FzL.cons (Ua (Still.fptr (AllST.cons tS (AllST.cons tI (AllST.cons tS (AllST.cons tI (AllST.cons tS (AllST.cons tS (AllST.cons tS AllST.nil))))))))) FzL.nil))) (qbG a b c) tB)) az) ?_)
 refine Goes.ret ?_
 obtain rfl:=si h
 exact(gw2 [.bool (!d)] (Ub tB))
def yz (b:qc) (c:qh):Option Bool:=
 (xB b c.Amount).bind fun a=>
 some (decide ((if a.hold.Taken>a.lot.Stock then a.hold.Taken else a.lot.Stock)<=999999999))
theorem qbH (a:qc) (b:qh) {res:Bool} (h:yz a b=some res):qf ZT (.fn 118) [.fptr [.func (.func 141) [] [],.func (.func 142) [] []] 0,.fptr (.str a.lot.Name::(kB a.lot.Yarn a.lot.Dye a.lot.Stock a.known a.hold.Lot a.hold.Order a.hold.Reserved a.hold.Taken a.free)) 0,.fptr (kA b.Kind b.Day b.Lot b.Amount b.Yarn b.Dye b.Order) 0] [] (.bool res) []:=by
 unfold yz at h
 refine Uc Tryz.func118 rfl rfl (m:=19) rfl (rs:=[.tmp 3]) rfl (l:=[(0,.fptr [.func (.func 141) [] [],.func (.func 142) [] []] 0),(1,.fptr (.str a.lot.Name::(kB a.lot.Yarn a.lot.Dye a.lot.Stock a.known a.hold.Lot a.hold.Order a.hold.Reserved a.hold.Taken a.free)) 0),(2,.fptr (kA b.Kind b.Day b.Lot b.Amount b.Yarn b.Dye b.Order) 0)]) rfl ?_
 refine sh fol [(0,.fptr [.func (.func 141) [] [],.func (.func 142) [] []] 0),(1,.fptr (.str a.lot.Name::(kB a.lot.Yarn a.lot.Dye a.lot.Stock a.known a.hold.Lot a.hold.Order a.hold.Reserved a.hold.Taken a.free)) 0),(2,.fptr (kA b.Kind b.Day b.Lot b.Amount b.Yarn b.Dye b.Order) 0)] ?_
 obtain⟨c,d,h⟩:=bnd h
 refine sq (gq fol [5] kAz (kC c.lot.Name c.lot.Yarn c.lot.Dye c.lot.Stock c.known c.hold.Lot c.hold.Order c.hold.Reserved c.hold.Taken c.free []) (ac (cv (qce a b.Amount d)) az) ?_)
 refine sh fol (kAw (decide ((if c.hold.Taken>c.lot.Stock then c.hold.Taken else c.lot.Stock)<=999999999))) ?_
 refine Goes.ret ?_
 obtain rfl:=si h
 exact(gw2 [.bool (decide ((if c.hold.Taken>c.lot.Stock then c.hold.Taken else c.lot.Stock)<=999999999))] (Ub tB))
def xJ (a:qc) (b:qh):Option Bool:=
 (yz a b).bind fun c=>
 some (!c)
theorem qcH (a:qc) (b:qh) {res:Bool} (h:xJ a b=some res):qf ZT (.fn 177) [.func (.func 118) [] [.fptr [.func (.func 141) [] [],.func (.func 142) [] []] 0,.fptr (.str a.lot.Name::(kB a.lot.Yarn a.lot.Dye a.lot.Stock a.known a.hold.Lot a.hold.Order a.hold.Reserved a.hold.Taken a.free)) 0,.fptr (kA b.Kind b.Day b.Lot b.Amount b.Yarn b.Dye b.Order) 0]] [] (.bool res) []:=by
 unfold xJ at h
 refine Uc Tryz.func177 rfl rfl (m:=6) rfl (rs:=[.tmp 2]) rfl (l:=[(0,.func (.func 118) [] [.fptr [.func (.func 141) [] [],.func (.func 142) [] []] 0,.fptr (.str a.lot.Name::(kB a.lot.Yarn a.lot.Dye a.lot.Stock a.known a.hold.Lot a.hold.Order a.hold.Reserved a.hold.Taken a.free)) 0,.fptr (kA b.Kind b.Day b.Lot b.Amount b.Yarn b.Dye b.Order) 0])]) rfl ?_
 refine sh fol [(0,.func (.func 118) [] [.fptr [.func (.func 141) [] [],.func (.func 142) [] []] 0,.fptr (.str a.lot.Name::(kB a.lot.Yarn a.lot.Dye a.lot.Stock a.known a.hold.Lot a.hold.Order a.hold.Reserved a.hold.Taken a.free)) 0,.fptr (kA b.Kind b.Day b.Lot b.Amount b.Yarn b.Dye b.Order) 0])] ?_
 obtain⟨d,c,h⟩:=bnd h
 refine sq (gr fol [1] (kAV (!d)) (ac (hs (.call 118 [.fptr [.func (.func 141) [] [],.func (.func 142) [] []] 0,.fptr (.str a.lot.Name::(kB a.lot.Yarn a.lot.Dye a.lot.Stock a.known a.hold.Lot a.hold.Order a.hold.Reserved a.hold.Taken a.free)) 0,.fptr (kA b.Kind b.Day b.Lot b.Amount b.Yarn b.Dye b.Order) 0] [] [] [.fptr [.func (.func 141) [] [],.func (.func 142) [] []] 0,.fptr (.str a.lot.Name::(kB a.lot.Yarn a.lot.Dye a.lot.Stock a.known a.hold.Lot a.hold.Order a.hold.Reserved a.hold.Taken a.free)) 0,.fptr (kA b.Kind b.Day b.Lot b.Amount b.Yarn b.Dye b.Order) 0] (.bool d)) (qE (FzL.cons (Ua (Still.fptr (AllST.cons (Still.func AllST.nil AllST.nil) (AllST.cons (Still.func AllST.nil AllST.nil) AllST.nil)))) (FzL.cons (Ua (Still.fptr (AllST.cons tS (AllST.cons tS (AllST.cons tS (AllST.cons tI (AllST.cons tB (AllST.cons tS (AllST.cons tS (AllST.cons tI (AllST.cons tI (AllST.cons tI AllST.nil)))))))))))) (FzL.cons (Ua (Still.fptr (AllST.cons tS (AllST.cons tI (AllST.cons tS (AllST.cons tI (AllST.cons tS (AllST.cons tS (AllST.cons tS AllST.nil))))))))) FzL.nil))) (qbH a b c) tB)) az) ?_)
 refine Goes.ret ?_
 obtain rfl:=si h
 exact(gw2 [.bool (!d)] (Ub tB))
def qR (N:Nat) (a:qh) (d:qm) (b:qc):Nat->Int->Option (Unit⊕Int)
 |0,_=>none
 |K+1,c=>
  if c<5 then
  (if c=0 then
  (zq a d).bind fun i=>
  some i
  else
  if c=1 then
  (q9 a b).bind fun j=>
  some j
  else
  if c=2 then
  (xL b a).bind fun e=>
  some e
  else
  if c=3 then
  (xJ b a).bind fun f=>
  some f
  else
  if c=4 then
  (zo N d a).bind fun g=>
  some g
  else
  none:Option Bool).bind fun h=>
  if h=true then
  some (.inr c)
  else
  qR N a d b K (w64 (c+1))
  else
  some (.inl ())
def jv (N:Nat) (a:qh) (b:qm) (c:qc):Option Int:=
 (qR N a b c N 0).bind (fun
 |(.inl ())=>
 some (-1)
 |(.inr d)=>
 some d)
theorem qbe (N:Nat) (a:qh) (c:qm) (b:qc) {res:Int} (h:jv N a c b=some res):qf ZT (.fn 176) [.fslice 5 (qaK a c b),.func (.func 177) [] []] [] (.i res) []:=by
 unfold jv at h
 refine Uc Tryz.func176 rfl rfl (m:=19) rfl (rs:=[.tmp 4]) rfl (l:=[(0,.fslice 5 (qaK a c b)),(1,.func (.func 177) [] [])]) rfl ?_
 refine sh fol [(0,.fslice 5 (qaK a c b)),(1,.func (.func 177) [] [])] ?_
 refine sq ?_
 refine sh fol ((0,.fslice 5 (qaK a c b))::(1,.func (.func 177) [] [])::kA0) ?_
 refine Goes.block ?_
 obtain⟨u,g2,h⟩:=bnd h
 refine Goes.imp (Q:=fun x s'=>(x= .exit 0/\(.inl ())=u/\Sub s' (ofG 19 [],[]))\/(x= .ret/\ ∃y,(.inr y)=u/\qP ZT [.tmp 4] (.i y) .ret s')) ?_ ?_
 ·refine Ud (fun M s=> ∃(e:Int),s=(ofG 19 ((0,.fslice 5 (qaK a c b))::(1,.func (.func 177) [] [])::(kAH e)),[])/\qR N a c b M e=some u) ?_ (m:=N) ⟨_,rfl,g2⟩
  rintro M s ⟨e,rfl,g2⟩
  cases M with
  |zero=>simp only[qR]at g2;cases g2
  |succ M=>
   rw[qR]at g2
   refine sh fol ((0,.fslice 5 (qaK a c b))::(1,.func (.func 177) [] [])::(kAv e (decide (e<5)))) ?_
   refine sq ?_
   refine ihD g2 (fun E g2=>?_) (fun E g2=>?_)
   ·refine Goes.skip ?_
    refine sq (Goes.block ?_)
    refine sh fol ((0,.fslice 5 (qaK a c b))::(1,.func (.func 177) [] [])::(5,.i e)::(kAH e)) ?_
    refine sq ?_
    obtain⟨v,d,g2⟩:=bnd g2
    refine Goes.cut (s':=(ofG 19 ((0,.fslice 5 (qaK a c b))::(1,.func (.func 177) [] [])::(kL e v)),[])) ?_ ?_
    ·rcases wyD d with⟨z,d⟩|⟨z,d⟩
     ·obtain⟨A,k,d⟩:=bnd d
      obtain rfl:=si d
      exact tr fol [3,5] ((0,.fslice 5 (qaK a c b))::(1,.func (.func 177) [] [])::(kL e A)) (ac (hs (.done (.opt (qo ZT 221 (.fslice 5 (qaK a c b)) (.i e))) (.fptr [.func (.func 115) [] [.fptr (kA a.Kind a.Day a.Lot a.Amount a.Yarn a.Dye a.Order) 0,.fptr (kH c.Day c.Lots c.Holds) 0],.func (.func 116) [] [.fptr (kA a.Kind a.Day a.Lot a.Amount a.Yarn a.Dye a.Order) 0,.fptr (.str b.lot.Name::(kB b.lot.Yarn b.lot.Dye b.lot.Stock b.known b.hold.Lot b.hold.Order b.hold.Reserved b.hold.Taken b.free)) 0],.func (.func 117) [] [.fptr [.func (.func 141) [] [],.func (.func 142) [] []] 0,.fptr (.str b.lot.Name::(kB b.lot.Yarn b.lot.Dye b.lot.Stock b.known b.hold.Lot b.hold.Order b.hold.Reserved b.hold.Taken b.free)) 0,.fptr (kA a.Kind a.Day a.Lot a.Amount a.Yarn a.Dye a.Order) 0],.func (.func 118) [] [.fptr [.func (.func 141) [] [],.func (.func 142) [] []] 0,.fptr (.str b.lot.Name::(kB b.lot.Yarn b.lot.Dye b.lot.Stock b.known b.hold.Lot b.hold.Order b.hold.Reserved b.hold.Taken b.free)) 0,.fptr (kA a.Kind a.Day a.Lot a.Amount a.Yarn a.Dye a.Order) 0],.func (.func 119) [] [.fptr (kH c.Day c.Lots c.Holds) 0,.fptr (kA a.Kind a.Day a.Lot a.Amount a.Yarn a.Dye a.Order) 0]] 0)) (ixA (ot z) (by kernel_rfl))) (ac (hs (.call 177 [.func (.func 115) [] [.fptr (kA a.Kind a.Day a.Lot a.Amount a.Yarn a.Dye a.Order) 0,.fptr (kH c.Day c.Lots c.Holds) 0]] [] [] [.func (.func 115) [] [.fptr (kA a.Kind a.Day a.Lot a.Amount a.Yarn a.Dye a.Order) 0,.fptr (kH c.Day c.Lots c.Holds) 0]] (.bool A)) (qE (FzL.cons (Fz.func FzL.nil (FzL.cons (Ua (Still.fptr (AllST.cons tS (AllST.cons tI (AllST.cons tS (AllST.cons tI (AllST.cons tS (AllST.cons tS (AllST.cons tS AllST.nil))))))))) (FzL.cons (Ua (Still.fptr (AllST.cons tI (AllST.cons (qg qb _ (nl rfl)) (AllST.cons (qg qa _ (nl rfl)) AllST.nil))))) FzL.nil))) FzL.nil) (jJ a c k) tB)) az))
     rcases wyD d with⟨B,d⟩|⟨B,d⟩
     ·obtain⟨C,n,d⟩:=bnd d
      obtain rfl:=si d
      exact tr fol [3,5] ((0,.fslice 5 (qaK a c b))::(1,.func (.func 177) [] [])::(kL e C)) (ac (hs (.done (.opt (qo ZT 221 (.fslice 5 (qaK a c b)) (.i e))) (.fptr [.func (.func 115) [] [.fptr (kA a.Kind a.Day a.Lot a.Amount a.Yarn a.Dye a.Order) 0,.fptr (kH c.Day c.Lots c.Holds) 0],.func (.func 116) [] [.fptr (kA a.Kind a.Day a.Lot a.Amount a.Yarn a.Dye a.Order) 0,.fptr (.str b.lot.Name::(kB b.lot.Yarn b.lot.Dye b.lot.Stock b.known b.hold.Lot b.hold.Order b.hold.Reserved b.hold.Taken b.free)) 0],.func (.func 117) [] [.fptr [.func (.func 141) [] [],.func (.func 142) [] []] 0,.fptr (.str b.lot.Name::(kB b.lot.Yarn b.lot.Dye b.lot.Stock b.known b.hold.Lot b.hold.Order b.hold.Reserved b.hold.Taken b.free)) 0,.fptr (kA a.Kind a.Day a.Lot a.Amount a.Yarn a.Dye a.Order) 0],.func (.func 118) [] [.fptr [.func (.func 141) [] [],.func (.func 142) [] []] 0,.fptr (.str b.lot.Name::(kB b.lot.Yarn b.lot.Dye b.lot.Stock b.known b.hold.Lot b.hold.Order b.hold.Reserved b.hold.Taken b.free)) 0,.fptr (kA a.Kind a.Day a.Lot a.Amount a.Yarn a.Dye a.Order) 0],.func (.func 119) [] [.fptr (kH c.Day c.Lots c.Holds) 0,.fptr (kA a.Kind a.Day a.Lot a.Amount a.Yarn a.Dye a.Order) 0]] 1)) (ixA (ot B) (by kernel_rfl))) (ac (hs (.call 177 [.func (.func 116) [] [.fptr (kA a.Kind a.Day a.Lot a.Amount a.Yarn a.Dye a.Order) 0,.fptr (.str b.lot.Name::(kB b.lot.Yarn b.lot.Dye b.lot.Stock b.known b.hold.Lot b.hold.Order b.hold.Reserved b.hold.Taken b.free)) 0]] [] [] [.func (.func 116) [] [.fptr (kA a.Kind a.Day a.Lot a.Amount a.Yarn a.Dye a.Order) 0,.fptr (.str b.lot.Name::(kB b.lot.Yarn b.lot.Dye b.lot.Stock b.known b.hold.Lot b.hold.Order b.hold.Reserved b.hold.Taken b.free)) 0]] (.bool C)) (qE (FzL.cons (Fz.func FzL.nil (FzL.cons (Ua (Still.fptr (AllST.cons tS (AllST.cons tI (AllST.cons tS (AllST.cons tI (AllST.cons tS (AllST.cons tS (AllST.cons tS AllST.nil))))))))) (FzL.cons (Ua (Still.fptr (AllST.cons tS (AllST.cons tS (AllST.cons tS (AllST.cons tI (AllST.cons tB (AllST.cons tS (AllST.cons tS (AllST.cons tI (AllST.cons tI (AllST.cons tI AllST.nil)))))))))))) FzL.nil))) FzL.nil) (jE a b n) tB)) az))
     rcases wyD d with⟨D,d⟩|⟨D,d⟩
     ·obtain⟨o,f,d⟩:=bnd d
      obtain rfl:=si d
      exact tr fol [3,5] ((0,.fslice 5 (qaK a c b))::(1,.func (.func 177) [] [])::(kL e o)) (ac (hs (.done (.opt (qo ZT 221 (.fslice 5 (qaK a c b)) (.i e))) (.fptr [.func (.func 115) [] [.fptr (kA a.Kind a.Day a.Lot a.Amount a.Yarn a.Dye a.Order) 0,.fptr (kH c.Day c.Lots c.Holds) 0],.func (.func 116) [] [.fptr (kA a.Kind a.Day a.Lot a.Amount a.Yarn a.Dye a.Order) 0,.fptr (.str b.lot.Name::(kB b.lot.Yarn b.lot.Dye b.lot.Stock b.known b.hold.Lot b.hold.Order b.hold.Reserved b.hold.Taken b.free)) 0],.func (.func 117) [] [.fptr [.func (.func 141) [] [],.func (.func 142) [] []] 0,.fptr (.str b.lot.Name::(kB b.lot.Yarn b.lot.Dye b.lot.Stock b.known b.hold.Lot b.hold.Order b.hold.Reserved b.hold.Taken b.free)) 0,.fptr (kA a.Kind a.Day a.Lot a.Amount a.Yarn a.Dye a.Order) 0],.func (.func 118) [] [.fptr [.func (.func 141) [] [],.func (.func 142) [] []] 0,.fptr (.str b.lot.Name::(kB b.lot.Yarn b.lot.Dye b.lot.Stock b.known b.hold.Lot b.hold.Order b.hold.Reserved b.hold.Taken b.free)) 0,.fptr (kA a.Kind a.Day a.Lot a.Amount a.Yarn a.Dye a.Order) 0],.func (.func 119) [] [.fptr (kH c.Day c.Lots c.Holds) 0,.fptr (kA a.Kind a.Day a.Lot a.Amount a.Yarn a.Dye a.Order) 0]] 2)) (ixA (ot D) (by kernel_rfl))) (ac (hs (.call 177 [.func (.func 117) [] [.fptr [.func (.func 141) [] [],.func (.func 142) [] []] 0,.fptr (.str b.lot.Name::(kB b.lot.Yarn b.lot.Dye b.lot.Stock b.known b.hold.Lot b.hold.Order b.hold.Reserved b.hold.Taken b.free)) 0,.fptr (kA a.Kind a.Day a.Lot a.Amount a.Yarn a.Dye a.Order) 0]] [] [] [.func (.func 117) [] [.fptr [.func (.func 141) [] [],.func (.func 142) [] []] 0,.fptr (.str b.lot.Name::(kB b.lot.Yarn b.lot.Dye b.lot.Stock b.known b.hold.Lot b.hold.Order b.hold.Reserved b.hold.Taken b.free)) 0,.fptr (kA a.Kind a.Day a.Lot a.Amount a.Yarn a.Dye a.Order) 0]] (.bool o)) (qE (FzL.cons (Fz.func FzL.nil (FzL.cons (Ua (Still.fptr (AllST.cons (Still.func AllST.nil AllST.nil) (AllST.cons (Still.func AllST.nil AllST.nil) AllST.nil)))) (FzL.cons (Ua (Still.fptr (AllST.cons tS (AllST.cons tS (AllST.cons tS (AllST.cons tI (AllST.cons tB (AllST.cons tS (AllST.cons tS (AllST.cons tI (AllST.cons tI (AllST.cons tI AllST.nil)))))))))))) (FzL.cons (Ua (Still.fptr (AllST.cons tS (AllST.cons tI (AllST.cons tS (AllST.cons tI (AllST.cons tS (AllST.cons tS (AllST.cons tS AllST.nil))))))))) FzL.nil)))) FzL.nil) (qcL b a f) tB)) az))
     rcases wyD d with⟨p,d⟩|⟨p,d⟩
     ·obtain⟨q,g,d⟩:=bnd d
      obtain rfl:=si d
      exact tr fol [3,5] ((0,.fslice 5 (qaK a c b))::(1,.func (.func 177) [] [])::(kL e q)) (ac (hs (.done (.opt (qo ZT 221 (.fslice 5 (qaK a c b)) (.i e))) (.fptr [.func (.func 115) [] [.fptr (kA a.Kind a.Day a.Lot a.Amount a.Yarn a.Dye a.Order) 0,.fptr (kH c.Day c.Lots c.Holds) 0],.func (.func 116) [] [.fptr (kA a.Kind a.Day a.Lot a.Amount a.Yarn a.Dye a.Order) 0,.fptr (.str b.lot.Name::(kB b.lot.Yarn b.lot.Dye b.lot.Stock b.known b.hold.Lot b.hold.Order b.hold.Reserved b.hold.Taken b.free)) 0],.func (.func 117) [] [.fptr [.func (.func 141) [] [],.func (.func 142) [] []] 0,.fptr (.str b.lot.Name::(kB b.lot.Yarn b.lot.Dye b.lot.Stock b.known b.hold.Lot b.hold.Order b.hold.Reserved b.hold.Taken b.free)) 0,.fptr (kA a.Kind a.Day a.Lot a.Amount a.Yarn a.Dye a.Order) 0],.func (.func 118) [] [.fptr [.func (.func 141) [] [],.func (.func 142) [] []] 0,.fptr (.str b.lot.Name::(kB b.lot.Yarn b.lot.Dye b.lot.Stock b.known b.hold.Lot b.hold.Order b.hold.Reserved b.hold.Taken b.free)) 0,.fptr (kA a.Kind a.Day a.Lot a.Amount a.Yarn a.Dye a.Order) 0],.func (.func 119) [] [.fptr (kH c.Day c.Lots c.Holds) 0,.fptr (kA a.Kind a.Day a.Lot a.Amount a.Yarn a.Dye a.Order) 0]] 3)) (ixA (ot p) (by kernel_rfl))) (ac (hs (.call 177 [.func (.func 118) [] [.fptr [.func (.func 141) [] [],.func (.func 142) [] []] 0,.fptr (.str b.lot.Name::(kB b.lot.Yarn b.lot.Dye b.lot.Stock b.known b.hold.Lot b.hold.Order b.hold.Reserved b.hold.Taken b.free)) 0,.fptr (kA a.Kind a.Day a.Lot a.Amount a.Yarn a.Dye a.Order) 0]] [] [] [.func (.func 118) [] [.fptr [.func (.func 141) [] [],.func (.func 142) [] []] 0,.fptr (.str b.lot.Name::(kB b.lot.Yarn b.lot.Dye b.lot.Stock b.known b.hold.Lot b.hold.Order b.hold.Reserved b.hold.Taken b.free)) 0,.fptr (kA a.Kind a.Day a.Lot a.Amount a.Yarn a.Dye a.Order) 0]] (.bool q)) (qE (FzL.cons (Fz.func FzL.nil (FzL.cons (Ua (Still.fptr (AllST.cons (Still.func AllST.nil AllST.nil) (AllST.cons (Still.func AllST.nil AllST.nil) AllST.nil)))) (FzL.cons (Ua (Still.fptr (AllST.cons tS (AllST.cons tS (AllST.cons tS (AllST.cons tI (AllST.cons tB (AllST.cons tS (AllST.cons tS (AllST.cons tI (AllST.cons tI (AllST.cons tI AllST.nil)))))))))))) (FzL.cons (Ua (Still.fptr (AllST.cons tS (AllST.cons tI (AllST.cons tS (AllST.cons tI (AllST.cons tS (AllST.cons tS (AllST.cons tS AllST.nil))))))))) FzL.nil)))) FzL.nil) (qcH b a g) tB)) az))
     rcases wyD d with⟨r,d⟩|⟨r,d⟩
     ·obtain⟨t,j,d⟩:=bnd d
      obtain rfl:=si d
      exact tr fol [3,5] ((0,.fslice 5 (qaK a c b))::(1,.func (.func 177) [] [])::(kL e t)) (ac (hs (.done (.opt (qo ZT 221 (.fslice 5 (qaK a c b)) (.i e))) (.fptr [.func (.func 115) [] [.fptr (kA a.Kind a.Day a.Lot a.Amount a.Yarn a.Dye a.Order) 0,.fptr (kH c.Day c.Lots c.Holds) 0],.func (.func 116) [] [.fptr (kA a.Kind a.Day a.Lot a.Amount a.Yarn a.Dye a.Order) 0,.fptr (.str b.lot.Name::(kB b.lot.Yarn b.lot.Dye b.lot.Stock b.known b.hold.Lot b.hold.Order b.hold.Reserved b.hold.Taken b.free)) 0],.func (.func 117) [] [.fptr [.func (.func 141) [] [],.func (.func 142) [] []] 0,.fptr (.str b.lot.Name::(kB b.lot.Yarn b.lot.Dye b.lot.Stock b.known b.hold.Lot b.hold.Order b.hold.Reserved b.hold.Taken b.free)) 0,.fptr (kA a.Kind a.Day a.Lot a.Amount a.Yarn a.Dye a.Order) 0],.func (.func 118) [] [.fptr [.func (.func 141) [] [],.func (.func 142) [] []] 0,.fptr (.str b.lot.Name::(kB b.lot.Yarn b.lot.Dye b.lot.Stock b.known b.hold.Lot b.hold.Order b.hold.Reserved b.hold.Taken b.free)) 0,.fptr (kA a.Kind a.Day a.Lot a.Amount a.Yarn a.Dye a.Order) 0],.func (.func 119) [] [.fptr (kH c.Day c.Lots c.Holds) 0,.fptr (kA a.Kind a.Day a.Lot a.Amount a.Yarn a.Dye a.Order) 0]] 4)) (ixA (ot r) (by kernel_rfl))) (ac (hs (.call 177 [.func (.func 119) [] [.fptr (kH c.Day c.Lots c.Holds) 0,.fptr (kA a.Kind a.Day a.Lot a.Amount a.Yarn a.Dye a.Order) 0]] [] [] [.func (.func 119) [] [.fptr (kH c.Day c.Lots c.Holds) 0,.fptr (kA a.Kind a.Day a.Lot a.Amount a.Yarn a.Dye a.Order) 0]] (.bool t)) (qE (FzL.cons (Fz.func FzL.nil (FzL.cons (Ua (Still.fptr (AllST.cons tI (AllST.cons (qg qb _ (nl rfl)) (AllST.cons (qg qa _ (nl rfl)) AllST.nil))))) (FzL.cons (Ua (Still.fptr (AllST.cons tS (AllST.cons tI (AllST.cons tS (AllST.cons tI (AllST.cons tS (AllST.cons tS (AllST.cons tS AllST.nil))))))))) FzL.nil))) FzL.nil) (jH N c a j) tB)) az))
     cases d
    refine ihB g2 (fun w g2=>?_) (fun w g2=>?_)
    ·refine sh fol (kAs e) ?_
     refine Goes.ret ?_
     obtain rfl:=si g2
     exact Or.inr (⟨rfl,_,rfl,(gw2 [.i e] (Ub tI))⟩)
    refine Goes.skip ?_
    refine gh fol ((0,.fslice 5 (qaK a c b))::(1,.func (.func 177) [] [])::(kAH (w64 (e+1)))) ?_
    exact⟨M,(ofG 19 ((0,.fslice 5 (qaK a c b))::(1,.func (.func 177) [] [])::(kAH (w64 (e+1)))),[]),Nat.lt_succ_self _,(Sub.refl _),_,rfl,g2⟩
   refine Goes.exit ?_
   obtain rfl:=si g2
   exact Or.inl (⟨rfl,rfl,(Sub.keep [] rfl rfl)⟩)
 rintro x s' (⟨rfl,rfl,hsub⟩|⟨rfl,F,rfl,hret⟩)
 ·try dsimp only at h
  refine Goes.sub hsub ?_
  refine sh fol kAq ?_
  refine Goes.ret ?_
  obtain rfl:=si h
  exact(gw2 [.i (-1)] (Ub tI))
 try dsimp only at h
 obtain rfl:=si h
 exact hret
def qaa (N:Nat) (a:qh) (b:qm) (c:qc):Option Int:=
 (jv N a b c).bind fun d=>
 some (w64 (1+d))
theorem qei (N:Nat) (a:qh) (b:qm) (c:qc) {res:Int} (h:qaa N a b c=some res):qf ZT (.fn 114) [.fslice 5 (qaK a b c)] [] (.i res) []:=by
 unfold qaa at h
 refine Uc Tryz.func114 rfl rfl (m:=6) rfl (rs:=[.tmp 2]) rfl (l:=[(0,.fslice 5 (qaK a b c))]) rfl ?_
 refine sh fol [(0,.fslice 5 (qaK a b c))] ?_
 obtain⟨e,d,h⟩:=bnd h
 refine sq (gr fol [1] (kAu (w64 (1+e))) (ac (hs (.call 176 [.fslice 5 (qaK a b c),.func (.func 177) [] []] [] [] [.fslice 5 (qaK a b c),.func (.func 177) [] []] (.i e)) (qE (FzL.cons (Ua (Still.fslice (AllST.cons (Still.func AllST.nil (AllST.cons (Still.fptr (AllST.cons tS (AllST.cons tI (AllST.cons tS (AllST.cons tI (AllST.cons tS (AllST.cons tS (AllST.cons tS AllST.nil)))))))) (AllST.cons (Still.fptr (AllST.cons tI (AllST.cons (qg qb _ (nl rfl)) (AllST.cons (qg qa _ (nl rfl)) AllST.nil)))) AllST.nil))) (AllST.cons (Still.func AllST.nil (AllST.cons (Still.fptr (AllST.cons tS (AllST.cons tI (AllST.cons tS (AllST.cons tI (AllST.cons tS (AllST.cons tS (AllST.cons tS AllST.nil)))))))) (AllST.cons (Still.fptr (AllST.cons tS (AllST.cons tS (AllST.cons tS (AllST.cons tI (AllST.cons tB (AllST.cons tS (AllST.cons tS (AllST.cons tI (AllST.cons tI (AllST.cons tI AllST.nil))))))))))) AllST.nil))) (AllST.cons (Still.func AllST.nil (AllST.cons (Still.fptr (AllST.cons (Still.func AllST.nil AllST.nil) (AllST.cons (Still.func AllST.nil AllST.nil) AllST.nil))) (AllST.cons (Still.fptr (AllST.cons tS (AllST.cons tS (AllST.cons tS (AllST.cons tI (AllST.cons tB (AllST.cons tS (AllST.cons tS (AllST.cons tI (AllST.cons tI (AllST.cons tI AllST.nil))))))))))) (AllST.cons (Still.fptr (AllST.cons tS (AllST.cons tI (AllST.cons tS (AllST.cons tI (AllST.cons tS (AllST.cons tS (AllST.cons tS AllST.nil)))))))) AllST.nil)))) (AllST.cons (Still.func AllST.nil (AllST.cons (Still.fptr (AllST.cons (Still.func AllST.nil AllST.nil) (AllST.cons (Still.func AllST.nil AllST.nil) AllST.nil))) (AllST.cons (Still.fptr (AllST.cons tS (AllST.cons tS (AllST.cons tS (AllST.cons tI (AllST.cons tB (AllST.cons tS (AllST.cons tS (AllST.cons tI (AllST.cons tI (AllST.cons tI AllST.nil))))))))))) (AllST.cons (Still.fptr (AllST.cons tS (AllST.cons tI (AllST.cons tS (AllST.cons tI (AllST.cons tS (AllST.cons tS (AllST.cons tS AllST.nil)))))))) AllST.nil)))) (AllST.cons (Still.func AllST.nil (AllST.cons (Still.fptr (AllST.cons tI (AllST.cons (qg qb _ (nl rfl)) (AllST.cons (qg qa _ (nl rfl)) AllST.nil)))) (AllST.cons (Still.fptr (AllST.cons tS (AllST.cons tI (AllST.cons tS (AllST.cons tI (AllST.cons tS (AllST.cons tS (AllST.cons tS AllST.nil)))))))) AllST.nil))) AllST.nil))))))) (FzL.cons (Fz.func FzL.nil FzL.nil) FzL.nil)) (qbe N a b c d) tI)) az) ?_)
 refine Goes.ret ?_
 obtain rfl:=si h
 exact(gw2 [.i (w64 (1+e))] (Ub tI))
def vo (N:Nat) (a:qm) (e:qh):Option Int:=
 (qA N a e).bind fun b=>
 (vT).bind fun i=>
 if(e.Kind==[114,101,99,101,105,118,101])=true then
 (xY N e a b).bind fun g=>
 some g
 else
 if(e.Kind==[114,101,115,101,114,118,101])=true then
 (xW N e a b).bind fun h=>
 some h
 else
 if(e.Kind==[114,101,108,101,97,115,101])=true then
 (qag N e a b).bind fun c=>
 some c
 else
 if(e.Kind==[116,97,107,101])=true then
 (qaj N e a b).bind fun d=>
 some d
 else
 if(e.Kind==[114,101,116,117,114,110])=true then
 (qaa N e a b).bind fun f=>
 some f
 else
 none
theorem qdE (N:Nat) (b:qm) (e:qh) {res:Int} (h:vo N b e=some res):qf ZT (.fn 57) (kX b.Day b.Lots b.Holds (kAW e.Kind e.Day e.Lot e.Amount e.Yarn e.Dye e.Order [])) [] (.i res) []:=by
 unfold vo at h
 refine Uc Tryz.func57 rfl rfl (m:=21) rfl (rs:=[.tmp 4]) rfl (l:=(kS b.Day b.Lots b.Holds (kAO e.Kind e.Day e.Lot e.Amount e.Yarn e.Dye e.Order []))) rfl ?_
 refine sg fol (kG []) (kD b.Day b.Lots b.Holds e.Kind e.Day e.Lot e.Amount e.Yarn e.Dye e.Order []) ?_
 obtain⟨a,p,h⟩:=bnd h
 refine sq (gq fol [2] (kG [(5,.ptr 2 0)]) (kD b.Day b.Lots b.Holds e.Kind e.Day e.Lot e.Amount e.Yarn e.Dye e.Order (kC a.lot.Name a.lot.Yarn a.lot.Dye a.lot.Stock a.known a.hold.Lot a.hold.Order a.hold.Reserved a.hold.Taken a.free [])) (ac (cv (zM N b e p)) az) ?_)
 refine sq ?_
 obtain⟨y,c,h⟩:=bnd h
 rcases wyB h with⟨o,h⟩|⟨o,h⟩
 ·refine gq fol [0,3] (kG (kZ [])) (kD b.Day b.Lots b.Holds e.Kind e.Day e.Lot e.Amount e.Yarn e.Dye e.Order (kC a.lot.Name a.lot.Yarn a.lot.Dye a.lot.Stock a.known a.hold.Lot a.hold.Order a.hold.Reserved a.hold.Taken a.free [.cells [.func (.func 132) [] [],.func (.func 133) [] []]])) (ac (cv (qN c)) (ac (hs (.done (zU ZT 143 (fm1) (.str e.Kind) false) (.agg [.func (.func 132) [] [],.func (.func 133) [] []])) (qaB qaY [[114,101,99,101,105,118,101],[114,101,115,101,114,118,101],[114,101,108,101,97,115,101],[116,97,107,101],[114,101,116,117,114,110]] (jo o) rfl)) az)) ?_
  obtain⟨u,q,h⟩:=bnd h
  refine sq (gq fol [6] (kAs u) (kD b.Day b.Lots b.Holds e.Kind e.Day e.Lot e.Amount e.Yarn e.Dye e.Order (kC a.lot.Name a.lot.Yarn a.lot.Dye a.lot.Stock a.known a.hold.Lot a.hold.Order a.hold.Reserved a.hold.Taken a.free [.cells [.func (.func 132) [] [],.func (.func 133) [] []],.cells [.func (.func 115) [] [.ptr 1 0,.ptr 0 0],.func (.func 116) [] [.ptr 1 0,.ptr 2 0],.func (.func 117) [] [.ptr 3 0,.ptr 2 0,.ptr 1 0],.func (.func 118) [] [.ptr 3 0,.ptr 2 0,.ptr 1 0],.func (.func 119) [] [.ptr 0 0,.ptr 1 0]]])) (ac (hs (.call 114 [.slice 4 0 5 5 1] (kD b.Day b.Lots b.Holds e.Kind e.Day e.Lot e.Amount e.Yarn e.Dye e.Order (kC a.lot.Name a.lot.Yarn a.lot.Dye a.lot.Stock a.known a.hold.Lot a.hold.Order a.hold.Reserved a.hold.Taken a.free [.cells [.func (.func 132) [] [],.func (.func 133) [] []],.cells [.func (.func 115) [] [.ptr 1 0,.ptr 0 0],.func (.func 116) [] [.ptr 1 0,.ptr 2 0],.func (.func 117) [] [.ptr 3 0,.ptr 2 0,.ptr 1 0],.func (.func 118) [] [.ptr 3 0,.ptr 2 0,.ptr 1 0],.func (.func 119) [] [.ptr 0 0,.ptr 1 0]]])) [0,1,2,3,4] [.fslice 5 (qaJ e b a)] (.i u)) (jl (FzL.cons (Fz.lit rfl rfl (FzL.cons (Fz.func FzL.nil (FzL.cons (Fz.ptr rfl rfl (FzL.cons (Ua tS) (FzL.cons (Ua tI) (FzL.cons (Ua tS) (FzL.cons (Ua tI) (FzL.cons (Ua tS) (FzL.cons (Ua tS) (FzL.cons (Ua tS) FzL.nil)))))))) (FzL.cons (Fz.ptr rfl rfl (FzL.cons (Ua tI) (FzL.cons (Ua (qg qb _ (nl rfl))) (FzL.cons (Ua (qg qa _ (nl rfl))) FzL.nil)))) FzL.nil))) (FzL.cons (Fz.func FzL.nil (FzL.cons (Fz.ptr rfl rfl (FzL.cons (Ua tS) (FzL.cons (Ua tI) (FzL.cons (Ua tS) (FzL.cons (Ua tI) (FzL.cons (Ua tS) (FzL.cons (Ua tS) (FzL.cons (Ua tS) FzL.nil)))))))) (FzL.cons (Fz.ptr rfl rfl (FzL.cons (Ua tS) (FzL.cons (Ua tS) (FzL.cons (Ua tS) (FzL.cons (Ua tI) (FzL.cons (Ua tB) (FzL.cons (Ua tS) (FzL.cons (Ua tS) (FzL.cons (Ua tI) (FzL.cons (Ua tI) (FzL.cons (Ua tI) FzL.nil))))))))))) FzL.nil))) (FzL.cons (Fz.func FzL.nil (FzL.cons (Fz.ptr rfl rfl (FzL.cons (Fz.func FzL.nil FzL.nil) (FzL.cons (Fz.func FzL.nil FzL.nil) FzL.nil))) (FzL.cons (Fz.ptr rfl rfl (FzL.cons (Ua tS) (FzL.cons (Ua tS) (FzL.cons (Ua tS) (FzL.cons (Ua tI) (FzL.cons (Ua tB) (FzL.cons (Ua tS) (FzL.cons (Ua tS) (FzL.cons (Ua tI) (FzL.cons (Ua tI) (FzL.cons (Ua tI) FzL.nil))))))))))) (FzL.cons (Fz.ptr rfl rfl (FzL.cons (Ua tS) (FzL.cons (Ua tI) (FzL.cons (Ua tS) (FzL.cons (Ua tI) (FzL.cons (Ua tS) (FzL.cons (Ua tS) (FzL.cons (Ua tS) FzL.nil)))))))) FzL.nil)))) (FzL.cons (Fz.func FzL.nil (FzL.cons (Fz.ptr rfl rfl (FzL.cons (Fz.func FzL.nil FzL.nil) (FzL.cons (Fz.func FzL.nil FzL.nil) FzL.nil))) (FzL.cons (Fz.ptr rfl rfl (FzL.cons (Ua tS) (FzL.cons (Ua tS) (FzL.cons (Ua tS) (FzL.cons (Ua tI) (FzL.cons (Ua tB) (FzL.cons (Ua tS) (FzL.cons (Ua tS) (FzL.cons (Ua tI) (FzL.cons (Ua tI) (FzL.cons (Ua tI) FzL.nil))))))))))) (FzL.cons (Fz.ptr rfl rfl (FzL.cons (Ua tS) (FzL.cons (Ua tI) (FzL.cons (Ua tS) (FzL.cons (Ua tI) (FzL.cons (Ua tS) (FzL.cons (Ua tS) (FzL.cons (Ua tS) FzL.nil)))))))) FzL.nil)))) (FzL.cons (Fz.func FzL.nil (FzL.cons (Fz.ptr rfl rfl (FzL.cons (Ua tI) (FzL.cons (Ua (qg qb _ (nl rfl))) (FzL.cons (Ua (qg qa _ (nl rfl))) FzL.nil)))) (FzL.cons (Fz.ptr rfl rfl (FzL.cons (Ua tS) (FzL.cons (Ua tI) (FzL.cons (Ua tS) (FzL.cons (Ua tI) (FzL.cons (Ua tS) (FzL.cons (Ua tS) (FzL.cons (Ua tS) FzL.nil)))))))) FzL.nil))) FzL.nil)))))) FzL.nil) (qew N e b a q) tI rfl)) az) ?_)
  refine Goes.ret ?_
  obtain rfl:=si h
  exact(gw2 [.i u] (Ub tI))
 rcases wyB h with⟨r,h⟩|⟨r,h⟩
 ·refine gq fol [0,3] (kG (kZ [])) (kD b.Day b.Lots b.Holds e.Kind e.Day e.Lot e.Amount e.Yarn e.Dye e.Order (kC a.lot.Name a.lot.Yarn a.lot.Dye a.lot.Stock a.known a.hold.Lot a.hold.Order a.hold.Reserved a.hold.Taken a.free [.cells [.func (.func 134) [] [],.func (.func 135) [] []]])) (ac (cv (qN c)) (ac (hs (.done (zU ZT 143 (fm1) (.str e.Kind) false) (.agg [.func (.func 134) [] [],.func (.func 135) [] []])) (qaB qaY [[114,101,99,101,105,118,101],[114,101,115,101,114,118,101],[114,101,108,101,97,115,101],[116,97,107,101],[114,101,116,117,114,110]] (qw o (jo r)) rfl)) az)) ?_
  obtain⟨v,s,h⟩:=bnd h
  refine sq (gq fol [6] (kAs v) (kD b.Day b.Lots b.Holds e.Kind e.Day e.Lot e.Amount e.Yarn e.Dye e.Order (kC a.lot.Name a.lot.Yarn a.lot.Dye a.lot.Stock a.known a.hold.Lot a.hold.Order a.hold.Reserved a.hold.Taken a.free [.cells [.func (.func 134) [] [],.func (.func 135) [] []],.cells [.func (.func 115) [] [.ptr 1 0,.ptr 0 0],.func (.func 116) [] [.ptr 1 0,.ptr 2 0],.func (.func 117) [] [.ptr 3 0,.ptr 2 0,.ptr 1 0],.func (.func 118) [] [.ptr 3 0,.ptr 2 0,.ptr 1 0],.func (.func 119) [] [.ptr 0 0,.ptr 1 0]]])) (ac (hs (.call 114 [.slice 4 0 5 5 1] (kD b.Day b.Lots b.Holds e.Kind e.Day e.Lot e.Amount e.Yarn e.Dye e.Order (kC a.lot.Name a.lot.Yarn a.lot.Dye a.lot.Stock a.known a.hold.Lot a.hold.Order a.hold.Reserved a.hold.Taken a.free [.cells [.func (.func 134) [] [],.func (.func 135) [] []],.cells [.func (.func 115) [] [.ptr 1 0,.ptr 0 0],.func (.func 116) [] [.ptr 1 0,.ptr 2 0],.func (.func 117) [] [.ptr 3 0,.ptr 2 0,.ptr 1 0],.func (.func 118) [] [.ptr 3 0,.ptr 2 0,.ptr 1 0],.func (.func 119) [] [.ptr 0 0,.ptr 1 0]]])) [0,1,2,3,4] [.fslice 5 (qaM e b a)] (.i v)) (jl (FzL.cons (Fz.lit rfl rfl (FzL.cons (Fz.func FzL.nil (FzL.cons (Fz.ptr rfl rfl (FzL.cons (Ua tS) (FzL.cons (Ua tI) (FzL.cons (Ua tS) (FzL.cons (Ua tI) (FzL.cons (Ua tS) (FzL.cons (Ua tS) (FzL.cons (Ua tS) FzL.nil)))))))) (FzL.cons (Fz.ptr rfl rfl (FzL.cons (Ua tI) (FzL.cons (Ua (qg qb _ (nl rfl))) (FzL.cons (Ua (qg qa _ (nl rfl))) FzL.nil)))) FzL.nil))) (FzL.cons (Fz.func FzL.nil (FzL.cons (Fz.ptr rfl rfl (FzL.cons (Ua tS) (FzL.cons (Ua tI) (FzL.cons (Ua tS) (FzL.cons (Ua tI) (FzL.cons (Ua tS) (FzL.cons (Ua tS) (FzL.cons (Ua tS) FzL.nil)))))))) (FzL.cons (Fz.ptr rfl rfl (FzL.cons (Ua tS) (FzL.cons (Ua tS) (FzL.cons (Ua tS) (FzL.cons (Ua tI) (FzL.cons (Ua tB) (FzL.cons (Ua tS) (FzL.cons (Ua tS) (FzL.cons (Ua tI) (FzL.cons (Ua tI) (FzL.cons (Ua tI) FzL.nil))))))))))) FzL.nil))) (FzL.cons (Fz.func FzL.nil (FzL.cons (Fz.ptr rfl rfl (FzL.cons (Fz.func FzL.nil FzL.nil) (FzL.cons (Fz.func FzL.nil FzL.nil) FzL.nil))) (FzL.cons (Fz.ptr rfl rfl (FzL.cons (Ua tS) (FzL.cons (Ua tS) (FzL.cons (Ua tS) (FzL.cons (Ua tI) (FzL.cons (Ua tB) (FzL.cons (Ua tS) (FzL.cons (Ua tS) (FzL.cons (Ua tI) (FzL.cons (Ua tI) (FzL.cons (Ua tI) FzL.nil))))))))))) (FzL.cons (Fz.ptr rfl rfl (FzL.cons (Ua tS) (FzL.cons (Ua tI) (FzL.cons (Ua tS) (FzL.cons (Ua tI) (FzL.cons (Ua tS) (FzL.cons (Ua tS) (FzL.cons (Ua tS) FzL.nil)))))))) FzL.nil)))) (FzL.cons (Fz.func FzL.nil (FzL.cons (Fz.ptr rfl rfl (FzL.cons (Fz.func FzL.nil FzL.nil) (FzL.cons (Fz.func FzL.nil FzL.nil) FzL.nil))) (FzL.cons (Fz.ptr rfl rfl (FzL.cons (Ua tS) (FzL.cons (Ua tS) (FzL.cons (Ua tS) (FzL.cons (Ua tI) (FzL.cons (Ua tB) (FzL.cons (Ua tS) (FzL.cons (Ua tS) (FzL.cons (Ua tI) (FzL.cons (Ua tI) (FzL.cons (Ua tI) FzL.nil))))))))))) (FzL.cons (Fz.ptr rfl rfl (FzL.cons (Ua tS) (FzL.cons (Ua tI) (FzL.cons (Ua tS) (FzL.cons (Ua tI) (FzL.cons (Ua tS) (FzL.cons (Ua tS) (FzL.cons (Ua tS) FzL.nil)))))))) FzL.nil)))) (FzL.cons (Fz.func FzL.nil (FzL.cons (Fz.ptr rfl rfl (FzL.cons (Ua tI) (FzL.cons (Ua (qg qb _ (nl rfl))) (FzL.cons (Ua (qg qa _ (nl rfl))) FzL.nil)))) (FzL.cons (Fz.ptr rfl rfl (FzL.cons (Ua tS) (FzL.cons (Ua tI) (FzL.cons (Ua tS) (FzL.cons (Ua tI) (FzL.cons (Ua tS) (FzL.cons (Ua tS) (FzL.cons (Ua tS) FzL.nil)))))))) FzL.nil))) FzL.nil)))))) FzL.nil) (qeh N e b a s) tI rfl)) az) ?_)
  refine Goes.ret ?_
  obtain rfl:=si h
  exact(gw2 [.i v] (Ub tI))
 rcases wyB h with⟨t,h⟩|⟨t,h⟩
 ·refine gq fol [0,3] (kG (kZ [])) (kD b.Day b.Lots b.Holds e.Kind e.Day e.Lot e.Amount e.Yarn e.Dye e.Order (kC a.lot.Name a.lot.Yarn a.lot.Dye a.lot.Stock a.known a.hold.Lot a.hold.Order a.hold.Reserved a.hold.Taken a.free [.cells [.func (.func 137) [] [],.func (.func 138) [] []]])) (ac (cv (qN c)) (ac (hs (.done (zU ZT 143 (fm1) (.str e.Kind) false) (.agg [.func (.func 137) [] [],.func (.func 138) [] []])) (qaB qaY [[114,101,99,101,105,118,101],[114,101,115,101,114,118,101],[114,101,108,101,97,115,101],[116,97,107,101],[114,101,116,117,114,110]] (qw o (qw r (jo t))) rfl)) az)) ?_
  obtain⟨d,f,h⟩:=bnd h
  refine sq (gq fol [6] (kAs d) (kD b.Day b.Lots b.Holds e.Kind e.Day e.Lot e.Amount e.Yarn e.Dye e.Order (kC a.lot.Name a.lot.Yarn a.lot.Dye a.lot.Stock a.known a.hold.Lot a.hold.Order a.hold.Reserved a.hold.Taken a.free [.cells [.func (.func 137) [] [],.func (.func 138) [] []],.cells [.func (.func 115) [] [.ptr 1 0,.ptr 0 0],.func (.func 116) [] [.ptr 1 0,.ptr 2 0],.func (.func 117) [] [.ptr 3 0,.ptr 2 0,.ptr 1 0],.func (.func 118) [] [.ptr 3 0,.ptr 2 0,.ptr 1 0],.func (.func 119) [] [.ptr 0 0,.ptr 1 0]]])) (ac (hs (.call 114 [.slice 4 0 5 5 1] (kD b.Day b.Lots b.Holds e.Kind e.Day e.Lot e.Amount e.Yarn e.Dye e.Order (kC a.lot.Name a.lot.Yarn a.lot.Dye a.lot.Stock a.known a.hold.Lot a.hold.Order a.hold.Reserved a.hold.Taken a.free [.cells [.func (.func 137) [] [],.func (.func 138) [] []],.cells [.func (.func 115) [] [.ptr 1 0,.ptr 0 0],.func (.func 116) [] [.ptr 1 0,.ptr 2 0],.func (.func 117) [] [.ptr 3 0,.ptr 2 0,.ptr 1 0],.func (.func 118) [] [.ptr 3 0,.ptr 2 0,.ptr 1 0],.func (.func 119) [] [.ptr 0 0,.ptr 1 0]]])) [0,1,2,3,4] [.fslice 5 (qaO e b a)] (.i d)) (jl (FzL.cons (Fz.lit rfl rfl (FzL.cons (Fz.func FzL.nil (FzL.cons (Fz.ptr rfl rfl (FzL.cons (Ua tS) (FzL.cons (Ua tI) (FzL.cons (Ua tS) (FzL.cons (Ua tI) (FzL.cons (Ua tS) (FzL.cons (Ua tS) (FzL.cons (Ua tS) FzL.nil)))))))) (FzL.cons (Fz.ptr rfl rfl (FzL.cons (Ua tI) (FzL.cons (Ua (qg qb _ (nl rfl))) (FzL.cons (Ua (qg qa _ (nl rfl))) FzL.nil)))) FzL.nil))) (FzL.cons (Fz.func FzL.nil (FzL.cons (Fz.ptr rfl rfl (FzL.cons (Ua tS) (FzL.cons (Ua tI) (FzL.cons (Ua tS) (FzL.cons (Ua tI) (FzL.cons (Ua tS) (FzL.cons (Ua tS) (FzL.cons (Ua tS) FzL.nil)))))))) (FzL.cons (Fz.ptr rfl rfl (FzL.cons (Ua tS) (FzL.cons (Ua tS) (FzL.cons (Ua tS) (FzL.cons (Ua tI) (FzL.cons (Ua tB) (FzL.cons (Ua tS) (FzL.cons (Ua tS) (FzL.cons (Ua tI) (FzL.cons (Ua tI) (FzL.cons (Ua tI) FzL.nil))))))))))) FzL.nil))) (FzL.cons (Fz.func FzL.nil (FzL.cons (Fz.ptr rfl rfl (FzL.cons (Fz.func FzL.nil FzL.nil) (FzL.cons (Fz.func FzL.nil FzL.nil) FzL.nil))) (FzL.cons (Fz.ptr rfl rfl (FzL.cons (Ua tS) (FzL.cons (Ua tS) (FzL.cons (Ua tS) (FzL.cons (Ua tI) (FzL.cons (Ua tB) (FzL.cons (Ua tS) (FzL.cons (Ua tS) (FzL.cons (Ua tI) (FzL.cons (Ua tI) (FzL.cons (Ua tI) FzL.nil))))))))))) (FzL.cons (Fz.ptr rfl rfl (FzL.cons (Ua tS) (FzL.cons (Ua tI) (FzL.cons (Ua tS) (FzL.cons (Ua tI) (FzL.cons (Ua tS) (FzL.cons (Ua tS) (FzL.cons (Ua tS) FzL.nil)))))))) FzL.nil)))) (FzL.cons (Fz.func FzL.nil (FzL.cons (Fz.ptr rfl rfl (FzL.cons (Fz.func FzL.nil FzL.nil) (FzL.cons (Fz.func FzL.nil FzL.nil) FzL.nil))) (FzL.cons (Fz.ptr rfl rfl (FzL.cons (Ua tS) (FzL.cons (Ua tS) (FzL.cons (Ua tS) (FzL.cons (Ua tI) (FzL.cons (Ua tB) (FzL.cons (Ua tS) (FzL.cons (Ua tS) (FzL.cons (Ua tI) (FzL.cons (Ua tI) (FzL.cons (Ua tI) FzL.nil))))))))))) (FzL.cons (Fz.ptr rfl rfl (FzL.cons (Ua tS) (FzL.cons (Ua tI) (FzL.cons (Ua tS) (FzL.cons (Ua tI) (FzL.cons (Ua tS) (FzL.cons (Ua tS) (FzL.cons (Ua tS) FzL.nil)))))))) FzL.nil)))) (FzL.cons (Fz.func FzL.nil (FzL.cons (Fz.ptr rfl rfl (FzL.cons (Ua tI) (FzL.cons (Ua (qg qb _ (nl rfl))) (FzL.cons (Ua (qg qa _ (nl rfl))) FzL.nil)))) (FzL.cons (Fz.ptr rfl rfl (FzL.cons (Ua tS) (FzL.cons (Ua tI) (FzL.cons (Ua tS) (FzL.cons (Ua tI) (FzL.cons (Ua tS) (FzL.cons (Ua tS) (FzL.cons (Ua tS) FzL.nil)))))))) FzL.nil))) FzL.nil)))))) FzL.nil) (qeu N e b a f) tI rfl)) az) ?_)
  refine Goes.ret ?_
  obtain rfl:=si h
  exact(gw2 [.i d] (Ub tI))
 rcases wyB h with⟨w,h⟩|⟨w,h⟩
 ·refine gq fol [0,3] (kG (kZ [])) (kD b.Day b.Lots b.Holds e.Kind e.Day e.Lot e.Amount e.Yarn e.Dye e.Order (kC a.lot.Name a.lot.Yarn a.lot.Dye a.lot.Stock a.known a.hold.Lot a.hold.Order a.hold.Reserved a.hold.Taken a.free [.cells [.func (.func 139) [] [],.func (.func 140) [] []]])) (ac (cv (qN c)) (ac (hs (.done (zU ZT 143 (fm1) (.str e.Kind) false) (.agg [.func (.func 139) [] [],.func (.func 140) [] []])) (qaB qaY [[114,101,99,101,105,118,101],[114,101,115,101,114,118,101],[114,101,108,101,97,115,101],[116,97,107,101],[114,101,116,117,114,110]] (qw o (qw r (qw t (jo w)))) rfl)) az)) ?_
  obtain⟨g,j,h⟩:=bnd h
  refine sq (gq fol [6] (kAs g) (kD b.Day b.Lots b.Holds e.Kind e.Day e.Lot e.Amount e.Yarn e.Dye e.Order (kC a.lot.Name a.lot.Yarn a.lot.Dye a.lot.Stock a.known a.hold.Lot a.hold.Order a.hold.Reserved a.hold.Taken a.free [.cells [.func (.func 139) [] [],.func (.func 140) [] []],.cells [.func (.func 115) [] [.ptr 1 0,.ptr 0 0],.func (.func 116) [] [.ptr 1 0,.ptr 2 0],.func (.func 117) [] [.ptr 3 0,.ptr 2 0,.ptr 1 0],.func (.func 118) [] [.ptr 3 0,.ptr 2 0,.ptr 1 0],.func (.func 119) [] [.ptr 0 0,.ptr 1 0]]])) (ac (hs (.call 114 [.slice 4 0 5 5 1] (kD b.Day b.Lots b.Holds e.Kind e.Day e.Lot e.Amount e.Yarn e.Dye e.Order (kC a.lot.Name a.lot.Yarn a.lot.Dye a.lot.Stock a.known a.hold.Lot a.hold.Order a.hold.Reserved a.hold.Taken a.free [.cells [.func (.func 139) [] [],.func (.func 140) [] []],.cells [.func (.func 115) [] [.ptr 1 0,.ptr 0 0],.func (.func 116) [] [.ptr 1 0,.ptr 2 0],.func (.func 117) [] [.ptr 3 0,.ptr 2 0,.ptr 1 0],.func (.func 118) [] [.ptr 3 0,.ptr 2 0,.ptr 1 0],.func (.func 119) [] [.ptr 0 0,.ptr 1 0]]])) [0,1,2,3,4] [.fslice 5 (qaG e b a)] (.i g)) (jl (FzL.cons (Fz.lit rfl rfl (FzL.cons (Fz.func FzL.nil (FzL.cons (Fz.ptr rfl rfl (FzL.cons (Ua tS) (FzL.cons (Ua tI) (FzL.cons (Ua tS) (FzL.cons (Ua tI) (FzL.cons (Ua tS) (FzL.cons (Ua tS) (FzL.cons (Ua tS) FzL.nil)))))))) (FzL.cons (Fz.ptr rfl rfl (FzL.cons (Ua tI) (FzL.cons (Ua (qg qb _ (nl rfl))) (FzL.cons (Ua (qg qa _ (nl rfl))) FzL.nil)))) FzL.nil))) (FzL.cons (Fz.func FzL.nil (FzL.cons (Fz.ptr rfl rfl (FzL.cons (Ua tS) (FzL.cons (Ua tI) (FzL.cons (Ua tS) (FzL.cons (Ua tI) (FzL.cons (Ua tS) (FzL.cons (Ua tS) (FzL.cons (Ua tS) FzL.nil)))))))) (FzL.cons (Fz.ptr rfl rfl (FzL.cons (Ua tS) (FzL.cons (Ua tS) (FzL.cons (Ua tS) (FzL.cons (Ua tI) (FzL.cons (Ua tB) (FzL.cons (Ua tS) (FzL.cons (Ua tS) (FzL.cons (Ua tI) (FzL.cons (Ua tI) (FzL.cons (Ua tI) FzL.nil))))))))))) FzL.nil))) (FzL.cons (Fz.func FzL.nil (FzL.cons (Fz.ptr rfl rfl (FzL.cons (Fz.func FzL.nil FzL.nil) (FzL.cons (Fz.func FzL.nil FzL.nil) FzL.nil))) (FzL.cons (Fz.ptr rfl rfl (FzL.cons (Ua tS) (FzL.cons (Ua tS) (FzL.cons (Ua tS) (FzL.cons (Ua tI) (FzL.cons (Ua tB) (FzL.cons (Ua tS) (FzL.cons (Ua tS) (FzL.cons (Ua tI) (FzL.cons (Ua tI) (FzL.cons (Ua tI) FzL.nil))))))))))) (FzL.cons (Fz.ptr rfl rfl (FzL.cons (Ua tS) (FzL.cons (Ua tI) (FzL.cons (Ua tS) (FzL.cons (Ua tI) (FzL.cons (Ua tS) (FzL.cons (Ua tS) (FzL.cons (Ua tS) FzL.nil)))))))) FzL.nil)))) (FzL.cons (Fz.func FzL.nil (FzL.cons (Fz.ptr rfl rfl (FzL.cons (Fz.func FzL.nil FzL.nil) (FzL.cons (Fz.func FzL.nil FzL.nil) FzL.nil))) (FzL.cons (Fz.ptr rfl rfl (FzL.cons (Ua tS) (FzL.cons (Ua tS) (FzL.cons (Ua tS) (FzL.cons (Ua tI) (FzL.cons (Ua tB) (FzL.cons (Ua tS) (FzL.cons (Ua tS) (FzL.cons (Ua tI) (FzL.cons (Ua tI) (FzL.cons (Ua tI) FzL.nil))))))))))) (FzL.cons (Fz.ptr rfl rfl (FzL.cons (Ua tS) (FzL.cons (Ua tI) (FzL.cons (Ua tS) (FzL.cons (Ua tI) (FzL.cons (Ua tS) (FzL.cons (Ua tS) (FzL.cons (Ua tS) FzL.nil)))))))) FzL.nil)))) (FzL.cons (Fz.func FzL.nil (FzL.cons (Fz.ptr rfl rfl (FzL.cons (Ua tI) (FzL.cons (Ua (qg qb _ (nl rfl))) (FzL.cons (Ua (qg qa _ (nl rfl))) FzL.nil)))) (FzL.cons (Fz.ptr rfl rfl (FzL.cons (Ua tS) (FzL.cons (Ua tI) (FzL.cons (Ua tS) (FzL.cons (Ua tI) (FzL.cons (Ua tS) (FzL.cons (Ua tS) (FzL.cons (Ua tS) FzL.nil)))))))) FzL.nil))) FzL.nil)))))) FzL.nil) (qej N e b a j) tI rfl)) az) ?_)
  refine Goes.ret ?_
  obtain rfl:=si h
  exact(gw2 [.i g] (Ub tI))
 rcases wyB h with⟨x,h⟩|⟨x,h⟩
 ·refine gq fol [0,3] (kG (kZ [])) (kD b.Day b.Lots b.Holds e.Kind e.Day e.Lot e.Amount e.Yarn e.Dye e.Order (kC a.lot.Name a.lot.Yarn a.lot.Dye a.lot.Stock a.known a.hold.Lot a.hold.Order a.hold.Reserved a.hold.Taken a.free [.cells [.func (.func 141) [] [],.func (.func 142) [] []]])) (ac (cv (qN c)) (ac (hs (.done (zU ZT 143 (fm1) (.str e.Kind) false) (.agg [.func (.func 141) [] [],.func (.func 142) [] []])) (qaB qaY [[114,101,99,101,105,118,101],[114,101,115,101,114,118,101],[114,101,108,101,97,115,101],[116,97,107,101],[114,101,116,117,114,110]] (qw o (qw r (qw t (qw w (jo x))))) rfl)) az)) ?_
  obtain⟨k,n,h⟩:=bnd h
  refine sq (gq fol [6] (kAs k) (kD b.Day b.Lots b.Holds e.Kind e.Day e.Lot e.Amount e.Yarn e.Dye e.Order (kC a.lot.Name a.lot.Yarn a.lot.Dye a.lot.Stock a.known a.hold.Lot a.hold.Order a.hold.Reserved a.hold.Taken a.free [.cells [.func (.func 141) [] [],.func (.func 142) [] []],.cells [.func (.func 115) [] [.ptr 1 0,.ptr 0 0],.func (.func 116) [] [.ptr 1 0,.ptr 2 0],.func (.func 117) [] [.ptr 3 0,.ptr 2 0,.ptr 1 0],.func (.func 118) [] [.ptr 3 0,.ptr 2 0,.ptr 1 0],.func (.func 119) [] [.ptr 0 0,.ptr 1 0]]])) (ac (hs (.call 114 [.slice 4 0 5 5 1] (kD b.Day b.Lots b.Holds e.Kind e.Day e.Lot e.Amount e.Yarn e.Dye e.Order (kC a.lot.Name a.lot.Yarn a.lot.Dye a.lot.Stock a.known a.hold.Lot a.hold.Order a.hold.Reserved a.hold.Taken a.free [.cells [.func (.func 141) [] [],.func (.func 142) [] []],.cells [.func (.func 115) [] [.ptr 1 0,.ptr 0 0],.func (.func 116) [] [.ptr 1 0,.ptr 2 0],.func (.func 117) [] [.ptr 3 0,.ptr 2 0,.ptr 1 0],.func (.func 118) [] [.ptr 3 0,.ptr 2 0,.ptr 1 0],.func (.func 119) [] [.ptr 0 0,.ptr 1 0]]])) [0,1,2,3,4] [.fslice 5 (qaK e b a)] (.i k)) (jl (FzL.cons (Fz.lit rfl rfl (FzL.cons (Fz.func FzL.nil (FzL.cons (Fz.ptr rfl rfl (FzL.cons (Ua tS) (FzL.cons (Ua tI) (FzL.cons (Ua tS) (FzL.cons (Ua tI) (FzL.cons (Ua tS) (FzL.cons (Ua tS) (FzL.cons (Ua tS) FzL.nil)))))))) (FzL.cons (Fz.ptr rfl rfl (FzL.cons (Ua tI) (FzL.cons (Ua (qg qb _ (nl rfl))) (FzL.cons (Ua (qg qa _ (nl rfl))) FzL.nil)))) FzL.nil))) (FzL.cons (Fz.func FzL.nil (FzL.cons (Fz.ptr rfl rfl (FzL.cons (Ua tS) (FzL.cons (Ua tI) (FzL.cons (Ua tS) (FzL.cons (Ua tI) (FzL.cons (Ua tS) (FzL.cons (Ua tS) (FzL.cons (Ua tS) FzL.nil)))))))) (FzL.cons (Fz.ptr rfl rfl (FzL.cons (Ua tS) (FzL.cons (Ua tS) (FzL.cons (Ua tS) (FzL.cons (Ua tI) (FzL.cons (Ua tB) (FzL.cons (Ua tS) (FzL.cons (Ua tS) (FzL.cons (Ua tI) (FzL.cons (Ua tI) (FzL.cons (Ua tI) FzL.nil))))))))))) FzL.nil))) (FzL.cons (Fz.func FzL.nil (FzL.cons (Fz.ptr rfl rfl (FzL.cons (Fz.func FzL.nil FzL.nil) (FzL.cons (Fz.func FzL.nil FzL.nil) FzL.nil))) (FzL.cons (Fz.ptr rfl rfl (FzL.cons (Ua tS) (FzL.cons (Ua tS) (FzL.cons (Ua tS) (FzL.cons (Ua tI) (FzL.cons (Ua tB) (FzL.cons (Ua tS) (FzL.cons (Ua tS) (FzL.cons (Ua tI) (FzL.cons (Ua tI) (FzL.cons (Ua tI) FzL.nil))))))))))) (FzL.cons (Fz.ptr rfl rfl (FzL.cons (Ua tS) (FzL.cons (Ua tI) (FzL.cons (Ua tS) (FzL.cons (Ua tI) (FzL.cons (Ua tS) (FzL.cons (Ua tS) (FzL.cons (Ua tS) FzL.nil)))))))) FzL.nil)))) (FzL.cons (Fz.func FzL.nil (FzL.cons (Fz.ptr rfl rfl (FzL.cons (Fz.func FzL.nil FzL.nil) (FzL.cons (Fz.func FzL.nil FzL.nil) FzL.nil))) (FzL.cons (Fz.ptr rfl rfl (FzL.cons (Ua tS) (FzL.cons (Ua tS) (FzL.cons (Ua tS) (FzL.cons (Ua tI) (FzL.cons (Ua tB) (FzL.cons (Ua tS) (FzL.cons (Ua tS) (FzL.cons (Ua tI) (FzL.cons (Ua tI) (FzL.cons (Ua tI) FzL.nil))))))))))) (FzL.cons (Fz.ptr rfl rfl (FzL.cons (Ua tS) (FzL.cons (Ua tI) (FzL.cons (Ua tS) (FzL.cons (Ua tI) (FzL.cons (Ua tS) (FzL.cons (Ua tS) (FzL.cons (Ua tS) FzL.nil)))))))) FzL.nil)))) (FzL.cons (Fz.func FzL.nil (FzL.cons (Fz.ptr rfl rfl (FzL.cons (Ua tI) (FzL.cons (Ua (qg qb _ (nl rfl))) (FzL.cons (Ua (qg qa _ (nl rfl))) FzL.nil)))) (FzL.cons (Fz.ptr rfl rfl (FzL.cons (Ua tS) (FzL.cons (Ua tI) (FzL.cons (Ua tS) (FzL.cons (Ua tI) (FzL.cons (Ua tS) (FzL.cons (Ua tS) (FzL.cons (Ua tS) FzL.nil)))))))) FzL.nil))) FzL.nil)))))) FzL.nil) (qei N e b a n) tI rfl)) az) ?_)
  refine Goes.ret ?_
  obtain rfl:=si h
  exact(gw2 [.i k] (Ub tI))
 cases h
end Go.Av
