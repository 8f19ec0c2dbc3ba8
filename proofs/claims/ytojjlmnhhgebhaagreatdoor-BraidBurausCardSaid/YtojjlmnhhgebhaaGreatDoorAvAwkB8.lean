/-
  The examples that every statement of the chapter checks: they hold. By running the evaluator in the kernel, call by call.
-/
import Derived.Test.YtojjlmnhhgebhaaGreatDoorAvMtB8
import Derived.Test.YtojjlmnhhgebhaaGreatDoorAvRp
noncomputable section
namespace Go.Av
open Go.Proofs
set_option maxRecDepth 100000
theorem fol01:Tryz.prog.follows .mixedOrders=true:=by kernel_rfl
def pl01 (f:FuncId):Bool:=Nat.beq (Nat.land (Nat.shiftRight 948568808502577705259242229037583932170041603705099127457915207953618274640461824 f) 1) 0
def okM (r:Option (AV×Heap)) (v:AV):Bool:=match r with
 |some (w,[])=>qbp 30 w v
 |_=>false
theorem qpe {r:Option (AV×Heap)} {v:AV} (h:okM r v=true):r=some (v,[]):=by
 unfold okM at h;split at h
 ·rw[qiq 30 _ _ h]
 cases h
def qnY:zq:=fun c args A=>match c with
 | .fn 239=>qpC args A
 | .fn 199=>repA args A
 |_=>none
theorem qol:qZ Tryz.prog qnY:=by
 intro c args A v A' h;unfold qnY at h;split at h
 ·exact ql8 h
 ·exact qqt h
 cases h
abbrev jV:=List (FuncId×List AV×AV)
def qnw (M:jV):zq:=qop Tryz.prog 3000 mtT qnY (orElse (memo M) qqT) pl01 40
def Good (M:jV):Prop:= ∀e∈M,qc Tryz.prog (.fn e.1) e.2.1 [] e.2.2 []
theorem qkp {M:jV} (h:Good M):qZ Tryz.prog (qnw M):=qnZ fol01 mt_ok qol (qmS (qqs h) qoZ) _
theorem qpn:Good []:=by intro e h;cases h
theorem qA {M:jV} {f:FuncId} {args:List AV} {v:AV} (h:Good M) (hr:okM (qnw M (.fn f) args []) v=true):Good ((f,args,v)::M):=by
 intro e he;rcases List.mem_cons.1 he with rfl|he
 ·exact qkp h _ _ _ _ _ (qpe hr)
 exact h e he
def M0:jV:=[]
theorem g0:Good M0:=qpn
def M1:jV:=(59,[.int .i64 (3),.fslice 3 [.int .i64 (1),.int .i64 (2),.int .i64 (1)]],.agg [.int .i64 (1),.nilslice])::M0
theorem g1:Good M1:=qA g0 (by kernel_rfl)
def M2:jV:=(59,[.int .i64 (3),.fslice 3 [.int .i64 (2),.int .i64 (1),.int .i64 (2)]],.agg [.int .i64 (1),.nilslice])::M1
theorem g2:Good M2:=qA g1 (by kernel_rfl)
def M3:jV:=(13,[.int .i64 (3),.fslice 3 [.int .i64 (1),.int .i64 (2),.int .i64 (1)],.fslice 3 [.int .i64 (2),.int .i64 (1),.int .i64 (2)]],.tuple [.bool true,.int .i64 (0)])::M2
theorem g3:Good M3:=qA g2 (by kernel_rfl)
def M4:jV:=(14,[.int .i64 (3),.fslice 3 [.int .i64 (1),.int .i64 (2),.int .i64 (1)]],.tuple [.fslice 3 [.int .i64 (2),.int .i64 (1),.int .i64 (0)],.int .i64 (0)])::M3
theorem g4:Good M4:=qA g3 (by kernel_rfl)
def M5:jV:=(59,[.int .i64 (3),.fslice 2 [.int .i64 (1),.int .i64 (-2)]],.agg [.int .i64 (-1),.fslice 2 [.fslice 3 [.int .i64 (0),.int .i64 (2),.int .i64 (1)],.fslice 3 [.int .i64 (1),.int .i64 (2),.int .i64 (0)]]])::M4
theorem g5:Good M5:=qA g4 (by kernel_rfl)
def M6:jV:=(60,[.int .i64 (3),.agg [.int .i64 (-1),.fslice 2 [.fslice 3 [.int .i64 (0),.int .i64 (2),.int .i64 (1)],.fslice 3 [.int .i64 (1),.int .i64 (2),.int .i64 (0)]]]],.int .i64 (0))::M5
theorem g6:Good M6:=qA g5 (by kernel_rfl)
def M7:jV:=(16,[.int .i64 (3),.agg [.int .i64 (-1),.fslice 2 [.fslice 3 [.int .i64 (0),.int .i64 (2),.int .i64 (1)],.fslice 3 [.int .i64 (1),.int .i64 (2),.int .i64 (0)]]]],.tuple [.fslice 6 [.int .i64 (-1),.int .i64 (-2),.int .i64 (-1),.int .i64 (2),.int .i64 (2),.int .i64 (1)],.int .i64 (0)])::M6
theorem g7:Good M7:=qA g6 (by kernel_rfl)
def M8:jV:=(59,[.int .i64 (3),.fslice 6 [.int .i64 (1),.int .i64 (2),.int .i64 (1),.int .i64 (2),.int .i64 (1),.int .i64 (2)]],.agg [.int .i64 (2),.nilslice])::M7
theorem g8:Good M8:=qA g7 (by kernel_rfl)
def M9:jV:=(17,[.int .i64 (4),.fslice 4 [.int .i64 (3),.int .i64 (2),.int .i64 (1),.int .i64 (0)]],.tuple [.fslice 6 [.int .i64 (1),.int .i64 (2),.int .i64 (1),.int .i64 (3),.int .i64 (2),.int .i64 (1)],.int .i64 (0)])::M8
theorem g9:Good M9:=qA g8 (by kernel_rfl)
def M10:jV:=(18,[.int .i64 (2),.fslice 2 [.int .i64 (1),.int .i64 (1)]],.tuple [.fslice 2 [.fslice 2 [.int .i64 (0),.int .i64 (2)],.fslice 2 [.int .i64 (2),.int .i64 (0)]],.int .i64 (0)])::M9
theorem g10:Good M10:=qA g9 (by kernel_rfl)
def M11:jV:=(38,[.str [50]],.int .i64 (0))::M10
theorem g11:Good M11:=qA g10 (by kernel_rfl)
def M12:jV:=(41,[.str [50]],.agg [.int .i64 (2),.nilslice,.int .i64 (1),.nilslice])::M11
theorem g12:Good M12:=qA g11 (by kernel_rfl)
def M13:jV:=(40,[.int .i64 (2),.fslice 1 [.int .i64 (1)],.agg [.int .i64 (2),.nilslice,.int .i64 (1),.nilslice]],.fslice 2 [.fslice 2 [.int .i64 (-1),.nilslice,.int .i64 (1),.nilslice,.int .i64 (2),.nilslice,.int .i64 (1),.nilslice],.fslice 2 [.int .i64 (1),.nilslice,.int .i64 (1),.nilslice,.int .i64 (0),.nilslice,.int .i64 (1),.nilslice]])::M12
theorem g13:Good M13:=qA g12 (by kernel_rfl)
def M14:jV:=(9,[.int .i64 (2),.fslice 1 [.int .i64 (1)],.str [50]],.tuple [.fslice 2 [.fslice 2 [.str [45,49],.str [50]],.fslice 2 [.str [49],.str [48]]],.int .i64 (0)])::M13
theorem g14:Good M14:=qA g13 (by kernel_rfl)
def M15:jV:=(70,[.int .i64 (2),.fslice 2 [.int .i64 (1),.int .i64 (1)]],.fslice 2 [.fslice 5 [.int .i64 (1),.int .i64 (2),.int .i64 (1),.int .i64 (-2),.int .i64 (-1)],.fslice 3 [.int .i64 (1),.int .i64 (2),.int .i64 (-1)]])::M14
theorem g15:Good M15:=qA g14 (by kernel_rfl)
def M16:jV:=(58,[.int .i64 (3),.fslice 6 [.int .i64 (1),.int .i64 (-2),.int .i64 (1),.int .i64 (-2),.int .i64 (1),.int .i64 (-2)]],.fslice 3 [.int .i64 (0),.int .i64 (1),.int .i64 (2)])::M15
theorem g16:Good M16:=qA g15 (by kernel_rfl)
def M17:jV:=(69,[.int .i64 (3),.fslice 6 [.int .i64 (1),.int .i64 (-2),.int .i64 (1),.int .i64 (-2),.int .i64 (1),.int .i64 (-2)]],.fslice 3 [.fslice 3 [.int .i64 (0),.int .i64 (0),.int .i64 (0)],.fslice 3 [.int .i64 (0),.int .i64 (0),.int .i64 (0)],.fslice 3 [.int .i64 (0),.int .i64 (0),.int .i64 (0)]])::M16
theorem g17:Good M17:=qA g16 (by kernel_rfl)
def M18:jV:=(103,[.agg [.int .i64 (1),.nilslice,.int .i64 (1),.nilslice],.agg [.int .i64 (-1),.nilslice,.int .i64 (2),.nilslice]],.agg [.int .i64 (1),.nilslice,.int .i64 (2),.nilslice])::M17
theorem g18:Good M18:=qA g17 (by kernel_rfl)
def M19:jV:=(101,[.int .i64 (-2),.agg [.int .i64 (2),.nilslice,.int .i64 (1),.nilslice]],.agg [.int .i64 (0),.nilslice,.int .i64 (1),.nilslice,.int .i64 (1),.nilslice,.int .i64 (1),.nilslice,.int .i64 (1),.nilslice,.int .i64 (2),.nilslice,.int .i64 (1),.nilslice,.int .i64 (2),.nilslice])::M18
theorem g19:Good M19:=qA g18 (by kernel_rfl)
def M20:jV:=(102,[.agg [.int .i64 (0),.nilslice,.int .i64 (1),.nilslice],.agg [.int .i64 (1),.nilslice,.int .i64 (2),.nilslice]],.agg [.int .i64 (0),.nilslice,.int .i64 (1),.nilslice])::M19
theorem g20:Good M20:=qA g19 (by kernel_rfl)
def M21:jV:=(102,[.agg [.int .i64 (1),.nilslice,.int .i64 (1),.nilslice],.agg [.int .i64 (1),.nilslice,.int .i64 (2),.nilslice]],.agg [.int .i64 (1),.nilslice,.int .i64 (2),.nilslice])::M20
theorem g21:Good M21:=qA g20 (by kernel_rfl)
def M22:jV:=(103,[.agg [.int .i64 (0),.nilslice,.int .i64 (1),.nilslice],.agg [.int .i64 (1),.nilslice,.int .i64 (2),.nilslice]],.agg [.int .i64 (1),.nilslice,.int .i64 (2),.nilslice])::M21
theorem g22:Good M22:=qA g21 (by kernel_rfl)
def M23:jV:=(102,[.agg [.int .i64 (1),.nilslice,.int .i64 (2),.nilslice],.agg [.int .i64 (1),.nilslice,.int .i64 (1),.nilslice]],.agg [.int .i64 (1),.nilslice,.int .i64 (2),.nilslice])::M22
theorem g23:Good M23:=qA g22 (by kernel_rfl)
def M24:jV:=(102,[.agg [.int .i64 (1),.nilslice,.int .i64 (2),.nilslice],.agg [.int .i64 (0),.nilslice,.int .i64 (1),.nilslice]],.agg [.int .i64 (0),.nilslice,.int .i64 (1),.nilslice])::M23
theorem g24:Good M24:=qA g23 (by kernel_rfl)
def M25:jV:=(102,[.agg [.int .i64 (2),.nilslice,.int .i64 (1),.nilslice],.agg [.int .i64 (1),.nilslice,.int .i64 (2),.nilslice]],.agg [.int .i64 (1),.nilslice,.int .i64 (1),.nilslice])::M24
theorem g25:Good M25:=qA g24 (by kernel_rfl)
def M26:jV:=(102,[.agg [.int .i64 (1),.nilslice,.int .i64 (2),.nilslice],.agg [.int .i64 (1),.nilslice,.int .i64 (2),.nilslice]],.agg [.int .i64 (1),.nilslice,.int .i64 (4),.nilslice])::M25
theorem g26:Good M26:=qA g25 (by kernel_rfl)
def M27:jV:=(103,[.agg [.int .i64 (0),.nilslice,.int .i64 (1),.nilslice],.agg [.int .i64 (1),.nilslice,.int .i64 (4),.nilslice]],.agg [.int .i64 (1),.nilslice,.int .i64 (4),.nilslice])::M26
theorem g27:Good M27:=qA g26 (by kernel_rfl)
def M28:jV:=(102,[.agg [.int .i64 (1),.nilslice,.int .i64 (2),.nilslice],.agg [.int .i64 (-1),.nilslice,.int .i64 (1),.nilslice]],.agg [.int .i64 (-1),.nilslice,.int .i64 (2),.nilslice])::M27
theorem g28:Good M28:=qA g27 (by kernel_rfl)
def M29:jV:=(102,[.agg [.int .i64 (1),.nilslice,.int .i64 (4),.nilslice],.agg [.int .i64 (1),.nilslice,.int .i64 (1),.nilslice]],.agg [.int .i64 (1),.nilslice,.int .i64 (4),.nilslice])::M28
theorem g29:Good M29:=qA g28 (by kernel_rfl)
def M30:jV:=(103,[.agg [.int .i64 (-1),.nilslice,.int .i64 (2),.nilslice],.agg [.int .i64 (1),.nilslice,.int .i64 (4),.nilslice]],.agg [.int .i64 (-1),.nilslice,.int .i64 (4),.nilslice])::M29
theorem g30:Good M30:=qA g29 (by kernel_rfl)
def M31:jV:=(102,[.agg [.int .i64 (1),.nilslice,.int .i64 (2),.nilslice],.agg [.int .i64 (2),.nilslice,.int .i64 (1),.nilslice]],.agg [.int .i64 (1),.nilslice,.int .i64 (1),.nilslice])::M30
theorem g31:Good M31:=qA g30 (by kernel_rfl)
def M32:jV:=(102,[.agg [.int .i64 (1),.nilslice,.int .i64 (4),.nilslice],.agg [.int .i64 (0),.nilslice,.int .i64 (1),.nilslice]],.agg [.int .i64 (0),.nilslice,.int .i64 (1),.nilslice])::M31
theorem g32:Good M32:=qA g31 (by kernel_rfl)
def M33:jV:=(102,[.agg [.int .i64 (-1),.nilslice,.int .i64 (1),.nilslice],.agg [.int .i64 (1),.nilslice,.int .i64 (2),.nilslice]],.agg [.int .i64 (-1),.nilslice,.int .i64 (2),.nilslice])::M32
theorem g33:Good M33:=qA g32 (by kernel_rfl)
def M34:jV:=(103,[.agg [.int .i64 (0),.nilslice,.int .i64 (1),.nilslice],.agg [.int .i64 (-1),.nilslice,.int .i64 (2),.nilslice]],.agg [.int .i64 (-1),.nilslice,.int .i64 (2),.nilslice])::M33
theorem g34:Good M34:=qA g33 (by kernel_rfl)
def M35:jV:=(103,[.agg [.int .i64 (2),.nilslice,.int .i64 (1),.nilslice],.agg [.int .i64 (-1),.nilslice,.int .i64 (2),.nilslice]],.agg [.int .i64 (3),.nilslice,.int .i64 (2),.nilslice])::M34
theorem g35:Good M35:=qA g34 (by kernel_rfl)
def M36:jV:=(102,[.agg [.int .i64 (1),.nilslice,.int .i64 (4),.nilslice],.agg [.int .i64 (1),.nilslice,.int .i64 (2),.nilslice]],.agg [.int .i64 (1),.nilslice,.int .i64 (8),.nilslice])::M35
theorem g36:Good M36:=qA g35 (by kernel_rfl)
def M37:jV:=(103,[.agg [.int .i64 (0),.nilslice,.int .i64 (1),.nilslice],.agg [.int .i64 (1),.nilslice,.int .i64 (8),.nilslice]],.agg [.int .i64 (1),.nilslice,.int .i64 (8),.nilslice])::M36
theorem g37:Good M37:=qA g36 (by kernel_rfl)
def M38:jV:=(103,[.agg [.int .i64 (1),.nilslice,.int .i64 (1),.nilslice],.agg [.int .i64 (1),.nilslice,.int .i64 (8),.nilslice]],.agg [.int .i64 (9),.nilslice,.int .i64 (8),.nilslice])::M37
theorem g38:Good M38:=qA g37 (by kernel_rfl)
def M39:jV:=(40,[.int .i64 (3),.fslice 6 [.int .i64 (1),.int .i64 (-2),.int .i64 (1),.int .i64 (-2),.int .i64 (1),.int .i64 (-2)],.agg [.int .i64 (2),.nilslice,.int .i64 (1),.nilslice]],.fslice 3 [.fslice 3 [.int .i64 (0),.nilslice,.int .i64 (1),.nilslice,.int .i64 (-1),.nilslice,.int .i64 (2),.nilslice,.int .i64 (3),.nilslice,.int .i64 (2),.nilslice],.fslice 3 [.int .i64 (1),.nilslice,.int .i64 (1),.nilslice,.int .i64 (1),.nilslice,.int .i64 (1),.nilslice,.int .i64 (-1),.nilslice,.int .i64 (1),.nilslice],.fslice 3 [.int .i64 (-1),.nilslice,.int .i64 (4),.nilslice,.int .i64 (1),.nilslice,.int .i64 (8),.nilslice,.int .i64 (9),.nilslice,.int .i64 (8),.nilslice]])::M38
theorem g39:Good M39:=qA g38 (by kernel_rfl)
def M40:jV:=(40,[.int .i64 (3),.nilslice,.agg [.int .i64 (2),.nilslice,.int .i64 (1),.nilslice]],.fslice 3 [.fslice 3 [.int .i64 (1),.nilslice,.int .i64 (1),.nilslice,.int .i64 (0),.nilslice,.int .i64 (1),.nilslice,.int .i64 (0),.nilslice,.int .i64 (1),.nilslice],.fslice 3 [.int .i64 (0),.nilslice,.int .i64 (1),.nilslice,.int .i64 (1),.nilslice,.int .i64 (1),.nilslice,.int .i64 (0),.nilslice,.int .i64 (1),.nilslice],.fslice 3 [.int .i64 (0),.nilslice,.int .i64 (1),.nilslice,.int .i64 (0),.nilslice,.int .i64 (1),.nilslice,.int .i64 (1),.nilslice,.int .i64 (1),.nilslice]])::M39
theorem g40:Good M40:=qA g39 (by kernel_rfl)
def M41:jV:=(20,[.int .i64 (3),.fslice 6 [.int .i64 (1),.int .i64 (-2),.int .i64 (1),.int .i64 (-2),.int .i64 (1),.int .i64 (-2)],.nilslice],.tuple [.str [98,117,114,97,117],.int .i64 (0)])::M40
theorem g41:Good M41:=qA g40 (by kernel_rfl)
def M42:jV:=(21,[.int .i64 (2),.fslice 3 [.int .i64 (1),.int .i64 (1),.int .i64 (1)]],.tuple [.fslice 1 [.fslice 2 [.int .i64 (0),.int .i64 (1)]],.int .i64 (0)])::M41
theorem g42:Good M42:=qA g41 (by kernel_rfl)
def M43:jV:=(22,[.int .i64 (3),.fslice 3 [.int .i64 (1),.int .i64 (2),.int .i64 (1)],.fslice 1 [.str [116,117,114,110],.int .i64 (0),.int .i64 (0)]],.tuple [.fslice 3 [.int .i64 (2),.int .i64 (1),.int .i64 (2)],.int .i64 (0)])::M42
theorem g43:Good M43:=qA g42 (by kernel_rfl)
def M44:jV:=(59,[.int .i64 (3),.fslice 3 [.int .i64 (1),.int .i64 (2),.int .i64 (-1)]],.agg [.int .i64 (-1),.fslice 2 [.fslice 3 [.int .i64 (1),.int .i64 (2),.int .i64 (0)],.fslice 3 [.int .i64 (2),.int .i64 (0),.int .i64 (1)]]])::M43
theorem g44:Good M44:=qA g43 (by kernel_rfl)
def M45:jV:=(59,[.int .i64 (3),.fslice 3 [.int .i64 (-2),.int .i64 (1),.int .i64 (2)]],.agg [.int .i64 (-1),.fslice 2 [.fslice 3 [.int .i64 (1),.int .i64 (2),.int .i64 (0)],.fslice 3 [.int .i64 (2),.int .i64 (0),.int .i64 (1)]]])::M44
theorem g45:Good M45:=qA g44 (by kernel_rfl)
def M46:jV:=(23,[.int .i64 (3),.fslice 3 [.int .i64 (1),.int .i64 (2),.int .i64 (-1)],.fslice 3 [.int .i64 (-2),.int .i64 (1),.int .i64 (2)]],.tuple [.fslice 9 [.str [105,110,115,101,114,116],.int .i64 (3),.int .i64 (-2),.str [105,110,115,101,114,116],.int .i64 (4),.int .i64 (-1),.str [105,110,115,101,114,116],.int .i64 (5),.int .i64 (2),.str [105,110,115,101,114,116],.int .i64 (2),.int .i64 (-1),.str [116,117,114,110],.int .i64 (0),.int .i64 (0),.str [99,97,110,99,101,108],.int .i64 (3),.int .i64 (0),.str [99,97,110,99,101,108],.int .i64 (2),.int .i64 (0),.str [99,97,110,99,101,108],.int .i64 (1),.int .i64 (0),.str [99,97,110,99,101,108],.int .i64 (0),.int .i64 (0)],.int .i64 (0)])::M45
theorem g46:Good M46:=qA g45 (by kernel_rfl)
def M47:jV:=(73,[.int .i64 (3),.fslice 3 [.int .i64 (1),.int .i64 (2),.int .i64 (-1)],.fslice 9 [.str [105,110,115,101,114,116],.int .i64 (3),.int .i64 (-2),.str [105,110,115,101,114,116],.int .i64 (4),.int .i64 (-1),.str [105,110,115,101,114,116],.int .i64 (5),.int .i64 (2),.str [105,110,115,101,114,116],.int .i64 (2),.int .i64 (-1),.str [116,117,114,110],.int .i64 (0),.int .i64 (0),.str [99,97,110,99,101,108],.int .i64 (3),.int .i64 (0),.str [99,97,110,99,101,108],.int .i64 (2),.int .i64 (0),.str [99,97,110,99,101,108],.int .i64 (1),.int .i64 (0),.str [99,97,110,99,101,108],.int .i64 (0),.int .i64 (0)]],.tuple [.fslice 3 [.int .i64 (-2),.int .i64 (1),.int .i64 (2)],.int .i64 (0)])::M46
theorem g47:Good M47:=qA g46 (by kernel_rfl)
def M48:jV:=(26,[.int .i64 (3),.fslice 3 [.int .i64 (1),.int .i64 (2),.int .i64 (-1)],.fslice 3 [.int .i64 (-2),.int .i64 (1),.int .i64 (2)],.fslice 9 [.str [105,110,115,101,114,116],.int .i64 (3),.int .i64 (-2),.str [105,110,115,101,114,116],.int .i64 (4),.int .i64 (-1),.str [105,110,115,101,114,116],.int .i64 (5),.int .i64 (2),.str [105,110,115,101,114,116],.int .i64 (2),.int .i64 (-1),.str [116,117,114,110],.int .i64 (0),.int .i64 (0),.str [99,97,110,99,101,108],.int .i64 (3),.int .i64 (0),.str [99,97,110,99,101,108],.int .i64 (2),.int .i64 (0),.str [99,97,110,99,101,108],.int .i64 (1),.int .i64 (0),.str [99,97,110,99,101,108],.int .i64 (0),.int .i64 (0)]],.int .i64 (0))::M47
theorem g48:Good M48:=qA g47 (by kernel_rfl)
theorem qm9:okM (qnw M48 (.fn 4) [] []) (.bool true)=true:=by kernel_rfl
theorem qqP:qc Tryz.prog (.fn 4) [] [] (.bool true) []:=qkp g48 _ _ _ _ _ (qpe qm9)
end Go.Av
