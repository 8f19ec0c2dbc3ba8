/-
  The examples that every statement of the chapter checks: they hold. By running the evaluator in the kernel, call by call.
-/
import Derived.Test.YthfnnbgiclognaaGreatAvMtI
import Derived.Test.YthfnnbgiclognaaGreatAvRp
noncomputable section
namespace Go.Av
open Go.Proofs
set_option maxRecDepth 100000
theorem fol01:Tryz.prog.follows .mixedOrders=true:=by kernel_rfl
def pl01 (f:FuncId):Bool:=Nat.beq (Nat.land (Nat.shiftRight 59890329995216626515100360753724216311808 f) 1) 0
def okM (r:Option (AV×Heap)) (v:AV):Bool:=match r with
 |some (w,[])=>vO 30 w v
 |_=>false
theorem qgb {r:Option (AV×Heap)} {v:AV} (h:okM r v=true):r=some (v,[]):=by
 unfold okM at h
 split at h
 ·rw[qcK 30 _ _ h]
 cases h
def qgl:qW:=fun c args A=>match c with
 | .fn 115=>qhs args A
 | .fn 93=>repA args A
 |_=>none
theorem qgW:qC Tryz.prog qgl:=by
 intro c args A v A' h
 unfold qgl at h
 split at h
 ·exact qff h
 ·exact qhJ h
 cases h
abbrev jL:=List (FuncId×List AV×AV)
def qhq (M:jL):qW:=qgk Tryz.prog 3000 mtT qgl (orElse (memo M) qh2) pl01 40
def Good (M:jL):Prop:= ∀e∈M,qd Tryz.prog (.fn e.1) e.2.1 [] e.2.2 []
theorem qeb {M:jL} (h:Good M):qC Tryz.prog (qhq M):=qg1 fol01 mt_ok qgW (qfU (qhT h) qgy) _
theorem qgr:Good []:=by intro e h;cases h
theorem qm {M:jL} {f:FuncId} {args:List AV} {v:AV} (h:Good M) (hr:okM (qhq M (.fn f) args []) v=true):Good ((f,args,v)::M):=by
 intro e he
 rcases List.mem_cons.1 he with rfl|he
 ·exact qeb h _ _ _ _ _ (qgb hr)
 exact h e he
def M0:jL:=[]
theorem g0:Good M0:=qgr
def M1:jL:=(27,[.int .i64 (3),.fslice 6 [.int .i64 (1),.int .i64 (-2),.int .i64 (1),.int .i64 (-2),.int .i64 (1),.int .i64 (-2)]],.fslice 3 [.int .i64 (0),.int .i64 (1),.int .i64 (2)])::M0
theorem g1:Good M1:=qm g0 (by kernel_rfl)
def M2:jL:=(59,[.int .i64 (3),.fslice 6 [.int .i64 (1),.int .i64 (-2),.int .i64 (1),.int .i64 (-2),.int .i64 (1),.int .i64 (-2)]],.fslice 3 [.fslice 3 [.int .i64 (0),.int .i64 (0),.int .i64 (0)],.fslice 3 [.int .i64 (0),.int .i64 (0),.int .i64 (0)],.fslice 3 [.int .i64 (0),.int .i64 (0),.int .i64 (0)]])::M1
theorem g2:Good M2:=qm g1 (by kernel_rfl)
def M3:jL:=(80,[.agg [.int .i64 (1),.nilslice,.int .i64 (1),.nilslice],.agg [.int .i64 (-1),.nilslice,.int .i64 (2),.nilslice]],.agg [.int .i64 (1),.nilslice,.int .i64 (2),.nilslice])::M2
theorem g3:Good M3:=qm g2 (by kernel_rfl)
def M4:jL:=(78,[.int .i64 (-2),.agg [.int .i64 (2),.nilslice,.int .i64 (1),.nilslice]],.agg [.int .i64 (0),.nilslice,.int .i64 (1),.nilslice,.int .i64 (1),.nilslice,.int .i64 (1),.nilslice,.int .i64 (1),.nilslice,.int .i64 (2),.nilslice,.int .i64 (1),.nilslice,.int .i64 (2),.nilslice])::M3
theorem g4:Good M4:=qm g3 (by kernel_rfl)
def M5:jL:=(79,[.agg [.int .i64 (0),.nilslice,.int .i64 (1),.nilslice],.agg [.int .i64 (1),.nilslice,.int .i64 (2),.nilslice]],.agg [.int .i64 (0),.nilslice,.int .i64 (1),.nilslice])::M4
theorem g5:Good M5:=qm g4 (by kernel_rfl)
def M6:jL:=(79,[.agg [.int .i64 (1),.nilslice,.int .i64 (1),.nilslice],.agg [.int .i64 (1),.nilslice,.int .i64 (2),.nilslice]],.agg [.int .i64 (1),.nilslice,.int .i64 (2),.nilslice])::M5
theorem g6:Good M6:=qm g5 (by kernel_rfl)
def M7:jL:=(80,[.agg [.int .i64 (0),.nilslice,.int .i64 (1),.nilslice],.agg [.int .i64 (1),.nilslice,.int .i64 (2),.nilslice]],.agg [.int .i64 (1),.nilslice,.int .i64 (2),.nilslice])::M6
theorem g7:Good M7:=qm g6 (by kernel_rfl)
def M8:jL:=(79,[.agg [.int .i64 (1),.nilslice,.int .i64 (2),.nilslice],.agg [.int .i64 (1),.nilslice,.int .i64 (1),.nilslice]],.agg [.int .i64 (1),.nilslice,.int .i64 (2),.nilslice])::M7
theorem g8:Good M8:=qm g7 (by kernel_rfl)
def M9:jL:=(79,[.agg [.int .i64 (1),.nilslice,.int .i64 (2),.nilslice],.agg [.int .i64 (0),.nilslice,.int .i64 (1),.nilslice]],.agg [.int .i64 (0),.nilslice,.int .i64 (1),.nilslice])::M8
theorem g9:Good M9:=qm g8 (by kernel_rfl)
def M10:jL:=(79,[.agg [.int .i64 (2),.nilslice,.int .i64 (1),.nilslice],.agg [.int .i64 (1),.nilslice,.int .i64 (2),.nilslice]],.agg [.int .i64 (1),.nilslice,.int .i64 (1),.nilslice])::M9
theorem g10:Good M10:=qm g9 (by kernel_rfl)
def M11:jL:=(79,[.agg [.int .i64 (1),.nilslice,.int .i64 (2),.nilslice],.agg [.int .i64 (1),.nilslice,.int .i64 (2),.nilslice]],.agg [.int .i64 (1),.nilslice,.int .i64 (4),.nilslice])::M10
theorem g11:Good M11:=qm g10 (by kernel_rfl)
def M12:jL:=(80,[.agg [.int .i64 (0),.nilslice,.int .i64 (1),.nilslice],.agg [.int .i64 (1),.nilslice,.int .i64 (4),.nilslice]],.agg [.int .i64 (1),.nilslice,.int .i64 (4),.nilslice])::M11
theorem g12:Good M12:=qm g11 (by kernel_rfl)
def M13:jL:=(79,[.agg [.int .i64 (1),.nilslice,.int .i64 (2),.nilslice],.agg [.int .i64 (-1),.nilslice,.int .i64 (1),.nilslice]],.agg [.int .i64 (-1),.nilslice,.int .i64 (2),.nilslice])::M12
theorem g13:Good M13:=qm g12 (by kernel_rfl)
def M14:jL:=(79,[.agg [.int .i64 (1),.nilslice,.int .i64 (4),.nilslice],.agg [.int .i64 (1),.nilslice,.int .i64 (1),.nilslice]],.agg [.int .i64 (1),.nilslice,.int .i64 (4),.nilslice])::M13
theorem g14:Good M14:=qm g13 (by kernel_rfl)
def M15:jL:=(80,[.agg [.int .i64 (-1),.nilslice,.int .i64 (2),.nilslice],.agg [.int .i64 (1),.nilslice,.int .i64 (4),.nilslice]],.agg [.int .i64 (-1),.nilslice,.int .i64 (4),.nilslice])::M14
theorem g15:Good M15:=qm g14 (by kernel_rfl)
def M16:jL:=(79,[.agg [.int .i64 (1),.nilslice,.int .i64 (2),.nilslice],.agg [.int .i64 (2),.nilslice,.int .i64 (1),.nilslice]],.agg [.int .i64 (1),.nilslice,.int .i64 (1),.nilslice])::M15
theorem g16:Good M16:=qm g15 (by kernel_rfl)
def M17:jL:=(79,[.agg [.int .i64 (1),.nilslice,.int .i64 (4),.nilslice],.agg [.int .i64 (0),.nilslice,.int .i64 (1),.nilslice]],.agg [.int .i64 (0),.nilslice,.int .i64 (1),.nilslice])::M16
theorem g17:Good M17:=qm g16 (by kernel_rfl)
def M18:jL:=(79,[.agg [.int .i64 (-1),.nilslice,.int .i64 (1),.nilslice],.agg [.int .i64 (1),.nilslice,.int .i64 (2),.nilslice]],.agg [.int .i64 (-1),.nilslice,.int .i64 (2),.nilslice])::M17
theorem g18:Good M18:=qm g17 (by kernel_rfl)
def M19:jL:=(80,[.agg [.int .i64 (0),.nilslice,.int .i64 (1),.nilslice],.agg [.int .i64 (-1),.nilslice,.int .i64 (2),.nilslice]],.agg [.int .i64 (-1),.nilslice,.int .i64 (2),.nilslice])::M18
theorem g19:Good M19:=qm g18 (by kernel_rfl)
def M20:jL:=(80,[.agg [.int .i64 (2),.nilslice,.int .i64 (1),.nilslice],.agg [.int .i64 (-1),.nilslice,.int .i64 (2),.nilslice]],.agg [.int .i64 (3),.nilslice,.int .i64 (2),.nilslice])::M19
theorem g20:Good M20:=qm g19 (by kernel_rfl)
def M21:jL:=(79,[.agg [.int .i64 (1),.nilslice,.int .i64 (4),.nilslice],.agg [.int .i64 (1),.nilslice,.int .i64 (2),.nilslice]],.agg [.int .i64 (1),.nilslice,.int .i64 (8),.nilslice])::M20
theorem g21:Good M21:=qm g20 (by kernel_rfl)
def M22:jL:=(80,[.agg [.int .i64 (0),.nilslice,.int .i64 (1),.nilslice],.agg [.int .i64 (1),.nilslice,.int .i64 (8),.nilslice]],.agg [.int .i64 (1),.nilslice,.int .i64 (8),.nilslice])::M21
theorem g22:Good M22:=qm g21 (by kernel_rfl)
def M23:jL:=(80,[.agg [.int .i64 (1),.nilslice,.int .i64 (1),.nilslice],.agg [.int .i64 (1),.nilslice,.int .i64 (8),.nilslice]],.agg [.int .i64 (9),.nilslice,.int .i64 (8),.nilslice])::M22
theorem g23:Good M23:=qm g22 (by kernel_rfl)
def M24:jL:=(61,[.int .i64 (3),.fslice 6 [.int .i64 (1),.int .i64 (-2),.int .i64 (1),.int .i64 (-2),.int .i64 (1),.int .i64 (-2)],.agg [.int .i64 (2),.nilslice,.int .i64 (1),.nilslice]],.fslice 3 [.fslice 3 [.int .i64 (0),.nilslice,.int .i64 (1),.nilslice,.int .i64 (-1),.nilslice,.int .i64 (2),.nilslice,.int .i64 (3),.nilslice,.int .i64 (2),.nilslice],.fslice 3 [.int .i64 (1),.nilslice,.int .i64 (1),.nilslice,.int .i64 (1),.nilslice,.int .i64 (1),.nilslice,.int .i64 (-1),.nilslice,.int .i64 (1),.nilslice],.fslice 3 [.int .i64 (-1),.nilslice,.int .i64 (4),.nilslice,.int .i64 (1),.nilslice,.int .i64 (8),.nilslice,.int .i64 (9),.nilslice,.int .i64 (8),.nilslice]])::M23
theorem g24:Good M24:=qm g23 (by kernel_rfl)
def M25:jL:=(61,[.int .i64 (3),.nilslice,.agg [.int .i64 (2),.nilslice,.int .i64 (1),.nilslice]],.fslice 3 [.fslice 3 [.int .i64 (1),.nilslice,.int .i64 (1),.nilslice,.int .i64 (0),.nilslice,.int .i64 (1),.nilslice,.int .i64 (0),.nilslice,.int .i64 (1),.nilslice],.fslice 3 [.int .i64 (0),.nilslice,.int .i64 (1),.nilslice,.int .i64 (1),.nilslice,.int .i64 (1),.nilslice,.int .i64 (0),.nilslice,.int .i64 (1),.nilslice],.fslice 3 [.int .i64 (0),.nilslice,.int .i64 (1),.nilslice,.int .i64 (0),.nilslice,.int .i64 (1),.nilslice,.int .i64 (1),.nilslice,.int .i64 (1),.nilslice]])::M24
theorem g25:Good M25:=qm g24 (by kernel_rfl)
def M26:jL:=(17,[.int .i64 (3),.fslice 6 [.int .i64 (1),.int .i64 (-2),.int .i64 (1),.int .i64 (-2),.int .i64 (1),.int .i64 (-2)],.nilslice],.tuple [.str [98,117,114,97,117],.int .i64 (0)])::M25
theorem g26:Good M26:=qm g25 (by kernel_rfl)
def M27:jL:=(20,[.int .i64 (3),.fslice 6 [.int .i64 (1),.int .i64 (2),.int .i64 (1),.int .i64 (2),.int .i64 (1),.int .i64 (2)],.fslice 6 [.int .i64 (2),.int .i64 (1),.int .i64 (2),.int .i64 (1),.int .i64 (2),.int .i64 (1)]],.int .i64 (0))::M26
theorem g27:Good M27:=qm g26 (by kernel_rfl)
def M28:jL:=(68,[.int .i64 (3),.fslice 6 [.int .i64 (1),.int .i64 (2),.int .i64 (1),.int .i64 (2),.int .i64 (1),.int .i64 (2)]],.agg [.int .i64 (2),.nilslice])::M27
theorem g28:Good M28:=qm g27 (by kernel_rfl)
def M29:jL:=(68,[.int .i64 (3),.fslice 6 [.int .i64 (2),.int .i64 (1),.int .i64 (2),.int .i64 (1),.int .i64 (2),.int .i64 (1)]],.agg [.int .i64 (2),.nilslice])::M28
theorem g29:Good M29:=qm g28 (by kernel_rfl)
def M30:jL:=(18,[.int .i64 (3),.fslice 6 [.int .i64 (1),.int .i64 (2),.int .i64 (1),.int .i64 (2),.int .i64 (1),.int .i64 (2)],.fslice 6 [.int .i64 (2),.int .i64 (1),.int .i64 (2),.int .i64 (1),.int .i64 (2),.int .i64 (1)]],.tuple [.fslice 18 [.str [105,110,115,101,114,116],.int .i64 (6),.int .i64 (-1),.str [105,110,115,101,114,116],.int .i64 (7),.int .i64 (-2),.str [105,110,115,101,114,116],.int .i64 (8),.int .i64 (-1),.str [105,110,115,101,114,116],.int .i64 (9),.int .i64 (-2),.str [105,110,115,101,114,116],.int .i64 (10),.int .i64 (-1),.str [105,110,115,101,114,116],.int .i64 (11),.int .i64 (-2),.str [105,110,115,101,114,116],.int .i64 (6),.int .i64 (-1),.str [116,117,114,110],.int .i64 (4),.int .i64 (0),.str [99,97,110,99,101,108],.int .i64 (7),.int .i64 (0),.str [99,97,110,99,101,108],.int .i64 (3),.int .i64 (0),.str [99,97,110,99,101,108],.int .i64 (4),.int .i64 (0),.str [99,97,110,99,101,108],.int .i64 (3),.int .i64 (0),.str [105,110,115,101,114,116],.int .i64 (4),.int .i64 (-1),.str [116,117,114,110],.int .i64 (2),.int .i64 (0),.str [99,97,110,99,101,108],.int .i64 (5),.int .i64 (0),.str [99,97,110,99,101,108],.int .i64 (1),.int .i64 (0),.str [99,97,110,99,101,108],.int .i64 (0),.int .i64 (0),.str [99,97,110,99,101,108],.int .i64 (0),.int .i64 (0)],.int .i64 (0)])::M29
theorem g30:Good M30:=qm g29 (by kernel_rfl)
def M31:jL:=(38,[.int .i64 (3),.fslice 6 [.int .i64 (1),.int .i64 (2),.int .i64 (1),.int .i64 (2),.int .i64 (1),.int .i64 (2)],.fslice 18 [.str [105,110,115,101,114,116],.int .i64 (6),.int .i64 (-1),.str [105,110,115,101,114,116],.int .i64 (7),.int .i64 (-2),.str [105,110,115,101,114,116],.int .i64 (8),.int .i64 (-1),.str [105,110,115,101,114,116],.int .i64 (9),.int .i64 (-2),.str [105,110,115,101,114,116],.int .i64 (10),.int .i64 (-1),.str [105,110,115,101,114,116],.int .i64 (11),.int .i64 (-2),.str [105,110,115,101,114,116],.int .i64 (6),.int .i64 (-1),.str [116,117,114,110],.int .i64 (4),.int .i64 (0),.str [99,97,110,99,101,108],.int .i64 (7),.int .i64 (0),.str [99,97,110,99,101,108],.int .i64 (3),.int .i64 (0),.str [99,97,110,99,101,108],.int .i64 (4),.int .i64 (0),.str [99,97,110,99,101,108],.int .i64 (3),.int .i64 (0),.str [105,110,115,101,114,116],.int .i64 (4),.int .i64 (-1),.str [116,117,114,110],.int .i64 (2),.int .i64 (0),.str [99,97,110,99,101,108],.int .i64 (5),.int .i64 (0),.str [99,97,110,99,101,108],.int .i64 (1),.int .i64 (0),.str [99,97,110,99,101,108],.int .i64 (0),.int .i64 (0),.str [99,97,110,99,101,108],.int .i64 (0),.int .i64 (0)]],.tuple [.fslice 6 [.int .i64 (2),.int .i64 (1),.int .i64 (2),.int .i64 (1),.int .i64 (2),.int .i64 (1)],.int .i64 (0)])::M30
theorem g31:Good M31:=qm g30 (by kernel_rfl)
theorem qf2:okM (qhq M31 (.fn 5) [] []) (.bool true)=true:=by kernel_rfl
theorem qiw:qd Tryz.prog (.fn 5) [] [] (.bool true) []:=qeb g31 _ _ _ _ _ (qgb qf2)
end Go.Av
