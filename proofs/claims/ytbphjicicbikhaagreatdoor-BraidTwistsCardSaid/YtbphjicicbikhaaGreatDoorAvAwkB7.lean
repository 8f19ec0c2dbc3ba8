/-
  The examples that every statement of the chapter checks: they hold. By running the evaluator in the kernel, call by call.
-/
import Derived.Test.YtbphjicicbikhaaGreatDoorAvMtB7
import Derived.Test.YtbphjicicbikhaaGreatDoorAvRp
noncomputable section
namespace Go.Av
open Go.Proofs
set_option maxRecDepth 100000
theorem fol01:Tryz.prog.follows .mixedOrders=true:=by kernel_rfl
def pl01 (f:FuncId):Bool:=Nat.beq (Nat.land (Nat.shiftRight 2135987043503146768754955800778031539294873806313534159153940100800923186847414265763351876337664 f) 1) 0
def okM (r:Option (AV×Heap)) (v:AV):Bool:=match r with
 |some (w,[])=>qbW 30 w v
 |_=>false
theorem qnW {r:Option (AV×Heap)} {v:AV} (h:okM r v=true):r=some (v,[]):=by
 unfold okM at h
 split at h
 ·rw[qh0 30 _ _ h]
 cases h
def qps:zM:=fun c args A=>match c with
 | .fn 288=>qoB args A
 | .fn 240=>repA args A
 |_=>none
theorem qoG:qI Tryz.prog qps:=by
 intro c args A v A' h
 unfold qps at h
 split at h
 ·exact qmT h
 ·exact qqo h
 cases h
abbrev yM:=List (FuncId×List AV×AV)
def qo3 (M:yM):zM:=qo8 Tryz.prog 3000 mtT qps (orElse (memo M) qqB) pl01 40
def Good (M:yM):Prop:= ∀e∈M,qd Tryz.prog (.fn e.1) e.2.1 [] e.2.2 []
theorem qkF {M:yM} (h:Good M):qI Tryz.prog (qo3 M):=qpx fol01 mt_ok qoG (qnp (qpM h) qnL) _
theorem qpd:Good []:=by intro e h;cases h
theorem qg {M:yM} {f:FuncId} {args:List AV} {v:AV} (h:Good M) (hr:okM (qo3 M (.fn f) args []) v=true):Good ((f,args,v)::M):=by
 intro e he
 rcases List.mem_cons.1 he with rfl|he
 ·exact qkF h _ _ _ _ _ (qnW hr)
 exact h e he
def M0:yM:=[]
theorem g0:Good M0:=qpd
def M1:yM:=(115,[.int .i64 (3),.fslice 3 [.int .i64 (1),.int .i64 (2),.int .i64 (1)]],.agg [.int .i64 (1),.nilslice])::M0
theorem g1:Good M1:=qg g0 (by kernel_rfl)
def M2:yM:=(115,[.int .i64 (3),.fslice 3 [.int .i64 (2),.int .i64 (1),.int .i64 (2)]],.agg [.int .i64 (1),.nilslice])::M1
theorem g2:Good M2:=qg g1 (by kernel_rfl)
def M3:yM:=(46,[.int .i64 (3),.fslice 3 [.int .i64 (1),.int .i64 (2),.int .i64 (1)],.fslice 3 [.int .i64 (2),.int .i64 (1),.int .i64 (2)]],.tuple [.bool true,.int .i64 (0)])::M2
theorem g3:Good M3:=qg g2 (by kernel_rfl)
def M4:yM:=(49,[.int .i64 (3),.fslice 3 [.int .i64 (1),.int .i64 (2),.int .i64 (1)]],.tuple [.fslice 3 [.int .i64 (2),.int .i64 (1),.int .i64 (0)],.int .i64 (0)])::M3
theorem g4:Good M4:=qg g3 (by kernel_rfl)
def M5:yM:=(115,[.int .i64 (3),.fslice 2 [.int .i64 (1),.int .i64 (-2)]],.agg [.int .i64 (-1),.fslice 2 [.fslice 3 [.int .i64 (0),.int .i64 (2),.int .i64 (1)],.fslice 3 [.int .i64 (1),.int .i64 (2),.int .i64 (0)]]])::M4
theorem g5:Good M5:=qg g4 (by kernel_rfl)
def M6:yM:=(130,[.int .i64 (3),.agg [.int .i64 (-1),.fslice 2 [.fslice 3 [.int .i64 (0),.int .i64 (2),.int .i64 (1)],.fslice 3 [.int .i64 (1),.int .i64 (2),.int .i64 (0)]]]],.int .i64 (0))::M5
theorem g6:Good M6:=qg g5 (by kernel_rfl)
def M7:yM:=(61,[.int .i64 (3),.agg [.int .i64 (-1),.fslice 2 [.fslice 3 [.int .i64 (0),.int .i64 (2),.int .i64 (1)],.fslice 3 [.int .i64 (1),.int .i64 (2),.int .i64 (0)]]]],.tuple [.fslice 6 [.int .i64 (-1),.int .i64 (-2),.int .i64 (-1),.int .i64 (2),.int .i64 (2),.int .i64 (1)],.int .i64 (0)])::M6
theorem g7:Good M7:=qg g6 (by kernel_rfl)
def M8:yM:=(115,[.int .i64 (3),.fslice 6 [.int .i64 (1),.int .i64 (2),.int .i64 (1),.int .i64 (2),.int .i64 (1),.int .i64 (2)]],.agg [.int .i64 (2),.nilslice])::M7
theorem g8:Good M8:=qg g7 (by kernel_rfl)
def M9:yM:=(48,[.int .i64 (4),.fslice 4 [.int .i64 (3),.int .i64 (2),.int .i64 (1),.int .i64 (0)]],.tuple [.fslice 6 [.int .i64 (1),.int .i64 (2),.int .i64 (1),.int .i64 (3),.int .i64 (2),.int .i64 (1)],.int .i64 (0)])::M8
theorem g9:Good M9:=qg g8 (by kernel_rfl)
def M10:yM:=(12,[.int .i64 (2),.fslice 2 [.int .i64 (1),.int .i64 (1)]],.tuple [.fslice 2 [.fslice 2 [.int .i64 (0),.int .i64 (2)],.fslice 2 [.int .i64 (2),.int .i64 (0)]],.int .i64 (0)])::M9
theorem g10:Good M10:=qg g9 (by kernel_rfl)
def M11:yM:=(84,[.str [50]],.int .i64 (0))::M10
theorem g11:Good M11:=qg g10 (by kernel_rfl)
def M12:yM:=(86,[.str [50]],.agg [.int .i64 (2),.nilslice,.int .i64 (1),.nilslice])::M11
theorem g12:Good M12:=qg g11 (by kernel_rfl)
def M13:yM:=(85,[.int .i64 (2),.fslice 1 [.int .i64 (1)],.agg [.int .i64 (2),.nilslice,.int .i64 (1),.nilslice]],.fslice 2 [.fslice 2 [.int .i64 (-1),.nilslice,.int .i64 (1),.nilslice,.int .i64 (2),.nilslice,.int .i64 (1),.nilslice],.fslice 2 [.int .i64 (1),.nilslice,.int .i64 (1),.nilslice,.int .i64 (0),.nilslice,.int .i64 (1),.nilslice]])::M12
theorem g13:Good M13:=qg g12 (by kernel_rfl)
def M14:yM:=(23,[.int .i64 (2),.fslice 1 [.int .i64 (1)],.str [50]],.tuple [.fslice 2 [.fslice 2 [.str [45,49],.str [50]],.fslice 2 [.str [49],.str [48]]],.int .i64 (0)])::M13
theorem g14:Good M14:=qg g13 (by kernel_rfl)
def M15:yM:=(69,[.int .i64 (2),.fslice 2 [.int .i64 (1),.int .i64 (1)]],.fslice 2 [.fslice 5 [.int .i64 (1),.int .i64 (2),.int .i64 (1),.int .i64 (-2),.int .i64 (-1)],.fslice 3 [.int .i64 (1),.int .i64 (2),.int .i64 (-1)]])::M14
theorem g15:Good M15:=qg g14 (by kernel_rfl)
def M16:yM:=(66,[.int .i64 (3),.fslice 6 [.int .i64 (1),.int .i64 (-2),.int .i64 (1),.int .i64 (-2),.int .i64 (1),.int .i64 (-2)]],.fslice 3 [.int .i64 (0),.int .i64 (1),.int .i64 (2)])::M15
theorem g16:Good M16:=qg g15 (by kernel_rfl)
def M17:yM:=(64,[.int .i64 (3),.fslice 6 [.int .i64 (1),.int .i64 (-2),.int .i64 (1),.int .i64 (-2),.int .i64 (1),.int .i64 (-2)]],.fslice 3 [.fslice 3 [.int .i64 (0),.int .i64 (0),.int .i64 (0)],.fslice 3 [.int .i64 (0),.int .i64 (0),.int .i64 (0)],.fslice 3 [.int .i64 (0),.int .i64 (0),.int .i64 (0)]])::M16
theorem g17:Good M17:=qg g16 (by kernel_rfl)
def M18:yM:=(159,[.agg [.int .i64 (1),.nilslice,.int .i64 (1),.nilslice],.agg [.int .i64 (-1),.nilslice,.int .i64 (2),.nilslice]],.agg [.int .i64 (1),.nilslice,.int .i64 (2),.nilslice])::M17
theorem g18:Good M18:=qg g17 (by kernel_rfl)
def M19:yM:=(157,[.int .i64 (-2),.agg [.int .i64 (2),.nilslice,.int .i64 (1),.nilslice]],.agg [.int .i64 (0),.nilslice,.int .i64 (1),.nilslice,.int .i64 (1),.nilslice,.int .i64 (1),.nilslice,.int .i64 (1),.nilslice,.int .i64 (2),.nilslice,.int .i64 (1),.nilslice,.int .i64 (2),.nilslice])::M18
theorem g19:Good M19:=qg g18 (by kernel_rfl)
def M20:yM:=(158,[.agg [.int .i64 (0),.nilslice,.int .i64 (1),.nilslice],.agg [.int .i64 (1),.nilslice,.int .i64 (2),.nilslice]],.agg [.int .i64 (0),.nilslice,.int .i64 (1),.nilslice])::M19
theorem g20:Good M20:=qg g19 (by kernel_rfl)
def M21:yM:=(158,[.agg [.int .i64 (1),.nilslice,.int .i64 (1),.nilslice],.agg [.int .i64 (1),.nilslice,.int .i64 (2),.nilslice]],.agg [.int .i64 (1),.nilslice,.int .i64 (2),.nilslice])::M20
theorem g21:Good M21:=qg g20 (by kernel_rfl)
def M22:yM:=(159,[.agg [.int .i64 (0),.nilslice,.int .i64 (1),.nilslice],.agg [.int .i64 (1),.nilslice,.int .i64 (2),.nilslice]],.agg [.int .i64 (1),.nilslice,.int .i64 (2),.nilslice])::M21
theorem g22:Good M22:=qg g21 (by kernel_rfl)
def M23:yM:=(158,[.agg [.int .i64 (1),.nilslice,.int .i64 (2),.nilslice],.agg [.int .i64 (1),.nilslice,.int .i64 (1),.nilslice]],.agg [.int .i64 (1),.nilslice,.int .i64 (2),.nilslice])::M22
theorem g23:Good M23:=qg g22 (by kernel_rfl)
def M24:yM:=(158,[.agg [.int .i64 (1),.nilslice,.int .i64 (2),.nilslice],.agg [.int .i64 (0),.nilslice,.int .i64 (1),.nilslice]],.agg [.int .i64 (0),.nilslice,.int .i64 (1),.nilslice])::M23
theorem g24:Good M24:=qg g23 (by kernel_rfl)
def M25:yM:=(158,[.agg [.int .i64 (2),.nilslice,.int .i64 (1),.nilslice],.agg [.int .i64 (1),.nilslice,.int .i64 (2),.nilslice]],.agg [.int .i64 (1),.nilslice,.int .i64 (1),.nilslice])::M24
theorem g25:Good M25:=qg g24 (by kernel_rfl)
def M26:yM:=(158,[.agg [.int .i64 (1),.nilslice,.int .i64 (2),.nilslice],.agg [.int .i64 (1),.nilslice,.int .i64 (2),.nilslice]],.agg [.int .i64 (1),.nilslice,.int .i64 (4),.nilslice])::M25
theorem g26:Good M26:=qg g25 (by kernel_rfl)
def M27:yM:=(159,[.agg [.int .i64 (0),.nilslice,.int .i64 (1),.nilslice],.agg [.int .i64 (1),.nilslice,.int .i64 (4),.nilslice]],.agg [.int .i64 (1),.nilslice,.int .i64 (4),.nilslice])::M26
theorem g27:Good M27:=qg g26 (by kernel_rfl)
def M28:yM:=(158,[.agg [.int .i64 (1),.nilslice,.int .i64 (2),.nilslice],.agg [.int .i64 (-1),.nilslice,.int .i64 (1),.nilslice]],.agg [.int .i64 (-1),.nilslice,.int .i64 (2),.nilslice])::M27
theorem g28:Good M28:=qg g27 (by kernel_rfl)
def M29:yM:=(158,[.agg [.int .i64 (1),.nilslice,.int .i64 (4),.nilslice],.agg [.int .i64 (1),.nilslice,.int .i64 (1),.nilslice]],.agg [.int .i64 (1),.nilslice,.int .i64 (4),.nilslice])::M28
theorem g29:Good M29:=qg g28 (by kernel_rfl)
def M30:yM:=(159,[.agg [.int .i64 (-1),.nilslice,.int .i64 (2),.nilslice],.agg [.int .i64 (1),.nilslice,.int .i64 (4),.nilslice]],.agg [.int .i64 (-1),.nilslice,.int .i64 (4),.nilslice])::M29
theorem g30:Good M30:=qg g29 (by kernel_rfl)
def M31:yM:=(158,[.agg [.int .i64 (1),.nilslice,.int .i64 (2),.nilslice],.agg [.int .i64 (2),.nilslice,.int .i64 (1),.nilslice]],.agg [.int .i64 (1),.nilslice,.int .i64 (1),.nilslice])::M30
theorem g31:Good M31:=qg g30 (by kernel_rfl)
def M32:yM:=(158,[.agg [.int .i64 (1),.nilslice,.int .i64 (4),.nilslice],.agg [.int .i64 (0),.nilslice,.int .i64 (1),.nilslice]],.agg [.int .i64 (0),.nilslice,.int .i64 (1),.nilslice])::M31
theorem g32:Good M32:=qg g31 (by kernel_rfl)
def M33:yM:=(158,[.agg [.int .i64 (-1),.nilslice,.int .i64 (1),.nilslice],.agg [.int .i64 (1),.nilslice,.int .i64 (2),.nilslice]],.agg [.int .i64 (-1),.nilslice,.int .i64 (2),.nilslice])::M32
theorem g33:Good M33:=qg g32 (by kernel_rfl)
def M34:yM:=(159,[.agg [.int .i64 (0),.nilslice,.int .i64 (1),.nilslice],.agg [.int .i64 (-1),.nilslice,.int .i64 (2),.nilslice]],.agg [.int .i64 (-1),.nilslice,.int .i64 (2),.nilslice])::M33
theorem g34:Good M34:=qg g33 (by kernel_rfl)
def M35:yM:=(159,[.agg [.int .i64 (2),.nilslice,.int .i64 (1),.nilslice],.agg [.int .i64 (-1),.nilslice,.int .i64 (2),.nilslice]],.agg [.int .i64 (3),.nilslice,.int .i64 (2),.nilslice])::M34
theorem g35:Good M35:=qg g34 (by kernel_rfl)
def M36:yM:=(158,[.agg [.int .i64 (1),.nilslice,.int .i64 (4),.nilslice],.agg [.int .i64 (1),.nilslice,.int .i64 (2),.nilslice]],.agg [.int .i64 (1),.nilslice,.int .i64 (8),.nilslice])::M35
theorem g36:Good M36:=qg g35 (by kernel_rfl)
def M37:yM:=(159,[.agg [.int .i64 (0),.nilslice,.int .i64 (1),.nilslice],.agg [.int .i64 (1),.nilslice,.int .i64 (8),.nilslice]],.agg [.int .i64 (1),.nilslice,.int .i64 (8),.nilslice])::M36
theorem g37:Good M37:=qg g36 (by kernel_rfl)
def M38:yM:=(159,[.agg [.int .i64 (1),.nilslice,.int .i64 (1),.nilslice],.agg [.int .i64 (1),.nilslice,.int .i64 (8),.nilslice]],.agg [.int .i64 (9),.nilslice,.int .i64 (8),.nilslice])::M37
theorem g38:Good M38:=qg g37 (by kernel_rfl)
def M39:yM:=(85,[.int .i64 (3),.fslice 6 [.int .i64 (1),.int .i64 (-2),.int .i64 (1),.int .i64 (-2),.int .i64 (1),.int .i64 (-2)],.agg [.int .i64 (2),.nilslice,.int .i64 (1),.nilslice]],.fslice 3 [.fslice 3 [.int .i64 (0),.nilslice,.int .i64 (1),.nilslice,.int .i64 (-1),.nilslice,.int .i64 (2),.nilslice,.int .i64 (3),.nilslice,.int .i64 (2),.nilslice],.fslice 3 [.int .i64 (1),.nilslice,.int .i64 (1),.nilslice,.int .i64 (1),.nilslice,.int .i64 (1),.nilslice,.int .i64 (-1),.nilslice,.int .i64 (1),.nilslice],.fslice 3 [.int .i64 (-1),.nilslice,.int .i64 (4),.nilslice,.int .i64 (1),.nilslice,.int .i64 (8),.nilslice,.int .i64 (9),.nilslice,.int .i64 (8),.nilslice]])::M38
theorem g39:Good M39:=qg g38 (by kernel_rfl)
def M40:yM:=(85,[.int .i64 (3),.nilslice,.agg [.int .i64 (2),.nilslice,.int .i64 (1),.nilslice]],.fslice 3 [.fslice 3 [.int .i64 (1),.nilslice,.int .i64 (1),.nilslice,.int .i64 (0),.nilslice,.int .i64 (1),.nilslice,.int .i64 (0),.nilslice,.int .i64 (1),.nilslice],.fslice 3 [.int .i64 (0),.nilslice,.int .i64 (1),.nilslice,.int .i64 (1),.nilslice,.int .i64 (1),.nilslice,.int .i64 (0),.nilslice,.int .i64 (1),.nilslice],.fslice 3 [.int .i64 (0),.nilslice,.int .i64 (1),.nilslice,.int .i64 (0),.nilslice,.int .i64 (1),.nilslice,.int .i64 (1),.nilslice,.int .i64 (1),.nilslice]])::M39
theorem g40:Good M40:=qg g39 (by kernel_rfl)
def M41:yM:=(28,[.int .i64 (3),.fslice 6 [.int .i64 (1),.int .i64 (-2),.int .i64 (1),.int .i64 (-2),.int .i64 (1),.int .i64 (-2)],.nilslice],.tuple [.str [98,117,114,97,117],.int .i64 (0)])::M40
theorem g41:Good M41:=qg g40 (by kernel_rfl)
def M42:yM:=(13,[.int .i64 (2),.fslice 3 [.int .i64 (1),.int .i64 (1),.int .i64 (1)]],.tuple [.fslice 1 [.fslice 2 [.int .i64 (0),.int .i64 (1)]],.int .i64 (0)])::M41
theorem g42:Good M42:=qg g41 (by kernel_rfl)
def M43:yM:=(40,[.int .i64 (3),.fslice 3 [.int .i64 (1),.int .i64 (2),.int .i64 (1)],.fslice 1 [.str [116,117,114,110],.int .i64 (0),.int .i64 (0)]],.tuple [.fslice 3 [.int .i64 (2),.int .i64 (1),.int .i64 (2)],.int .i64 (0)])::M42
theorem g43:Good M43:=qg g42 (by kernel_rfl)
def M44:yM:=(115,[.int .i64 (3),.fslice 3 [.int .i64 (1),.int .i64 (2),.int .i64 (-1)]],.agg [.int .i64 (-1),.fslice 2 [.fslice 3 [.int .i64 (1),.int .i64 (2),.int .i64 (0)],.fslice 3 [.int .i64 (2),.int .i64 (0),.int .i64 (1)]]])::M43
theorem g44:Good M44:=qg g43 (by kernel_rfl)
def M45:yM:=(115,[.int .i64 (3),.fslice 3 [.int .i64 (-2),.int .i64 (1),.int .i64 (2)]],.agg [.int .i64 (-1),.fslice 2 [.fslice 3 [.int .i64 (1),.int .i64 (2),.int .i64 (0)],.fslice 3 [.int .i64 (2),.int .i64 (0),.int .i64 (1)]]])::M44
theorem g45:Good M45:=qg g44 (by kernel_rfl)
def M46:yM:=(27,[.int .i64 (3),.fslice 3 [.int .i64 (1),.int .i64 (2),.int .i64 (-1)],.fslice 3 [.int .i64 (-2),.int .i64 (1),.int .i64 (2)]],.tuple [.fslice 9 [.str [105,110,115,101,114,116],.int .i64 (3),.int .i64 (-2),.str [105,110,115,101,114,116],.int .i64 (4),.int .i64 (-1),.str [105,110,115,101,114,116],.int .i64 (5),.int .i64 (2),.str [105,110,115,101,114,116],.int .i64 (2),.int .i64 (-1),.str [116,117,114,110],.int .i64 (0),.int .i64 (0),.str [99,97,110,99,101,108],.int .i64 (3),.int .i64 (0),.str [99,97,110,99,101,108],.int .i64 (2),.int .i64 (0),.str [99,97,110,99,101,108],.int .i64 (1),.int .i64 (0),.str [99,97,110,99,101,108],.int .i64 (0),.int .i64 (0)],.int .i64 (0)])::M45
theorem g46:Good M46:=qg g45 (by kernel_rfl)
def M47:yM:=(113,[.int .i64 (3),.fslice 3 [.int .i64 (1),.int .i64 (2),.int .i64 (-1)],.fslice 9 [.str [105,110,115,101,114,116],.int .i64 (3),.int .i64 (-2),.str [105,110,115,101,114,116],.int .i64 (4),.int .i64 (-1),.str [105,110,115,101,114,116],.int .i64 (5),.int .i64 (2),.str [105,110,115,101,114,116],.int .i64 (2),.int .i64 (-1),.str [116,117,114,110],.int .i64 (0),.int .i64 (0),.str [99,97,110,99,101,108],.int .i64 (3),.int .i64 (0),.str [99,97,110,99,101,108],.int .i64 (2),.int .i64 (0),.str [99,97,110,99,101,108],.int .i64 (1),.int .i64 (0),.str [99,97,110,99,101,108],.int .i64 (0),.int .i64 (0)]],.tuple [.fslice 3 [.int .i64 (-2),.int .i64 (1),.int .i64 (2)],.int .i64 (0)])::M46
theorem g47:Good M47:=qg g46 (by kernel_rfl)
def M48:yM:=(45,[.int .i64 (3),.fslice 3 [.int .i64 (1),.int .i64 (2),.int .i64 (-1)],.fslice 3 [.int .i64 (-2),.int .i64 (1),.int .i64 (2)],.fslice 9 [.str [105,110,115,101,114,116],.int .i64 (3),.int .i64 (-2),.str [105,110,115,101,114,116],.int .i64 (4),.int .i64 (-1),.str [105,110,115,101,114,116],.int .i64 (5),.int .i64 (2),.str [105,110,115,101,114,116],.int .i64 (2),.int .i64 (-1),.str [116,117,114,110],.int .i64 (0),.int .i64 (0),.str [99,97,110,99,101,108],.int .i64 (3),.int .i64 (0),.str [99,97,110,99,101,108],.int .i64 (2),.int .i64 (0),.str [99,97,110,99,101,108],.int .i64 (1),.int .i64 (0),.str [99,97,110,99,101,108],.int .i64 (0),.int .i64 (0)]],.int .i64 (0))::M47
theorem g48:Good M48:=qg g47 (by kernel_rfl)
theorem qno:okM (qo3 M48 (.fn 10) [] []) (.bool true)=true:=by kernel_rfl
theorem qp0:qd Tryz.prog (.fn 10) [] [] (.bool true) []:=qkF g48 _ _ _ _ _ (qnW qno)
end Go.Av
