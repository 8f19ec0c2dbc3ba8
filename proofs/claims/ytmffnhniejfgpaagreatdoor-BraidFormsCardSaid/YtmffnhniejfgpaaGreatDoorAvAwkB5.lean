/-
  The examples that every statement of the chapter checks: they hold. By running the evaluator in the kernel, call by call.
-/
import Derived.Test.YtmffnhniejfgpaaGreatDoorAvMtB5
import Derived.Test.YtmffnhniejfgpaaGreatDoorAvRp
noncomputable section
namespace Go.Av
open Go.Proofs
set_option maxRecDepth 100000
theorem fol01:Tryz.prog.follows .mixedOrders=true:=by kernel_rfl
def pl01 (f:FuncId):Bool:=Nat.beq (Nat.land (Nat.shiftRight 2713877094710800473932614804134582300811953535698460188687520371428737155072 f) 1) 0
def okM (r:Option (AV×Heap)) (v:AV):Bool:=match r with
 |some (w,[])=>yj 30 w v
 |_=>false
theorem qho {r:Option (AV×Heap)} {v:AV} (h:okM r v=true):r=some (v,[]):=by
 unfold okM at h
 split at h
 ·rw[qcz 30 _ _ h]
 cases h
def qhT:qN:=fun c args A=>match c with
 | .fn 217=>qhD args A
 | .fn 184=>repA args A
 |_=>none
theorem qic:qw Tryz.prog qhT:=by
 intro c args A v A' h
 unfold qhT at h
 split at h
 ·exact qfR h
 ·exact qiI h
 cases h
abbrev zG:=List (FuncId×List AV×AV)
def qh9 (M:zG):qN:=qhO Tryz.prog 3000 mtT qhT (orElse (memo M) qiP) pl01 40
def Good (M:zG):Prop:= ∀e∈M,qb Tryz.prog (.fn e.1) e.2.1 [] e.2.2 []
theorem qeP {M:zG} (h:Good M):qw Tryz.prog (qh9 M):=qhS fol01 mt_ok qic (qgt (qiM h) qgU) _
theorem qhI:Good []:=by intro e h;cases h
theorem qd {M:zG} {f:FuncId} {args:List AV} {v:AV} (h:Good M) (hr:okM (qh9 M (.fn f) args []) v=true):Good ((f,args,v)::M):=by
 intro e he
 rcases List.mem_cons.1 he with rfl|he
 ·exact qeP h _ _ _ _ _ (qho hr)
 exact h e he
def M0:zG:=[]
theorem g0:Good M0:=qhI
def M1:zG:=(79,[.int .i64 (3),.fslice 3 [.int .i64 (1),.int .i64 (2),.int .i64 (1)]],.agg [.int .i64 (1),.nilslice])::M0
theorem g1:Good M1:=qd g0 (by kernel_rfl)
def M2:zG:=(79,[.int .i64 (3),.fslice 3 [.int .i64 (2),.int .i64 (1),.int .i64 (2)]],.agg [.int .i64 (1),.nilslice])::M1
theorem g2:Good M2:=qd g1 (by kernel_rfl)
def M3:zG:=(22,[.int .i64 (3),.fslice 3 [.int .i64 (1),.int .i64 (2),.int .i64 (1)],.fslice 3 [.int .i64 (2),.int .i64 (1),.int .i64 (2)]],.tuple [.bool true,.int .i64 (0)])::M2
theorem g3:Good M3:=qd g2 (by kernel_rfl)
def M4:zG:=(34,[.int .i64 (3),.fslice 3 [.int .i64 (1),.int .i64 (2),.int .i64 (1)]],.tuple [.fslice 3 [.int .i64 (2),.int .i64 (1),.int .i64 (0)],.int .i64 (0)])::M3
theorem g4:Good M4:=qd g3 (by kernel_rfl)
def M5:zG:=(79,[.int .i64 (3),.fslice 2 [.int .i64 (1),.int .i64 (-2)]],.agg [.int .i64 (-1),.fslice 2 [.fslice 3 [.int .i64 (0),.int .i64 (2),.int .i64 (1)],.fslice 3 [.int .i64 (1),.int .i64 (2),.int .i64 (0)]]])::M4
theorem g5:Good M5:=qd g4 (by kernel_rfl)
def M6:zG:=(17,[.int .i64 (3),.agg [.int .i64 (-1),.fslice 2 [.fslice 3 [.int .i64 (0),.int .i64 (2),.int .i64 (1)],.fslice 3 [.int .i64 (1),.int .i64 (2),.int .i64 (0)]]]],.int .i64 (0))::M5
theorem g6:Good M6:=qd g5 (by kernel_rfl)
def M7:zG:=(18,[.int .i64 (3),.agg [.int .i64 (-1),.fslice 2 [.fslice 3 [.int .i64 (0),.int .i64 (2),.int .i64 (1)],.fslice 3 [.int .i64 (1),.int .i64 (2),.int .i64 (0)]]]],.tuple [.fslice 6 [.int .i64 (-1),.int .i64 (-2),.int .i64 (-1),.int .i64 (2),.int .i64 (2),.int .i64 (1)],.int .i64 (0)])::M6
theorem g7:Good M7:=qd g6 (by kernel_rfl)
def M8:zG:=(79,[.int .i64 (3),.fslice 6 [.int .i64 (1),.int .i64 (2),.int .i64 (1),.int .i64 (2),.int .i64 (1),.int .i64 (2)]],.agg [.int .i64 (2),.nilslice])::M7
theorem g8:Good M8:=qd g7 (by kernel_rfl)
def M9:zG:=(12,[.int .i64 (4),.fslice 4 [.int .i64 (3),.int .i64 (2),.int .i64 (1),.int .i64 (0)]],.tuple [.fslice 6 [.int .i64 (1),.int .i64 (2),.int .i64 (1),.int .i64 (3),.int .i64 (2),.int .i64 (1)],.int .i64 (0)])::M8
theorem g9:Good M9:=qd g8 (by kernel_rfl)
def M10:zG:=(51,[.int .i64 (2),.fslice 2 [.int .i64 (1),.int .i64 (1)]],.tuple [.fslice 2 [.fslice 2 [.int .i64 (0),.int .i64 (2)],.fslice 2 [.int .i64 (2),.int .i64 (0)]],.int .i64 (0)])::M9
theorem g10:Good M10:=qd g9 (by kernel_rfl)
def M11:zG:=(105,[.str [50]],.int .i64 (0))::M10
theorem g11:Good M11:=qd g10 (by kernel_rfl)
def M12:zG:=(107,[.str [50]],.agg [.int .i64 (2),.nilslice,.int .i64 (1),.nilslice])::M11
theorem g12:Good M12:=qd g11 (by kernel_rfl)
def M13:zG:=(106,[.int .i64 (2),.fslice 1 [.int .i64 (1)],.agg [.int .i64 (2),.nilslice,.int .i64 (1),.nilslice]],.fslice 2 [.fslice 2 [.int .i64 (-1),.nilslice,.int .i64 (1),.nilslice,.int .i64 (2),.nilslice,.int .i64 (1),.nilslice],.fslice 2 [.int .i64 (1),.nilslice,.int .i64 (1),.nilslice,.int .i64 (0),.nilslice,.int .i64 (1),.nilslice]])::M12
theorem g13:Good M13:=qd g12 (by kernel_rfl)
def M14:zG:=(52,[.int .i64 (2),.fslice 1 [.int .i64 (1)],.str [50]],.tuple [.fslice 2 [.fslice 2 [.str [45,49],.str [50]],.fslice 2 [.str [49],.str [48]]],.int .i64 (0)])::M13
theorem g14:Good M14:=qd g13 (by kernel_rfl)
def M15:zG:=(114,[.int .i64 (2),.fslice 2 [.int .i64 (1),.int .i64 (1)]],.fslice 2 [.fslice 5 [.int .i64 (1),.int .i64 (2),.int .i64 (1),.int .i64 (-2),.int .i64 (-1)],.fslice 3 [.int .i64 (1),.int .i64 (2),.int .i64 (-1)]])::M14
theorem g15:Good M15:=qd g14 (by kernel_rfl)
def M16:zG:=(93,[.int .i64 (3),.fslice 6 [.int .i64 (1),.int .i64 (-2),.int .i64 (1),.int .i64 (-2),.int .i64 (1),.int .i64 (-2)]],.fslice 3 [.int .i64 (0),.int .i64 (1),.int .i64 (2)])::M15
theorem g16:Good M16:=qd g15 (by kernel_rfl)
def M17:zG:=(104,[.int .i64 (3),.fslice 6 [.int .i64 (1),.int .i64 (-2),.int .i64 (1),.int .i64 (-2),.int .i64 (1),.int .i64 (-2)]],.fslice 3 [.fslice 3 [.int .i64 (0),.int .i64 (0),.int .i64 (0)],.fslice 3 [.int .i64 (0),.int .i64 (0),.int .i64 (0)],.fslice 3 [.int .i64 (0),.int .i64 (0),.int .i64 (0)]])::M16
theorem g17:Good M17:=qd g16 (by kernel_rfl)
def M18:zG:=(159,[.agg [.int .i64 (1),.nilslice,.int .i64 (1),.nilslice],.agg [.int .i64 (-1),.nilslice,.int .i64 (2),.nilslice]],.agg [.int .i64 (1),.nilslice,.int .i64 (2),.nilslice])::M17
theorem g18:Good M18:=qd g17 (by kernel_rfl)
def M19:zG:=(157,[.int .i64 (-2),.agg [.int .i64 (2),.nilslice,.int .i64 (1),.nilslice]],.agg [.int .i64 (0),.nilslice,.int .i64 (1),.nilslice,.int .i64 (1),.nilslice,.int .i64 (1),.nilslice,.int .i64 (1),.nilslice,.int .i64 (2),.nilslice,.int .i64 (1),.nilslice,.int .i64 (2),.nilslice])::M18
theorem g19:Good M19:=qd g18 (by kernel_rfl)
def M20:zG:=(158,[.agg [.int .i64 (0),.nilslice,.int .i64 (1),.nilslice],.agg [.int .i64 (1),.nilslice,.int .i64 (2),.nilslice]],.agg [.int .i64 (0),.nilslice,.int .i64 (1),.nilslice])::M19
theorem g20:Good M20:=qd g19 (by kernel_rfl)
def M21:zG:=(158,[.agg [.int .i64 (1),.nilslice,.int .i64 (1),.nilslice],.agg [.int .i64 (1),.nilslice,.int .i64 (2),.nilslice]],.agg [.int .i64 (1),.nilslice,.int .i64 (2),.nilslice])::M20
theorem g21:Good M21:=qd g20 (by kernel_rfl)
def M22:zG:=(159,[.agg [.int .i64 (0),.nilslice,.int .i64 (1),.nilslice],.agg [.int .i64 (1),.nilslice,.int .i64 (2),.nilslice]],.agg [.int .i64 (1),.nilslice,.int .i64 (2),.nilslice])::M21
theorem g22:Good M22:=qd g21 (by kernel_rfl)
def M23:zG:=(158,[.agg [.int .i64 (1),.nilslice,.int .i64 (2),.nilslice],.agg [.int .i64 (1),.nilslice,.int .i64 (1),.nilslice]],.agg [.int .i64 (1),.nilslice,.int .i64 (2),.nilslice])::M22
theorem g23:Good M23:=qd g22 (by kernel_rfl)
def M24:zG:=(158,[.agg [.int .i64 (1),.nilslice,.int .i64 (2),.nilslice],.agg [.int .i64 (0),.nilslice,.int .i64 (1),.nilslice]],.agg [.int .i64 (0),.nilslice,.int .i64 (1),.nilslice])::M23
theorem g24:Good M24:=qd g23 (by kernel_rfl)
def M25:zG:=(158,[.agg [.int .i64 (2),.nilslice,.int .i64 (1),.nilslice],.agg [.int .i64 (1),.nilslice,.int .i64 (2),.nilslice]],.agg [.int .i64 (1),.nilslice,.int .i64 (1),.nilslice])::M24
theorem g25:Good M25:=qd g24 (by kernel_rfl)
def M26:zG:=(158,[.agg [.int .i64 (1),.nilslice,.int .i64 (2),.nilslice],.agg [.int .i64 (1),.nilslice,.int .i64 (2),.nilslice]],.agg [.int .i64 (1),.nilslice,.int .i64 (4),.nilslice])::M25
theorem g26:Good M26:=qd g25 (by kernel_rfl)
def M27:zG:=(159,[.agg [.int .i64 (0),.nilslice,.int .i64 (1),.nilslice],.agg [.int .i64 (1),.nilslice,.int .i64 (4),.nilslice]],.agg [.int .i64 (1),.nilslice,.int .i64 (4),.nilslice])::M26
theorem g27:Good M27:=qd g26 (by kernel_rfl)
def M28:zG:=(158,[.agg [.int .i64 (1),.nilslice,.int .i64 (2),.nilslice],.agg [.int .i64 (-1),.nilslice,.int .i64 (1),.nilslice]],.agg [.int .i64 (-1),.nilslice,.int .i64 (2),.nilslice])::M27
theorem g28:Good M28:=qd g27 (by kernel_rfl)
def M29:zG:=(158,[.agg [.int .i64 (1),.nilslice,.int .i64 (4),.nilslice],.agg [.int .i64 (1),.nilslice,.int .i64 (1),.nilslice]],.agg [.int .i64 (1),.nilslice,.int .i64 (4),.nilslice])::M28
theorem g29:Good M29:=qd g28 (by kernel_rfl)
def M30:zG:=(159,[.agg [.int .i64 (-1),.nilslice,.int .i64 (2),.nilslice],.agg [.int .i64 (1),.nilslice,.int .i64 (4),.nilslice]],.agg [.int .i64 (-1),.nilslice,.int .i64 (4),.nilslice])::M29
theorem g30:Good M30:=qd g29 (by kernel_rfl)
def M31:zG:=(158,[.agg [.int .i64 (1),.nilslice,.int .i64 (2),.nilslice],.agg [.int .i64 (2),.nilslice,.int .i64 (1),.nilslice]],.agg [.int .i64 (1),.nilslice,.int .i64 (1),.nilslice])::M30
theorem g31:Good M31:=qd g30 (by kernel_rfl)
def M32:zG:=(158,[.agg [.int .i64 (1),.nilslice,.int .i64 (4),.nilslice],.agg [.int .i64 (0),.nilslice,.int .i64 (1),.nilslice]],.agg [.int .i64 (0),.nilslice,.int .i64 (1),.nilslice])::M31
theorem g32:Good M32:=qd g31 (by kernel_rfl)
def M33:zG:=(158,[.agg [.int .i64 (-1),.nilslice,.int .i64 (1),.nilslice],.agg [.int .i64 (1),.nilslice,.int .i64 (2),.nilslice]],.agg [.int .i64 (-1),.nilslice,.int .i64 (2),.nilslice])::M32
theorem g33:Good M33:=qd g32 (by kernel_rfl)
def M34:zG:=(159,[.agg [.int .i64 (0),.nilslice,.int .i64 (1),.nilslice],.agg [.int .i64 (-1),.nilslice,.int .i64 (2),.nilslice]],.agg [.int .i64 (-1),.nilslice,.int .i64 (2),.nilslice])::M33
theorem g34:Good M34:=qd g33 (by kernel_rfl)
def M35:zG:=(159,[.agg [.int .i64 (2),.nilslice,.int .i64 (1),.nilslice],.agg [.int .i64 (-1),.nilslice,.int .i64 (2),.nilslice]],.agg [.int .i64 (3),.nilslice,.int .i64 (2),.nilslice])::M34
theorem g35:Good M35:=qd g34 (by kernel_rfl)
def M36:zG:=(158,[.agg [.int .i64 (1),.nilslice,.int .i64 (4),.nilslice],.agg [.int .i64 (1),.nilslice,.int .i64 (2),.nilslice]],.agg [.int .i64 (1),.nilslice,.int .i64 (8),.nilslice])::M35
theorem g36:Good M36:=qd g35 (by kernel_rfl)
def M37:zG:=(159,[.agg [.int .i64 (0),.nilslice,.int .i64 (1),.nilslice],.agg [.int .i64 (1),.nilslice,.int .i64 (8),.nilslice]],.agg [.int .i64 (1),.nilslice,.int .i64 (8),.nilslice])::M36
theorem g37:Good M37:=qd g36 (by kernel_rfl)
def M38:zG:=(159,[.agg [.int .i64 (1),.nilslice,.int .i64 (1),.nilslice],.agg [.int .i64 (1),.nilslice,.int .i64 (8),.nilslice]],.agg [.int .i64 (9),.nilslice,.int .i64 (8),.nilslice])::M37
theorem g38:Good M38:=qd g37 (by kernel_rfl)
def M39:zG:=(106,[.int .i64 (3),.fslice 6 [.int .i64 (1),.int .i64 (-2),.int .i64 (1),.int .i64 (-2),.int .i64 (1),.int .i64 (-2)],.agg [.int .i64 (2),.nilslice,.int .i64 (1),.nilslice]],.fslice 3 [.fslice 3 [.int .i64 (0),.nilslice,.int .i64 (1),.nilslice,.int .i64 (-1),.nilslice,.int .i64 (2),.nilslice,.int .i64 (3),.nilslice,.int .i64 (2),.nilslice],.fslice 3 [.int .i64 (1),.nilslice,.int .i64 (1),.nilslice,.int .i64 (1),.nilslice,.int .i64 (1),.nilslice,.int .i64 (-1),.nilslice,.int .i64 (1),.nilslice],.fslice 3 [.int .i64 (-1),.nilslice,.int .i64 (4),.nilslice,.int .i64 (1),.nilslice,.int .i64 (8),.nilslice,.int .i64 (9),.nilslice,.int .i64 (8),.nilslice]])::M38
theorem g39:Good M39:=qd g38 (by kernel_rfl)
def M40:zG:=(106,[.int .i64 (3),.nilslice,.agg [.int .i64 (2),.nilslice,.int .i64 (1),.nilslice]],.fslice 3 [.fslice 3 [.int .i64 (1),.nilslice,.int .i64 (1),.nilslice,.int .i64 (0),.nilslice,.int .i64 (1),.nilslice,.int .i64 (0),.nilslice,.int .i64 (1),.nilslice],.fslice 3 [.int .i64 (0),.nilslice,.int .i64 (1),.nilslice,.int .i64 (1),.nilslice,.int .i64 (1),.nilslice,.int .i64 (0),.nilslice,.int .i64 (1),.nilslice],.fslice 3 [.int .i64 (0),.nilslice,.int .i64 (1),.nilslice,.int .i64 (0),.nilslice,.int .i64 (1),.nilslice,.int .i64 (1),.nilslice,.int .i64 (1),.nilslice]])::M39
theorem g40:Good M40:=qd g39 (by kernel_rfl)
def M41:zG:=(54,[.int .i64 (3),.fslice 6 [.int .i64 (1),.int .i64 (-2),.int .i64 (1),.int .i64 (-2),.int .i64 (1),.int .i64 (-2)],.nilslice],.tuple [.str [98,117,114,97,117],.int .i64 (0)])::M40
theorem g41:Good M41:=qd g40 (by kernel_rfl)
def M42:zG:=(55,[.int .i64 (2),.fslice 3 [.int .i64 (1),.int .i64 (1),.int .i64 (1)]],.tuple [.fslice 1 [.fslice 2 [.int .i64 (0),.int .i64 (1)]],.int .i64 (0)])::M41
theorem g42:Good M42:=qd g41 (by kernel_rfl)
def M43:zG:=(29,[.int .i64 (3),.fslice 3 [.int .i64 (1),.int .i64 (2),.int .i64 (1)],.fslice 1 [.str [116,117,114,110],.int .i64 (0),.int .i64 (0)]],.tuple [.fslice 3 [.int .i64 (2),.int .i64 (1),.int .i64 (2)],.int .i64 (0)])::M42
theorem g43:Good M43:=qd g42 (by kernel_rfl)
def M44:zG:=(79,[.int .i64 (3),.fslice 3 [.int .i64 (1),.int .i64 (2),.int .i64 (-1)]],.agg [.int .i64 (-1),.fslice 2 [.fslice 3 [.int .i64 (1),.int .i64 (2),.int .i64 (0)],.fslice 3 [.int .i64 (2),.int .i64 (0),.int .i64 (1)]]])::M43
theorem g44:Good M44:=qd g43 (by kernel_rfl)
def M45:zG:=(79,[.int .i64 (3),.fslice 3 [.int .i64 (-2),.int .i64 (1),.int .i64 (2)]],.agg [.int .i64 (-1),.fslice 2 [.fslice 3 [.int .i64 (1),.int .i64 (2),.int .i64 (0)],.fslice 3 [.int .i64 (2),.int .i64 (0),.int .i64 (1)]]])::M44
theorem g45:Good M45:=qd g44 (by kernel_rfl)
def M46:zG:=(56,[.int .i64 (3),.fslice 3 [.int .i64 (1),.int .i64 (2),.int .i64 (-1)],.fslice 3 [.int .i64 (-2),.int .i64 (1),.int .i64 (2)]],.tuple [.fslice 9 [.str [105,110,115,101,114,116],.int .i64 (3),.int .i64 (-2),.str [105,110,115,101,114,116],.int .i64 (4),.int .i64 (-1),.str [105,110,115,101,114,116],.int .i64 (5),.int .i64 (2),.str [105,110,115,101,114,116],.int .i64 (2),.int .i64 (-1),.str [116,117,114,110],.int .i64 (0),.int .i64 (0),.str [99,97,110,99,101,108],.int .i64 (3),.int .i64 (0),.str [99,97,110,99,101,108],.int .i64 (2),.int .i64 (0),.str [99,97,110,99,101,108],.int .i64 (1),.int .i64 (0),.str [99,97,110,99,101,108],.int .i64 (0),.int .i64 (0)],.int .i64 (0)])::M45
theorem g46:Good M46:=qd g45 (by kernel_rfl)
def M47:zG:=(87,[.int .i64 (3),.fslice 3 [.int .i64 (1),.int .i64 (2),.int .i64 (-1)],.fslice 9 [.str [105,110,115,101,114,116],.int .i64 (3),.int .i64 (-2),.str [105,110,115,101,114,116],.int .i64 (4),.int .i64 (-1),.str [105,110,115,101,114,116],.int .i64 (5),.int .i64 (2),.str [105,110,115,101,114,116],.int .i64 (2),.int .i64 (-1),.str [116,117,114,110],.int .i64 (0),.int .i64 (0),.str [99,97,110,99,101,108],.int .i64 (3),.int .i64 (0),.str [99,97,110,99,101,108],.int .i64 (2),.int .i64 (0),.str [99,97,110,99,101,108],.int .i64 (1),.int .i64 (0),.str [99,97,110,99,101,108],.int .i64 (0),.int .i64 (0)]],.tuple [.fslice 3 [.int .i64 (-2),.int .i64 (1),.int .i64 (2)],.int .i64 (0)])::M46
theorem g47:Good M47:=qd g46 (by kernel_rfl)
def M48:zG:=(30,[.int .i64 (3),.fslice 3 [.int .i64 (1),.int .i64 (2),.int .i64 (-1)],.fslice 3 [.int .i64 (-2),.int .i64 (1),.int .i64 (2)],.fslice 9 [.str [105,110,115,101,114,116],.int .i64 (3),.int .i64 (-2),.str [105,110,115,101,114,116],.int .i64 (4),.int .i64 (-1),.str [105,110,115,101,114,116],.int .i64 (5),.int .i64 (2),.str [105,110,115,101,114,116],.int .i64 (2),.int .i64 (-1),.str [116,117,114,110],.int .i64 (0),.int .i64 (0),.str [99,97,110,99,101,108],.int .i64 (3),.int .i64 (0),.str [99,97,110,99,101,108],.int .i64 (2),.int .i64 (0),.str [99,97,110,99,101,108],.int .i64 (1),.int .i64 (0),.str [99,97,110,99,101,108],.int .i64 (0),.int .i64 (0)]],.int .i64 (0))::M47
theorem g48:Good M48:=qd g47 (by kernel_rfl)
theorem qgh:okM (qh9 M48 (.fn 8) [] []) (.bool true)=true:=by kernel_rfl
theorem qil:qb Tryz.prog (.fn 8) [] [] (.bool true) []:=qeP g48 _ _ _ _ _ (qho qgh)
end Go.Av
