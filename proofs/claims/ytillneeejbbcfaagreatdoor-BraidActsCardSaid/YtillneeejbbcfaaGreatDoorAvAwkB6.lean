/-
  The examples that every statement of the chapter checks: they hold. By running the evaluator in the kernel, call by call.
-/
import Derived.Test.YtillneeejbbcfaaGreatDoorAvMtB6
import Derived.Test.YtillneeejbbcfaaGreatDoorAvRp
noncomputable section
namespace Go.Av
open Go.Proofs
set_option maxRecDepth 100000
theorem fol01:Tryz.prog.follows .mixedOrders=true:=by kernel_rfl
def pl01 (f:FuncId):Bool:=Nat.beq (Nat.land (Nat.shiftRight 3533694179738229905292329637261618656555220195033704567245979376536256512 f) 1) 0
def okM (r:Option (AV×Heap)) (v:AV):Bool:=match r with
 |some (w,[])=>qaf 30 w v
 |_=>false
theorem qlH {r:Option (AV×Heap)} {v:AV} (h:okM r v=true):r=some (v,[]):=by
 unfold okM at h
 split at h
 ·rw[qfC 30 _ _ h]
 cases h
def qnb:kw:=fun c args A=>match c with
 | .fn 211=>qly args A
 | .fn 172=>repA args A
 |_=>none
theorem qmZ:qC Tryz.prog qnb:=by
 intro c args A v A' h
 unfold qnb at h
 split at h
 ·exact qjO h
 ·exact qoz h
 cases h
abbrev jI:=List (FuncId×List AV×AV)
def qmA (M:jI):kw:=ql7 Tryz.prog 3000 mtT qnb (orElse (memo M) qoX) pl01 40
def Good (M:jI):Prop:= ∀e∈M,qb Tryz.prog (.fn e.1) e.2.1 [] e.2.2 []
theorem qh1 {M:jI} (h:Good M):qC Tryz.prog (qmA M):=qmX fol01 mt_ok qmZ (qlk (qn2 h) qlP) _
theorem qlz:Good []:=by intro e h;cases h
theorem qd {M:jI} {f:FuncId} {args:List AV} {v:AV} (h:Good M) (hr:okM (qmA M (.fn f) args []) v=true):Good ((f,args,v)::M):=by
 intro e he
 rcases List.mem_cons.1 he with rfl|he
 ·exact qh1 h _ _ _ _ _ (qlH hr)
 exact h e he
def M0:jI:=[]
theorem g0:Good M0:=qlz
def M1:jI:=(35,[.int .i64 (3),.fslice 3 [.int .i64 (1),.int .i64 (2),.int .i64 (1)]],.agg [.int .i64 (1),.nilslice])::M0
theorem g1:Good M1:=qd g0 (by kernel_rfl)
def M2:jI:=(35,[.int .i64 (3),.fslice 3 [.int .i64 (2),.int .i64 (1),.int .i64 (2)]],.agg [.int .i64 (1),.nilslice])::M1
theorem g2:Good M2:=qd g1 (by kernel_rfl)
def M3:jI:=(6,[.int .i64 (3),.fslice 3 [.int .i64 (1),.int .i64 (2),.int .i64 (1)],.fslice 3 [.int .i64 (2),.int .i64 (1),.int .i64 (2)]],.tuple [.bool true,.int .i64 (0)])::M2
theorem g3:Good M3:=qd g2 (by kernel_rfl)
def M4:jI:=(19,[.int .i64 (3),.fslice 3 [.int .i64 (1),.int .i64 (2),.int .i64 (1)]],.tuple [.fslice 3 [.int .i64 (2),.int .i64 (1),.int .i64 (0)],.int .i64 (0)])::M3
theorem g4:Good M4:=qd g3 (by kernel_rfl)
def M5:jI:=(35,[.int .i64 (3),.fslice 2 [.int .i64 (1),.int .i64 (-2)]],.agg [.int .i64 (-1),.fslice 2 [.fslice 3 [.int .i64 (0),.int .i64 (2),.int .i64 (1)],.fslice 3 [.int .i64 (1),.int .i64 (2),.int .i64 (0)]]])::M4
theorem g5:Good M5:=qd g4 (by kernel_rfl)
def M6:jI:=(42,[.int .i64 (3),.agg [.int .i64 (-1),.fslice 2 [.fslice 3 [.int .i64 (0),.int .i64 (2),.int .i64 (1)],.fslice 3 [.int .i64 (1),.int .i64 (2),.int .i64 (0)]]]],.int .i64 (0))::M5
theorem g6:Good M6:=qd g5 (by kernel_rfl)
def M7:jI:=(13,[.int .i64 (3),.agg [.int .i64 (-1),.fslice 2 [.fslice 3 [.int .i64 (0),.int .i64 (2),.int .i64 (1)],.fslice 3 [.int .i64 (1),.int .i64 (2),.int .i64 (0)]]]],.tuple [.fslice 6 [.int .i64 (-1),.int .i64 (-2),.int .i64 (-1),.int .i64 (2),.int .i64 (2),.int .i64 (1)],.int .i64 (0)])::M6
theorem g7:Good M7:=qd g6 (by kernel_rfl)
def M8:jI:=(35,[.int .i64 (3),.fslice 6 [.int .i64 (1),.int .i64 (2),.int .i64 (1),.int .i64 (2),.int .i64 (1),.int .i64 (2)]],.agg [.int .i64 (2),.nilslice])::M7
theorem g8:Good M8:=qd g7 (by kernel_rfl)
def M9:jI:=(20,[.int .i64 (4),.fslice 4 [.int .i64 (3),.int .i64 (2),.int .i64 (1),.int .i64 (0)]],.tuple [.fslice 6 [.int .i64 (1),.int .i64 (2),.int .i64 (1),.int .i64 (3),.int .i64 (2),.int .i64 (1)],.int .i64 (0)])::M8
theorem g9:Good M9:=qd g8 (by kernel_rfl)
def M10:jI:=(21,[.int .i64 (2),.fslice 2 [.int .i64 (1),.int .i64 (1)]],.tuple [.fslice 2 [.fslice 2 [.int .i64 (0),.int .i64 (2)],.fslice 2 [.int .i64 (2),.int .i64 (0)]],.int .i64 (0)])::M9
theorem g10:Good M10:=qd g9 (by kernel_rfl)
def M11:jI:=(56,[.str [50]],.int .i64 (0))::M10
theorem g11:Good M11:=qd g10 (by kernel_rfl)
def M12:jI:=(59,[.str [50]],.agg [.int .i64 (2),.nilslice,.int .i64 (1),.nilslice])::M11
theorem g12:Good M12:=qd g11 (by kernel_rfl)
def M13:jI:=(58,[.int .i64 (2),.fslice 1 [.int .i64 (1)],.agg [.int .i64 (2),.nilslice,.int .i64 (1),.nilslice]],.fslice 2 [.fslice 2 [.int .i64 (-1),.nilslice,.int .i64 (1),.nilslice,.int .i64 (2),.nilslice,.int .i64 (1),.nilslice],.fslice 2 [.int .i64 (1),.nilslice,.int .i64 (1),.nilslice,.int .i64 (0),.nilslice,.int .i64 (1),.nilslice]])::M12
theorem g13:Good M13:=qd g12 (by kernel_rfl)
def M14:jI:=(22,[.int .i64 (2),.fslice 1 [.int .i64 (1)],.str [50]],.tuple [.fslice 2 [.fslice 2 [.str [45,49],.str [50]],.fslice 2 [.str [49],.str [48]]],.int .i64 (0)])::M13
theorem g14:Good M14:=qd g13 (by kernel_rfl)
def M15:jI:=(66,[.int .i64 (2),.fslice 2 [.int .i64 (1),.int .i64 (1)]],.fslice 2 [.fslice 5 [.int .i64 (1),.int .i64 (2),.int .i64 (1),.int .i64 (-2),.int .i64 (-1)],.fslice 3 [.int .i64 (1),.int .i64 (2),.int .i64 (-1)]])::M14
theorem g15:Good M15:=qd g14 (by kernel_rfl)
def M16:jI:=(51,[.int .i64 (3),.fslice 6 [.int .i64 (1),.int .i64 (-2),.int .i64 (1),.int .i64 (-2),.int .i64 (1),.int .i64 (-2)]],.fslice 3 [.int .i64 (0),.int .i64 (1),.int .i64 (2)])::M15
theorem g16:Good M16:=qd g15 (by kernel_rfl)
def M17:jI:=(55,[.int .i64 (3),.fslice 6 [.int .i64 (1),.int .i64 (-2),.int .i64 (1),.int .i64 (-2),.int .i64 (1),.int .i64 (-2)]],.fslice 3 [.fslice 3 [.int .i64 (0),.int .i64 (0),.int .i64 (0)],.fslice 3 [.int .i64 (0),.int .i64 (0),.int .i64 (0)],.fslice 3 [.int .i64 (0),.int .i64 (0),.int .i64 (0)]])::M16
theorem g17:Good M17:=qd g16 (by kernel_rfl)
def M18:jI:=(119,[.agg [.int .i64 (1),.nilslice,.int .i64 (1),.nilslice],.agg [.int .i64 (-1),.nilslice,.int .i64 (2),.nilslice]],.agg [.int .i64 (1),.nilslice,.int .i64 (2),.nilslice])::M17
theorem g18:Good M18:=qd g17 (by kernel_rfl)
def M19:jI:=(117,[.int .i64 (-2),.agg [.int .i64 (2),.nilslice,.int .i64 (1),.nilslice]],.agg [.int .i64 (0),.nilslice,.int .i64 (1),.nilslice,.int .i64 (1),.nilslice,.int .i64 (1),.nilslice,.int .i64 (1),.nilslice,.int .i64 (2),.nilslice,.int .i64 (1),.nilslice,.int .i64 (2),.nilslice])::M18
theorem g19:Good M19:=qd g18 (by kernel_rfl)
def M20:jI:=(118,[.agg [.int .i64 (0),.nilslice,.int .i64 (1),.nilslice],.agg [.int .i64 (1),.nilslice,.int .i64 (2),.nilslice]],.agg [.int .i64 (0),.nilslice,.int .i64 (1),.nilslice])::M19
theorem g20:Good M20:=qd g19 (by kernel_rfl)
def M21:jI:=(118,[.agg [.int .i64 (1),.nilslice,.int .i64 (1),.nilslice],.agg [.int .i64 (1),.nilslice,.int .i64 (2),.nilslice]],.agg [.int .i64 (1),.nilslice,.int .i64 (2),.nilslice])::M20
theorem g21:Good M21:=qd g20 (by kernel_rfl)
def M22:jI:=(119,[.agg [.int .i64 (0),.nilslice,.int .i64 (1),.nilslice],.agg [.int .i64 (1),.nilslice,.int .i64 (2),.nilslice]],.agg [.int .i64 (1),.nilslice,.int .i64 (2),.nilslice])::M21
theorem g22:Good M22:=qd g21 (by kernel_rfl)
def M23:jI:=(118,[.agg [.int .i64 (1),.nilslice,.int .i64 (2),.nilslice],.agg [.int .i64 (1),.nilslice,.int .i64 (1),.nilslice]],.agg [.int .i64 (1),.nilslice,.int .i64 (2),.nilslice])::M22
theorem g23:Good M23:=qd g22 (by kernel_rfl)
def M24:jI:=(118,[.agg [.int .i64 (1),.nilslice,.int .i64 (2),.nilslice],.agg [.int .i64 (0),.nilslice,.int .i64 (1),.nilslice]],.agg [.int .i64 (0),.nilslice,.int .i64 (1),.nilslice])::M23
theorem g24:Good M24:=qd g23 (by kernel_rfl)
def M25:jI:=(118,[.agg [.int .i64 (2),.nilslice,.int .i64 (1),.nilslice],.agg [.int .i64 (1),.nilslice,.int .i64 (2),.nilslice]],.agg [.int .i64 (1),.nilslice,.int .i64 (1),.nilslice])::M24
theorem g25:Good M25:=qd g24 (by kernel_rfl)
def M26:jI:=(118,[.agg [.int .i64 (1),.nilslice,.int .i64 (2),.nilslice],.agg [.int .i64 (1),.nilslice,.int .i64 (2),.nilslice]],.agg [.int .i64 (1),.nilslice,.int .i64 (4),.nilslice])::M25
theorem g26:Good M26:=qd g25 (by kernel_rfl)
def M27:jI:=(119,[.agg [.int .i64 (0),.nilslice,.int .i64 (1),.nilslice],.agg [.int .i64 (1),.nilslice,.int .i64 (4),.nilslice]],.agg [.int .i64 (1),.nilslice,.int .i64 (4),.nilslice])::M26
theorem g27:Good M27:=qd g26 (by kernel_rfl)
def M28:jI:=(118,[.agg [.int .i64 (1),.nilslice,.int .i64 (2),.nilslice],.agg [.int .i64 (-1),.nilslice,.int .i64 (1),.nilslice]],.agg [.int .i64 (-1),.nilslice,.int .i64 (2),.nilslice])::M27
theorem g28:Good M28:=qd g27 (by kernel_rfl)
def M29:jI:=(118,[.agg [.int .i64 (1),.nilslice,.int .i64 (4),.nilslice],.agg [.int .i64 (1),.nilslice,.int .i64 (1),.nilslice]],.agg [.int .i64 (1),.nilslice,.int .i64 (4),.nilslice])::M28
theorem g29:Good M29:=qd g28 (by kernel_rfl)
def M30:jI:=(119,[.agg [.int .i64 (-1),.nilslice,.int .i64 (2),.nilslice],.agg [.int .i64 (1),.nilslice,.int .i64 (4),.nilslice]],.agg [.int .i64 (-1),.nilslice,.int .i64 (4),.nilslice])::M29
theorem g30:Good M30:=qd g29 (by kernel_rfl)
def M31:jI:=(118,[.agg [.int .i64 (1),.nilslice,.int .i64 (2),.nilslice],.agg [.int .i64 (2),.nilslice,.int .i64 (1),.nilslice]],.agg [.int .i64 (1),.nilslice,.int .i64 (1),.nilslice])::M30
theorem g31:Good M31:=qd g30 (by kernel_rfl)
def M32:jI:=(118,[.agg [.int .i64 (1),.nilslice,.int .i64 (4),.nilslice],.agg [.int .i64 (0),.nilslice,.int .i64 (1),.nilslice]],.agg [.int .i64 (0),.nilslice,.int .i64 (1),.nilslice])::M31
theorem g32:Good M32:=qd g31 (by kernel_rfl)
def M33:jI:=(118,[.agg [.int .i64 (-1),.nilslice,.int .i64 (1),.nilslice],.agg [.int .i64 (1),.nilslice,.int .i64 (2),.nilslice]],.agg [.int .i64 (-1),.nilslice,.int .i64 (2),.nilslice])::M32
theorem g33:Good M33:=qd g32 (by kernel_rfl)
def M34:jI:=(119,[.agg [.int .i64 (0),.nilslice,.int .i64 (1),.nilslice],.agg [.int .i64 (-1),.nilslice,.int .i64 (2),.nilslice]],.agg [.int .i64 (-1),.nilslice,.int .i64 (2),.nilslice])::M33
theorem g34:Good M34:=qd g33 (by kernel_rfl)
def M35:jI:=(119,[.agg [.int .i64 (2),.nilslice,.int .i64 (1),.nilslice],.agg [.int .i64 (-1),.nilslice,.int .i64 (2),.nilslice]],.agg [.int .i64 (3),.nilslice,.int .i64 (2),.nilslice])::M34
theorem g35:Good M35:=qd g34 (by kernel_rfl)
def M36:jI:=(118,[.agg [.int .i64 (1),.nilslice,.int .i64 (4),.nilslice],.agg [.int .i64 (1),.nilslice,.int .i64 (2),.nilslice]],.agg [.int .i64 (1),.nilslice,.int .i64 (8),.nilslice])::M35
theorem g36:Good M36:=qd g35 (by kernel_rfl)
def M37:jI:=(119,[.agg [.int .i64 (0),.nilslice,.int .i64 (1),.nilslice],.agg [.int .i64 (1),.nilslice,.int .i64 (8),.nilslice]],.agg [.int .i64 (1),.nilslice,.int .i64 (8),.nilslice])::M36
theorem g37:Good M37:=qd g36 (by kernel_rfl)
def M38:jI:=(119,[.agg [.int .i64 (1),.nilslice,.int .i64 (1),.nilslice],.agg [.int .i64 (1),.nilslice,.int .i64 (8),.nilslice]],.agg [.int .i64 (9),.nilslice,.int .i64 (8),.nilslice])::M37
theorem g38:Good M38:=qd g37 (by kernel_rfl)
def M39:jI:=(58,[.int .i64 (3),.fslice 6 [.int .i64 (1),.int .i64 (-2),.int .i64 (1),.int .i64 (-2),.int .i64 (1),.int .i64 (-2)],.agg [.int .i64 (2),.nilslice,.int .i64 (1),.nilslice]],.fslice 3 [.fslice 3 [.int .i64 (0),.nilslice,.int .i64 (1),.nilslice,.int .i64 (-1),.nilslice,.int .i64 (2),.nilslice,.int .i64 (3),.nilslice,.int .i64 (2),.nilslice],.fslice 3 [.int .i64 (1),.nilslice,.int .i64 (1),.nilslice,.int .i64 (1),.nilslice,.int .i64 (1),.nilslice,.int .i64 (-1),.nilslice,.int .i64 (1),.nilslice],.fslice 3 [.int .i64 (-1),.nilslice,.int .i64 (4),.nilslice,.int .i64 (1),.nilslice,.int .i64 (8),.nilslice,.int .i64 (9),.nilslice,.int .i64 (8),.nilslice]])::M38
theorem g39:Good M39:=qd g38 (by kernel_rfl)
def M40:jI:=(58,[.int .i64 (3),.nilslice,.agg [.int .i64 (2),.nilslice,.int .i64 (1),.nilslice]],.fslice 3 [.fslice 3 [.int .i64 (1),.nilslice,.int .i64 (1),.nilslice,.int .i64 (0),.nilslice,.int .i64 (1),.nilslice,.int .i64 (0),.nilslice,.int .i64 (1),.nilslice],.fslice 3 [.int .i64 (0),.nilslice,.int .i64 (1),.nilslice,.int .i64 (1),.nilslice,.int .i64 (1),.nilslice,.int .i64 (0),.nilslice,.int .i64 (1),.nilslice],.fslice 3 [.int .i64 (0),.nilslice,.int .i64 (1),.nilslice,.int .i64 (0),.nilslice,.int .i64 (1),.nilslice,.int .i64 (1),.nilslice,.int .i64 (1),.nilslice]])::M39
theorem g40:Good M40:=qd g39 (by kernel_rfl)
def M41:jI:=(24,[.int .i64 (3),.fslice 6 [.int .i64 (1),.int .i64 (-2),.int .i64 (1),.int .i64 (-2),.int .i64 (1),.int .i64 (-2)],.nilslice],.tuple [.str [98,117,114,97,117],.int .i64 (0)])::M40
theorem g41:Good M41:=qd g40 (by kernel_rfl)
def M42:jI:=(25,[.int .i64 (2),.fslice 3 [.int .i64 (1),.int .i64 (1),.int .i64 (1)]],.tuple [.fslice 1 [.fslice 2 [.int .i64 (0),.int .i64 (1)]],.int .i64 (0)])::M41
theorem g42:Good M42:=qd g41 (by kernel_rfl)
def M43:jI:=(26,[.int .i64 (3),.fslice 3 [.int .i64 (1),.int .i64 (2),.int .i64 (1)],.fslice 1 [.str [116,117,114,110],.int .i64 (0),.int .i64 (0)]],.tuple [.fslice 3 [.int .i64 (2),.int .i64 (1),.int .i64 (2)],.int .i64 (0)])::M42
theorem g43:Good M43:=qd g42 (by kernel_rfl)
def M44:jI:=(35,[.int .i64 (3),.fslice 3 [.int .i64 (1),.int .i64 (2),.int .i64 (-1)]],.agg [.int .i64 (-1),.fslice 2 [.fslice 3 [.int .i64 (1),.int .i64 (2),.int .i64 (0)],.fslice 3 [.int .i64 (2),.int .i64 (0),.int .i64 (1)]]])::M43
theorem g44:Good M44:=qd g43 (by kernel_rfl)
def M45:jI:=(35,[.int .i64 (3),.fslice 3 [.int .i64 (-2),.int .i64 (1),.int .i64 (2)]],.agg [.int .i64 (-1),.fslice 2 [.fslice 3 [.int .i64 (1),.int .i64 (2),.int .i64 (0)],.fslice 3 [.int .i64 (2),.int .i64 (0),.int .i64 (1)]]])::M44
theorem g45:Good M45:=qd g44 (by kernel_rfl)
def M46:jI:=(27,[.int .i64 (3),.fslice 3 [.int .i64 (1),.int .i64 (2),.int .i64 (-1)],.fslice 3 [.int .i64 (-2),.int .i64 (1),.int .i64 (2)]],.tuple [.fslice 9 [.str [105,110,115,101,114,116],.int .i64 (3),.int .i64 (-2),.str [105,110,115,101,114,116],.int .i64 (4),.int .i64 (-1),.str [105,110,115,101,114,116],.int .i64 (5),.int .i64 (2),.str [105,110,115,101,114,116],.int .i64 (2),.int .i64 (-1),.str [116,117,114,110],.int .i64 (0),.int .i64 (0),.str [99,97,110,99,101,108],.int .i64 (3),.int .i64 (0),.str [99,97,110,99,101,108],.int .i64 (2),.int .i64 (0),.str [99,97,110,99,101,108],.int .i64 (1),.int .i64 (0),.str [99,97,110,99,101,108],.int .i64 (0),.int .i64 (0)],.int .i64 (0)])::M45
theorem g46:Good M46:=qd g45 (by kernel_rfl)
def M47:jI:=(69,[.int .i64 (3),.fslice 3 [.int .i64 (1),.int .i64 (2),.int .i64 (-1)],.fslice 9 [.str [105,110,115,101,114,116],.int .i64 (3),.int .i64 (-2),.str [105,110,115,101,114,116],.int .i64 (4),.int .i64 (-1),.str [105,110,115,101,114,116],.int .i64 (5),.int .i64 (2),.str [105,110,115,101,114,116],.int .i64 (2),.int .i64 (-1),.str [116,117,114,110],.int .i64 (0),.int .i64 (0),.str [99,97,110,99,101,108],.int .i64 (3),.int .i64 (0),.str [99,97,110,99,101,108],.int .i64 (2),.int .i64 (0),.str [99,97,110,99,101,108],.int .i64 (1),.int .i64 (0),.str [99,97,110,99,101,108],.int .i64 (0),.int .i64 (0)]],.tuple [.fslice 3 [.int .i64 (-2),.int .i64 (1),.int .i64 (2)],.int .i64 (0)])::M46
theorem g47:Good M47:=qd g46 (by kernel_rfl)
def M48:jI:=(30,[.int .i64 (3),.fslice 3 [.int .i64 (1),.int .i64 (2),.int .i64 (-1)],.fslice 3 [.int .i64 (-2),.int .i64 (1),.int .i64 (2)],.fslice 9 [.str [105,110,115,101,114,116],.int .i64 (3),.int .i64 (-2),.str [105,110,115,101,114,116],.int .i64 (4),.int .i64 (-1),.str [105,110,115,101,114,116],.int .i64 (5),.int .i64 (2),.str [105,110,115,101,114,116],.int .i64 (2),.int .i64 (-1),.str [116,117,114,110],.int .i64 (0),.int .i64 (0),.str [99,97,110,99,101,108],.int .i64 (3),.int .i64 (0),.str [99,97,110,99,101,108],.int .i64 (2),.int .i64 (0),.str [99,97,110,99,101,108],.int .i64 (1),.int .i64 (0),.str [99,97,110,99,101,108],.int .i64 (0),.int .i64 (0)]],.int .i64 (0))::M47
theorem g48:Good M48:=qd g47 (by kernel_rfl)
theorem qls:okM (qmA M48 (.fn 4) [] []) (.bool true)=true:=by kernel_rfl
theorem qn7:qb Tryz.prog (.fn 4) [] [] (.bool true) []:=qh1 g48 _ _ _ _ _ (qlH qls)
end Go.Av
