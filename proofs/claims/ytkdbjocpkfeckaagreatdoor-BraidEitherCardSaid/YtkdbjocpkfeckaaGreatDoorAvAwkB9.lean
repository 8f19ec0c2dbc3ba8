/-
  The examples that every statement of the chapter checks: they hold. By running the evaluator in the kernel, call by call.
-/
import Derived.Test.YtkdbjocpkfeckaaGreatDoorAvMtB9
import Derived.Test.YtkdbjocpkfeckaaGreatDoorAvRp
noncomputable section
namespace Go.Av
open Go.Proofs
set_option maxRecDepth 100000
theorem fol01:Tryz.prog.follows .mixedOrders=true:=by kernel_rfl
def pl01 (f:FuncId):Bool:=Nat.beq (Nat.land (Nat.shiftRight 45531302161645756511503444188398220108896799503015505913772186258045771287711711232 f) 1) 0
def okM (r:Option (AV×Heap)) (v:AV):Bool:=match r with
 |some (w,[])=>qbv 30 w v
 |_=>false
theorem qrT {r:Option (AV×Heap)} {v:AV} (h:okM r v=true):r=some (v,[]):=by
 unfold okM at h;split at h
 ·rw[qhR 30 _ _ h]
 cases h
def qpT:zY:=fun c args A=>match c with
 | .fn 232=>qny args A
 | .fn 173=>repA args A
 |_=>none
theorem qr9:zf Tryz.prog qpT:=by
 intro c args A v A' h;unfold qpT at h;split at h
 ·exact qkI h
 ·exact qtc h
 cases h
abbrev vI:=List (FuncId×List AV×AV)
def qq3 (M:vI):zY:=qrj Tryz.prog 3000 mtT qpT (orElse (memo M) qtW) pl01 40
def Good (M:vI):Prop:= ∀e∈M,qb Tryz.prog (.fn e.1) e.2.1 [] e.2.2 []
theorem qmk {M:vI} (h:Good M):zf Tryz.prog (qq3 M):=qqS fol01 mt_ok qr9 (qpp (qtd h) qpH) _
theorem qr4:Good []:=by intro e h;cases h
theorem qz {M:vI} {f:FuncId} {args:List AV} {v:AV} (h:Good M) (hr:okM (qq3 M (.fn f) args []) v=true):Good ((f,args,v)::M):=by
 intro e he;rcases List.mem_cons.1 he with rfl|he
 ·exact qmk h _ _ _ _ _ (qrT hr)
 exact h e he
def M0:vI:=[]
theorem g0:Good M0:=qr4
def M1:vI:=(47,[.int .i64 (3),.fslice 3 [.int .i64 (1),.int .i64 (2),.int .i64 (1)]],.agg [.int .i64 (1),.nilslice])::M0
theorem g1:Good M1:=qz g0 (by kernel_rfl)
def M2:vI:=(47,[.int .i64 (3),.fslice 3 [.int .i64 (2),.int .i64 (1),.int .i64 (2)]],.agg [.int .i64 (1),.nilslice])::M1
theorem g2:Good M2:=qz g1 (by kernel_rfl)
def M3:vI:=(21,[.int .i64 (3),.fslice 3 [.int .i64 (1),.int .i64 (2),.int .i64 (1)],.fslice 3 [.int .i64 (2),.int .i64 (1),.int .i64 (2)]],.tuple [.bool true,.int .i64 (0)])::M2
theorem g3:Good M3:=qz g2 (by kernel_rfl)
def M4:vI:=(26,[.int .i64 (3),.fslice 3 [.int .i64 (1),.int .i64 (2),.int .i64 (1)]],.tuple [.fslice 3 [.int .i64 (2),.int .i64 (1),.int .i64 (0)],.int .i64 (0)])::M3
theorem g4:Good M4:=qz g3 (by kernel_rfl)
def M5:vI:=(47,[.int .i64 (3),.fslice 2 [.int .i64 (1),.int .i64 (-2)]],.agg [.int .i64 (-1),.fslice 2 [.fslice 3 [.int .i64 (0),.int .i64 (2),.int .i64 (1)],.fslice 3 [.int .i64 (1),.int .i64 (2),.int .i64 (0)]]])::M4
theorem g5:Good M5:=qz g4 (by kernel_rfl)
def M6:vI:=(95,[.int .i64 (3),.agg [.int .i64 (-1),.fslice 2 [.fslice 3 [.int .i64 (0),.int .i64 (2),.int .i64 (1)],.fslice 3 [.int .i64 (1),.int .i64 (2),.int .i64 (0)]]]],.int .i64 (0))::M5
theorem g6:Good M6:=qz g5 (by kernel_rfl)
def M7:vI:=(39,[.int .i64 (3),.agg [.int .i64 (-1),.fslice 2 [.fslice 3 [.int .i64 (0),.int .i64 (2),.int .i64 (1)],.fslice 3 [.int .i64 (1),.int .i64 (2),.int .i64 (0)]]]],.tuple [.fslice 6 [.int .i64 (-1),.int .i64 (-2),.int .i64 (-1),.int .i64 (2),.int .i64 (2),.int .i64 (1)],.int .i64 (0)])::M6
theorem g7:Good M7:=qz g6 (by kernel_rfl)
def M8:vI:=(47,[.int .i64 (3),.fslice 6 [.int .i64 (1),.int .i64 (2),.int .i64 (1),.int .i64 (2),.int .i64 (1),.int .i64 (2)]],.agg [.int .i64 (2),.nilslice])::M7
theorem g8:Good M8:=qz g7 (by kernel_rfl)
def M9:vI:=(40,[.int .i64 (4),.fslice 4 [.int .i64 (3),.int .i64 (2),.int .i64 (1),.int .i64 (0)]],.tuple [.fslice 6 [.int .i64 (1),.int .i64 (2),.int .i64 (1),.int .i64 (3),.int .i64 (2),.int .i64 (1)],.int .i64 (0)])::M8
theorem g9:Good M9:=qz g8 (by kernel_rfl)
def M10:vI:=(27,[.int .i64 (2),.fslice 2 [.int .i64 (1),.int .i64 (1)]],.tuple [.fslice 2 [.fslice 2 [.int .i64 (0),.int .i64 (2)],.fslice 2 [.int .i64 (2),.int .i64 (0)]],.int .i64 (0)])::M9
theorem g10:Good M10:=qz g9 (by kernel_rfl)
def M11:vI:=(74,[.str [50]],.int .i64 (0))::M10
theorem g11:Good M11:=qz g10 (by kernel_rfl)
def M12:vI:=(76,[.str [50]],.agg [.int .i64 (2),.nilslice,.int .i64 (1),.nilslice])::M11
theorem g12:Good M12:=qz g11 (by kernel_rfl)
def M13:vI:=(75,[.int .i64 (2),.fslice 1 [.int .i64 (1)],.agg [.int .i64 (2),.nilslice,.int .i64 (1),.nilslice]],.fslice 2 [.fslice 2 [.int .i64 (-1),.nilslice,.int .i64 (1),.nilslice,.int .i64 (2),.nilslice,.int .i64 (1),.nilslice],.fslice 2 [.int .i64 (1),.nilslice,.int .i64 (1),.nilslice,.int .i64 (0),.nilslice,.int .i64 (1),.nilslice]])::M12
theorem g13:Good M13:=qz g12 (by kernel_rfl)
def M14:vI:=(32,[.int .i64 (2),.fslice 1 [.int .i64 (1)],.str [50]],.tuple [.fslice 2 [.fslice 2 [.str [45,49],.str [50]],.fslice 2 [.str [49],.str [48]]],.int .i64 (0)])::M13
theorem g14:Good M14:=qz g13 (by kernel_rfl)
def M15:vI:=(100,[.int .i64 (2),.fslice 2 [.int .i64 (1),.int .i64 (1)]],.fslice 2 [.fslice 5 [.int .i64 (1),.int .i64 (2),.int .i64 (1),.int .i64 (-2),.int .i64 (-1)],.fslice 3 [.int .i64 (1),.int .i64 (2),.int .i64 (-1)]])::M14
theorem g15:Good M15:=qz g14 (by kernel_rfl)
def M16:vI:=(71,[.int .i64 (3),.fslice 6 [.int .i64 (1),.int .i64 (-2),.int .i64 (1),.int .i64 (-2),.int .i64 (1),.int .i64 (-2)]],.fslice 3 [.int .i64 (0),.int .i64 (1),.int .i64 (2)])::M15
theorem g16:Good M16:=qz g15 (by kernel_rfl)
def M17:vI:=(72,[.int .i64 (3),.fslice 6 [.int .i64 (1),.int .i64 (-2),.int .i64 (1),.int .i64 (-2),.int .i64 (1),.int .i64 (-2)]],.fslice 3 [.fslice 3 [.int .i64 (0),.int .i64 (0),.int .i64 (0)],.fslice 3 [.int .i64 (0),.int .i64 (0),.int .i64 (0)],.fslice 3 [.int .i64 (0),.int .i64 (0),.int .i64 (0)]])::M16
theorem g17:Good M17:=qz g16 (by kernel_rfl)
def M18:vI:=(148,[.agg [.int .i64 (1),.nilslice,.int .i64 (1),.nilslice],.agg [.int .i64 (-1),.nilslice,.int .i64 (2),.nilslice]],.agg [.int .i64 (1),.nilslice,.int .i64 (2),.nilslice])::M17
theorem g18:Good M18:=qz g17 (by kernel_rfl)
def M19:vI:=(146,[.int .i64 (-2),.agg [.int .i64 (2),.nilslice,.int .i64 (1),.nilslice]],.agg [.int .i64 (0),.nilslice,.int .i64 (1),.nilslice,.int .i64 (1),.nilslice,.int .i64 (1),.nilslice,.int .i64 (1),.nilslice,.int .i64 (2),.nilslice,.int .i64 (1),.nilslice,.int .i64 (2),.nilslice])::M18
theorem g19:Good M19:=qz g18 (by kernel_rfl)
def M20:vI:=(147,[.agg [.int .i64 (0),.nilslice,.int .i64 (1),.nilslice],.agg [.int .i64 (1),.nilslice,.int .i64 (2),.nilslice]],.agg [.int .i64 (0),.nilslice,.int .i64 (1),.nilslice])::M19
theorem g20:Good M20:=qz g19 (by kernel_rfl)
def M21:vI:=(147,[.agg [.int .i64 (1),.nilslice,.int .i64 (1),.nilslice],.agg [.int .i64 (1),.nilslice,.int .i64 (2),.nilslice]],.agg [.int .i64 (1),.nilslice,.int .i64 (2),.nilslice])::M20
theorem g21:Good M21:=qz g20 (by kernel_rfl)
def M22:vI:=(148,[.agg [.int .i64 (0),.nilslice,.int .i64 (1),.nilslice],.agg [.int .i64 (1),.nilslice,.int .i64 (2),.nilslice]],.agg [.int .i64 (1),.nilslice,.int .i64 (2),.nilslice])::M21
theorem g22:Good M22:=qz g21 (by kernel_rfl)
def M23:vI:=(147,[.agg [.int .i64 (1),.nilslice,.int .i64 (2),.nilslice],.agg [.int .i64 (1),.nilslice,.int .i64 (1),.nilslice]],.agg [.int .i64 (1),.nilslice,.int .i64 (2),.nilslice])::M22
theorem g23:Good M23:=qz g22 (by kernel_rfl)
def M24:vI:=(147,[.agg [.int .i64 (1),.nilslice,.int .i64 (2),.nilslice],.agg [.int .i64 (0),.nilslice,.int .i64 (1),.nilslice]],.agg [.int .i64 (0),.nilslice,.int .i64 (1),.nilslice])::M23
theorem g24:Good M24:=qz g23 (by kernel_rfl)
def M25:vI:=(147,[.agg [.int .i64 (2),.nilslice,.int .i64 (1),.nilslice],.agg [.int .i64 (1),.nilslice,.int .i64 (2),.nilslice]],.agg [.int .i64 (1),.nilslice,.int .i64 (1),.nilslice])::M24
theorem g25:Good M25:=qz g24 (by kernel_rfl)
def M26:vI:=(147,[.agg [.int .i64 (1),.nilslice,.int .i64 (2),.nilslice],.agg [.int .i64 (1),.nilslice,.int .i64 (2),.nilslice]],.agg [.int .i64 (1),.nilslice,.int .i64 (4),.nilslice])::M25
theorem g26:Good M26:=qz g25 (by kernel_rfl)
def M27:vI:=(148,[.agg [.int .i64 (0),.nilslice,.int .i64 (1),.nilslice],.agg [.int .i64 (1),.nilslice,.int .i64 (4),.nilslice]],.agg [.int .i64 (1),.nilslice,.int .i64 (4),.nilslice])::M26
theorem g27:Good M27:=qz g26 (by kernel_rfl)
def M28:vI:=(147,[.agg [.int .i64 (1),.nilslice,.int .i64 (2),.nilslice],.agg [.int .i64 (-1),.nilslice,.int .i64 (1),.nilslice]],.agg [.int .i64 (-1),.nilslice,.int .i64 (2),.nilslice])::M27
theorem g28:Good M28:=qz g27 (by kernel_rfl)
def M29:vI:=(147,[.agg [.int .i64 (1),.nilslice,.int .i64 (4),.nilslice],.agg [.int .i64 (1),.nilslice,.int .i64 (1),.nilslice]],.agg [.int .i64 (1),.nilslice,.int .i64 (4),.nilslice])::M28
theorem g29:Good M29:=qz g28 (by kernel_rfl)
def M30:vI:=(148,[.agg [.int .i64 (-1),.nilslice,.int .i64 (2),.nilslice],.agg [.int .i64 (1),.nilslice,.int .i64 (4),.nilslice]],.agg [.int .i64 (-1),.nilslice,.int .i64 (4),.nilslice])::M29
theorem g30:Good M30:=qz g29 (by kernel_rfl)
def M31:vI:=(147,[.agg [.int .i64 (1),.nilslice,.int .i64 (2),.nilslice],.agg [.int .i64 (2),.nilslice,.int .i64 (1),.nilslice]],.agg [.int .i64 (1),.nilslice,.int .i64 (1),.nilslice])::M30
theorem g31:Good M31:=qz g30 (by kernel_rfl)
def M32:vI:=(147,[.agg [.int .i64 (1),.nilslice,.int .i64 (4),.nilslice],.agg [.int .i64 (0),.nilslice,.int .i64 (1),.nilslice]],.agg [.int .i64 (0),.nilslice,.int .i64 (1),.nilslice])::M31
theorem g32:Good M32:=qz g31 (by kernel_rfl)
def M33:vI:=(147,[.agg [.int .i64 (-1),.nilslice,.int .i64 (1),.nilslice],.agg [.int .i64 (1),.nilslice,.int .i64 (2),.nilslice]],.agg [.int .i64 (-1),.nilslice,.int .i64 (2),.nilslice])::M32
theorem g33:Good M33:=qz g32 (by kernel_rfl)
def M34:vI:=(148,[.agg [.int .i64 (0),.nilslice,.int .i64 (1),.nilslice],.agg [.int .i64 (-1),.nilslice,.int .i64 (2),.nilslice]],.agg [.int .i64 (-1),.nilslice,.int .i64 (2),.nilslice])::M33
theorem g34:Good M34:=qz g33 (by kernel_rfl)
def M35:vI:=(148,[.agg [.int .i64 (2),.nilslice,.int .i64 (1),.nilslice],.agg [.int .i64 (-1),.nilslice,.int .i64 (2),.nilslice]],.agg [.int .i64 (3),.nilslice,.int .i64 (2),.nilslice])::M34
theorem g35:Good M35:=qz g34 (by kernel_rfl)
def M36:vI:=(147,[.agg [.int .i64 (1),.nilslice,.int .i64 (4),.nilslice],.agg [.int .i64 (1),.nilslice,.int .i64 (2),.nilslice]],.agg [.int .i64 (1),.nilslice,.int .i64 (8),.nilslice])::M35
theorem g36:Good M36:=qz g35 (by kernel_rfl)
def M37:vI:=(148,[.agg [.int .i64 (0),.nilslice,.int .i64 (1),.nilslice],.agg [.int .i64 (1),.nilslice,.int .i64 (8),.nilslice]],.agg [.int .i64 (1),.nilslice,.int .i64 (8),.nilslice])::M36
theorem g37:Good M37:=qz g36 (by kernel_rfl)
def M38:vI:=(148,[.agg [.int .i64 (1),.nilslice,.int .i64 (1),.nilslice],.agg [.int .i64 (1),.nilslice,.int .i64 (8),.nilslice]],.agg [.int .i64 (9),.nilslice,.int .i64 (8),.nilslice])::M37
theorem g38:Good M38:=qz g37 (by kernel_rfl)
def M39:vI:=(75,[.int .i64 (3),.fslice 6 [.int .i64 (1),.int .i64 (-2),.int .i64 (1),.int .i64 (-2),.int .i64 (1),.int .i64 (-2)],.agg [.int .i64 (2),.nilslice,.int .i64 (1),.nilslice]],.fslice 3 [.fslice 3 [.int .i64 (0),.nilslice,.int .i64 (1),.nilslice,.int .i64 (-1),.nilslice,.int .i64 (2),.nilslice,.int .i64 (3),.nilslice,.int .i64 (2),.nilslice],.fslice 3 [.int .i64 (1),.nilslice,.int .i64 (1),.nilslice,.int .i64 (1),.nilslice,.int .i64 (1),.nilslice,.int .i64 (-1),.nilslice,.int .i64 (1),.nilslice],.fslice 3 [.int .i64 (-1),.nilslice,.int .i64 (4),.nilslice,.int .i64 (1),.nilslice,.int .i64 (8),.nilslice,.int .i64 (9),.nilslice,.int .i64 (8),.nilslice]])::M38
theorem g39:Good M39:=qz g38 (by kernel_rfl)
def M40:vI:=(75,[.int .i64 (3),.nilslice,.agg [.int .i64 (2),.nilslice,.int .i64 (1),.nilslice]],.fslice 3 [.fslice 3 [.int .i64 (1),.nilslice,.int .i64 (1),.nilslice,.int .i64 (0),.nilslice,.int .i64 (1),.nilslice,.int .i64 (0),.nilslice,.int .i64 (1),.nilslice],.fslice 3 [.int .i64 (0),.nilslice,.int .i64 (1),.nilslice,.int .i64 (1),.nilslice,.int .i64 (1),.nilslice,.int .i64 (0),.nilslice,.int .i64 (1),.nilslice],.fslice 3 [.int .i64 (0),.nilslice,.int .i64 (1),.nilslice,.int .i64 (0),.nilslice,.int .i64 (1),.nilslice,.int .i64 (1),.nilslice,.int .i64 (1),.nilslice]])::M39
theorem g40:Good M40:=qz g39 (by kernel_rfl)
def M41:vI:=(23,[.int .i64 (3),.fslice 6 [.int .i64 (1),.int .i64 (-2),.int .i64 (1),.int .i64 (-2),.int .i64 (1),.int .i64 (-2)],.nilslice],.tuple [.str [98,117,114,97,117],.int .i64 (0)])::M40
theorem g41:Good M41:=qz g40 (by kernel_rfl)
def M42:vI:=(42,[.int .i64 (2),.fslice 3 [.int .i64 (1),.int .i64 (1),.int .i64 (1)]],.tuple [.fslice 1 [.fslice 2 [.int .i64 (0),.int .i64 (1)]],.int .i64 (0)])::M41
theorem g42:Good M42:=qz g41 (by kernel_rfl)
def M43:vI:=(10,[.int .i64 (3),.fslice 3 [.int .i64 (1),.int .i64 (2),.int .i64 (1)],.fslice 1 [.str [116,117,114,110],.int .i64 (0),.int .i64 (0)]],.tuple [.fslice 3 [.int .i64 (2),.int .i64 (1),.int .i64 (2)],.int .i64 (0)])::M42
theorem g43:Good M43:=qz g42 (by kernel_rfl)
def M44:vI:=(47,[.int .i64 (3),.fslice 3 [.int .i64 (1),.int .i64 (2),.int .i64 (-1)]],.agg [.int .i64 (-1),.fslice 2 [.fslice 3 [.int .i64 (1),.int .i64 (2),.int .i64 (0)],.fslice 3 [.int .i64 (2),.int .i64 (0),.int .i64 (1)]]])::M43
theorem g44:Good M44:=qz g43 (by kernel_rfl)
def M45:vI:=(47,[.int .i64 (3),.fslice 3 [.int .i64 (-2),.int .i64 (1),.int .i64 (2)]],.agg [.int .i64 (-1),.fslice 2 [.fslice 3 [.int .i64 (1),.int .i64 (2),.int .i64 (0)],.fslice 3 [.int .i64 (2),.int .i64 (0),.int .i64 (1)]]])::M44
theorem g45:Good M45:=qz g44 (by kernel_rfl)
def M46:vI:=(22,[.int .i64 (3),.fslice 3 [.int .i64 (1),.int .i64 (2),.int .i64 (-1)],.fslice 3 [.int .i64 (-2),.int .i64 (1),.int .i64 (2)]],.tuple [.fslice 9 [.str [105,110,115,101,114,116],.int .i64 (3),.int .i64 (-2),.str [105,110,115,101,114,116],.int .i64 (4),.int .i64 (-1),.str [105,110,115,101,114,116],.int .i64 (5),.int .i64 (2),.str [105,110,115,101,114,116],.int .i64 (2),.int .i64 (-1),.str [116,117,114,110],.int .i64 (0),.int .i64 (0),.str [99,97,110,99,101,108],.int .i64 (3),.int .i64 (0),.str [99,97,110,99,101,108],.int .i64 (2),.int .i64 (0),.str [99,97,110,99,101,108],.int .i64 (1),.int .i64 (0),.str [99,97,110,99,101,108],.int .i64 (0),.int .i64 (0)],.int .i64 (0)])::M45
theorem g46:Good M46:=qz g45 (by kernel_rfl)
def M47:vI:=(44,[.int .i64 (3),.fslice 3 [.int .i64 (1),.int .i64 (2),.int .i64 (-1)],.fslice 9 [.str [105,110,115,101,114,116],.int .i64 (3),.int .i64 (-2),.str [105,110,115,101,114,116],.int .i64 (4),.int .i64 (-1),.str [105,110,115,101,114,116],.int .i64 (5),.int .i64 (2),.str [105,110,115,101,114,116],.int .i64 (2),.int .i64 (-1),.str [116,117,114,110],.int .i64 (0),.int .i64 (0),.str [99,97,110,99,101,108],.int .i64 (3),.int .i64 (0),.str [99,97,110,99,101,108],.int .i64 (2),.int .i64 (0),.str [99,97,110,99,101,108],.int .i64 (1),.int .i64 (0),.str [99,97,110,99,101,108],.int .i64 (0),.int .i64 (0)]],.tuple [.fslice 3 [.int .i64 (-2),.int .i64 (1),.int .i64 (2)],.int .i64 (0)])::M46
theorem g47:Good M47:=qz g46 (by kernel_rfl)
def M48:vI:=(20,[.int .i64 (3),.fslice 3 [.int .i64 (1),.int .i64 (2),.int .i64 (-1)],.fslice 3 [.int .i64 (-2),.int .i64 (1),.int .i64 (2)],.fslice 9 [.str [105,110,115,101,114,116],.int .i64 (3),.int .i64 (-2),.str [105,110,115,101,114,116],.int .i64 (4),.int .i64 (-1),.str [105,110,115,101,114,116],.int .i64 (5),.int .i64 (2),.str [105,110,115,101,114,116],.int .i64 (2),.int .i64 (-1),.str [116,117,114,110],.int .i64 (0),.int .i64 (0),.str [99,97,110,99,101,108],.int .i64 (3),.int .i64 (0),.str [99,97,110,99,101,108],.int .i64 (2),.int .i64 (0),.str [99,97,110,99,101,108],.int .i64 (1),.int .i64 (0),.str [99,97,110,99,101,108],.int .i64 (0),.int .i64 (0)]],.int .i64 (0))::M47
theorem g48:Good M48:=qz g47 (by kernel_rfl)
theorem qpt:okM (qq3 M48 (.fn 6) [] []) (.bool true)=true:=by kernel_rfl
theorem qsD:qb Tryz.prog (.fn 6) [] [] (.bool true) []:=qmk g48 _ _ _ _ _ (qrT qpt)
end Go.Av
