/-
  The examples that every statement of the chapter checks: they hold. By running the evaluator in the kernel, call by call.
-/
import Derived.Test.YtbpkolibdibmeaaGreatAvMtA1
import Derived.Test.YtbpkolibdibmeaaGreatAvRp
noncomputable section
namespace Go.Av
open Go.Proofs
set_option maxRecDepth 100000
theorem fol01:Tryz.prog.follows .mixedOrders=true:=by kernel_rfl
def pl01 (f:FuncId):Bool:=Nat.beq (Nat.land (Nat.shiftRight 58525620473509973415452372413515300864 f) 1) 0
def okM (r:Option (AV×Heap)) (v:AV):Bool:=match r with
 |some (w,[])=>qb5 30 w v
 |_=>false
theorem qtf {r:Option (AV×Heap)} {v:AV} (h:okM r v=true):r=some (v,[]):=by
 unfold okM at h;split at h
 ·rw[qiU 30 _ _ h]
 cases h
def qso:jh:=fun c args A=>match c with
 | .fn 111=>qn3 args A
 | .fn 83=>repA args A
 |_=>none
theorem qsU:zI Tryz.prog qso:=by
 intro c args A v A' h;unfold qso at h;split at h
 ·exact qlD h
 ·exact qtt h
 cases h
abbrev qaY:=List (FuncId×List AV×AV)
def qsX (M:qaY):jh:=qru Tryz.prog 3000 mtT qso (orElse (memo M) quQ) pl01 40
def Good (M:qaY):Prop:= ∀e∈M,qc Tryz.prog (.fn e.1) e.2.1 [] e.2.2 []
theorem ql9 {M:qaY} (h:Good M):zI Tryz.prog (qsX M):=qrs fol01 mt_ok qsU (qp4 (qtY h) qrG) _
theorem qsL:Good []:=by intro e h;cases h
theorem qV {M:qaY} {f:FuncId} {args:List AV} {v:AV} (h:Good M) (hr:okM (qsX M (.fn f) args []) v=true):Good ((f,args,v)::M):=by
 intro e he;rcases List.mem_cons.1 he with rfl|he
 ·exact ql9 h _ _ _ _ _ (qtf hr)
 exact h e he
def M0:qaY:=[]
theorem g0:Good M0:=qsL
def M1:qaY:=(42,[.int .i64 (3),.fslice 6 [.int .i64 (1),.int .i64 (-2),.int .i64 (1),.int .i64 (-2),.int .i64 (1),.int .i64 (-2)]],.fslice 3 [.int .i64 (0),.int .i64 (1),.int .i64 (2)])::M0
theorem g1:Good M1:=qV g0 (by kernel_rfl)
def M2:qaY:=(53,[.int .i64 (3),.fslice 6 [.int .i64 (1),.int .i64 (-2),.int .i64 (1),.int .i64 (-2),.int .i64 (1),.int .i64 (-2)]],.fslice 3 [.fslice 3 [.int .i64 (0),.int .i64 (0),.int .i64 (0)],.fslice 3 [.int .i64 (0),.int .i64 (0),.int .i64 (0)],.fslice 3 [.int .i64 (0),.int .i64 (0),.int .i64 (0)]])::M1
theorem g2:Good M2:=qV g1 (by kernel_rfl)
def M3:qaY:=(88,[.agg [.int .i64 (1),.nilslice,.int .i64 (1),.nilslice],.agg [.int .i64 (-1),.nilslice,.int .i64 (2),.nilslice]],.agg [.int .i64 (1),.nilslice,.int .i64 (2),.nilslice])::M2
theorem g3:Good M3:=qV g2 (by kernel_rfl)
def M4:qaY:=(86,[.int .i64 (-2),.agg [.int .i64 (2),.nilslice,.int .i64 (1),.nilslice]],.agg [.int .i64 (0),.nilslice,.int .i64 (1),.nilslice,.int .i64 (1),.nilslice,.int .i64 (1),.nilslice,.int .i64 (1),.nilslice,.int .i64 (2),.nilslice,.int .i64 (1),.nilslice,.int .i64 (2),.nilslice])::M3
theorem g4:Good M4:=qV g3 (by kernel_rfl)
def M5:qaY:=(87,[.agg [.int .i64 (0),.nilslice,.int .i64 (1),.nilslice],.agg [.int .i64 (1),.nilslice,.int .i64 (2),.nilslice]],.agg [.int .i64 (0),.nilslice,.int .i64 (1),.nilslice])::M4
theorem g5:Good M5:=qV g4 (by kernel_rfl)
def M6:qaY:=(87,[.agg [.int .i64 (1),.nilslice,.int .i64 (1),.nilslice],.agg [.int .i64 (1),.nilslice,.int .i64 (2),.nilslice]],.agg [.int .i64 (1),.nilslice,.int .i64 (2),.nilslice])::M5
theorem g6:Good M6:=qV g5 (by kernel_rfl)
def M7:qaY:=(88,[.agg [.int .i64 (0),.nilslice,.int .i64 (1),.nilslice],.agg [.int .i64 (1),.nilslice,.int .i64 (2),.nilslice]],.agg [.int .i64 (1),.nilslice,.int .i64 (2),.nilslice])::M6
theorem g7:Good M7:=qV g6 (by kernel_rfl)
def M8:qaY:=(87,[.agg [.int .i64 (1),.nilslice,.int .i64 (2),.nilslice],.agg [.int .i64 (1),.nilslice,.int .i64 (1),.nilslice]],.agg [.int .i64 (1),.nilslice,.int .i64 (2),.nilslice])::M7
theorem g8:Good M8:=qV g7 (by kernel_rfl)
def M9:qaY:=(87,[.agg [.int .i64 (1),.nilslice,.int .i64 (2),.nilslice],.agg [.int .i64 (0),.nilslice,.int .i64 (1),.nilslice]],.agg [.int .i64 (0),.nilslice,.int .i64 (1),.nilslice])::M8
theorem g9:Good M9:=qV g8 (by kernel_rfl)
def M10:qaY:=(87,[.agg [.int .i64 (2),.nilslice,.int .i64 (1),.nilslice],.agg [.int .i64 (1),.nilslice,.int .i64 (2),.nilslice]],.agg [.int .i64 (1),.nilslice,.int .i64 (1),.nilslice])::M9
theorem g10:Good M10:=qV g9 (by kernel_rfl)
def M11:qaY:=(87,[.agg [.int .i64 (1),.nilslice,.int .i64 (2),.nilslice],.agg [.int .i64 (1),.nilslice,.int .i64 (2),.nilslice]],.agg [.int .i64 (1),.nilslice,.int .i64 (4),.nilslice])::M10
theorem g11:Good M11:=qV g10 (by kernel_rfl)
def M12:qaY:=(88,[.agg [.int .i64 (0),.nilslice,.int .i64 (1),.nilslice],.agg [.int .i64 (1),.nilslice,.int .i64 (4),.nilslice]],.agg [.int .i64 (1),.nilslice,.int .i64 (4),.nilslice])::M11
theorem g12:Good M12:=qV g11 (by kernel_rfl)
def M13:qaY:=(87,[.agg [.int .i64 (1),.nilslice,.int .i64 (2),.nilslice],.agg [.int .i64 (-1),.nilslice,.int .i64 (1),.nilslice]],.agg [.int .i64 (-1),.nilslice,.int .i64 (2),.nilslice])::M12
theorem g13:Good M13:=qV g12 (by kernel_rfl)
def M14:qaY:=(87,[.agg [.int .i64 (1),.nilslice,.int .i64 (4),.nilslice],.agg [.int .i64 (1),.nilslice,.int .i64 (1),.nilslice]],.agg [.int .i64 (1),.nilslice,.int .i64 (4),.nilslice])::M13
theorem g14:Good M14:=qV g13 (by kernel_rfl)
def M15:qaY:=(88,[.agg [.int .i64 (-1),.nilslice,.int .i64 (2),.nilslice],.agg [.int .i64 (1),.nilslice,.int .i64 (4),.nilslice]],.agg [.int .i64 (-1),.nilslice,.int .i64 (4),.nilslice])::M14
theorem g15:Good M15:=qV g14 (by kernel_rfl)
def M16:qaY:=(87,[.agg [.int .i64 (1),.nilslice,.int .i64 (2),.nilslice],.agg [.int .i64 (2),.nilslice,.int .i64 (1),.nilslice]],.agg [.int .i64 (1),.nilslice,.int .i64 (1),.nilslice])::M15
theorem g16:Good M16:=qV g15 (by kernel_rfl)
def M17:qaY:=(87,[.agg [.int .i64 (1),.nilslice,.int .i64 (4),.nilslice],.agg [.int .i64 (0),.nilslice,.int .i64 (1),.nilslice]],.agg [.int .i64 (0),.nilslice,.int .i64 (1),.nilslice])::M16
theorem g17:Good M17:=qV g16 (by kernel_rfl)
def M18:qaY:=(87,[.agg [.int .i64 (-1),.nilslice,.int .i64 (1),.nilslice],.agg [.int .i64 (1),.nilslice,.int .i64 (2),.nilslice]],.agg [.int .i64 (-1),.nilslice,.int .i64 (2),.nilslice])::M17
theorem g18:Good M18:=qV g17 (by kernel_rfl)
def M19:qaY:=(88,[.agg [.int .i64 (0),.nilslice,.int .i64 (1),.nilslice],.agg [.int .i64 (-1),.nilslice,.int .i64 (2),.nilslice]],.agg [.int .i64 (-1),.nilslice,.int .i64 (2),.nilslice])::M18
theorem g19:Good M19:=qV g18 (by kernel_rfl)
def M20:qaY:=(88,[.agg [.int .i64 (2),.nilslice,.int .i64 (1),.nilslice],.agg [.int .i64 (-1),.nilslice,.int .i64 (2),.nilslice]],.agg [.int .i64 (3),.nilslice,.int .i64 (2),.nilslice])::M19
theorem g20:Good M20:=qV g19 (by kernel_rfl)
def M21:qaY:=(87,[.agg [.int .i64 (1),.nilslice,.int .i64 (4),.nilslice],.agg [.int .i64 (1),.nilslice,.int .i64 (2),.nilslice]],.agg [.int .i64 (1),.nilslice,.int .i64 (8),.nilslice])::M20
theorem g21:Good M21:=qV g20 (by kernel_rfl)
def M22:qaY:=(88,[.agg [.int .i64 (0),.nilslice,.int .i64 (1),.nilslice],.agg [.int .i64 (1),.nilslice,.int .i64 (8),.nilslice]],.agg [.int .i64 (1),.nilslice,.int .i64 (8),.nilslice])::M21
theorem g22:Good M22:=qV g21 (by kernel_rfl)
def M23:qaY:=(88,[.agg [.int .i64 (1),.nilslice,.int .i64 (1),.nilslice],.agg [.int .i64 (1),.nilslice,.int .i64 (8),.nilslice]],.agg [.int .i64 (9),.nilslice,.int .i64 (8),.nilslice])::M22
theorem g23:Good M23:=qV g22 (by kernel_rfl)
def M24:qaY:=(55,[.int .i64 (3),.fslice 6 [.int .i64 (1),.int .i64 (-2),.int .i64 (1),.int .i64 (-2),.int .i64 (1),.int .i64 (-2)],.agg [.int .i64 (2),.nilslice,.int .i64 (1),.nilslice]],.fslice 3 [.fslice 3 [.int .i64 (0),.nilslice,.int .i64 (1),.nilslice,.int .i64 (-1),.nilslice,.int .i64 (2),.nilslice,.int .i64 (3),.nilslice,.int .i64 (2),.nilslice],.fslice 3 [.int .i64 (1),.nilslice,.int .i64 (1),.nilslice,.int .i64 (1),.nilslice,.int .i64 (1),.nilslice,.int .i64 (-1),.nilslice,.int .i64 (1),.nilslice],.fslice 3 [.int .i64 (-1),.nilslice,.int .i64 (4),.nilslice,.int .i64 (1),.nilslice,.int .i64 (8),.nilslice,.int .i64 (9),.nilslice,.int .i64 (8),.nilslice]])::M23
theorem g24:Good M24:=qV g23 (by kernel_rfl)
def M25:qaY:=(55,[.int .i64 (3),.nilslice,.agg [.int .i64 (2),.nilslice,.int .i64 (1),.nilslice]],.fslice 3 [.fslice 3 [.int .i64 (1),.nilslice,.int .i64 (1),.nilslice,.int .i64 (0),.nilslice,.int .i64 (1),.nilslice,.int .i64 (0),.nilslice,.int .i64 (1),.nilslice],.fslice 3 [.int .i64 (0),.nilslice,.int .i64 (1),.nilslice,.int .i64 (1),.nilslice,.int .i64 (1),.nilslice,.int .i64 (0),.nilslice,.int .i64 (1),.nilslice],.fslice 3 [.int .i64 (0),.nilslice,.int .i64 (1),.nilslice,.int .i64 (0),.nilslice,.int .i64 (1),.nilslice,.int .i64 (1),.nilslice,.int .i64 (1),.nilslice]])::M24
theorem g25:Good M25:=qV g24 (by kernel_rfl)
def M26:qaY:=(10,[.int .i64 (3),.fslice 6 [.int .i64 (1),.int .i64 (-2),.int .i64 (1),.int .i64 (-2),.int .i64 (1),.int .i64 (-2)],.nilslice],.tuple [.str [98,117,114,97,117],.int .i64 (0)])::M25
theorem g26:Good M26:=qV g25 (by kernel_rfl)
def M27:qaY:=(22,[.int .i64 (3),.fslice 6 [.int .i64 (1),.int .i64 (2),.int .i64 (1),.int .i64 (2),.int .i64 (1),.int .i64 (2)],.fslice 6 [.int .i64 (2),.int .i64 (1),.int .i64 (2),.int .i64 (1),.int .i64 (2),.int .i64 (1)]],.int .i64 (0))::M26
theorem g27:Good M27:=qV g26 (by kernel_rfl)
def M28:qaY:=(43,[.int .i64 (3),.fslice 6 [.int .i64 (1),.int .i64 (2),.int .i64 (1),.int .i64 (2),.int .i64 (1),.int .i64 (2)]],.agg [.int .i64 (2),.nilslice])::M27
theorem g28:Good M28:=qV g27 (by kernel_rfl)
def M29:qaY:=(43,[.int .i64 (3),.fslice 6 [.int .i64 (2),.int .i64 (1),.int .i64 (2),.int .i64 (1),.int .i64 (2),.int .i64 (1)]],.agg [.int .i64 (2),.nilslice])::M28
theorem g29:Good M29:=qV g28 (by kernel_rfl)
def M30:qaY:=(9,[.int .i64 (3),.fslice 6 [.int .i64 (1),.int .i64 (2),.int .i64 (1),.int .i64 (2),.int .i64 (1),.int .i64 (2)],.fslice 6 [.int .i64 (2),.int .i64 (1),.int .i64 (2),.int .i64 (1),.int .i64 (2),.int .i64 (1)]],.tuple [.fslice 18 [.str [105,110,115,101,114,116],.int .i64 (6),.int .i64 (-1),.str [105,110,115,101,114,116],.int .i64 (7),.int .i64 (-2),.str [105,110,115,101,114,116],.int .i64 (8),.int .i64 (-1),.str [105,110,115,101,114,116],.int .i64 (9),.int .i64 (-2),.str [105,110,115,101,114,116],.int .i64 (10),.int .i64 (-1),.str [105,110,115,101,114,116],.int .i64 (11),.int .i64 (-2),.str [105,110,115,101,114,116],.int .i64 (6),.int .i64 (-1),.str [116,117,114,110],.int .i64 (4),.int .i64 (0),.str [99,97,110,99,101,108],.int .i64 (7),.int .i64 (0),.str [99,97,110,99,101,108],.int .i64 (3),.int .i64 (0),.str [99,97,110,99,101,108],.int .i64 (4),.int .i64 (0),.str [99,97,110,99,101,108],.int .i64 (3),.int .i64 (0),.str [105,110,115,101,114,116],.int .i64 (4),.int .i64 (-1),.str [116,117,114,110],.int .i64 (2),.int .i64 (0),.str [99,97,110,99,101,108],.int .i64 (5),.int .i64 (0),.str [99,97,110,99,101,108],.int .i64 (1),.int .i64 (0),.str [99,97,110,99,101,108],.int .i64 (0),.int .i64 (0),.str [99,97,110,99,101,108],.int .i64 (0),.int .i64 (0)],.int .i64 (0)])::M29
theorem g30:Good M30:=qV g29 (by kernel_rfl)
def M31:qaY:=(35,[.int .i64 (3),.fslice 6 [.int .i64 (1),.int .i64 (2),.int .i64 (1),.int .i64 (2),.int .i64 (1),.int .i64 (2)],.fslice 18 [.str [105,110,115,101,114,116],.int .i64 (6),.int .i64 (-1),.str [105,110,115,101,114,116],.int .i64 (7),.int .i64 (-2),.str [105,110,115,101,114,116],.int .i64 (8),.int .i64 (-1),.str [105,110,115,101,114,116],.int .i64 (9),.int .i64 (-2),.str [105,110,115,101,114,116],.int .i64 (10),.int .i64 (-1),.str [105,110,115,101,114,116],.int .i64 (11),.int .i64 (-2),.str [105,110,115,101,114,116],.int .i64 (6),.int .i64 (-1),.str [116,117,114,110],.int .i64 (4),.int .i64 (0),.str [99,97,110,99,101,108],.int .i64 (7),.int .i64 (0),.str [99,97,110,99,101,108],.int .i64 (3),.int .i64 (0),.str [99,97,110,99,101,108],.int .i64 (4),.int .i64 (0),.str [99,97,110,99,101,108],.int .i64 (3),.int .i64 (0),.str [105,110,115,101,114,116],.int .i64 (4),.int .i64 (-1),.str [116,117,114,110],.int .i64 (2),.int .i64 (0),.str [99,97,110,99,101,108],.int .i64 (5),.int .i64 (0),.str [99,97,110,99,101,108],.int .i64 (1),.int .i64 (0),.str [99,97,110,99,101,108],.int .i64 (0),.int .i64 (0),.str [99,97,110,99,101,108],.int .i64 (0),.int .i64 (0)]],.tuple [.fslice 6 [.int .i64 (2),.int .i64 (1),.int .i64 (2),.int .i64 (1),.int .i64 (2),.int .i64 (1)],.int .i64 (0)])::M30
theorem g31:Good M31:=qV g30 (by kernel_rfl)
theorem qqq:okM (qsX M31 (.fn 5) [] []) (.bool true)=true:=by kernel_rfl
theorem qur:qc Tryz.prog (.fn 5) [] [] (.bool true) []:=ql9 g31 _ _ _ _ _ (qtf qqq)
end Go.Av
