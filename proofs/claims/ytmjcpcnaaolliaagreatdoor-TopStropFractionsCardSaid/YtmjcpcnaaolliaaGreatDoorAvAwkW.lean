/-
  The examples that every statement of the chapter checks: they hold. By running the evaluator in the kernel, call by call.
-/
import Derived.Test.YtmjcpcnaaolliaaGreatDoorAvMtM
noncomputable section
namespace Go.Av
open Go.Proofs
set_option maxRecDepth 100000
theorem fol01:Tryz.prog.follows .mixedOrders=true:=by kernel_rfl
def pl01 (f:FuncId):Bool:=Nat.beq (Nat.land (Nat.shiftRight 365202951899730343771425232866282925866583665533175459478879631700931255567684441816819762387029827428907220992 f) 1) 0
def okM (r:Option (AV×Heap)) (v:AV):Bool:=match r with
 |some (w,[])=>qa7 30 w v
 |_=>false
theorem qol {r:Option (AV×Heap)} {v:AV} (h:okM r v=true):r=some (v,[]):=by
 unfold okM at h
 split at h
 ·rw[qhO 30 _ _ h]
 cases h
abbrev jH:=List (FuncId×List AV×AV)
def qnq (M:jH):zi:=qnJ Tryz.prog 3000 mtT insC (orElse (memo M) qmO) pl01 40
def Good (M:jH):Prop:= ∀e∈M,qb Tryz.prog (.fn e.1) e.2.1 [] e.2.2 []
theorem qko {M:jH} (h:Good M):qP Tryz.prog (qnq M):=qnL fol01 mt_ok qpn (qis (qoW h) qmf) _
theorem qnZ:Good []:=by intro e h;cases h
theorem qw {M:jH} {f:FuncId} {args:List AV} {v:AV} (h:Good M) (hr:okM (qnq M (.fn f) args []) v=true):Good ((f,args,v)::M):=by
 intro e he
 rcases List.mem_cons.1 he with rfl|he
 ·exact qko h _ _ _ _ _ (qol hr)
 exact h e he
def M0:jH:=[]
theorem g0:Good M0:=qnZ
def M1:jH:=(61,[.str [51,49]],.agg [.int .i64 (31),.nilslice])::M0
theorem g1:Good M1:=qw g0 (by kernel_rfl)
def M2:jH:=(61,[.str [49,48]],.agg [.int .i64 (10),.nilslice])::M1
theorem g2:Good M2:=qw g1 (by kernel_rfl)
def M3:jH:=(63,[.agg [.int .i64 (31),.nilslice,.int .i64 (10),.nilslice],.agg [.int .i64 (16),.nilslice,.int .i64 (5),.nilslice]],.tuple [.agg [.str [51,49,47,49,48],.str [49,54,47,53]],.int .i64 (0)])::M2
theorem g3:Good M3:=qw g2 (by kernel_rfl)
def M4:jH:=(8,[.int .i64 (1)],.tuple [.agg [.str [51,49,47,49,48],.str [49,54,47,53]],.int .i64 (0)])::M3
theorem g4:Good M4:=qw g3 (by kernel_rfl)
def M5:jH:=(80,[.str [49,48]],.int .i64 (0))::M4
theorem g5:Good M5:=qw g4 (by kernel_rfl)
def M6:jH:=(122,[.agg [.str [49,48],.str [49,48]]],.int .i64 (0))::M5
theorem g6:Good M6:=qw g5 (by kernel_rfl)
def M7:jH:=(80,[.str [51,49,47,49,48]],.int .i64 (0))::M6
theorem g7:Good M7:=qw g6 (by kernel_rfl)
def M8:jH:=(61,[.str [49,54]],.agg [.int .i64 (16),.nilslice])::M7
theorem g8:Good M8:=qw g7 (by kernel_rfl)
def M9:jH:=(80,[.str [49,54,47,53]],.int .i64 (0))::M8
theorem g9:Good M9:=qw g8 (by kernel_rfl)
def M10:jH:=(83,[.str [49,54,47,53]],.agg [.int .i64 (16),.nilslice,.int .i64 (5),.nilslice])::M9
theorem g10:Good M10:=qw g9 (by kernel_rfl)
def M11:jH:=(75,[.agg [.int .i64 (10),.nilslice,.int .i64 (1),.nilslice],.agg [.int .i64 (31),.nilslice,.int .i64 (10),.nilslice]],.agg [.int .i64 (31),.nilslice,.int .i64 (1),.nilslice])::M10
theorem g11:Good M11:=qw g10 (by kernel_rfl)
def M12:jH:=(75,[.agg [.int .i64 (10),.nilslice,.int .i64 (1),.nilslice],.agg [.int .i64 (16),.nilslice,.int .i64 (5),.nilslice]],.agg [.int .i64 (32),.nilslice,.int .i64 (1),.nilslice])::M11
theorem g12:Good M12:=qw g11 (by kernel_rfl)
def M13:jH:=(63,[.agg [.int .i64 (31),.nilslice,.int .i64 (1),.nilslice],.agg [.int .i64 (32),.nilslice,.int .i64 (1),.nilslice]],.tuple [.agg [.str [51,49],.str [51,50]],.int .i64 (0)])::M12
theorem g13:Good M13:=qw g12 (by kernel_rfl)
def M14:jH:=(124,[.agg [.str [49,48],.str [49,48]],.agg [.str [51,49,47,49,48],.str [49,54,47,53]],.func (.func 75) [] []],.tuple [.agg [.str [51,49],.str [51,50]],.int .i64 (0)])::M13
theorem g14:Good M14:=qw g13 (by kernel_rfl)
def M15:jH:=(74,[.agg [.str [49,48],.str [49,48]],.agg [.str [51,49,47,49,48],.str [49,54,47,53]],.func (.func 75) [] []],.tuple [.agg [.str [51,49],.str [51,50]],.int .i64 (0)])::M14
theorem g15:Good M15:=qw g14 (by kernel_rfl)
def M16:jH:=(75,[.agg [.int .i64 (1),.nilslice,.int .i64 (1),.nilslice],.agg [.int .i64 (1),.nilslice,.int .i64 (2),.nilslice]],.agg [.int .i64 (1),.nilslice,.int .i64 (2),.nilslice])::M15
theorem g16:Good M16:=qw g15 (by kernel_rfl)
def M17:jH:=(64,[.agg [.int .i64 (2),.nilslice],.agg [.int .i64 (3),.nilslice]],.agg [.int .i64 (2),.nilslice,.int .i64 (3),.nilslice])::M16
theorem g17:Good M17:=qw g16 (by kernel_rfl)
def M18:jH:=(88,[.agg [.int .i64 (2),.nilslice,.int .i64 (1),.nilslice],.agg [.int .i64 (3),.nilslice,.int .i64 (1),.nilslice]],.agg [.int .i64 (2),.nilslice,.int .i64 (3),.nilslice])::M17
theorem g18:Good M18:=qw g17 (by kernel_rfl)
def M19:jH:=(75,[.agg [.int .i64 (6),.nilslice,.int .i64 (1),.nilslice],.agg [.int .i64 (1),.nilslice,.int .i64 (4),.nilslice]],.agg [.int .i64 (3),.nilslice,.int .i64 (2),.nilslice])::M18
theorem g19:Good M19:=qw g18 (by kernel_rfl)
def M20:jH:=(49,[.fslice 9 [.int .i64 (1),.int .i64 (0),.int .i64 (3),.int .i64 (4),.int .i64 (2),.int .i64 (6),.int .i64 (7),.int .i64 (8),.int .i64 (5)]],.tuple [.str [49,50],.int .i64 (0)])::M19
theorem g20:Good M20:=qw g19 (by kernel_rfl)
def M21:jH:=(146,[.agg [.int .i64 (10),.nilslice],.int .i64 (5)],.agg [.int .i64 (100000),.nilslice])::M20
theorem g21:Good M21:=qw g20 (by kernel_rfl)
def M22:jH:=(156,[.agg [.int .i64 (31415),.nilslice],.agg [.int .i64 (10000),.nilslice]],.agg [.int .i64 (5),.nilslice])::M21
theorem g22:Good M22:=qw g21 (by kernel_rfl)
def M23:jH:=(64,[.agg [.int .i64 (31416),.nilslice],.agg [.int .i64 (10000),.nilslice]],.agg [.int .i64 (3927),.nilslice,.int .i64 (1250),.nilslice])::M22
theorem g23:Good M23:=qw g22 (by kernel_rfl)
def M24:jH:=(63,[.agg [.int .i64 (6283),.nilslice,.int .i64 (2000),.nilslice],.agg [.int .i64 (3927),.nilslice,.int .i64 (1250),.nilslice]],.tuple [.agg [.str [54,50,56,51,47,50,48,48,48],.str [51,57,50,55,47,49,50,53,48]],.int .i64 (0)])::M23
theorem g24:Good M24:=qw g23 (by kernel_rfl)
def M25:jH:=(8,[.int .i64 (4)],.tuple [.agg [.str [54,50,56,51,47,50,48,48,48],.str [51,57,50,55,47,49,50,53,48]],.int .i64 (0)])::M24
theorem g25:Good M25:=qw g24 (by kernel_rfl)
def M26:jH:=(61,[.str [54,50,56,51]],.agg [.int .i64 (6283),.nilslice])::M25
theorem g26:Good M26:=qw g25 (by kernel_rfl)
def M27:jH:=(61,[.str [50,48,48,48]],.agg [.int .i64 (2000),.nilslice])::M26
theorem g27:Good M27:=qw g26 (by kernel_rfl)
def M28:jH:=(156,[.agg [.int .i64 (6283),.nilslice],.agg [.int .i64 (2000),.nilslice]],.agg [.int .i64 (1),.nilslice])::M27
theorem g28:Good M28:=qw g27 (by kernel_rfl)
def M29:jH:=(80,[.str [54,50,56,51,47,50,48,48,48]],.int .i64 (0))::M28
theorem g29:Good M29:=qw g28 (by kernel_rfl)
def M30:jH:=(85,[.agg [.int .i64 (1),.nilslice,.int .i64 (1),.nilslice,.int .i64 (0),.nilslice,.int .i64 (1),.nilslice],.agg [.int .i64 (3),.nilslice,.int .i64 (1),.nilslice],.agg [.int .i64 (0),.nilslice,.int .i64 (1),.nilslice,.int .i64 (1),.nilslice,.int .i64 (1),.nilslice]],.agg [.int .i64 (3),.nilslice,.int .i64 (1),.nilslice,.int .i64 (1),.nilslice,.int .i64 (1),.nilslice])::M29
theorem g30:Good M30:=qw g29 (by kernel_rfl)
def M31:jH:=(156,[.agg [.int .i64 (283),.nilslice],.agg [.int .i64 (2000),.nilslice]],.agg [.int .i64 (1),.nilslice])::M30
theorem g31:Good M31:=qw g30 (by kernel_rfl)
def M32:jH:=(76,[.agg [.int .i64 (6283),.nilslice,.int .i64 (2000),.nilslice],.agg [.int .i64 (-3),.nilslice,.int .i64 (1),.nilslice]],.agg [.int .i64 (283),.nilslice,.int .i64 (2000),.nilslice])::M31
theorem g32:Good M32:=qw g31 (by kernel_rfl)
def M33:jH:=(64,[.agg [.int .i64 (2000),.nilslice],.agg [.int .i64 (283),.nilslice]],.agg [.int .i64 (2000),.nilslice,.int .i64 (283),.nilslice])::M32
theorem g33:Good M33:=qw g32 (by kernel_rfl)
def M34:jH:=(85,[.agg [.int .i64 (3),.nilslice,.int .i64 (1),.nilslice,.int .i64 (1),.nilslice,.int .i64 (1),.nilslice],.agg [.int .i64 (7),.nilslice,.int .i64 (1),.nilslice],.agg [.int .i64 (1),.nilslice,.int .i64 (1),.nilslice,.int .i64 (0),.nilslice,.int .i64 (1),.nilslice]],.agg [.int .i64 (22),.nilslice,.int .i64 (1),.nilslice,.int .i64 (7),.nilslice,.int .i64 (1),.nilslice])::M33
theorem g34:Good M34:=qw g33 (by kernel_rfl)
def M35:jH:=(64,[.agg [.int .i64 (19),.nilslice],.agg [.int .i64 (283),.nilslice]],.agg [.int .i64 (19),.nilslice,.int .i64 (283),.nilslice])::M34
theorem g35:Good M35:=qw g34 (by kernel_rfl)
def M36:jH:=(76,[.agg [.int .i64 (2000),.nilslice,.int .i64 (283),.nilslice],.agg [.int .i64 (-7),.nilslice,.int .i64 (1),.nilslice]],.agg [.int .i64 (19),.nilslice,.int .i64 (283),.nilslice])::M35
theorem g36:Good M36:=qw g35 (by kernel_rfl)
def M37:jH:=(64,[.agg [.int .i64 (283),.nilslice],.agg [.int .i64 (19),.nilslice]],.agg [.int .i64 (283),.nilslice,.int .i64 (19),.nilslice])::M36
theorem g37:Good M37:=qw g36 (by kernel_rfl)
def M38:jH:=(85,[.agg [.int .i64 (22),.nilslice,.int .i64 (1),.nilslice,.int .i64 (7),.nilslice,.int .i64 (1),.nilslice],.agg [.int .i64 (14),.nilslice,.int .i64 (1),.nilslice],.agg [.int .i64 (3),.nilslice,.int .i64 (1),.nilslice,.int .i64 (1),.nilslice,.int .i64 (1),.nilslice]],.agg [.int .i64 (311),.nilslice,.int .i64 (1),.nilslice,.int .i64 (99),.nilslice,.int .i64 (1),.nilslice])::M37
theorem g38:Good M38:=qw g37 (by kernel_rfl)
def M39:jH:=(64,[.agg [.int .i64 (9),.nilslice],.agg [.int .i64 (7),.nilslice]],.agg [.int .i64 (9),.nilslice,.int .i64 (7),.nilslice])::M38
theorem g39:Good M39:=qw g38 (by kernel_rfl)
def M40:jH:=(88,[.agg [.int .i64 (9),.nilslice,.int .i64 (1),.nilslice],.agg [.int .i64 (7),.nilslice,.int .i64 (1),.nilslice]],.agg [.int .i64 (9),.nilslice,.int .i64 (7),.nilslice])::M39
theorem g40:Good M40:=qw g39 (by kernel_rfl)
def M41:jH:=(85,[.agg [.int .i64 (22),.nilslice,.int .i64 (1),.nilslice,.int .i64 (7),.nilslice,.int .i64 (1),.nilslice],.agg [.int .i64 (1),.nilslice,.int .i64 (1),.nilslice],.agg [.int .i64 (3),.nilslice,.int .i64 (1),.nilslice,.int .i64 (1),.nilslice,.int .i64 (1),.nilslice]],.agg [.int .i64 (25),.nilslice,.int .i64 (1),.nilslice,.int .i64 (8),.nilslice,.int .i64 (1),.nilslice])::M40
theorem g41:Good M41:=qw g40 (by kernel_rfl)
def M42:jH:=(75,[.agg [.int .i64 (22),.nilslice,.int .i64 (1),.nilslice],.agg [.int .i64 (1),.nilslice,.int .i64 (7),.nilslice]],.agg [.int .i64 (22),.nilslice,.int .i64 (7),.nilslice])::M41
theorem g42:Good M42:=qw g41 (by kernel_rfl)
def M43:jH:=(75,[.agg [.int .i64 (25),.nilslice,.int .i64 (1),.nilslice],.agg [.int .i64 (1),.nilslice,.int .i64 (8),.nilslice]],.agg [.int .i64 (25),.nilslice,.int .i64 (8),.nilslice])::M42
theorem g43:Good M43:=qw g42 (by kernel_rfl)
def M44:jH:=(64,[.agg [.int .i64 (19),.nilslice],.agg [.int .i64 (14000),.nilslice]],.agg [.int .i64 (19),.nilslice,.int .i64 (14000),.nilslice])::M43
theorem g44:Good M44:=qw g43 (by kernel_rfl)
def M45:jH:=(76,[.agg [.int .i64 (22),.nilslice,.int .i64 (7),.nilslice],.agg [.int .i64 (-6283),.nilslice,.int .i64 (2000),.nilslice]],.agg [.int .i64 (19),.nilslice,.int .i64 (14000),.nilslice])::M44
theorem g45:Good M45:=qw g44 (by kernel_rfl)
def M46:jH:=(156,[.agg [.int .i64 (-264),.nilslice],.agg [.int .i64 (16000),.nilslice]],.agg [.int .i64 (8),.nilslice])::M45
theorem g46:Good M46:=qw g45 (by kernel_rfl)
def M47:jH:=(76,[.agg [.int .i64 (25),.nilslice,.int .i64 (8),.nilslice],.agg [.int .i64 (-6283),.nilslice,.int .i64 (2000),.nilslice]],.agg [.int .i64 (-33),.nilslice,.int .i64 (2000),.nilslice])::M46
theorem g47:Good M47:=qw g46 (by kernel_rfl)
def M48:jH:=(156,[.agg [.int .i64 (264),.nilslice],.agg [.int .i64 (16000),.nilslice]],.agg [.int .i64 (8),.nilslice])::M47
theorem g48:Good M48:=qw g47 (by kernel_rfl)
def M49:jH:=(76,[.agg [.int .i64 (6283),.nilslice,.int .i64 (2000),.nilslice],.agg [.int .i64 (-25),.nilslice,.int .i64 (8),.nilslice]],.agg [.int .i64 (33),.nilslice,.int .i64 (2000),.nilslice])::M48
theorem g49:Good M49:=qw g48 (by kernel_rfl)
def M50:jH:=(23,[.str [54,50,56,51,47,50,48,48,48],.int .i64 (10)],.tuple [.str [50,50,47,55],.int .i64 (0)])::M49
theorem g50:Good M50:=qw g49 (by kernel_rfl)
theorem qmF:okM (qnq M50 (.fn 22) [] []) (.bool true)=true:=by kernel_rfl
theorem qqr:qb Tryz.prog (.fn 22) [] [] (.bool true) []:=qko g50 _ _ _ _ _ (qol qmF)
end Go.Av
