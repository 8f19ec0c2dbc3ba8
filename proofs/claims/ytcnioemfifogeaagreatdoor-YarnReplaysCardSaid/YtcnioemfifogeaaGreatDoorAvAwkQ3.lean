/-
  The examples that every statement of the chapter checks: they hold. By running the evaluator in the kernel, call by call.
-/
import Derived.Test.YtcnioemfifogeaaGreatDoorAvMtQ3
noncomputable section
namespace Go.Av
open Go.Proofs
set_option maxRecDepth 100000
theorem fol01:Tryz.prog.follows .mixedOrders=true:=by kernel_rfl
def pl01 (f:FuncId):Bool:=Nat.beq (Nat.land (Nat.shiftRight 1897137784417365776548666874479646305989882332255251615167107963680502886843809792 f) 1) 0
def okM (r:Option (AV×Heap)) (v:AV):Bool:=match r with
 |some (w,[])=>qdi 30 w v
 |_=>false
theorem qqp {r:Option (AV×Heap)} {v:AV} (h:okM r v=true):r=some (v,[]):=by
 unfold okM at h
 split at h
 ·rw[qkX 30 _ _ h]
 cases h
abbrev vF:=List (FuncId×List AV×AV)
def qrm (M:vF):jC:=qq8 Tryz.prog 3000 mtT insC (orElse (memo M) qqR) pl01 40
def Good (M:vF):Prop:= ∀e∈M,qp Tryz.prog (.fn e.1) e.2.1 [] e.2.2 []
theorem qnq {M:vF} (h:Good M):zx Tryz.prog (qrm M):=qqy fol01 mt_ok qr3 (qlN (qr6 h) qpU) _
theorem qqW:Good []:=by intro e h;cases h
theorem qE {M:vF} {f:FuncId} {args:List AV} {v:AV} (h:Good M) (hr:okM (qrm M (.fn f) args []) v=true):Good ((f,args,v)::M):=by
 intro e he
 rcases List.mem_cons.1 he with rfl|he
 ·exact qnq h _ _ _ _ _ (qqp hr)
 exact h e he
def M0:vF:=[]
theorem g0:Good M0:=qqW
def M1:vF:=(96,[.str [53,48]],.int .i64 (0))::M0
theorem g1:Good M1:=qE g0 (by kernel_rfl)
def M2:vF:=(156,[.str [53,48]],.agg [.int .i64 (50),.nilslice])::M1
theorem g2:Good M2:=qE g1 (by kernel_rfl)
def M3:vF:=(109,[.agg [.int .i64 (1),.nilslice,.int .i64 (1),.nilslice],.agg [.int .i64 (1),.nilslice,.int .i64 (1000),.nilslice]],.agg [.int .i64 (1),.nilslice,.int .i64 (1000),.nilslice])::M2
theorem g3:Good M3:=qE g2 (by kernel_rfl)
def M4:vF:=(153,[.agg [.int .i64 (1000),.int .i64 (1),.bool true]],.agg [.int .i64 (1),.nilslice,.int .i64 (1000),.nilslice])::M3
theorem g4:Good M4:=qE g3 (by kernel_rfl)
def M5:vF:=(109,[.agg [.int .i64 (50),.nilslice,.int .i64 (1),.nilslice],.agg [.int .i64 (1),.nilslice,.int .i64 (1000),.nilslice]],.agg [.int .i64 (1),.nilslice,.int .i64 (20),.nilslice])::M4
theorem g5:Good M5:=qE g4 (by kernel_rfl)
def M6:vF:=(38,[.agg [.int .i64 (1000),.int .i64 (1),.bool true],.str [53,48]],.tuple [.str [49,47,50,48],.int .i64 (0)])::M5
theorem g6:Good M6:=qE g5 (by kernel_rfl)
def M7:vF:=(109,[.agg [.int .i64 (1000),.nilslice,.int .i64 (1),.nilslice],.agg [.int .i64 (1),.nilslice,.int .i64 (1000),.nilslice]],.agg [.int .i64 (1),.nilslice,.int .i64 (1),.nilslice])::M6
theorem g7:Good M7:=qE g6 (by kernel_rfl)
def M8:vF:=(153,[.agg [.int .i64 (1000),.int .i64 (1000),.bool false]],.agg [.int .i64 (1),.nilslice,.int .i64 (1),.nilslice])::M7
theorem g8:Good M8:=qE g7 (by kernel_rfl)
def M9:vF:=(39,[.agg [.int .i64 (1000),.int .i64 (1),.bool true],.agg [.int .i64 (1000),.int .i64 (1000),.bool false],.str [53,48]],.tuple [.str [50,48],.int .i64 (0)])::M8
theorem g9:Good M9:=qE g8 (by kernel_rfl)
def M10:vF:=(156,[.str [50,48]],.agg [.int .i64 (20),.nilslice])::M9
theorem g10:Good M10:=qE g9 (by kernel_rfl)
def M11:vF:=(96,[.str [49,47,50,48]],.int .i64 (0))::M10
theorem g11:Good M11:=qE g10 (by kernel_rfl)
def M12:vF:=(92,[.str [49,47,50,48]],.agg [.int .i64 (1),.nilslice,.int .i64 (20),.nilslice])::M11
theorem g12:Good M12:=qE g11 (by kernel_rfl)
def M13:vF:=(96,[.str [45,49,48,48]],.int .i64 (0))::M12
theorem g13:Good M13:=qE g12 (by kernel_rfl)
def M14:vF:=(96,[.str [48]],.int .i64 (0))::M13
theorem g14:Good M14:=qE g13 (by kernel_rfl)
def M15:vF:=(92,[.str [48]],.agg [.int .i64 (0),.nilslice,.int .i64 (1),.nilslice])::M14
theorem g15:Good M15:=qE g14 (by kernel_rfl)
def M16:vF:=(96,[.str [49,48]],.int .i64 (0))::M15
theorem g16:Good M16:=qE g15 (by kernel_rfl)
def M17:vF:=(156,[.str [49,48]],.agg [.int .i64 (10),.nilslice])::M16
theorem g17:Good M17:=qE g16 (by kernel_rfl)
def M18:vF:=(96,[.str [56,48]],.int .i64 (0))::M17
theorem g18:Good M18:=qE g17 (by kernel_rfl)
def M19:vF:=(156,[.str [56,48]],.agg [.int .i64 (80),.nilslice])::M18
theorem g19:Good M19:=qE g18 (by kernel_rfl)
def M20:vF:=(96,[.str [49,52]],.int .i64 (0))::M19
theorem g20:Good M20:=qE g19 (by kernel_rfl)
def M21:vF:=(156,[.str [49,52]],.agg [.int .i64 (14),.nilslice])::M20
theorem g21:Good M21:=qE g20 (by kernel_rfl)
def M22:vF:=(158,[.agg [.str [56,48],.str [49,52]],.fslice 1 [.str [48],.str [49,48]]],.int .i64 (0))::M21
theorem g22:Good M22:=qE g21 (by kernel_rfl)
def M23:vF:=(96,[.str [49,50,48]],.int .i64 (0))::M22
theorem g23:Good M23:=qE g22 (by kernel_rfl)
def M24:vF:=(156,[.str [49,50,48]],.agg [.int .i64 (120),.nilslice])::M23
theorem g24:Good M24:=qE g23 (by kernel_rfl)
def M25:vF:=(96,[.str [49,50]],.int .i64 (0))::M24
theorem g25:Good M25:=qE g24 (by kernel_rfl)
def M26:vF:=(156,[.str [49,50]],.agg [.int .i64 (12),.nilslice])::M25
theorem g26:Good M26:=qE g25 (by kernel_rfl)
def M27:vF:=(158,[.agg [.str [49,50,48],.str [49,50]],.fslice 2 [.str [48],.str [49,48],.str [56,48],.str [49,52]]],.int .i64 (0))::M26
theorem g27:Good M27:=qE g26 (by kernel_rfl)
def M28:vF:=(94,[.agg [.str [121],.str [49,47,50,48],.str [45,49,48,48],.fslice 3 [.str [48],.str [49,48],.str [56,48],.str [49,52],.str [49,50,48],.str [49,50]],.str []]],.int .i64 (0))::M27
theorem g28:Good M28:=qE g27 (by kernel_rfl)
def M29:vF:=(156,[.str [45,49,48,48]],.agg [.int .i64 (-100),.nilslice])::M28
theorem g29:Good M29:=qE g28 (by kernel_rfl)
def M30:vF:=(95,[.agg [.str [121],.str [49,47,50,48],.str [45,49,48,48],.fslice 3 [.str [48],.str [49,48],.str [56,48],.str [49,52],.str [49,50,48],.str [49,50]],.str []],.agg [.int .i64 (-100),.nilslice,.int .i64 (1),.nilslice]],.tuple [.agg [.int .i64 (14),.nilslice,.int .i64 (1),.nilslice],.int .i64 (0)])::M29
theorem g30:Good M30:=qE g29 (by kernel_rfl)
def M31:vF:=(96,[.str [51,48]],.int .i64 (0))::M30
theorem g31:Good M31:=qE g30 (by kernel_rfl)
def M32:vF:=(156,[.str [51,48]],.agg [.int .i64 (30),.nilslice])::M31
theorem g32:Good M32:=qE g31 (by kernel_rfl)
def M33:vF:=(42,[.agg [.str [121],.str [49,47,50,48],.str [45,49,48,48],.fslice 3 [.str [48],.str [49,48],.str [56,48],.str [49,52],.str [49,50,48],.str [49,50]],.str []],.str [51,48]],.tuple [.agg [.str [121],.str [49,47,50,48],.str [45,55,48],.fslice 3 [.str [48],.str [49,48],.str [56,48],.str [49,52],.str [49,50,48],.str [49,50]],.str []],.int .i64 (0)])::M32
theorem g33:Good M33:=qE g32 (by kernel_rfl)
def M34:vF:=(96,[.str [45,55,48]],.int .i64 (0))::M33
theorem g34:Good M34:=qE g33 (by kernel_rfl)
def M35:vF:=(94,[.agg [.str [121],.str [49,47,50,48],.str [45,55,48],.fslice 3 [.str [48],.str [49,48],.str [56,48],.str [49,52],.str [49,50,48],.str [49,50]],.str []]],.int .i64 (0))::M34
theorem g35:Good M35:=qE g34 (by kernel_rfl)
def M36:vF:=(156,[.str [45,55,48]],.agg [.int .i64 (-70),.nilslice])::M35
theorem g36:Good M36:=qE g35 (by kernel_rfl)
def M37:vF:=(95,[.agg [.str [121],.str [49,47,50,48],.str [45,55,48],.fslice 3 [.str [48],.str [49,48],.str [56,48],.str [49,52],.str [49,50,48],.str [49,50]],.str []],.agg [.int .i64 (-70),.nilslice,.int .i64 (1),.nilslice]],.tuple [.agg [.int .i64 (10),.nilslice,.int .i64 (1),.nilslice],.int .i64 (0)])::M36
theorem g37:Good M37:=qE g36 (by kernel_rfl)
def M38:vF:=(96,[.str [54,48]],.int .i64 (0))::M37
theorem g38:Good M38:=qE g37 (by kernel_rfl)
def M39:vF:=(96,[.str [57,47,49,48]],.int .i64 (0))::M38
theorem g39:Good M39:=qE g38 (by kernel_rfl)
def M40:vF:=(92,[.str [57,47,49,48]],.agg [.int .i64 (9),.nilslice,.int .i64 (10),.nilslice])::M39
theorem g40:Good M40:=qE g39 (by kernel_rfl)
def M41:vF:=(156,[.str [54,48]],.agg [.int .i64 (60),.nilslice])::M40
theorem g41:Good M41:=qE g40 (by kernel_rfl)
def M42:vF:=(95,[.agg [.str [121],.str [49,47,50,48],.str [45,49,48,48],.fslice 3 [.str [48],.str [49,48],.str [56,48],.str [49,52],.str [49,50,48],.str [49,50]],.str []],.agg [.int .i64 (-40),.nilslice,.int .i64 (1),.nilslice]],.tuple [.agg [.int .i64 (10),.nilslice,.int .i64 (1),.nilslice],.int .i64 (0)])::M41
theorem g42:Good M42:=qE g41 (by kernel_rfl)
def M43:vF:=(97,[.agg [.int .i64 (0),.nilslice,.int .i64 (1),.nilslice],.agg [.int .i64 (1),.nilslice,.int .i64 (20),.nilslice]],.agg [.int .i64 (1),.nilslice,.int .i64 (20),.nilslice])::M42
theorem g43:Good M43:=qE g42 (by kernel_rfl)
def M44:vF:=(97,[.agg [.int .i64 (1),.nilslice,.int .i64 (20),.nilslice],.agg [.int .i64 (1),.nilslice,.int .i64 (20),.nilslice]],.agg [.int .i64 (1),.nilslice,.int .i64 (10),.nilslice])::M43
theorem g44:Good M44:=qE g43 (by kernel_rfl)
def M45:vF:=(168,[.agg [.int .i64 (30),.nilslice],.agg [.int .i64 (200),.nilslice]],.agg [.int .i64 (3),.nilslice,.int .i64 (20),.nilslice])::M44
theorem g45:Good M45:=qE g44 (by kernel_rfl)
def M46:vF:=(97,[.agg [.int .i64 (1),.nilslice,.int .i64 (10),.nilslice],.agg [.int .i64 (1),.nilslice,.int .i64 (20),.nilslice]],.agg [.int .i64 (3),.nilslice,.int .i64 (20),.nilslice])::M45
theorem g46:Good M46:=qE g45 (by kernel_rfl)
def M47:vF:=(109,[.agg [.int .i64 (3),.nilslice,.int .i64 (20),.nilslice],.agg [.int .i64 (10),.nilslice,.int .i64 (9),.nilslice]],.agg [.int .i64 (1),.nilslice,.int .i64 (6),.nilslice])::M46
theorem g47:Good M47:=qE g46 (by kernel_rfl)
def M48:vF:=(43,[.str [112],.fslice 3 [.str [121],.str [49,47,50,48],.str [45,49,48,48],.fslice 3 [.str [48],.str [49,48],.str [56,48],.str [49,52],.str [49,50,48],.str [49,50]],.str [],.str [121],.str [49,47,50,48],.str [45,49,48,48],.fslice 3 [.str [48],.str [49,48],.str [56,48],.str [49,52],.str [49,50,48],.str [49,50]],.str [],.str [121],.str [49,47,50,48],.str [45,49,48,48],.fslice 3 [.str [48],.str [49,48],.str [56,48],.str [49,52],.str [49,50,48],.str [49,50]],.str []],.str [54,48],.str [57,47,49,48]],.tuple [.agg [.str [112],.str [49,47,54],.str [54,48],.fslice 1 [.str [48],.str [51,48]],.str []],.int .i64 (0)])::M47
theorem g48:Good M48:=qE g47 (by kernel_rfl)
def M49:vF:=(96,[.str [53,48,48]],.int .i64 (0))::M48
theorem g49:Good M49:=qE g48 (by kernel_rfl)
def M50:vF:=(156,[.str [53,48,48]],.agg [.int .i64 (500),.nilslice])::M49
theorem g50:Good M50:=qE g49 (by kernel_rfl)
def M51:vF:=(109,[.agg [.int .i64 (1),.nilslice,.int .i64 (20),.nilslice],.agg [.int .i64 (500),.nilslice,.int .i64 (1),.nilslice]],.agg [.int .i64 (25),.nilslice,.int .i64 (1),.nilslice])::M50
theorem g51:Good M51:=qE g50 (by kernel_rfl)
def M52:vF:=(109,[.agg [.int .i64 (25),.nilslice,.int .i64 (1),.nilslice],.agg [.int .i64 (1),.nilslice,.int .i64 (10),.nilslice]],.agg [.int .i64 (5),.nilslice,.int .i64 (2),.nilslice])::M51
theorem g52:Good M52:=qE g51 (by kernel_rfl)
def M53:vF:=(44,[.agg [.str [121],.str [49,47,50,48],.str [45,49,48,48],.fslice 3 [.str [48],.str [49,48],.str [56,48],.str [49,52],.str [49,50,48],.str [49,50]],.str []],.int .i64 (10),.str [53,48,48]],.tuple [.int .i64 (3),.int .i64 (0)])::M52
theorem g53:Good M53:=qE g52 (by kernel_rfl)
def M54:vF:=(45,[.agg [.str [121],.str [49,47,50,48],.str [45,49,48,48],.fslice 3 [.str [48],.str [49,48],.str [56,48],.str [49,52],.str [49,50,48],.str [49,50]],.str []],.str [53,48,48]],.tuple [.str [50,53],.int .i64 (0)])::M53
theorem g54:Good M54:=qE g53 (by kernel_rfl)
def M55:vF:=(18,[.fslice 3 [.str [114,101,99,101,105,118,101],.int .i64 (1),.str [76],.int .i64 (100),.str [121],.str [114,101,100],.str [],.str [114,101,115,101,114,118,101],.int .i64 (2),.str [76],.int .i64 (60),.str [],.str [],.str [65],.str [116,97,107,101],.int .i64 (3),.str [76],.int .i64 (70),.str [],.str [],.str [65]]],.int .i64 (0))::M54
theorem g55:Good M55:=qE g54 (by kernel_rfl)
def M56:vF:=(12,[.fslice 3 [.str [114,101,99,101,105,118,101],.int .i64 (1),.str [76],.int .i64 (100),.str [121],.str [114,101,100],.str [],.str [114,101,115,101,114,118,101],.int .i64 (2),.str [76],.int .i64 (60),.str [],.str [],.str [65],.str [116,97,107,101],.int .i64 (3),.str [76],.int .i64 (70),.str [],.str [],.str [65]],.int .i64 (2)],.tuple [.agg [.int .i64 (2),.fslice 1 [.str [76],.str [121],.str [114,101,100],.int .i64 (100)],.fslice 1 [.str [76],.str [65],.int .i64 (60),.int .i64 (0)]],.int .i64 (0)])::M55
theorem g56:Good M56:=qE g55 (by kernel_rfl)
def M57:vF:=(29,[.agg [.int .i64 (2),.fslice 1 [.str [76],.str [121],.str [114,101,100],.int .i64 (100)],.fslice 1 [.str [76],.str [65],.int .i64 (60),.int .i64 (0)]]],.int .i64 (0))::M56
theorem g57:Good M57:=qE g56 (by kernel_rfl)
def M58:vF:=(23,[.agg [.int .i64 (2),.fslice 1 [.str [76],.str [121],.str [114,101,100],.int .i64 (100)],.fslice 1 [.str [76],.str [65],.int .i64 (60),.int .i64 (0)]],.agg [.str [116,97,107,101],.int .i64 (3),.str [76],.int .i64 (41),.str [],.str [],.str [66]]],.tuple [.int .i64 (3),.int .i64 (0)])::M57
theorem g58:Good M58:=qE g57 (by kernel_rfl)
def M59:vF:=(11,[.fslice 3 [.str [114,101,99,101,105,118,101],.int .i64 (1),.str [76],.int .i64 (100),.str [121],.str [114,101,100],.str [],.str [114,101,115,101,114,118,101],.int .i64 (2),.str [76],.int .i64 (60),.str [],.str [],.str [65],.str [116,97,107,101],.int .i64 (3),.str [76],.int .i64 (70),.str [],.str [],.str [65]]],.tuple [.agg [.int .i64 (3),.fslice 1 [.str [76],.str [121],.str [114,101,100],.int .i64 (30)],.fslice 1 [.str [76],.str [65],.int .i64 (0),.int .i64 (70)]],.nilslice,.int .i64 (0)])::M58
theorem g59:Good M59:=qE g58 (by kernel_rfl)
def M60:vF:=(29,[.agg [.int .i64 (0),.fslice 4 [.str [97],.str [121],.str [],.int .i64 (30),.str [98],.str [121],.str [],.int .i64 (50),.str [99],.str [121],.str [],.int .i64 (20),.str [100],.str [121],.str [],.int .i64 (50)],.nilslice]],.int .i64 (0))::M59
theorem g60:Good M60:=qE g59 (by kernel_rfl)
def M61:vF:=(33,[.agg [.int .i64 (0),.fslice 4 [.str [97],.str [121],.str [],.int .i64 (30),.str [98],.str [121],.str [],.int .i64 (50),.str [99],.str [121],.str [],.int .i64 (20),.str [100],.str [121],.str [],.int .i64 (50)],.nilslice],.str [121],.str [],.int .i64 (90)],.tuple [.fslice 2 [.int .i64 (1),.int .i64 (3)],.int .i64 (0)])::M60
theorem g61:Good M61:=qE g60 (by kernel_rfl)
def M62:vF:=(33,[.agg [.int .i64 (0),.fslice 4 [.str [97],.str [121],.str [],.int .i64 (30),.str [98],.str [121],.str [],.int .i64 (50),.str [99],.str [121],.str [],.int .i64 (20),.str [100],.str [121],.str [],.int .i64 (50)],.nilslice],.str [121],.str [],.int .i64 (151)],.tuple [.nilslice,.int .i64 (32)])::M61
theorem g62:Good M62:=qE g61 (by kernel_rfl)
theorem qpv:okM (qrm M62 (.fn 10) [] []) (.bool true)=true:=by kernel_rfl
theorem qsb:qp Tryz.prog (.fn 10) [] [] (.bool true) []:=qnq g62 _ _ _ _ _ (qqp qpv)
end Go.Av
