/-
  The examples that every statement of the chapter checks: they hold. By running the evaluator in the kernel, call by call.
-/
import Derived.Test.YtcnioemfifogeaaGreatDoorAvMtQ3
noncomputable section
namespace Go.Av
open Go.Proofs
set_option maxRecDepth 100000
theorem fol01:Tryz.prog.follows .mixedOrders=true:=by kernel_rfl
def pl01 (f:FuncId):Bool:=Nat.beq (Nat.land (Nat.shiftRight 1897137784417365776548666874479646305989882332255251615167107963680502886843809792 f) 1) 0
def okM (r:Option (AV×Heap)) (v:AV):Bool:=match r with
 |some (w,[])=>qgZ 30 w v
 |_=>false
theorem qv2 {r:Option (AV×Heap)} {v:AV} (h:okM r v=true):r=some (v,[]):=by
 unfold okM at h
 split at h
 ·rw[qpK 30 _ _ h]
 cases h
abbrev qaD:=List (FuncId×List AV×AV)
def qwd (M:qaD):xI:=qwZ Tryz.prog 3000 mtT insC (orElse (memo M) qvG) pl01 40
def Good (M:qaD):Prop:= ∀e∈M,qE Tryz.prog (.fn e.1) e.2.1 [] e.2.2 []
theorem qsL {M:qaD} (h:Good M):jJ Tryz.prog (qwd M):=qvQ fol01 mt_ok qxz (qrn (qxP h) qvg) _
theorem qvx:Good []:=by intro e h;cases h
theorem qN {M:qaD} {f:FuncId} {args:List AV} {v:AV} (h:Good M) (hr:okM (qwd M (.fn f) args []) v=true):Good ((f,args,v)::M):=by
 intro e he
 rcases List.mem_cons.1 he with rfl|he
 ·exact qsL h _ _ _ _ _ (qv2 hr)
 exact h e he
def M0:qaD:=[]
theorem g0:Good M0:=qvx
def M1:qaD:=(96,[.str [53,48]],.int .i64 (0))::M0
theorem g1:Good M1:=qN g0 (by kernel_rfl)
def M2:qaD:=(156,[.str [53,48]],.agg [.int .i64 (50),.nilslice])::M1
theorem g2:Good M2:=qN g1 (by kernel_rfl)
def M3:qaD:=(109,[.agg [.int .i64 (1),.nilslice,.int .i64 (1),.nilslice],.agg [.int .i64 (1),.nilslice,.int .i64 (1000),.nilslice]],.agg [.int .i64 (1),.nilslice,.int .i64 (1000),.nilslice])::M2
theorem g3:Good M3:=qN g2 (by kernel_rfl)
def M4:qaD:=(153,[.agg [.int .i64 (1000),.int .i64 (1),.bool true]],.agg [.int .i64 (1),.nilslice,.int .i64 (1000),.nilslice])::M3
theorem g4:Good M4:=qN g3 (by kernel_rfl)
def M5:qaD:=(109,[.agg [.int .i64 (50),.nilslice,.int .i64 (1),.nilslice],.agg [.int .i64 (1),.nilslice,.int .i64 (1000),.nilslice]],.agg [.int .i64 (1),.nilslice,.int .i64 (20),.nilslice])::M4
theorem g5:Good M5:=qN g4 (by kernel_rfl)
def M6:qaD:=(38,[.agg [.int .i64 (1000),.int .i64 (1),.bool true],.str [53,48]],.tuple [.str [49,47,50,48],.int .i64 (0)])::M5
theorem g6:Good M6:=qN g5 (by kernel_rfl)
def M7:qaD:=(109,[.agg [.int .i64 (1000),.nilslice,.int .i64 (1),.nilslice],.agg [.int .i64 (1),.nilslice,.int .i64 (1000),.nilslice]],.agg [.int .i64 (1),.nilslice,.int .i64 (1),.nilslice])::M6
theorem g7:Good M7:=qN g6 (by kernel_rfl)
def M8:qaD:=(153,[.agg [.int .i64 (1000),.int .i64 (1000),.bool false]],.agg [.int .i64 (1),.nilslice,.int .i64 (1),.nilslice])::M7
theorem g8:Good M8:=qN g7 (by kernel_rfl)
def M9:qaD:=(39,[.agg [.int .i64 (1000),.int .i64 (1),.bool true],.agg [.int .i64 (1000),.int .i64 (1000),.bool false],.str [53,48]],.tuple [.str [50,48],.int .i64 (0)])::M8
theorem g9:Good M9:=qN g8 (by kernel_rfl)
def M10:qaD:=(156,[.str [50,48]],.agg [.int .i64 (20),.nilslice])::M9
theorem g10:Good M10:=qN g9 (by kernel_rfl)
def M11:qaD:=(96,[.str [49,47,50,48]],.int .i64 (0))::M10
theorem g11:Good M11:=qN g10 (by kernel_rfl)
def M12:qaD:=(92,[.str [49,47,50,48]],.agg [.int .i64 (1),.nilslice,.int .i64 (20),.nilslice])::M11
theorem g12:Good M12:=qN g11 (by kernel_rfl)
def M13:qaD:=(96,[.str [45,49,48,48]],.int .i64 (0))::M12
theorem g13:Good M13:=qN g12 (by kernel_rfl)
def M14:qaD:=(96,[.str [48]],.int .i64 (0))::M13
theorem g14:Good M14:=qN g13 (by kernel_rfl)
def M15:qaD:=(92,[.str [48]],.agg [.int .i64 (0),.nilslice,.int .i64 (1),.nilslice])::M14
theorem g15:Good M15:=qN g14 (by kernel_rfl)
def M16:qaD:=(96,[.str [49,48]],.int .i64 (0))::M15
theorem g16:Good M16:=qN g15 (by kernel_rfl)
def M17:qaD:=(156,[.str [49,48]],.agg [.int .i64 (10),.nilslice])::M16
theorem g17:Good M17:=qN g16 (by kernel_rfl)
def M18:qaD:=(96,[.str [56,48]],.int .i64 (0))::M17
theorem g18:Good M18:=qN g17 (by kernel_rfl)
def M19:qaD:=(156,[.str [56,48]],.agg [.int .i64 (80),.nilslice])::M18
theorem g19:Good M19:=qN g18 (by kernel_rfl)
def M20:qaD:=(96,[.str [49,52]],.int .i64 (0))::M19
theorem g20:Good M20:=qN g19 (by kernel_rfl)
def M21:qaD:=(156,[.str [49,52]],.agg [.int .i64 (14),.nilslice])::M20
theorem g21:Good M21:=qN g20 (by kernel_rfl)
def M22:qaD:=(158,[.agg [.str [56,48],.str [49,52]],.fslice 1 [.str [48],.str [49,48]]],.int .i64 (0))::M21
theorem g22:Good M22:=qN g21 (by kernel_rfl)
def M23:qaD:=(96,[.str [49,50,48]],.int .i64 (0))::M22
theorem g23:Good M23:=qN g22 (by kernel_rfl)
def M24:qaD:=(156,[.str [49,50,48]],.agg [.int .i64 (120),.nilslice])::M23
theorem g24:Good M24:=qN g23 (by kernel_rfl)
def M25:qaD:=(96,[.str [49,50]],.int .i64 (0))::M24
theorem g25:Good M25:=qN g24 (by kernel_rfl)
def M26:qaD:=(156,[.str [49,50]],.agg [.int .i64 (12),.nilslice])::M25
theorem g26:Good M26:=qN g25 (by kernel_rfl)
def M27:qaD:=(158,[.agg [.str [49,50,48],.str [49,50]],.fslice 2 [.str [48],.str [49,48],.str [56,48],.str [49,52]]],.int .i64 (0))::M26
theorem g27:Good M27:=qN g26 (by kernel_rfl)
def M28:qaD:=(94,[.agg [.str [121],.str [49,47,50,48],.str [45,49,48,48],.fslice 3 [.str [48],.str [49,48],.str [56,48],.str [49,52],.str [49,50,48],.str [49,50]],.str []]],.int .i64 (0))::M27
theorem g28:Good M28:=qN g27 (by kernel_rfl)
def M29:qaD:=(156,[.str [45,49,48,48]],.agg [.int .i64 (-100),.nilslice])::M28
theorem g29:Good M29:=qN g28 (by kernel_rfl)
def M30:qaD:=(95,[.agg [.str [121],.str [49,47,50,48],.str [45,49,48,48],.fslice 3 [.str [48],.str [49,48],.str [56,48],.str [49,52],.str [49,50,48],.str [49,50]],.str []],.agg [.int .i64 (-100),.nilslice,.int .i64 (1),.nilslice]],.tuple [.agg [.int .i64 (14),.nilslice,.int .i64 (1),.nilslice],.int .i64 (0)])::M29
theorem g30:Good M30:=qN g29 (by kernel_rfl)
def M31:qaD:=(96,[.str [51,48]],.int .i64 (0))::M30
theorem g31:Good M31:=qN g30 (by kernel_rfl)
def M32:qaD:=(156,[.str [51,48]],.agg [.int .i64 (30),.nilslice])::M31
theorem g32:Good M32:=qN g31 (by kernel_rfl)
def M33:qaD:=(42,[.agg [.str [121],.str [49,47,50,48],.str [45,49,48,48],.fslice 3 [.str [48],.str [49,48],.str [56,48],.str [49,52],.str [49,50,48],.str [49,50]],.str []],.str [51,48]],.tuple [.agg [.str [121],.str [49,47,50,48],.str [45,55,48],.fslice 3 [.str [48],.str [49,48],.str [56,48],.str [49,52],.str [49,50,48],.str [49,50]],.str []],.int .i64 (0)])::M32
theorem g33:Good M33:=qN g32 (by kernel_rfl)
def M34:qaD:=(96,[.str [45,55,48]],.int .i64 (0))::M33
theorem g34:Good M34:=qN g33 (by kernel_rfl)
def M35:qaD:=(94,[.agg [.str [121],.str [49,47,50,48],.str [45,55,48],.fslice 3 [.str [48],.str [49,48],.str [56,48],.str [49,52],.str [49,50,48],.str [49,50]],.str []]],.int .i64 (0))::M34
theorem g35:Good M35:=qN g34 (by kernel_rfl)
def M36:qaD:=(156,[.str [45,55,48]],.agg [.int .i64 (-70),.nilslice])::M35
theorem g36:Good M36:=qN g35 (by kernel_rfl)
def M37:qaD:=(95,[.agg [.str [121],.str [49,47,50,48],.str [45,55,48],.fslice 3 [.str [48],.str [49,48],.str [56,48],.str [49,52],.str [49,50,48],.str [49,50]],.str []],.agg [.int .i64 (-70),.nilslice,.int .i64 (1),.nilslice]],.tuple [.agg [.int .i64 (10),.nilslice,.int .i64 (1),.nilslice],.int .i64 (0)])::M36
theorem g37:Good M37:=qN g36 (by kernel_rfl)
def M38:qaD:=(96,[.str [54,48]],.int .i64 (0))::M37
theorem g38:Good M38:=qN g37 (by kernel_rfl)
def M39:qaD:=(96,[.str [57,47,49,48]],.int .i64 (0))::M38
theorem g39:Good M39:=qN g38 (by kernel_rfl)
def M40:qaD:=(92,[.str [57,47,49,48]],.agg [.int .i64 (9),.nilslice,.int .i64 (10),.nilslice])::M39
theorem g40:Good M40:=qN g39 (by kernel_rfl)
def M41:qaD:=(156,[.str [54,48]],.agg [.int .i64 (60),.nilslice])::M40
theorem g41:Good M41:=qN g40 (by kernel_rfl)
def M42:qaD:=(95,[.agg [.str [121],.str [49,47,50,48],.str [45,49,48,48],.fslice 3 [.str [48],.str [49,48],.str [56,48],.str [49,52],.str [49,50,48],.str [49,50]],.str []],.agg [.int .i64 (-40),.nilslice,.int .i64 (1),.nilslice]],.tuple [.agg [.int .i64 (10),.nilslice,.int .i64 (1),.nilslice],.int .i64 (0)])::M41
theorem g42:Good M42:=qN g41 (by kernel_rfl)
def M43:qaD:=(97,[.agg [.int .i64 (0),.nilslice,.int .i64 (1),.nilslice],.agg [.int .i64 (1),.nilslice,.int .i64 (20),.nilslice]],.agg [.int .i64 (1),.nilslice,.int .i64 (20),.nilslice])::M42
theorem g43:Good M43:=qN g42 (by kernel_rfl)
def M44:qaD:=(97,[.agg [.int .i64 (1),.nilslice,.int .i64 (20),.nilslice],.agg [.int .i64 (1),.nilslice,.int .i64 (20),.nilslice]],.agg [.int .i64 (1),.nilslice,.int .i64 (10),.nilslice])::M43
theorem g44:Good M44:=qN g43 (by kernel_rfl)
def M45:qaD:=(168,[.agg [.int .i64 (30),.nilslice],.agg [.int .i64 (200),.nilslice]],.agg [.int .i64 (3),.nilslice,.int .i64 (20),.nilslice])::M44
theorem g45:Good M45:=qN g44 (by kernel_rfl)
def M46:qaD:=(97,[.agg [.int .i64 (1),.nilslice,.int .i64 (10),.nilslice],.agg [.int .i64 (1),.nilslice,.int .i64 (20),.nilslice]],.agg [.int .i64 (3),.nilslice,.int .i64 (20),.nilslice])::M45
theorem g46:Good M46:=qN g45 (by kernel_rfl)
def M47:qaD:=(109,[.agg [.int .i64 (3),.nilslice,.int .i64 (20),.nilslice],.agg [.int .i64 (10),.nilslice,.int .i64 (9),.nilslice]],.agg [.int .i64 (1),.nilslice,.int .i64 (6),.nilslice])::M46
theorem g47:Good M47:=qN g46 (by kernel_rfl)
def M48:qaD:=(43,[.str [112],.fslice 3 [.str [121],.str [49,47,50,48],.str [45,49,48,48],.fslice 3 [.str [48],.str [49,48],.str [56,48],.str [49,52],.str [49,50,48],.str [49,50]],.str [],.str [121],.str [49,47,50,48],.str [45,49,48,48],.fslice 3 [.str [48],.str [49,48],.str [56,48],.str [49,52],.str [49,50,48],.str [49,50]],.str [],.str [121],.str [49,47,50,48],.str [45,49,48,48],.fslice 3 [.str [48],.str [49,48],.str [56,48],.str [49,52],.str [49,50,48],.str [49,50]],.str []],.str [54,48],.str [57,47,49,48]],.tuple [.agg [.str [112],.str [49,47,54],.str [54,48],.fslice 1 [.str [48],.str [51,48]],.str []],.int .i64 (0)])::M47
theorem g48:Good M48:=qN g47 (by kernel_rfl)
def M49:qaD:=(96,[.str [53,48,48]],.int .i64 (0))::M48
theorem g49:Good M49:=qN g48 (by kernel_rfl)
def M50:qaD:=(156,[.str [53,48,48]],.agg [.int .i64 (500),.nilslice])::M49
theorem g50:Good M50:=qN g49 (by kernel_rfl)
def M51:qaD:=(109,[.agg [.int .i64 (1),.nilslice,.int .i64 (20),.nilslice],.agg [.int .i64 (500),.nilslice,.int .i64 (1),.nilslice]],.agg [.int .i64 (25),.nilslice,.int .i64 (1),.nilslice])::M50
theorem g51:Good M51:=qN g50 (by kernel_rfl)
def M52:qaD:=(109,[.agg [.int .i64 (25),.nilslice,.int .i64 (1),.nilslice],.agg [.int .i64 (1),.nilslice,.int .i64 (10),.nilslice]],.agg [.int .i64 (5),.nilslice,.int .i64 (2),.nilslice])::M51
theorem g52:Good M52:=qN g51 (by kernel_rfl)
def M53:qaD:=(44,[.agg [.str [121],.str [49,47,50,48],.str [45,49,48,48],.fslice 3 [.str [48],.str [49,48],.str [56,48],.str [49,52],.str [49,50,48],.str [49,50]],.str []],.int .i64 (10),.str [53,48,48]],.tuple [.int .i64 (3),.int .i64 (0)])::M52
theorem g53:Good M53:=qN g52 (by kernel_rfl)
def M54:qaD:=(45,[.agg [.str [121],.str [49,47,50,48],.str [45,49,48,48],.fslice 3 [.str [48],.str [49,48],.str [56,48],.str [49,52],.str [49,50,48],.str [49,50]],.str []],.str [53,48,48]],.tuple [.str [50,53],.int .i64 (0)])::M53
theorem g54:Good M54:=qN g53 (by kernel_rfl)
def M55:qaD:=(18,[.fslice 3 [.str [114,101,99,101,105,118,101],.int .i64 (1),.str [76],.int .i64 (100),.str [121],.str [114,101,100],.str [],.str [114,101,115,101,114,118,101],.int .i64 (2),.str [76],.int .i64 (60),.str [],.str [],.str [65],.str [116,97,107,101],.int .i64 (3),.str [76],.int .i64 (70),.str [],.str [],.str [65]]],.int .i64 (0))::M54
theorem g55:Good M55:=qN g54 (by kernel_rfl)
def M56:qaD:=(12,[.fslice 3 [.str [114,101,99,101,105,118,101],.int .i64 (1),.str [76],.int .i64 (100),.str [121],.str [114,101,100],.str [],.str [114,101,115,101,114,118,101],.int .i64 (2),.str [76],.int .i64 (60),.str [],.str [],.str [65],.str [116,97,107,101],.int .i64 (3),.str [76],.int .i64 (70),.str [],.str [],.str [65]],.int .i64 (2)],.tuple [.agg [.int .i64 (2),.fslice 1 [.str [76],.str [121],.str [114,101,100],.int .i64 (100)],.fslice 1 [.str [76],.str [65],.int .i64 (60),.int .i64 (0)]],.int .i64 (0)])::M55
theorem g56:Good M56:=qN g55 (by kernel_rfl)
def M57:qaD:=(29,[.agg [.int .i64 (2),.fslice 1 [.str [76],.str [121],.str [114,101,100],.int .i64 (100)],.fslice 1 [.str [76],.str [65],.int .i64 (60),.int .i64 (0)]]],.int .i64 (0))::M56
theorem g57:Good M57:=qN g56 (by kernel_rfl)
def M58:qaD:=(23,[.agg [.int .i64 (2),.fslice 1 [.str [76],.str [121],.str [114,101,100],.int .i64 (100)],.fslice 1 [.str [76],.str [65],.int .i64 (60),.int .i64 (0)]],.agg [.str [116,97,107,101],.int .i64 (3),.str [76],.int .i64 (41),.str [],.str [],.str [66]]],.tuple [.int .i64 (3),.int .i64 (0)])::M57
theorem g58:Good M58:=qN g57 (by kernel_rfl)
def M59:qaD:=(11,[.fslice 3 [.str [114,101,99,101,105,118,101],.int .i64 (1),.str [76],.int .i64 (100),.str [121],.str [114,101,100],.str [],.str [114,101,115,101,114,118,101],.int .i64 (2),.str [76],.int .i64 (60),.str [],.str [],.str [65],.str [116,97,107,101],.int .i64 (3),.str [76],.int .i64 (70),.str [],.str [],.str [65]]],.tuple [.agg [.int .i64 (3),.fslice 1 [.str [76],.str [121],.str [114,101,100],.int .i64 (30)],.fslice 1 [.str [76],.str [65],.int .i64 (0),.int .i64 (70)]],.nilslice,.int .i64 (0)])::M58
theorem g59:Good M59:=qN g58 (by kernel_rfl)
def M60:qaD:=(29,[.agg [.int .i64 (0),.fslice 4 [.str [97],.str [121],.str [],.int .i64 (30),.str [98],.str [121],.str [],.int .i64 (50),.str [99],.str [121],.str [],.int .i64 (20),.str [100],.str [121],.str [],.int .i64 (50)],.nilslice]],.int .i64 (0))::M59
theorem g60:Good M60:=qN g59 (by kernel_rfl)
def M61:qaD:=(33,[.agg [.int .i64 (0),.fslice 4 [.str [97],.str [121],.str [],.int .i64 (30),.str [98],.str [121],.str [],.int .i64 (50),.str [99],.str [121],.str [],.int .i64 (20),.str [100],.str [121],.str [],.int .i64 (50)],.nilslice],.str [121],.str [],.int .i64 (90)],.tuple [.fslice 2 [.int .i64 (1),.int .i64 (3)],.int .i64 (0)])::M60
theorem g61:Good M61:=qN g60 (by kernel_rfl)
def M62:qaD:=(33,[.agg [.int .i64 (0),.fslice 4 [.str [97],.str [121],.str [],.int .i64 (30),.str [98],.str [121],.str [],.int .i64 (50),.str [99],.str [121],.str [],.int .i64 (20),.str [100],.str [121],.str [],.int .i64 (50)],.nilslice],.str [121],.str [],.int .i64 (151)],.tuple [.nilslice,.int .i64 (32)])::M61
theorem g62:Good M62:=qN g61 (by kernel_rfl)
theorem qvs:okM (qwd M62 (.fn 10) [] []) (.bool true)=true:=by kernel_rfl
theorem qxm:qE Tryz.prog (.fn 10) [] [] (.bool true) []:=qsL g62 _ _ _ _ _ (qv2 qvs)
end Go.Av
