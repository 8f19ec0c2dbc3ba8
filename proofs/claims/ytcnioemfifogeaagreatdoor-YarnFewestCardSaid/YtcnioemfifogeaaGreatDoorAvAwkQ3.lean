/-
  The examples that every statement of the chapter checks: they hold. By running the evaluator in the kernel, call by call.
-/
import Derived.Test.YtcnioemfifogeaaGreatDoorAvMtQ3
noncomputable section
namespace Go.Av
open Go.Proofs
set_option maxRecDepth 100000
theorem fol01:Tryz.prog.follows .mixedOrders=true:=by kernel_rfl
def pl01 (f:FuncId):Bool:=Nat.beq (Nat.land (Nat.shiftRight 1897137784417365776548666874479646305989882332255251615167107963680502886843809792 f) 1) 0
def okM (r:Option (AV×Heap)) (v:AV):Bool:=match r with
 |some (w,[])=>qlX 30 w v
 |_=>false
theorem qB4 {r:Option (AV×Heap)} {v:AV} (h:okM r v=true):r=some (v,[]):=by
 unfold okM at h
 split at h
 ·rw[qvu 30 _ _ h]
 cases h
abbrev qeu:=List (FuncId×List AV×AV)
def qBm (M:qeu):qcN:=qBO Tryz.prog 3000 mtT insC (orElse (memo M) qAJ) pl01 40
def Good (M:qeu):Prop:= ∀e∈M,qJ Tryz.prog (.fn e.1) e.2.1 [] e.2.2 []
theorem qyy {M:qeu} (h:Good M):xH Tryz.prog (qBm M):=qBZ fol01 mt_ok qCz (qwm (qCO h) qAE) _
theorem qAK:Good []:=by intro e h;cases h
theorem ze {M:qeu} {f:FuncId} {args:List AV} {v:AV} (h:Good M) (hr:okM (qBm M (.fn f) args []) v=true):Good ((f,args,v)::M):=by
 intro e he
 rcases List.mem_cons.1 he with rfl|he
 ·exact qyy h _ _ _ _ _ (qB4 hr)
 exact h e he
def M0:qeu:=[]
theorem g0:Good M0:=qAK
def M1:qeu:=(96,[.str [53,48]],.int .i64 (0))::M0
theorem g1:Good M1:=ze g0 (by kernel_rfl)
def M2:qeu:=(156,[.str [53,48]],.agg [.int .i64 (50),.nilslice])::M1
theorem g2:Good M2:=ze g1 (by kernel_rfl)
def M3:qeu:=(109,[.agg [.int .i64 (1),.nilslice,.int .i64 (1),.nilslice],.agg [.int .i64 (1),.nilslice,.int .i64 (1000),.nilslice]],.agg [.int .i64 (1),.nilslice,.int .i64 (1000),.nilslice])::M2
theorem g3:Good M3:=ze g2 (by kernel_rfl)
def M4:qeu:=(153,[.agg [.int .i64 (1000),.int .i64 (1),.bool true]],.agg [.int .i64 (1),.nilslice,.int .i64 (1000),.nilslice])::M3
theorem g4:Good M4:=ze g3 (by kernel_rfl)
def M5:qeu:=(109,[.agg [.int .i64 (50),.nilslice,.int .i64 (1),.nilslice],.agg [.int .i64 (1),.nilslice,.int .i64 (1000),.nilslice]],.agg [.int .i64 (1),.nilslice,.int .i64 (20),.nilslice])::M4
theorem g5:Good M5:=ze g4 (by kernel_rfl)
def M6:qeu:=(38,[.agg [.int .i64 (1000),.int .i64 (1),.bool true],.str [53,48]],.tuple [.str [49,47,50,48],.int .i64 (0)])::M5
theorem g6:Good M6:=ze g5 (by kernel_rfl)
def M7:qeu:=(109,[.agg [.int .i64 (1000),.nilslice,.int .i64 (1),.nilslice],.agg [.int .i64 (1),.nilslice,.int .i64 (1000),.nilslice]],.agg [.int .i64 (1),.nilslice,.int .i64 (1),.nilslice])::M6
theorem g7:Good M7:=ze g6 (by kernel_rfl)
def M8:qeu:=(153,[.agg [.int .i64 (1000),.int .i64 (1000),.bool false]],.agg [.int .i64 (1),.nilslice,.int .i64 (1),.nilslice])::M7
theorem g8:Good M8:=ze g7 (by kernel_rfl)
def M9:qeu:=(39,[.agg [.int .i64 (1000),.int .i64 (1),.bool true],.agg [.int .i64 (1000),.int .i64 (1000),.bool false],.str [53,48]],.tuple [.str [50,48],.int .i64 (0)])::M8
theorem g9:Good M9:=ze g8 (by kernel_rfl)
def M10:qeu:=(156,[.str [50,48]],.agg [.int .i64 (20),.nilslice])::M9
theorem g10:Good M10:=ze g9 (by kernel_rfl)
def M11:qeu:=(96,[.str [49,47,50,48]],.int .i64 (0))::M10
theorem g11:Good M11:=ze g10 (by kernel_rfl)
def M12:qeu:=(92,[.str [49,47,50,48]],.agg [.int .i64 (1),.nilslice,.int .i64 (20),.nilslice])::M11
theorem g12:Good M12:=ze g11 (by kernel_rfl)
def M13:qeu:=(96,[.str [45,49,48,48]],.int .i64 (0))::M12
theorem g13:Good M13:=ze g12 (by kernel_rfl)
def M14:qeu:=(96,[.str [48]],.int .i64 (0))::M13
theorem g14:Good M14:=ze g13 (by kernel_rfl)
def M15:qeu:=(92,[.str [48]],.agg [.int .i64 (0),.nilslice,.int .i64 (1),.nilslice])::M14
theorem g15:Good M15:=ze g14 (by kernel_rfl)
def M16:qeu:=(96,[.str [49,48]],.int .i64 (0))::M15
theorem g16:Good M16:=ze g15 (by kernel_rfl)
def M17:qeu:=(156,[.str [49,48]],.agg [.int .i64 (10),.nilslice])::M16
theorem g17:Good M17:=ze g16 (by kernel_rfl)
def M18:qeu:=(96,[.str [56,48]],.int .i64 (0))::M17
theorem g18:Good M18:=ze g17 (by kernel_rfl)
def M19:qeu:=(156,[.str [56,48]],.agg [.int .i64 (80),.nilslice])::M18
theorem g19:Good M19:=ze g18 (by kernel_rfl)
def M20:qeu:=(96,[.str [49,52]],.int .i64 (0))::M19
theorem g20:Good M20:=ze g19 (by kernel_rfl)
def M21:qeu:=(156,[.str [49,52]],.agg [.int .i64 (14),.nilslice])::M20
theorem g21:Good M21:=ze g20 (by kernel_rfl)
def M22:qeu:=(158,[.agg [.str [56,48],.str [49,52]],.fslice 1 [.str [48],.str [49,48]]],.int .i64 (0))::M21
theorem g22:Good M22:=ze g21 (by kernel_rfl)
def M23:qeu:=(96,[.str [49,50,48]],.int .i64 (0))::M22
theorem g23:Good M23:=ze g22 (by kernel_rfl)
def M24:qeu:=(156,[.str [49,50,48]],.agg [.int .i64 (120),.nilslice])::M23
theorem g24:Good M24:=ze g23 (by kernel_rfl)
def M25:qeu:=(96,[.str [49,50]],.int .i64 (0))::M24
theorem g25:Good M25:=ze g24 (by kernel_rfl)
def M26:qeu:=(156,[.str [49,50]],.agg [.int .i64 (12),.nilslice])::M25
theorem g26:Good M26:=ze g25 (by kernel_rfl)
def M27:qeu:=(158,[.agg [.str [49,50,48],.str [49,50]],.fslice 2 [.str [48],.str [49,48],.str [56,48],.str [49,52]]],.int .i64 (0))::M26
theorem g27:Good M27:=ze g26 (by kernel_rfl)
def M28:qeu:=(94,[.agg [.str [121],.str [49,47,50,48],.str [45,49,48,48],.fslice 3 [.str [48],.str [49,48],.str [56,48],.str [49,52],.str [49,50,48],.str [49,50]],.str []]],.int .i64 (0))::M27
theorem g28:Good M28:=ze g27 (by kernel_rfl)
def M29:qeu:=(156,[.str [45,49,48,48]],.agg [.int .i64 (-100),.nilslice])::M28
theorem g29:Good M29:=ze g28 (by kernel_rfl)
def M30:qeu:=(95,[.agg [.str [121],.str [49,47,50,48],.str [45,49,48,48],.fslice 3 [.str [48],.str [49,48],.str [56,48],.str [49,52],.str [49,50,48],.str [49,50]],.str []],.agg [.int .i64 (-100),.nilslice,.int .i64 (1),.nilslice]],.tuple [.agg [.int .i64 (14),.nilslice,.int .i64 (1),.nilslice],.int .i64 (0)])::M29
theorem g30:Good M30:=ze g29 (by kernel_rfl)
def M31:qeu:=(96,[.str [51,48]],.int .i64 (0))::M30
theorem g31:Good M31:=ze g30 (by kernel_rfl)
def M32:qeu:=(156,[.str [51,48]],.agg [.int .i64 (30),.nilslice])::M31
theorem g32:Good M32:=ze g31 (by kernel_rfl)
def M33:qeu:=(42,[.agg [.str [121],.str [49,47,50,48],.str [45,49,48,48],.fslice 3 [.str [48],.str [49,48],.str [56,48],.str [49,52],.str [49,50,48],.str [49,50]],.str []],.str [51,48]],.tuple [.agg [.str [121],.str [49,47,50,48],.str [45,55,48],.fslice 3 [.str [48],.str [49,48],.str [56,48],.str [49,52],.str [49,50,48],.str [49,50]],.str []],.int .i64 (0)])::M32
theorem g33:Good M33:=ze g32 (by kernel_rfl)
def M34:qeu:=(96,[.str [45,55,48]],.int .i64 (0))::M33
theorem g34:Good M34:=ze g33 (by kernel_rfl)
def M35:qeu:=(94,[.agg [.str [121],.str [49,47,50,48],.str [45,55,48],.fslice 3 [.str [48],.str [49,48],.str [56,48],.str [49,52],.str [49,50,48],.str [49,50]],.str []]],.int .i64 (0))::M34
theorem g35:Good M35:=ze g34 (by kernel_rfl)
def M36:qeu:=(156,[.str [45,55,48]],.agg [.int .i64 (-70),.nilslice])::M35
theorem g36:Good M36:=ze g35 (by kernel_rfl)
def M37:qeu:=(95,[.agg [.str [121],.str [49,47,50,48],.str [45,55,48],.fslice 3 [.str [48],.str [49,48],.str [56,48],.str [49,52],.str [49,50,48],.str [49,50]],.str []],.agg [.int .i64 (-70),.nilslice,.int .i64 (1),.nilslice]],.tuple [.agg [.int .i64 (10),.nilslice,.int .i64 (1),.nilslice],.int .i64 (0)])::M36
theorem g37:Good M37:=ze g36 (by kernel_rfl)
def M38:qeu:=(96,[.str [54,48]],.int .i64 (0))::M37
theorem g38:Good M38:=ze g37 (by kernel_rfl)
def M39:qeu:=(96,[.str [57,47,49,48]],.int .i64 (0))::M38
theorem g39:Good M39:=ze g38 (by kernel_rfl)
def M40:qeu:=(92,[.str [57,47,49,48]],.agg [.int .i64 (9),.nilslice,.int .i64 (10),.nilslice])::M39
theorem g40:Good M40:=ze g39 (by kernel_rfl)
def M41:qeu:=(156,[.str [54,48]],.agg [.int .i64 (60),.nilslice])::M40
theorem g41:Good M41:=ze g40 (by kernel_rfl)
def M42:qeu:=(95,[.agg [.str [121],.str [49,47,50,48],.str [45,49,48,48],.fslice 3 [.str [48],.str [49,48],.str [56,48],.str [49,52],.str [49,50,48],.str [49,50]],.str []],.agg [.int .i64 (-40),.nilslice,.int .i64 (1),.nilslice]],.tuple [.agg [.int .i64 (10),.nilslice,.int .i64 (1),.nilslice],.int .i64 (0)])::M41
theorem g42:Good M42:=ze g41 (by kernel_rfl)
def M43:qeu:=(97,[.agg [.int .i64 (0),.nilslice,.int .i64 (1),.nilslice],.agg [.int .i64 (1),.nilslice,.int .i64 (20),.nilslice]],.agg [.int .i64 (1),.nilslice,.int .i64 (20),.nilslice])::M42
theorem g43:Good M43:=ze g42 (by kernel_rfl)
def M44:qeu:=(97,[.agg [.int .i64 (1),.nilslice,.int .i64 (20),.nilslice],.agg [.int .i64 (1),.nilslice,.int .i64 (20),.nilslice]],.agg [.int .i64 (1),.nilslice,.int .i64 (10),.nilslice])::M43
theorem g44:Good M44:=ze g43 (by kernel_rfl)
def M45:qeu:=(168,[.agg [.int .i64 (30),.nilslice],.agg [.int .i64 (200),.nilslice]],.agg [.int .i64 (3),.nilslice,.int .i64 (20),.nilslice])::M44
theorem g45:Good M45:=ze g44 (by kernel_rfl)
def M46:qeu:=(97,[.agg [.int .i64 (1),.nilslice,.int .i64 (10),.nilslice],.agg [.int .i64 (1),.nilslice,.int .i64 (20),.nilslice]],.agg [.int .i64 (3),.nilslice,.int .i64 (20),.nilslice])::M45
theorem g46:Good M46:=ze g45 (by kernel_rfl)
def M47:qeu:=(109,[.agg [.int .i64 (3),.nilslice,.int .i64 (20),.nilslice],.agg [.int .i64 (10),.nilslice,.int .i64 (9),.nilslice]],.agg [.int .i64 (1),.nilslice,.int .i64 (6),.nilslice])::M46
theorem g47:Good M47:=ze g46 (by kernel_rfl)
def M48:qeu:=(43,[.str [112],.fslice 3 [.str [121],.str [49,47,50,48],.str [45,49,48,48],.fslice 3 [.str [48],.str [49,48],.str [56,48],.str [49,52],.str [49,50,48],.str [49,50]],.str [],.str [121],.str [49,47,50,48],.str [45,49,48,48],.fslice 3 [.str [48],.str [49,48],.str [56,48],.str [49,52],.str [49,50,48],.str [49,50]],.str [],.str [121],.str [49,47,50,48],.str [45,49,48,48],.fslice 3 [.str [48],.str [49,48],.str [56,48],.str [49,52],.str [49,50,48],.str [49,50]],.str []],.str [54,48],.str [57,47,49,48]],.tuple [.agg [.str [112],.str [49,47,54],.str [54,48],.fslice 1 [.str [48],.str [51,48]],.str []],.int .i64 (0)])::M47
theorem g48:Good M48:=ze g47 (by kernel_rfl)
def M49:qeu:=(96,[.str [53,48,48]],.int .i64 (0))::M48
theorem g49:Good M49:=ze g48 (by kernel_rfl)
def M50:qeu:=(156,[.str [53,48,48]],.agg [.int .i64 (500),.nilslice])::M49
theorem g50:Good M50:=ze g49 (by kernel_rfl)
def M51:qeu:=(109,[.agg [.int .i64 (1),.nilslice,.int .i64 (20),.nilslice],.agg [.int .i64 (500),.nilslice,.int .i64 (1),.nilslice]],.agg [.int .i64 (25),.nilslice,.int .i64 (1),.nilslice])::M50
theorem g51:Good M51:=ze g50 (by kernel_rfl)
def M52:qeu:=(109,[.agg [.int .i64 (25),.nilslice,.int .i64 (1),.nilslice],.agg [.int .i64 (1),.nilslice,.int .i64 (10),.nilslice]],.agg [.int .i64 (5),.nilslice,.int .i64 (2),.nilslice])::M51
theorem g52:Good M52:=ze g51 (by kernel_rfl)
def M53:qeu:=(44,[.agg [.str [121],.str [49,47,50,48],.str [45,49,48,48],.fslice 3 [.str [48],.str [49,48],.str [56,48],.str [49,52],.str [49,50,48],.str [49,50]],.str []],.int .i64 (10),.str [53,48,48]],.tuple [.int .i64 (3),.int .i64 (0)])::M52
theorem g53:Good M53:=ze g52 (by kernel_rfl)
def M54:qeu:=(45,[.agg [.str [121],.str [49,47,50,48],.str [45,49,48,48],.fslice 3 [.str [48],.str [49,48],.str [56,48],.str [49,52],.str [49,50,48],.str [49,50]],.str []],.str [53,48,48]],.tuple [.str [50,53],.int .i64 (0)])::M53
theorem g54:Good M54:=ze g53 (by kernel_rfl)
def M55:qeu:=(18,[.fslice 3 [.str [114,101,99,101,105,118,101],.int .i64 (1),.str [76],.int .i64 (100),.str [121],.str [114,101,100],.str [],.str [114,101,115,101,114,118,101],.int .i64 (2),.str [76],.int .i64 (60),.str [],.str [],.str [65],.str [116,97,107,101],.int .i64 (3),.str [76],.int .i64 (70),.str [],.str [],.str [65]]],.int .i64 (0))::M54
theorem g55:Good M55:=ze g54 (by kernel_rfl)
def M56:qeu:=(12,[.fslice 3 [.str [114,101,99,101,105,118,101],.int .i64 (1),.str [76],.int .i64 (100),.str [121],.str [114,101,100],.str [],.str [114,101,115,101,114,118,101],.int .i64 (2),.str [76],.int .i64 (60),.str [],.str [],.str [65],.str [116,97,107,101],.int .i64 (3),.str [76],.int .i64 (70),.str [],.str [],.str [65]],.int .i64 (2)],.tuple [.agg [.int .i64 (2),.fslice 1 [.str [76],.str [121],.str [114,101,100],.int .i64 (100)],.fslice 1 [.str [76],.str [65],.int .i64 (60),.int .i64 (0)]],.int .i64 (0)])::M55
theorem g56:Good M56:=ze g55 (by kernel_rfl)
def M57:qeu:=(29,[.agg [.int .i64 (2),.fslice 1 [.str [76],.str [121],.str [114,101,100],.int .i64 (100)],.fslice 1 [.str [76],.str [65],.int .i64 (60),.int .i64 (0)]]],.int .i64 (0))::M56
theorem g57:Good M57:=ze g56 (by kernel_rfl)
def M58:qeu:=(23,[.agg [.int .i64 (2),.fslice 1 [.str [76],.str [121],.str [114,101,100],.int .i64 (100)],.fslice 1 [.str [76],.str [65],.int .i64 (60),.int .i64 (0)]],.agg [.str [116,97,107,101],.int .i64 (3),.str [76],.int .i64 (41),.str [],.str [],.str [66]]],.tuple [.int .i64 (3),.int .i64 (0)])::M57
theorem g58:Good M58:=ze g57 (by kernel_rfl)
def M59:qeu:=(11,[.fslice 3 [.str [114,101,99,101,105,118,101],.int .i64 (1),.str [76],.int .i64 (100),.str [121],.str [114,101,100],.str [],.str [114,101,115,101,114,118,101],.int .i64 (2),.str [76],.int .i64 (60),.str [],.str [],.str [65],.str [116,97,107,101],.int .i64 (3),.str [76],.int .i64 (70),.str [],.str [],.str [65]]],.tuple [.agg [.int .i64 (3),.fslice 1 [.str [76],.str [121],.str [114,101,100],.int .i64 (30)],.fslice 1 [.str [76],.str [65],.int .i64 (0),.int .i64 (70)]],.nilslice,.int .i64 (0)])::M58
theorem g59:Good M59:=ze g58 (by kernel_rfl)
def M60:qeu:=(29,[.agg [.int .i64 (0),.fslice 4 [.str [97],.str [121],.str [],.int .i64 (30),.str [98],.str [121],.str [],.int .i64 (50),.str [99],.str [121],.str [],.int .i64 (20),.str [100],.str [121],.str [],.int .i64 (50)],.nilslice]],.int .i64 (0))::M59
theorem g60:Good M60:=ze g59 (by kernel_rfl)
def M61:qeu:=(33,[.agg [.int .i64 (0),.fslice 4 [.str [97],.str [121],.str [],.int .i64 (30),.str [98],.str [121],.str [],.int .i64 (50),.str [99],.str [121],.str [],.int .i64 (20),.str [100],.str [121],.str [],.int .i64 (50)],.nilslice],.str [121],.str [],.int .i64 (90)],.tuple [.fslice 2 [.int .i64 (1),.int .i64 (3)],.int .i64 (0)])::M60
theorem g61:Good M61:=ze g60 (by kernel_rfl)
def M62:qeu:=(33,[.agg [.int .i64 (0),.fslice 4 [.str [97],.str [121],.str [],.int .i64 (30),.str [98],.str [121],.str [],.int .i64 (50),.str [99],.str [121],.str [],.int .i64 (20),.str [100],.str [121],.str [],.int .i64 (50)],.nilslice],.str [121],.str [],.int .i64 (151)],.tuple [.nilslice,.int .i64 (32)])::M61
theorem g62:Good M62:=ze g61 (by kernel_rfl)
theorem qz5:okM (qBm M62 (.fn 10) [] []) (.bool true)=true:=by kernel_rfl
theorem qCx:qJ Tryz.prog (.fn 10) [] [] (.bool true) []:=qyy g62 _ _ _ _ _ (qB4 qz5)
end Go.Av
