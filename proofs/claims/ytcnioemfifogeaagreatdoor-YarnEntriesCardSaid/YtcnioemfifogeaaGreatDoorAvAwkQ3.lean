/-
  The examples that every statement of the chapter checks: they hold. By running the evaluator in the kernel, call by call.
-/
import Derived.Test.YtcnioemfifogeaaGreatDoorAvMtQ3
noncomputable section
namespace Go.Av
open Go.Proofs
set_option maxRecDepth 100000
theorem fol01:Tryz.prog.follows .mixedOrders=true:=by kernel_rfl
def pl01 (f:FuncId):Bool:=Nat.beq (Nat.land (Nat.shiftRight 1897137784417365776548666874479646305989882332255251615167107963680502886843809792 f) 1) 0
def okM (r:Option (AV×Heap)) (v:AV):Bool:=match r with
 |some (w,[])=>qal 30 w v
 |_=>false
theorem qlo {r:Option (AV×Heap)} {v:AV} (h:okM r v=true):r=some (v,[]):=by
 unfold okM at h
 split at h
 ·rw[qf0 30 _ _ h]
 cases h
abbrev zK:=List (FuncId×List AV×AV)
def qkA (M:zK):zg:=qkJ Tryz.prog 3000 mtT insC (orElse (memo M) qkR) pl01 40
def Good (M:zK):Prop:= ∀e∈M,qf Tryz.prog (.fn e.1) e.2.1 [] e.2.2 []
theorem qh1 {M:zK} (h:Good M):qL Tryz.prog (qkA M):=qk2 fol01 mt_ok qlP (qgA (ql6 h) qjY) _
theorem qkb:Good []:=by intro e h;cases h
theorem ql {M:zK} {f:FuncId} {args:List AV} {v:AV} (h:Good M) (hr:okM (qkA M (.fn f) args []) v=true):Good ((f,args,v)::M):=by
 intro e he
 rcases List.mem_cons.1 he with rfl|he
 ·exact qh1 h _ _ _ _ _ (qlo hr)
 exact h e he
def M0:zK:=[]
theorem g0:Good M0:=qkb
def M1:zK:=(96,[.str [53,48]],.int .i64 (0))::M0
theorem g1:Good M1:=ql g0 (by kernel_rfl)
def M2:zK:=(156,[.str [53,48]],.agg [.int .i64 (50),.nilslice])::M1
theorem g2:Good M2:=ql g1 (by kernel_rfl)
def M3:zK:=(109,[.agg [.int .i64 (1),.nilslice,.int .i64 (1),.nilslice],.agg [.int .i64 (1),.nilslice,.int .i64 (1000),.nilslice]],.agg [.int .i64 (1),.nilslice,.int .i64 (1000),.nilslice])::M2
theorem g3:Good M3:=ql g2 (by kernel_rfl)
def M4:zK:=(153,[.agg [.int .i64 (1000),.int .i64 (1),.bool true]],.agg [.int .i64 (1),.nilslice,.int .i64 (1000),.nilslice])::M3
theorem g4:Good M4:=ql g3 (by kernel_rfl)
def M5:zK:=(109,[.agg [.int .i64 (50),.nilslice,.int .i64 (1),.nilslice],.agg [.int .i64 (1),.nilslice,.int .i64 (1000),.nilslice]],.agg [.int .i64 (1),.nilslice,.int .i64 (20),.nilslice])::M4
theorem g5:Good M5:=ql g4 (by kernel_rfl)
def M6:zK:=(38,[.agg [.int .i64 (1000),.int .i64 (1),.bool true],.str [53,48]],.tuple [.str [49,47,50,48],.int .i64 (0)])::M5
theorem g6:Good M6:=ql g5 (by kernel_rfl)
def M7:zK:=(109,[.agg [.int .i64 (1000),.nilslice,.int .i64 (1),.nilslice],.agg [.int .i64 (1),.nilslice,.int .i64 (1000),.nilslice]],.agg [.int .i64 (1),.nilslice,.int .i64 (1),.nilslice])::M6
theorem g7:Good M7:=ql g6 (by kernel_rfl)
def M8:zK:=(153,[.agg [.int .i64 (1000),.int .i64 (1000),.bool false]],.agg [.int .i64 (1),.nilslice,.int .i64 (1),.nilslice])::M7
theorem g8:Good M8:=ql g7 (by kernel_rfl)
def M9:zK:=(39,[.agg [.int .i64 (1000),.int .i64 (1),.bool true],.agg [.int .i64 (1000),.int .i64 (1000),.bool false],.str [53,48]],.tuple [.str [50,48],.int .i64 (0)])::M8
theorem g9:Good M9:=ql g8 (by kernel_rfl)
def M10:zK:=(156,[.str [50,48]],.agg [.int .i64 (20),.nilslice])::M9
theorem g10:Good M10:=ql g9 (by kernel_rfl)
def M11:zK:=(96,[.str [49,47,50,48]],.int .i64 (0))::M10
theorem g11:Good M11:=ql g10 (by kernel_rfl)
def M12:zK:=(92,[.str [49,47,50,48]],.agg [.int .i64 (1),.nilslice,.int .i64 (20),.nilslice])::M11
theorem g12:Good M12:=ql g11 (by kernel_rfl)
def M13:zK:=(96,[.str [45,49,48,48]],.int .i64 (0))::M12
theorem g13:Good M13:=ql g12 (by kernel_rfl)
def M14:zK:=(96,[.str [48]],.int .i64 (0))::M13
theorem g14:Good M14:=ql g13 (by kernel_rfl)
def M15:zK:=(92,[.str [48]],.agg [.int .i64 (0),.nilslice,.int .i64 (1),.nilslice])::M14
theorem g15:Good M15:=ql g14 (by kernel_rfl)
def M16:zK:=(96,[.str [49,48]],.int .i64 (0))::M15
theorem g16:Good M16:=ql g15 (by kernel_rfl)
def M17:zK:=(156,[.str [49,48]],.agg [.int .i64 (10),.nilslice])::M16
theorem g17:Good M17:=ql g16 (by kernel_rfl)
def M18:zK:=(96,[.str [56,48]],.int .i64 (0))::M17
theorem g18:Good M18:=ql g17 (by kernel_rfl)
def M19:zK:=(156,[.str [56,48]],.agg [.int .i64 (80),.nilslice])::M18
theorem g19:Good M19:=ql g18 (by kernel_rfl)
def M20:zK:=(96,[.str [49,52]],.int .i64 (0))::M19
theorem g20:Good M20:=ql g19 (by kernel_rfl)
def M21:zK:=(156,[.str [49,52]],.agg [.int .i64 (14),.nilslice])::M20
theorem g21:Good M21:=ql g20 (by kernel_rfl)
def M22:zK:=(158,[.agg [.str [56,48],.str [49,52]],.fslice 1 [.str [48],.str [49,48]]],.int .i64 (0))::M21
theorem g22:Good M22:=ql g21 (by kernel_rfl)
def M23:zK:=(96,[.str [49,50,48]],.int .i64 (0))::M22
theorem g23:Good M23:=ql g22 (by kernel_rfl)
def M24:zK:=(156,[.str [49,50,48]],.agg [.int .i64 (120),.nilslice])::M23
theorem g24:Good M24:=ql g23 (by kernel_rfl)
def M25:zK:=(96,[.str [49,50]],.int .i64 (0))::M24
theorem g25:Good M25:=ql g24 (by kernel_rfl)
def M26:zK:=(156,[.str [49,50]],.agg [.int .i64 (12),.nilslice])::M25
theorem g26:Good M26:=ql g25 (by kernel_rfl)
def M27:zK:=(158,[.agg [.str [49,50,48],.str [49,50]],.fslice 2 [.str [48],.str [49,48],.str [56,48],.str [49,52]]],.int .i64 (0))::M26
theorem g27:Good M27:=ql g26 (by kernel_rfl)
def M28:zK:=(94,[.agg [.str [121],.str [49,47,50,48],.str [45,49,48,48],.fslice 3 [.str [48],.str [49,48],.str [56,48],.str [49,52],.str [49,50,48],.str [49,50]],.str []]],.int .i64 (0))::M27
theorem g28:Good M28:=ql g27 (by kernel_rfl)
def M29:zK:=(156,[.str [45,49,48,48]],.agg [.int .i64 (-100),.nilslice])::M28
theorem g29:Good M29:=ql g28 (by kernel_rfl)
def M30:zK:=(95,[.agg [.str [121],.str [49,47,50,48],.str [45,49,48,48],.fslice 3 [.str [48],.str [49,48],.str [56,48],.str [49,52],.str [49,50,48],.str [49,50]],.str []],.agg [.int .i64 (-100),.nilslice,.int .i64 (1),.nilslice]],.tuple [.agg [.int .i64 (14),.nilslice,.int .i64 (1),.nilslice],.int .i64 (0)])::M29
theorem g30:Good M30:=ql g29 (by kernel_rfl)
def M31:zK:=(96,[.str [51,48]],.int .i64 (0))::M30
theorem g31:Good M31:=ql g30 (by kernel_rfl)
def M32:zK:=(156,[.str [51,48]],.agg [.int .i64 (30),.nilslice])::M31
theorem g32:Good M32:=ql g31 (by kernel_rfl)
def M33:zK:=(42,[.agg [.str [121],.str [49,47,50,48],.str [45,49,48,48],.fslice 3 [.str [48],.str [49,48],.str [56,48],.str [49,52],.str [49,50,48],.str [49,50]],.str []],.str [51,48]],.tuple [.agg [.str [121],.str [49,47,50,48],.str [45,55,48],.fslice 3 [.str [48],.str [49,48],.str [56,48],.str [49,52],.str [49,50,48],.str [49,50]],.str []],.int .i64 (0)])::M32
theorem g33:Good M33:=ql g32 (by kernel_rfl)
def M34:zK:=(96,[.str [45,55,48]],.int .i64 (0))::M33
theorem g34:Good M34:=ql g33 (by kernel_rfl)
def M35:zK:=(94,[.agg [.str [121],.str [49,47,50,48],.str [45,55,48],.fslice 3 [.str [48],.str [49,48],.str [56,48],.str [49,52],.str [49,50,48],.str [49,50]],.str []]],.int .i64 (0))::M34
theorem g35:Good M35:=ql g34 (by kernel_rfl)
def M36:zK:=(156,[.str [45,55,48]],.agg [.int .i64 (-70),.nilslice])::M35
theorem g36:Good M36:=ql g35 (by kernel_rfl)
def M37:zK:=(95,[.agg [.str [121],.str [49,47,50,48],.str [45,55,48],.fslice 3 [.str [48],.str [49,48],.str [56,48],.str [49,52],.str [49,50,48],.str [49,50]],.str []],.agg [.int .i64 (-70),.nilslice,.int .i64 (1),.nilslice]],.tuple [.agg [.int .i64 (10),.nilslice,.int .i64 (1),.nilslice],.int .i64 (0)])::M36
theorem g37:Good M37:=ql g36 (by kernel_rfl)
def M38:zK:=(96,[.str [54,48]],.int .i64 (0))::M37
theorem g38:Good M38:=ql g37 (by kernel_rfl)
def M39:zK:=(96,[.str [57,47,49,48]],.int .i64 (0))::M38
theorem g39:Good M39:=ql g38 (by kernel_rfl)
def M40:zK:=(92,[.str [57,47,49,48]],.agg [.int .i64 (9),.nilslice,.int .i64 (10),.nilslice])::M39
theorem g40:Good M40:=ql g39 (by kernel_rfl)
def M41:zK:=(156,[.str [54,48]],.agg [.int .i64 (60),.nilslice])::M40
theorem g41:Good M41:=ql g40 (by kernel_rfl)
def M42:zK:=(95,[.agg [.str [121],.str [49,47,50,48],.str [45,49,48,48],.fslice 3 [.str [48],.str [49,48],.str [56,48],.str [49,52],.str [49,50,48],.str [49,50]],.str []],.agg [.int .i64 (-40),.nilslice,.int .i64 (1),.nilslice]],.tuple [.agg [.int .i64 (10),.nilslice,.int .i64 (1),.nilslice],.int .i64 (0)])::M41
theorem g42:Good M42:=ql g41 (by kernel_rfl)
def M43:zK:=(97,[.agg [.int .i64 (0),.nilslice,.int .i64 (1),.nilslice],.agg [.int .i64 (1),.nilslice,.int .i64 (20),.nilslice]],.agg [.int .i64 (1),.nilslice,.int .i64 (20),.nilslice])::M42
theorem g43:Good M43:=ql g42 (by kernel_rfl)
def M44:zK:=(97,[.agg [.int .i64 (1),.nilslice,.int .i64 (20),.nilslice],.agg [.int .i64 (1),.nilslice,.int .i64 (20),.nilslice]],.agg [.int .i64 (1),.nilslice,.int .i64 (10),.nilslice])::M43
theorem g44:Good M44:=ql g43 (by kernel_rfl)
def M45:zK:=(168,[.agg [.int .i64 (30),.nilslice],.agg [.int .i64 (200),.nilslice]],.agg [.int .i64 (3),.nilslice,.int .i64 (20),.nilslice])::M44
theorem g45:Good M45:=ql g44 (by kernel_rfl)
def M46:zK:=(97,[.agg [.int .i64 (1),.nilslice,.int .i64 (10),.nilslice],.agg [.int .i64 (1),.nilslice,.int .i64 (20),.nilslice]],.agg [.int .i64 (3),.nilslice,.int .i64 (20),.nilslice])::M45
theorem g46:Good M46:=ql g45 (by kernel_rfl)
def M47:zK:=(109,[.agg [.int .i64 (3),.nilslice,.int .i64 (20),.nilslice],.agg [.int .i64 (10),.nilslice,.int .i64 (9),.nilslice]],.agg [.int .i64 (1),.nilslice,.int .i64 (6),.nilslice])::M46
theorem g47:Good M47:=ql g46 (by kernel_rfl)
def M48:zK:=(43,[.str [112],.fslice 3 [.str [121],.str [49,47,50,48],.str [45,49,48,48],.fslice 3 [.str [48],.str [49,48],.str [56,48],.str [49,52],.str [49,50,48],.str [49,50]],.str [],.str [121],.str [49,47,50,48],.str [45,49,48,48],.fslice 3 [.str [48],.str [49,48],.str [56,48],.str [49,52],.str [49,50,48],.str [49,50]],.str [],.str [121],.str [49,47,50,48],.str [45,49,48,48],.fslice 3 [.str [48],.str [49,48],.str [56,48],.str [49,52],.str [49,50,48],.str [49,50]],.str []],.str [54,48],.str [57,47,49,48]],.tuple [.agg [.str [112],.str [49,47,54],.str [54,48],.fslice 1 [.str [48],.str [51,48]],.str []],.int .i64 (0)])::M47
theorem g48:Good M48:=ql g47 (by kernel_rfl)
def M49:zK:=(96,[.str [53,48,48]],.int .i64 (0))::M48
theorem g49:Good M49:=ql g48 (by kernel_rfl)
def M50:zK:=(156,[.str [53,48,48]],.agg [.int .i64 (500),.nilslice])::M49
theorem g50:Good M50:=ql g49 (by kernel_rfl)
def M51:zK:=(109,[.agg [.int .i64 (1),.nilslice,.int .i64 (20),.nilslice],.agg [.int .i64 (500),.nilslice,.int .i64 (1),.nilslice]],.agg [.int .i64 (25),.nilslice,.int .i64 (1),.nilslice])::M50
theorem g51:Good M51:=ql g50 (by kernel_rfl)
def M52:zK:=(109,[.agg [.int .i64 (25),.nilslice,.int .i64 (1),.nilslice],.agg [.int .i64 (1),.nilslice,.int .i64 (10),.nilslice]],.agg [.int .i64 (5),.nilslice,.int .i64 (2),.nilslice])::M51
theorem g52:Good M52:=ql g51 (by kernel_rfl)
def M53:zK:=(44,[.agg [.str [121],.str [49,47,50,48],.str [45,49,48,48],.fslice 3 [.str [48],.str [49,48],.str [56,48],.str [49,52],.str [49,50,48],.str [49,50]],.str []],.int .i64 (10),.str [53,48,48]],.tuple [.int .i64 (3),.int .i64 (0)])::M52
theorem g53:Good M53:=ql g52 (by kernel_rfl)
def M54:zK:=(45,[.agg [.str [121],.str [49,47,50,48],.str [45,49,48,48],.fslice 3 [.str [48],.str [49,48],.str [56,48],.str [49,52],.str [49,50,48],.str [49,50]],.str []],.str [53,48,48]],.tuple [.str [50,53],.int .i64 (0)])::M53
theorem g54:Good M54:=ql g53 (by kernel_rfl)
def M55:zK:=(18,[.fslice 3 [.str [114,101,99,101,105,118,101],.int .i64 (1),.str [76],.int .i64 (100),.str [121],.str [114,101,100],.str [],.str [114,101,115,101,114,118,101],.int .i64 (2),.str [76],.int .i64 (60),.str [],.str [],.str [65],.str [116,97,107,101],.int .i64 (3),.str [76],.int .i64 (70),.str [],.str [],.str [65]]],.int .i64 (0))::M54
theorem g55:Good M55:=ql g54 (by kernel_rfl)
def M56:zK:=(12,[.fslice 3 [.str [114,101,99,101,105,118,101],.int .i64 (1),.str [76],.int .i64 (100),.str [121],.str [114,101,100],.str [],.str [114,101,115,101,114,118,101],.int .i64 (2),.str [76],.int .i64 (60),.str [],.str [],.str [65],.str [116,97,107,101],.int .i64 (3),.str [76],.int .i64 (70),.str [],.str [],.str [65]],.int .i64 (2)],.tuple [.agg [.int .i64 (2),.fslice 1 [.str [76],.str [121],.str [114,101,100],.int .i64 (100)],.fslice 1 [.str [76],.str [65],.int .i64 (60),.int .i64 (0)]],.int .i64 (0)])::M55
theorem g56:Good M56:=ql g55 (by kernel_rfl)
def M57:zK:=(29,[.agg [.int .i64 (2),.fslice 1 [.str [76],.str [121],.str [114,101,100],.int .i64 (100)],.fslice 1 [.str [76],.str [65],.int .i64 (60),.int .i64 (0)]]],.int .i64 (0))::M56
theorem g57:Good M57:=ql g56 (by kernel_rfl)
def M58:zK:=(23,[.agg [.int .i64 (2),.fslice 1 [.str [76],.str [121],.str [114,101,100],.int .i64 (100)],.fslice 1 [.str [76],.str [65],.int .i64 (60),.int .i64 (0)]],.agg [.str [116,97,107,101],.int .i64 (3),.str [76],.int .i64 (41),.str [],.str [],.str [66]]],.tuple [.int .i64 (3),.int .i64 (0)])::M57
theorem g58:Good M58:=ql g57 (by kernel_rfl)
def M59:zK:=(11,[.fslice 3 [.str [114,101,99,101,105,118,101],.int .i64 (1),.str [76],.int .i64 (100),.str [121],.str [114,101,100],.str [],.str [114,101,115,101,114,118,101],.int .i64 (2),.str [76],.int .i64 (60),.str [],.str [],.str [65],.str [116,97,107,101],.int .i64 (3),.str [76],.int .i64 (70),.str [],.str [],.str [65]]],.tuple [.agg [.int .i64 (3),.fslice 1 [.str [76],.str [121],.str [114,101,100],.int .i64 (30)],.fslice 1 [.str [76],.str [65],.int .i64 (0),.int .i64 (70)]],.nilslice,.int .i64 (0)])::M58
theorem g59:Good M59:=ql g58 (by kernel_rfl)
def M60:zK:=(29,[.agg [.int .i64 (0),.fslice 4 [.str [97],.str [121],.str [],.int .i64 (30),.str [98],.str [121],.str [],.int .i64 (50),.str [99],.str [121],.str [],.int .i64 (20),.str [100],.str [121],.str [],.int .i64 (50)],.nilslice]],.int .i64 (0))::M59
theorem g60:Good M60:=ql g59 (by kernel_rfl)
def M61:zK:=(33,[.agg [.int .i64 (0),.fslice 4 [.str [97],.str [121],.str [],.int .i64 (30),.str [98],.str [121],.str [],.int .i64 (50),.str [99],.str [121],.str [],.int .i64 (20),.str [100],.str [121],.str [],.int .i64 (50)],.nilslice],.str [121],.str [],.int .i64 (90)],.tuple [.fslice 2 [.int .i64 (1),.int .i64 (3)],.int .i64 (0)])::M60
theorem g61:Good M61:=ql g60 (by kernel_rfl)
def M62:zK:=(33,[.agg [.int .i64 (0),.fslice 4 [.str [97],.str [121],.str [],.int .i64 (30),.str [98],.str [121],.str [],.int .i64 (50),.str [99],.str [121],.str [],.int .i64 (20),.str [100],.str [121],.str [],.int .i64 (50)],.nilslice],.str [121],.str [],.int .i64 (151)],.tuple [.nilslice,.int .i64 (32)])::M61
theorem g62:Good M62:=ql g61 (by kernel_rfl)
theorem qjr:okM (qkA M62 (.fn 10) [] []) (.bool true)=true:=by kernel_rfl
theorem qlM:qf Tryz.prog (.fn 10) [] [] (.bool true) []:=qh1 g62 _ _ _ _ _ (qlo qjr)
end Go.Av
