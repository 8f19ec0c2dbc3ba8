/-
  The examples that every statement of the chapter checks: they hold. By running the evaluator in the kernel, call by call.
-/
import Derived.Test.YtfffkfkghchbdaaGreatDoorAvMtL
noncomputable section
namespace Go.Av
open Go.Proofs
set_option maxRecDepth 100000
theorem fol01:Tryz.prog.follows .mixedOrders=true:=by kernel_rfl
def pl01 (f:FuncId):Bool:=Nat.beq (Nat.land (Nat.shiftRight 4286314820998475812917211599217672106429212251676649987800515925395578031473195994331804736684032 f) 1) 0
def okM (r:Option (AV×Heap)) (v:AV):Bool:=match r with
 |some (w,[])=>yc 30 w v
 |_=>false
theorem qhw {r:Option (AV×Heap)} {v:AV} (h:okM r v=true):r=some (v,[]):=by
 unfold okM at h
 split at h
 ·rw[qcd 30 _ _ h]
 cases h
abbrev ky:=List (FuncId×List AV×AV)
def qgQ (M:ky):qV:=qhC Tryz.prog 3000 mtT insC (orElse (memo M) qgL) pl01 40
def Good (M:ky):Prop:= ∀e∈M,qd Tryz.prog (.fn e.1) e.2.1 [] e.2.2 []
theorem qeH {M:ky} (h:Good M):qy Tryz.prog (qgQ M):=qhS fol01 mt_ok qin (qdv (qh5 h) qf0) _
theorem qhh:Good []:=by intro e h;cases h
theorem qc {M:ky} {f:FuncId} {args:List AV} {v:AV} (h:Good M) (hr:okM (qgQ M (.fn f) args []) v=true):Good ((f,args,v)::M):=by
 intro e he
 rcases List.mem_cons.1 he with rfl|he
 ·exact qeH h _ _ _ _ _ (qhw hr)
 exact h e he
def M0:ky:=[]
theorem g0:Good M0:=qhh
def M1:ky:=(86,[.str [53,48]],.int .i64 (0))::M0
theorem g1:Good M1:=qc g0 (by kernel_rfl)
def M2:ky:=(121,[.str [53,48]],.agg [.int .i64 (50),.nilslice])::M1
theorem g2:Good M2:=qc g1 (by kernel_rfl)
def M3:ky:=(68,[.agg [.int .i64 (1),.nilslice,.int .i64 (1),.nilslice],.agg [.int .i64 (1),.nilslice,.int .i64 (1000),.nilslice]],.agg [.int .i64 (1),.nilslice,.int .i64 (1000),.nilslice])::M2
theorem g3:Good M3:=qc g2 (by kernel_rfl)
def M4:ky:=(143,[.agg [.int .i64 (1000),.int .i64 (1),.bool true]],.agg [.int .i64 (1),.nilslice,.int .i64 (1000),.nilslice])::M3
theorem g4:Good M4:=qc g3 (by kernel_rfl)
def M5:ky:=(68,[.agg [.int .i64 (50),.nilslice,.int .i64 (1),.nilslice],.agg [.int .i64 (1),.nilslice,.int .i64 (1000),.nilslice]],.agg [.int .i64 (1),.nilslice,.int .i64 (20),.nilslice])::M4
theorem g5:Good M5:=qc g4 (by kernel_rfl)
def M6:ky:=(30,[.agg [.int .i64 (1000),.int .i64 (1),.bool true],.str [53,48]],.tuple [.str [49,47,50,48],.int .i64 (0)])::M5
theorem g6:Good M6:=qc g5 (by kernel_rfl)
def M7:ky:=(68,[.agg [.int .i64 (1000),.nilslice,.int .i64 (1),.nilslice],.agg [.int .i64 (1),.nilslice,.int .i64 (1000),.nilslice]],.agg [.int .i64 (1),.nilslice,.int .i64 (1),.nilslice])::M6
theorem g7:Good M7:=qc g6 (by kernel_rfl)
def M8:ky:=(143,[.agg [.int .i64 (1000),.int .i64 (1000),.bool false]],.agg [.int .i64 (1),.nilslice,.int .i64 (1),.nilslice])::M7
theorem g8:Good M8:=qc g7 (by kernel_rfl)
def M9:ky:=(31,[.agg [.int .i64 (1000),.int .i64 (1),.bool true],.agg [.int .i64 (1000),.int .i64 (1000),.bool false],.str [53,48]],.tuple [.str [50,48],.int .i64 (0)])::M8
theorem g9:Good M9:=qc g8 (by kernel_rfl)
def M10:ky:=(121,[.str [50,48]],.agg [.int .i64 (20),.nilslice])::M9
theorem g10:Good M10:=qc g9 (by kernel_rfl)
def M11:ky:=(86,[.str [49,47,50,48]],.int .i64 (0))::M10
theorem g11:Good M11:=qc g10 (by kernel_rfl)
def M12:ky:=(82,[.str [49,47,50,48]],.agg [.int .i64 (1),.nilslice,.int .i64 (20),.nilslice])::M11
theorem g12:Good M12:=qc g11 (by kernel_rfl)
def M13:ky:=(86,[.str [45,49,48,48]],.int .i64 (0))::M12
theorem g13:Good M13:=qc g12 (by kernel_rfl)
def M14:ky:=(86,[.str [48]],.int .i64 (0))::M13
theorem g14:Good M14:=qc g13 (by kernel_rfl)
def M15:ky:=(82,[.str [48]],.agg [.int .i64 (0),.nilslice,.int .i64 (1),.nilslice])::M14
theorem g15:Good M15:=qc g14 (by kernel_rfl)
def M16:ky:=(86,[.str [49,48]],.int .i64 (0))::M15
theorem g16:Good M16:=qc g15 (by kernel_rfl)
def M17:ky:=(121,[.str [49,48]],.agg [.int .i64 (10),.nilslice])::M16
theorem g17:Good M17:=qc g16 (by kernel_rfl)
def M18:ky:=(86,[.str [56,48]],.int .i64 (0))::M17
theorem g18:Good M18:=qc g17 (by kernel_rfl)
def M19:ky:=(121,[.str [56,48]],.agg [.int .i64 (80),.nilslice])::M18
theorem g19:Good M19:=qc g18 (by kernel_rfl)
def M20:ky:=(86,[.str [49,52]],.int .i64 (0))::M19
theorem g20:Good M20:=qc g19 (by kernel_rfl)
def M21:ky:=(121,[.str [49,52]],.agg [.int .i64 (14),.nilslice])::M20
theorem g21:Good M21:=qc g20 (by kernel_rfl)
def M22:ky:=(146,[.agg [.str [56,48],.str [49,52]],.fslice 1 [.str [48],.str [49,48]]],.int .i64 (0))::M21
theorem g22:Good M22:=qc g21 (by kernel_rfl)
def M23:ky:=(86,[.str [49,50,48]],.int .i64 (0))::M22
theorem g23:Good M23:=qc g22 (by kernel_rfl)
def M24:ky:=(121,[.str [49,50,48]],.agg [.int .i64 (120),.nilslice])::M23
theorem g24:Good M24:=qc g23 (by kernel_rfl)
def M25:ky:=(86,[.str [49,50]],.int .i64 (0))::M24
theorem g25:Good M25:=qc g24 (by kernel_rfl)
def M26:ky:=(121,[.str [49,50]],.agg [.int .i64 (12),.nilslice])::M25
theorem g26:Good M26:=qc g25 (by kernel_rfl)
def M27:ky:=(146,[.agg [.str [49,50,48],.str [49,50]],.fslice 2 [.str [48],.str [49,48],.str [56,48],.str [49,52]]],.int .i64 (0))::M26
theorem g27:Good M27:=qc g26 (by kernel_rfl)
def M28:ky:=(84,[.agg [.str [121],.str [49,47,50,48],.str [45,49,48,48],.fslice 3 [.str [48],.str [49,48],.str [56,48],.str [49,52],.str [49,50,48],.str [49,50]],.str []]],.int .i64 (0))::M27
theorem g28:Good M28:=qc g27 (by kernel_rfl)
def M29:ky:=(121,[.str [45,49,48,48]],.agg [.int .i64 (-100),.nilslice])::M28
theorem g29:Good M29:=qc g28 (by kernel_rfl)
def M30:ky:=(85,[.agg [.str [121],.str [49,47,50,48],.str [45,49,48,48],.fslice 3 [.str [48],.str [49,48],.str [56,48],.str [49,52],.str [49,50,48],.str [49,50]],.str []],.agg [.int .i64 (-100),.nilslice,.int .i64 (1),.nilslice]],.tuple [.agg [.int .i64 (14),.nilslice,.int .i64 (1),.nilslice],.int .i64 (0)])::M29
theorem g30:Good M30:=qc g29 (by kernel_rfl)
def M31:ky:=(86,[.str [51,48]],.int .i64 (0))::M30
theorem g31:Good M31:=qc g30 (by kernel_rfl)
def M32:ky:=(121,[.str [51,48]],.agg [.int .i64 (30),.nilslice])::M31
theorem g32:Good M32:=qc g31 (by kernel_rfl)
def M33:ky:=(34,[.agg [.str [121],.str [49,47,50,48],.str [45,49,48,48],.fslice 3 [.str [48],.str [49,48],.str [56,48],.str [49,52],.str [49,50,48],.str [49,50]],.str []],.str [51,48]],.tuple [.agg [.str [121],.str [49,47,50,48],.str [45,55,48],.fslice 3 [.str [48],.str [49,48],.str [56,48],.str [49,52],.str [49,50,48],.str [49,50]],.str []],.int .i64 (0)])::M32
theorem g33:Good M33:=qc g32 (by kernel_rfl)
def M34:ky:=(86,[.str [45,55,48]],.int .i64 (0))::M33
theorem g34:Good M34:=qc g33 (by kernel_rfl)
def M35:ky:=(84,[.agg [.str [121],.str [49,47,50,48],.str [45,55,48],.fslice 3 [.str [48],.str [49,48],.str [56,48],.str [49,52],.str [49,50,48],.str [49,50]],.str []]],.int .i64 (0))::M34
theorem g35:Good M35:=qc g34 (by kernel_rfl)
def M36:ky:=(121,[.str [45,55,48]],.agg [.int .i64 (-70),.nilslice])::M35
theorem g36:Good M36:=qc g35 (by kernel_rfl)
def M37:ky:=(85,[.agg [.str [121],.str [49,47,50,48],.str [45,55,48],.fslice 3 [.str [48],.str [49,48],.str [56,48],.str [49,52],.str [49,50,48],.str [49,50]],.str []],.agg [.int .i64 (-70),.nilslice,.int .i64 (1),.nilslice]],.tuple [.agg [.int .i64 (10),.nilslice,.int .i64 (1),.nilslice],.int .i64 (0)])::M36
theorem g37:Good M37:=qc g36 (by kernel_rfl)
def M38:ky:=(86,[.str [54,48]],.int .i64 (0))::M37
theorem g38:Good M38:=qc g37 (by kernel_rfl)
def M39:ky:=(86,[.str [57,47,49,48]],.int .i64 (0))::M38
theorem g39:Good M39:=qc g38 (by kernel_rfl)
def M40:ky:=(82,[.str [57,47,49,48]],.agg [.int .i64 (9),.nilslice,.int .i64 (10),.nilslice])::M39
theorem g40:Good M40:=qc g39 (by kernel_rfl)
def M41:ky:=(121,[.str [54,48]],.agg [.int .i64 (60),.nilslice])::M40
theorem g41:Good M41:=qc g40 (by kernel_rfl)
def M42:ky:=(85,[.agg [.str [121],.str [49,47,50,48],.str [45,49,48,48],.fslice 3 [.str [48],.str [49,48],.str [56,48],.str [49,52],.str [49,50,48],.str [49,50]],.str []],.agg [.int .i64 (-40),.nilslice,.int .i64 (1),.nilslice]],.tuple [.agg [.int .i64 (10),.nilslice,.int .i64 (1),.nilslice],.int .i64 (0)])::M41
theorem g42:Good M42:=qc g41 (by kernel_rfl)
def M43:ky:=(87,[.agg [.int .i64 (0),.nilslice,.int .i64 (1),.nilslice],.agg [.int .i64 (1),.nilslice,.int .i64 (20),.nilslice]],.agg [.int .i64 (1),.nilslice,.int .i64 (20),.nilslice])::M42
theorem g43:Good M43:=qc g42 (by kernel_rfl)
def M44:ky:=(87,[.agg [.int .i64 (1),.nilslice,.int .i64 (20),.nilslice],.agg [.int .i64 (1),.nilslice,.int .i64 (20),.nilslice]],.agg [.int .i64 (1),.nilslice,.int .i64 (10),.nilslice])::M43
theorem g44:Good M44:=qc g43 (by kernel_rfl)
def M45:ky:=(124,[.agg [.int .i64 (30),.nilslice],.agg [.int .i64 (200),.nilslice]],.agg [.int .i64 (3),.nilslice,.int .i64 (20),.nilslice])::M44
theorem g45:Good M45:=qc g44 (by kernel_rfl)
def M46:ky:=(87,[.agg [.int .i64 (1),.nilslice,.int .i64 (10),.nilslice],.agg [.int .i64 (1),.nilslice,.int .i64 (20),.nilslice]],.agg [.int .i64 (3),.nilslice,.int .i64 (20),.nilslice])::M45
theorem g46:Good M46:=qc g45 (by kernel_rfl)
def M47:ky:=(68,[.agg [.int .i64 (3),.nilslice,.int .i64 (20),.nilslice],.agg [.int .i64 (10),.nilslice,.int .i64 (9),.nilslice]],.agg [.int .i64 (1),.nilslice,.int .i64 (6),.nilslice])::M46
theorem g47:Good M47:=qc g46 (by kernel_rfl)
def M48:ky:=(35,[.str [112],.fslice 3 [.str [121],.str [49,47,50,48],.str [45,49,48,48],.fslice 3 [.str [48],.str [49,48],.str [56,48],.str [49,52],.str [49,50,48],.str [49,50]],.str [],.str [121],.str [49,47,50,48],.str [45,49,48,48],.fslice 3 [.str [48],.str [49,48],.str [56,48],.str [49,52],.str [49,50,48],.str [49,50]],.str [],.str [121],.str [49,47,50,48],.str [45,49,48,48],.fslice 3 [.str [48],.str [49,48],.str [56,48],.str [49,52],.str [49,50,48],.str [49,50]],.str []],.str [54,48],.str [57,47,49,48]],.tuple [.agg [.str [112],.str [49,47,54],.str [54,48],.fslice 1 [.str [48],.str [51,48]],.str []],.int .i64 (0)])::M47
theorem g48:Good M48:=qc g47 (by kernel_rfl)
def M49:ky:=(86,[.str [53,48,48]],.int .i64 (0))::M48
theorem g49:Good M49:=qc g48 (by kernel_rfl)
def M50:ky:=(121,[.str [53,48,48]],.agg [.int .i64 (500),.nilslice])::M49
theorem g50:Good M50:=qc g49 (by kernel_rfl)
def M51:ky:=(68,[.agg [.int .i64 (1),.nilslice,.int .i64 (20),.nilslice],.agg [.int .i64 (500),.nilslice,.int .i64 (1),.nilslice]],.agg [.int .i64 (25),.nilslice,.int .i64 (1),.nilslice])::M50
theorem g51:Good M51:=qc g50 (by kernel_rfl)
def M52:ky:=(68,[.agg [.int .i64 (25),.nilslice,.int .i64 (1),.nilslice],.agg [.int .i64 (1),.nilslice,.int .i64 (10),.nilslice]],.agg [.int .i64 (5),.nilslice,.int .i64 (2),.nilslice])::M51
theorem g52:Good M52:=qc g51 (by kernel_rfl)
def M53:ky:=(36,[.agg [.str [121],.str [49,47,50,48],.str [45,49,48,48],.fslice 3 [.str [48],.str [49,48],.str [56,48],.str [49,52],.str [49,50,48],.str [49,50]],.str []],.int .i64 (10),.str [53,48,48]],.tuple [.int .i64 (3),.int .i64 (0)])::M52
theorem g53:Good M53:=qc g52 (by kernel_rfl)
def M54:ky:=(37,[.agg [.str [121],.str [49,47,50,48],.str [45,49,48,48],.fslice 3 [.str [48],.str [49,48],.str [56,48],.str [49,52],.str [49,50,48],.str [49,50]],.str []],.str [53,48,48]],.tuple [.str [50,53],.int .i64 (0)])::M53
theorem g54:Good M54:=qc g53 (by kernel_rfl)
def M55:ky:=(100,[.fslice 3 [.str [114,101,99,101,105,118,101],.int .i64 (1),.str [76],.int .i64 (100),.str [121],.str [114,101,100],.str [],.str [114,101,115,101,114,118,101],.int .i64 (2),.str [76],.int .i64 (60),.str [],.str [],.str [65],.str [116,97,107,101],.int .i64 (3),.str [76],.int .i64 (70),.str [],.str [],.str [65]]],.int .i64 (0))::M54
theorem g55:Good M55:=qc g54 (by kernel_rfl)
def M56:ky:=(38,[.fslice 3 [.str [114,101,99,101,105,118,101],.int .i64 (1),.str [76],.int .i64 (100),.str [121],.str [114,101,100],.str [],.str [114,101,115,101,114,118,101],.int .i64 (2),.str [76],.int .i64 (60),.str [],.str [],.str [65],.str [116,97,107,101],.int .i64 (3),.str [76],.int .i64 (70),.str [],.str [],.str [65]],.int .i64 (2)],.tuple [.agg [.int .i64 (2),.fslice 1 [.str [76],.str [121],.str [114,101,100],.int .i64 (100)],.fslice 1 [.str [76],.str [65],.int .i64 (60),.int .i64 (0)]],.int .i64 (0)])::M55
theorem g56:Good M56:=qc g55 (by kernel_rfl)
def M57:ky:=(43,[.agg [.int .i64 (2),.fslice 1 [.str [76],.str [121],.str [114,101,100],.int .i64 (100)],.fslice 1 [.str [76],.str [65],.int .i64 (60),.int .i64 (0)]]],.int .i64 (0))::M56
theorem g57:Good M57:=qc g56 (by kernel_rfl)
def M58:ky:=(40,[.agg [.int .i64 (2),.fslice 1 [.str [76],.str [121],.str [114,101,100],.int .i64 (100)],.fslice 1 [.str [76],.str [65],.int .i64 (60),.int .i64 (0)]],.agg [.str [116,97,107,101],.int .i64 (3),.str [76],.int .i64 (41),.str [],.str [],.str [66]]],.tuple [.int .i64 (3),.int .i64 (0)])::M57
theorem g58:Good M58:=qc g57 (by kernel_rfl)
def M59:ky:=(41,[.fslice 3 [.str [114,101,99,101,105,118,101],.int .i64 (1),.str [76],.int .i64 (100),.str [121],.str [114,101,100],.str [],.str [114,101,115,101,114,118,101],.int .i64 (2),.str [76],.int .i64 (60),.str [],.str [],.str [65],.str [116,97,107,101],.int .i64 (3),.str [76],.int .i64 (70),.str [],.str [],.str [65]]],.tuple [.agg [.int .i64 (3),.fslice 1 [.str [76],.str [121],.str [114,101,100],.int .i64 (30)],.fslice 1 [.str [76],.str [65],.int .i64 (0),.int .i64 (70)]],.nilslice,.int .i64 (0)])::M58
theorem g59:Good M59:=qc g58 (by kernel_rfl)
def M60:ky:=(43,[.agg [.int .i64 (0),.fslice 4 [.str [97],.str [121],.str [],.int .i64 (30),.str [98],.str [121],.str [],.int .i64 (50),.str [99],.str [121],.str [],.int .i64 (20),.str [100],.str [121],.str [],.int .i64 (50)],.nilslice]],.int .i64 (0))::M59
theorem g60:Good M60:=qc g59 (by kernel_rfl)
def M61:ky:=(10,[.agg [.int .i64 (0),.fslice 4 [.str [97],.str [121],.str [],.int .i64 (30),.str [98],.str [121],.str [],.int .i64 (50),.str [99],.str [121],.str [],.int .i64 (20),.str [100],.str [121],.str [],.int .i64 (50)],.nilslice],.str [121],.str [],.int .i64 (90)],.tuple [.fslice 2 [.int .i64 (1),.int .i64 (3)],.int .i64 (0)])::M60
theorem g61:Good M61:=qc g60 (by kernel_rfl)
def M62:ky:=(10,[.agg [.int .i64 (0),.fslice 4 [.str [97],.str [121],.str [],.int .i64 (30),.str [98],.str [121],.str [],.int .i64 (50),.str [99],.str [121],.str [],.int .i64 (20),.str [100],.str [121],.str [],.int .i64 (50)],.nilslice],.str [121],.str [],.int .i64 (151)],.tuple [.nilslice,.int .i64 (32)])::M61
theorem g62:Good M62:=qc g61 (by kernel_rfl)
theorem qfX:okM (qgQ M62 (.fn 7) [] []) (.bool true)=true:=by kernel_rfl
theorem qiU:qd Tryz.prog (.fn 7) [] [] (.bool true) []:=qeH g62 _ _ _ _ _ (qhw qfX)
end Go.Av
