/-
  The examples that every statement of the chapter checks: they hold. By running the evaluator in the kernel, call by call.
-/
import Derived.Test.YtppehbboaidbgaaGreatDoorAvMtP
noncomputable section
namespace Go.Av
open Go.Proofs
set_option maxRecDepth 100000
theorem fol01:Tryz.prog.follows .mixedOrders=true:=by kernel_rfl
def pl01 (f:FuncId):Bool:=Nat.beq (Nat.land (Nat.shiftRight 8558288878942442719532770833502687269341324702811566834176250166350135733064374247921377781743616 f) 1) 0
def okM (r:Option (AV×Heap)) (v:AV):Bool:=match r with
 |some (w,[])=>qbG 30 w v
 |_=>false
theorem qof {r:Option (AV×Heap)} {v:AV} (h:okM r v=true):r=some (v,[]):=by
 unfold okM at h;split at h
 ·rw[qiD 30 _ _ h]
 cases h
abbrev zS:=List (FuncId×List AV×AV)
def qqj (M:zS):zy:=qoC Tryz.prog 3000 mtT insC (orElse (memo M) qpV) pl01 40
def Good (M:zS):Prop:= ∀e∈M,qb Tryz.prog (.fn e.1) e.2.1 [] e.2.2 []
theorem qk3 {M:zS} (h:Good M):ko Tryz.prog (qqj M):=qqi fol01 mt_ok qrh (qjw (qqG h) qnA) _
theorem qo2:Good []:=by intro e h;cases h
theorem qo {M:zS} {f:FuncId} {args:List AV} {v:AV} (h:Good M) (hr:okM (qqj M (.fn f) args []) v=true):Good ((f,args,v)::M):=by
 intro e he;rcases List.mem_cons.1 he with rfl|he
 ·exact qk3 h _ _ _ _ _ (qof hr)
 exact h e he
def M0:zS:=[]
theorem g0:Good M0:=qo2
def M1:zS:=(47,[.str [53,48]],.int .i64 (0))::M0
theorem g1:Good M1:=qo g0 (by kernel_rfl)
def M2:zS:=(116,[.str [53,48]],.agg [.int .i64 (50),.nilslice])::M1
theorem g2:Good M2:=qo g1 (by kernel_rfl)
def M3:zS:=(80,[.agg [.int .i64 (1),.nilslice,.int .i64 (1),.nilslice],.agg [.int .i64 (1),.nilslice,.int .i64 (1000),.nilslice]],.agg [.int .i64 (1),.nilslice,.int .i64 (1000),.nilslice])::M2
theorem g3:Good M3:=qo g2 (by kernel_rfl)
def M4:zS:=(149,[.agg [.int .i64 (1000),.int .i64 (1),.bool true]],.agg [.int .i64 (1),.nilslice,.int .i64 (1000),.nilslice])::M3
theorem g4:Good M4:=qo g3 (by kernel_rfl)
def M5:zS:=(80,[.agg [.int .i64 (50),.nilslice,.int .i64 (1),.nilslice],.agg [.int .i64 (1),.nilslice,.int .i64 (1000),.nilslice]],.agg [.int .i64 (1),.nilslice,.int .i64 (20),.nilslice])::M4
theorem g5:Good M5:=qo g4 (by kernel_rfl)
def M6:zS:=(29,[.agg [.int .i64 (1000),.int .i64 (1),.bool true],.str [53,48]],.tuple [.str [49,47,50,48],.int .i64 (0)])::M5
theorem g6:Good M6:=qo g5 (by kernel_rfl)
def M7:zS:=(80,[.agg [.int .i64 (1000),.nilslice,.int .i64 (1),.nilslice],.agg [.int .i64 (1),.nilslice,.int .i64 (1000),.nilslice]],.agg [.int .i64 (1),.nilslice,.int .i64 (1),.nilslice])::M6
theorem g7:Good M7:=qo g6 (by kernel_rfl)
def M8:zS:=(149,[.agg [.int .i64 (1000),.int .i64 (1000),.bool false]],.agg [.int .i64 (1),.nilslice,.int .i64 (1),.nilslice])::M7
theorem g8:Good M8:=qo g7 (by kernel_rfl)
def M9:zS:=(30,[.agg [.int .i64 (1000),.int .i64 (1),.bool true],.agg [.int .i64 (1000),.int .i64 (1000),.bool false],.str [53,48]],.tuple [.str [50,48],.int .i64 (0)])::M8
theorem g9:Good M9:=qo g8 (by kernel_rfl)
def M10:zS:=(116,[.str [50,48]],.agg [.int .i64 (20),.nilslice])::M9
theorem g10:Good M10:=qo g9 (by kernel_rfl)
def M11:zS:=(47,[.str [49,47,50,48]],.int .i64 (0))::M10
theorem g11:Good M11:=qo g10 (by kernel_rfl)
def M12:zS:=(49,[.str [49,47,50,48]],.agg [.int .i64 (1),.nilslice,.int .i64 (20),.nilslice])::M11
theorem g12:Good M12:=qo g11 (by kernel_rfl)
def M13:zS:=(47,[.str [45,49,48,48]],.int .i64 (0))::M12
theorem g13:Good M13:=qo g12 (by kernel_rfl)
def M14:zS:=(47,[.str [48]],.int .i64 (0))::M13
theorem g14:Good M14:=qo g13 (by kernel_rfl)
def M15:zS:=(49,[.str [48]],.agg [.int .i64 (0),.nilslice,.int .i64 (1),.nilslice])::M14
theorem g15:Good M15:=qo g14 (by kernel_rfl)
def M16:zS:=(47,[.str [49,48]],.int .i64 (0))::M15
theorem g16:Good M16:=qo g15 (by kernel_rfl)
def M17:zS:=(116,[.str [49,48]],.agg [.int .i64 (10),.nilslice])::M16
theorem g17:Good M17:=qo g16 (by kernel_rfl)
def M18:zS:=(47,[.str [56,48]],.int .i64 (0))::M17
theorem g18:Good M18:=qo g17 (by kernel_rfl)
def M19:zS:=(116,[.str [56,48]],.agg [.int .i64 (80),.nilslice])::M18
theorem g19:Good M19:=qo g18 (by kernel_rfl)
def M20:zS:=(47,[.str [49,52]],.int .i64 (0))::M19
theorem g20:Good M20:=qo g19 (by kernel_rfl)
def M21:zS:=(116,[.str [49,52]],.agg [.int .i64 (14),.nilslice])::M20
theorem g21:Good M21:=qo g20 (by kernel_rfl)
def M22:zS:=(108,[.agg [.str [56,48],.str [49,52]],.fslice 1 [.str [48],.str [49,48]]],.int .i64 (0))::M21
theorem g22:Good M22:=qo g21 (by kernel_rfl)
def M23:zS:=(47,[.str [49,50,48]],.int .i64 (0))::M22
theorem g23:Good M23:=qo g22 (by kernel_rfl)
def M24:zS:=(116,[.str [49,50,48]],.agg [.int .i64 (120),.nilslice])::M23
theorem g24:Good M24:=qo g23 (by kernel_rfl)
def M25:zS:=(47,[.str [49,50]],.int .i64 (0))::M24
theorem g25:Good M25:=qo g24 (by kernel_rfl)
def M26:zS:=(116,[.str [49,50]],.agg [.int .i64 (12),.nilslice])::M25
theorem g26:Good M26:=qo g25 (by kernel_rfl)
def M27:zS:=(108,[.agg [.str [49,50,48],.str [49,50]],.fslice 2 [.str [48],.str [49,48],.str [56,48],.str [49,52]]],.int .i64 (0))::M26
theorem g27:Good M27:=qo g26 (by kernel_rfl)
def M28:zS:=(46,[.agg [.str [121],.str [49,47,50,48],.str [45,49,48,48],.fslice 3 [.str [48],.str [49,48],.str [56,48],.str [49,52],.str [49,50,48],.str [49,50]],.str []]],.int .i64 (0))::M27
theorem g28:Good M28:=qo g27 (by kernel_rfl)
def M29:zS:=(116,[.str [45,49,48,48]],.agg [.int .i64 (-100),.nilslice])::M28
theorem g29:Good M29:=qo g28 (by kernel_rfl)
def M30:zS:=(52,[.agg [.str [121],.str [49,47,50,48],.str [45,49,48,48],.fslice 3 [.str [48],.str [49,48],.str [56,48],.str [49,52],.str [49,50,48],.str [49,50]],.str []],.agg [.int .i64 (-100),.nilslice,.int .i64 (1),.nilslice]],.tuple [.agg [.int .i64 (14),.nilslice,.int .i64 (1),.nilslice],.int .i64 (0)])::M29
theorem g30:Good M30:=qo g29 (by kernel_rfl)
def M31:zS:=(47,[.str [51,48]],.int .i64 (0))::M30
theorem g31:Good M31:=qo g30 (by kernel_rfl)
def M32:zS:=(116,[.str [51,48]],.agg [.int .i64 (30),.nilslice])::M31
theorem g32:Good M32:=qo g31 (by kernel_rfl)
def M33:zS:=(15,[.agg [.str [121],.str [49,47,50,48],.str [45,49,48,48],.fslice 3 [.str [48],.str [49,48],.str [56,48],.str [49,52],.str [49,50,48],.str [49,50]],.str []],.str [51,48]],.tuple [.agg [.str [121],.str [49,47,50,48],.str [45,55,48],.fslice 3 [.str [48],.str [49,48],.str [56,48],.str [49,52],.str [49,50,48],.str [49,50]],.str []],.int .i64 (0)])::M32
theorem g33:Good M33:=qo g32 (by kernel_rfl)
def M34:zS:=(47,[.str [45,55,48]],.int .i64 (0))::M33
theorem g34:Good M34:=qo g33 (by kernel_rfl)
def M35:zS:=(46,[.agg [.str [121],.str [49,47,50,48],.str [45,55,48],.fslice 3 [.str [48],.str [49,48],.str [56,48],.str [49,52],.str [49,50,48],.str [49,50]],.str []]],.int .i64 (0))::M34
theorem g35:Good M35:=qo g34 (by kernel_rfl)
def M36:zS:=(116,[.str [45,55,48]],.agg [.int .i64 (-70),.nilslice])::M35
theorem g36:Good M36:=qo g35 (by kernel_rfl)
def M37:zS:=(52,[.agg [.str [121],.str [49,47,50,48],.str [45,55,48],.fslice 3 [.str [48],.str [49,48],.str [56,48],.str [49,52],.str [49,50,48],.str [49,50]],.str []],.agg [.int .i64 (-70),.nilslice,.int .i64 (1),.nilslice]],.tuple [.agg [.int .i64 (10),.nilslice,.int .i64 (1),.nilslice],.int .i64 (0)])::M36
theorem g37:Good M37:=qo g36 (by kernel_rfl)
def M38:zS:=(47,[.str [54,48]],.int .i64 (0))::M37
theorem g38:Good M38:=qo g37 (by kernel_rfl)
def M39:zS:=(47,[.str [57,47,49,48]],.int .i64 (0))::M38
theorem g39:Good M39:=qo g38 (by kernel_rfl)
def M40:zS:=(49,[.str [57,47,49,48]],.agg [.int .i64 (9),.nilslice,.int .i64 (10),.nilslice])::M39
theorem g40:Good M40:=qo g39 (by kernel_rfl)
def M41:zS:=(116,[.str [54,48]],.agg [.int .i64 (60),.nilslice])::M40
theorem g41:Good M41:=qo g40 (by kernel_rfl)
def M42:zS:=(52,[.agg [.str [121],.str [49,47,50,48],.str [45,49,48,48],.fslice 3 [.str [48],.str [49,48],.str [56,48],.str [49,52],.str [49,50,48],.str [49,50]],.str []],.agg [.int .i64 (-40),.nilslice,.int .i64 (1),.nilslice]],.tuple [.agg [.int .i64 (10),.nilslice,.int .i64 (1),.nilslice],.int .i64 (0)])::M41
theorem g42:Good M42:=qo g41 (by kernel_rfl)
def M43:zS:=(53,[.agg [.int .i64 (0),.nilslice,.int .i64 (1),.nilslice],.agg [.int .i64 (1),.nilslice,.int .i64 (20),.nilslice]],.agg [.int .i64 (1),.nilslice,.int .i64 (20),.nilslice])::M42
theorem g43:Good M43:=qo g42 (by kernel_rfl)
def M44:zS:=(53,[.agg [.int .i64 (1),.nilslice,.int .i64 (20),.nilslice],.agg [.int .i64 (1),.nilslice,.int .i64 (20),.nilslice]],.agg [.int .i64 (1),.nilslice,.int .i64 (10),.nilslice])::M43
theorem g44:Good M44:=qo g43 (by kernel_rfl)
def M45:zS:=(126,[.agg [.int .i64 (30),.nilslice],.agg [.int .i64 (200),.nilslice]],.agg [.int .i64 (3),.nilslice,.int .i64 (20),.nilslice])::M44
theorem g45:Good M45:=qo g44 (by kernel_rfl)
def M46:zS:=(53,[.agg [.int .i64 (1),.nilslice,.int .i64 (10),.nilslice],.agg [.int .i64 (1),.nilslice,.int .i64 (20),.nilslice]],.agg [.int .i64 (3),.nilslice,.int .i64 (20),.nilslice])::M45
theorem g46:Good M46:=qo g45 (by kernel_rfl)
def M47:zS:=(80,[.agg [.int .i64 (3),.nilslice,.int .i64 (20),.nilslice],.agg [.int .i64 (10),.nilslice,.int .i64 (9),.nilslice]],.agg [.int .i64 (1),.nilslice,.int .i64 (6),.nilslice])::M46
theorem g47:Good M47:=qo g46 (by kernel_rfl)
def M48:zS:=(9,[.str [112],.fslice 3 [.str [121],.str [49,47,50,48],.str [45,49,48,48],.fslice 3 [.str [48],.str [49,48],.str [56,48],.str [49,52],.str [49,50,48],.str [49,50]],.str [],.str [121],.str [49,47,50,48],.str [45,49,48,48],.fslice 3 [.str [48],.str [49,48],.str [56,48],.str [49,52],.str [49,50,48],.str [49,50]],.str [],.str [121],.str [49,47,50,48],.str [45,49,48,48],.fslice 3 [.str [48],.str [49,48],.str [56,48],.str [49,52],.str [49,50,48],.str [49,50]],.str []],.str [54,48],.str [57,47,49,48]],.tuple [.agg [.str [112],.str [49,47,54],.str [54,48],.fslice 1 [.str [48],.str [51,48]],.str []],.int .i64 (0)])::M47
theorem g48:Good M48:=qo g47 (by kernel_rfl)
def M49:zS:=(47,[.str [53,48,48]],.int .i64 (0))::M48
theorem g49:Good M49:=qo g48 (by kernel_rfl)
def M50:zS:=(116,[.str [53,48,48]],.agg [.int .i64 (500),.nilslice])::M49
theorem g50:Good M50:=qo g49 (by kernel_rfl)
def M51:zS:=(80,[.agg [.int .i64 (1),.nilslice,.int .i64 (20),.nilslice],.agg [.int .i64 (500),.nilslice,.int .i64 (1),.nilslice]],.agg [.int .i64 (25),.nilslice,.int .i64 (1),.nilslice])::M50
theorem g51:Good M51:=qo g50 (by kernel_rfl)
def M52:zS:=(80,[.agg [.int .i64 (25),.nilslice,.int .i64 (1),.nilslice],.agg [.int .i64 (1),.nilslice,.int .i64 (10),.nilslice]],.agg [.int .i64 (5),.nilslice,.int .i64 (2),.nilslice])::M51
theorem g52:Good M52:=qo g51 (by kernel_rfl)
def M53:zS:=(32,[.agg [.str [121],.str [49,47,50,48],.str [45,49,48,48],.fslice 3 [.str [48],.str [49,48],.str [56,48],.str [49,52],.str [49,50,48],.str [49,50]],.str []],.int .i64 (10),.str [53,48,48]],.tuple [.int .i64 (3),.int .i64 (0)])::M52
theorem g53:Good M53:=qo g52 (by kernel_rfl)
def M54:zS:=(25,[.agg [.str [121],.str [49,47,50,48],.str [45,49,48,48],.fslice 3 [.str [48],.str [49,48],.str [56,48],.str [49,52],.str [49,50,48],.str [49,50]],.str []],.str [53,48,48]],.tuple [.str [50,53],.int .i64 (0)])::M53
theorem g54:Good M54:=qo g53 (by kernel_rfl)
def M55:zS:=(91,[.fslice 3 [.str [114,101,99,101,105,118,101],.int .i64 (1),.str [76],.int .i64 (100),.str [121],.str [114,101,100],.str [],.str [114,101,115,101,114,118,101],.int .i64 (2),.str [76],.int .i64 (60),.str [],.str [],.str [65],.str [116,97,107,101],.int .i64 (3),.str [76],.int .i64 (70),.str [],.str [],.str [65]]],.int .i64 (0))::M54
theorem g55:Good M55:=qo g54 (by kernel_rfl)
def M56:zS:=(33,[.fslice 3 [.str [114,101,99,101,105,118,101],.int .i64 (1),.str [76],.int .i64 (100),.str [121],.str [114,101,100],.str [],.str [114,101,115,101,114,118,101],.int .i64 (2),.str [76],.int .i64 (60),.str [],.str [],.str [65],.str [116,97,107,101],.int .i64 (3),.str [76],.int .i64 (70),.str [],.str [],.str [65]],.int .i64 (2)],.tuple [.agg [.int .i64 (2),.fslice 1 [.str [76],.str [121],.str [114,101,100],.int .i64 (100)],.fslice 1 [.str [76],.str [65],.int .i64 (60),.int .i64 (0)]],.int .i64 (0)])::M55
theorem g56:Good M56:=qo g55 (by kernel_rfl)
def M57:zS:=(96,[.agg [.int .i64 (2),.fslice 1 [.str [76],.str [121],.str [114,101,100],.int .i64 (100)],.fslice 1 [.str [76],.str [65],.int .i64 (60),.int .i64 (0)]]],.int .i64 (0))::M56
theorem g57:Good M57:=qo g56 (by kernel_rfl)
def M58:zS:=(36,[.agg [.int .i64 (2),.fslice 1 [.str [76],.str [121],.str [114,101,100],.int .i64 (100)],.fslice 1 [.str [76],.str [65],.int .i64 (60),.int .i64 (0)]],.agg [.str [116,97,107,101],.int .i64 (3),.str [76],.int .i64 (41),.str [],.str [],.str [66]]],.tuple [.int .i64 (3),.int .i64 (0)])::M57
theorem g58:Good M58:=qo g57 (by kernel_rfl)
def M59:zS:=(37,[.fslice 3 [.str [114,101,99,101,105,118,101],.int .i64 (1),.str [76],.int .i64 (100),.str [121],.str [114,101,100],.str [],.str [114,101,115,101,114,118,101],.int .i64 (2),.str [76],.int .i64 (60),.str [],.str [],.str [65],.str [116,97,107,101],.int .i64 (3),.str [76],.int .i64 (70),.str [],.str [],.str [65]]],.tuple [.agg [.int .i64 (3),.fslice 1 [.str [76],.str [121],.str [114,101,100],.int .i64 (30)],.fslice 1 [.str [76],.str [65],.int .i64 (0),.int .i64 (70)]],.nilslice,.int .i64 (0)])::M58
theorem g59:Good M59:=qo g58 (by kernel_rfl)
def M60:zS:=(96,[.agg [.int .i64 (0),.fslice 4 [.str [97],.str [121],.str [],.int .i64 (30),.str [98],.str [121],.str [],.int .i64 (50),.str [99],.str [121],.str [],.int .i64 (20),.str [100],.str [121],.str [],.int .i64 (50)],.nilslice]],.int .i64 (0))::M59
theorem g60:Good M60:=qo g59 (by kernel_rfl)
def M61:zS:=(38,[.agg [.int .i64 (0),.fslice 4 [.str [97],.str [121],.str [],.int .i64 (30),.str [98],.str [121],.str [],.int .i64 (50),.str [99],.str [121],.str [],.int .i64 (20),.str [100],.str [121],.str [],.int .i64 (50)],.nilslice],.str [121],.str [],.int .i64 (90)],.tuple [.fslice 2 [.int .i64 (1),.int .i64 (3)],.int .i64 (0)])::M60
theorem g61:Good M61:=qo g60 (by kernel_rfl)
def M62:zS:=(38,[.agg [.int .i64 (0),.fslice 4 [.str [97],.str [121],.str [],.int .i64 (30),.str [98],.str [121],.str [],.int .i64 (50),.str [99],.str [121],.str [],.int .i64 (20),.str [100],.str [121],.str [],.int .i64 (50)],.nilslice],.str [121],.str [],.int .i64 (151)],.tuple [.nilslice,.int .i64 (32)])::M61
theorem g62:Good M62:=qo g61 (by kernel_rfl)
theorem qnp:okM (qqj M62 (.fn 8) [] []) (.bool true)=true:=by kernel_rfl
theorem qr6:qb Tryz.prog (.fn 8) [] [] (.bool true) []:=qk3 g62 _ _ _ _ _ (qof qnp)
end Go.Av
