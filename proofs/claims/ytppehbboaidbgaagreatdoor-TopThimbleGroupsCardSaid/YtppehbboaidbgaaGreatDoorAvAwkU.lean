/-
  The examples that every statement of the chapter checks: they hold. By running the evaluator in the kernel, call by call.
-/
import Derived.Test.YtppehbboaidbgaaGreatDoorAvMtP
noncomputable section
namespace Go.Av
open Go.Proofs
set_option maxRecDepth 100000
theorem fol01:Tryz.prog.follows .mixedOrders=true:=by kernel_rfl
def pl01 (f:FuncId):Bool:=Nat.beq (Nat.land (Nat.shiftRight 8558288878942442719532770833502674105304866037380294397479572659287122931016204345846597374967808 f) 1) 0
def okM (r:Option (AV×Heap)) (v:AV):Bool:=match r with
 |some (w,[])=>qbI 30 w v
 |_=>false
theorem qp9 {r:Option (AV×Heap)} {v:AV} (h:okM r v=true):r=some (v,[]):=by
 unfold okM at h;split at h
 ·rw[qi1 30 _ _ h]
 cases h
abbrev qa4:=List (FuncId×List AV×AV)
def qpJ (M:qa4):zA:=qow Tryz.prog 3000 mtT insC (orElse (memo M) qou) pl01 40
def Good (M:qa4):Prop:= ∀e∈M,qd Tryz.prog (.fn e.1) e.2.1 [] e.2.2 []
theorem qlv {M:qa4} (h:Good M):qZ Tryz.prog (qpJ M):=qqn fol01 mt_ok qq2 (qjH (qqx h) qoe) _
theorem qoF:Good []:=by intro e h;cases h
theorem qY {M:qa4} {f:FuncId} {args:List AV} {v:AV} (h:Good M) (hr:okM (qpJ M (.fn f) args []) v=true):Good ((f,args,v)::M):=by
 intro e he;rcases List.mem_cons.1 he with rfl|he
 ·exact qlv h _ _ _ _ _ (qp9 hr)
 exact h e he
def M0:qa4:=[]
theorem g0:Good M0:=qoF
def M1:qa4:=(116,[.str [50,48]],.agg [.int .i64 (20),.nilslice])::M0
theorem g1:Good M1:=qY g0 (by kernel_rfl)
def M2:qa4:=(47,[.str [49,47,50,48]],.int .i64 (0))::M1
theorem g2:Good M2:=qY g1 (by kernel_rfl)
def M3:qa4:=(49,[.str [49,47,50,48]],.agg [.int .i64 (1),.nilslice,.int .i64 (20),.nilslice])::M2
theorem g3:Good M3:=qY g2 (by kernel_rfl)
def M4:qa4:=(47,[.str [49,48]],.int .i64 (0))::M3
theorem g4:Good M4:=qY g3 (by kernel_rfl)
def M5:qa4:=(47,[.str [48]],.int .i64 (0))::M4
theorem g5:Good M5:=qY g4 (by kernel_rfl)
def M6:qa4:=(49,[.str [48]],.agg [.int .i64 (0),.nilslice,.int .i64 (1),.nilslice])::M5
theorem g6:Good M6:=qY g5 (by kernel_rfl)
def M7:qa4:=(47,[.str [52]],.int .i64 (0))::M6
theorem g7:Good M7:=qY g6 (by kernel_rfl)
def M8:qa4:=(49,[.str [52]],.agg [.int .i64 (4),.nilslice,.int .i64 (1),.nilslice])::M7
theorem g8:Good M8:=qY g7 (by kernel_rfl)
def M9:qa4:=(47,[.str [53,48]],.int .i64 (0))::M8
theorem g9:Good M9:=qY g8 (by kernel_rfl)
def M10:qa4:=(116,[.str [53,48]],.agg [.int .i64 (50),.nilslice])::M9
theorem g10:Good M10:=qY g9 (by kernel_rfl)
def M11:qa4:=(47,[.str [55]],.int .i64 (0))::M10
theorem g11:Good M11:=qY g10 (by kernel_rfl)
def M12:qa4:=(49,[.str [55]],.agg [.int .i64 (7),.nilslice,.int .i64 (1),.nilslice])::M11
theorem g12:Good M12:=qY g11 (by kernel_rfl)
def M13:qa4:=(108,[.agg [.str [53,48],.str [55]],.fslice 1 [.str [48],.str [52]]],.int .i64 (0))::M12
theorem g13:Good M13:=qY g12 (by kernel_rfl)
def M14:qa4:=(47,[.str [52,47,53]],.int .i64 (0))::M13
theorem g14:Good M14:=qY g13 (by kernel_rfl)
def M15:qa4:=(49,[.str [52,47,53]],.agg [.int .i64 (4),.nilslice,.int .i64 (5),.nilslice])::M14
theorem g15:Good M15:=qY g14 (by kernel_rfl)
def M16:qa4:=(116,[.str [49,48]],.agg [.int .i64 (10),.nilslice])::M15
theorem g16:Good M16:=qY g15 (by kernel_rfl)
def M17:qa4:=(52,[.agg [.str [97],.str [49,47,50,48],.str [49,48],.fslice 2 [.str [48],.str [52],.str [53,48],.str [55]],.str []],.agg [.int .i64 (10),.nilslice,.int .i64 (1),.nilslice]],.tuple [.agg [.int .i64 (4),.nilslice,.int .i64 (1),.nilslice],.int .i64 (0)])::M16
theorem g17:Good M17:=qY g16 (by kernel_rfl)
def M18:qa4:=(52,[.agg [.str [98],.str [49,47,50,48],.str [49,48],.fslice 2 [.str [48],.str [52],.str [53,48],.str [55]],.str []],.agg [.int .i64 (10),.nilslice,.int .i64 (1),.nilslice]],.tuple [.agg [.int .i64 (4),.nilslice,.int .i64 (1),.nilslice],.int .i64 (0)])::M17
theorem g18:Good M18:=qY g17 (by kernel_rfl)
def M19:qa4:=(53,[.agg [.int .i64 (0),.nilslice,.int .i64 (1),.nilslice],.agg [.int .i64 (1),.nilslice,.int .i64 (20),.nilslice]],.agg [.int .i64 (1),.nilslice,.int .i64 (20),.nilslice])::M18
theorem g19:Good M19:=qY g18 (by kernel_rfl)
def M20:qa4:=(53,[.agg [.int .i64 (1),.nilslice,.int .i64 (20),.nilslice],.agg [.int .i64 (1),.nilslice,.int .i64 (20),.nilslice]],.agg [.int .i64 (1),.nilslice,.int .i64 (10),.nilslice])::M19
theorem g20:Good M20:=qY g19 (by kernel_rfl)
def M21:qa4:=(80,[.agg [.int .i64 (1),.nilslice,.int .i64 (10),.nilslice],.agg [.int .i64 (5),.nilslice,.int .i64 (4),.nilslice]],.agg [.int .i64 (1),.nilslice,.int .i64 (8),.nilslice])::M20
theorem g21:Good M21:=qY g20 (by kernel_rfl)
def M22:qa4:=(9,[.str [112],.fslice 2 [.str [97],.str [49,47,50,48],.str [49,48],.fslice 2 [.str [48],.str [52],.str [53,48],.str [55]],.str [],.str [98],.str [49,47,50,48],.str [49,48],.fslice 2 [.str [48],.str [52],.str [53,48],.str [55]],.str []],.str [48],.str [52,47,53]],.tuple [.agg [.str [112],.str [49,47,56],.str [48],.fslice 1 [.str [48],.str [56]],.str []],.int .i64 (0)])::M21
theorem g22:Good M22:=qY g21 (by kernel_rfl)
def M23:qa4:=(47,[.str [49,47,49,48]],.int .i64 (0))::M22
theorem g23:Good M23:=qY g22 (by kernel_rfl)
def M24:qa4:=(49,[.str [49,47,49,48]],.agg [.int .i64 (1),.nilslice,.int .i64 (10),.nilslice])::M23
theorem g24:Good M24:=qY g23 (by kernel_rfl)
def M25:qa4:=(147,[.str [49,47,49,48],.str [52,47,53],.func (.func 58) [] []],.tuple [.str [49,47,56],.int .i64 (0)])::M24
theorem g25:Good M25:=qY g24 (by kernel_rfl)
def M26:qa4:=(91,[.fslice 2 [.str [114,101,99,101,105,118,101],.int .i64 (1),.str [108],.int .i64 (100),.str [121],.str [],.str [],.str [116,97,107,101],.int .i64 (1),.str [108],.int .i64 (30),.str [],.str [],.str [111]]],.int .i64 (0))::M25
theorem g26:Good M26:=qY g25 (by kernel_rfl)
def M27:qa4:=(37,[.fslice 2 [.str [114,101,99,101,105,118,101],.int .i64 (1),.str [108],.int .i64 (100),.str [121],.str [],.str [],.str [116,97,107,101],.int .i64 (1),.str [108],.int .i64 (30),.str [],.str [],.str [111]]],.tuple [.agg [.int .i64 (1),.fslice 1 [.str [108],.str [121],.str [],.int .i64 (70)],.fslice 1 [.str [108],.str [111],.int .i64 (0),.int .i64 (30)]],.nilslice,.int .i64 (0)])::M26
theorem g27:Good M27:=qY g26 (by kernel_rfl)
theorem qnI:okM (qpJ M27 (.fn 22) [] []) (.bool true)=true:=by kernel_rfl
theorem qr9:qd Tryz.prog (.fn 22) [] [] (.bool true) []:=qlv g27 _ _ _ _ _ (qp9 qnI)
end Go.Av
