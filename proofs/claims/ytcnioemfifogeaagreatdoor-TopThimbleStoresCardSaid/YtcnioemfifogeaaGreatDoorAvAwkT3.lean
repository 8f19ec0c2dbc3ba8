/-
  The examples that every statement of the chapter checks: they hold. By running the evaluator in the kernel, call by call.
-/
import Derived.Test.YtcnioemfifogeaaGreatDoorAvMtQ3
noncomputable section
namespace Go.Av
open Go.Proofs
set_option maxRecDepth 100000
theorem fol01:Tryz.prog.follows .mixedOrders=true:=by kernel_rfl
def pl01 (f:FuncId):Bool:=Nat.beq (Nat.land (Nat.shiftRight 1897137784417365776548666874479646305945280501570630834111517838335237579182440448 f) 1) 0
def okM (r:Option (AV×Heap)) (v:AV):Bool:=match r with
 |some (w,[])=>qrg 30 w v
 |_=>false
theorem qHS {r:Option (AV×Heap)} {v:AV} (h:okM r v=true):r=some (v,[]):=by
 unfold okM at h
 split at h
 ·rw[qA6 30 _ _ h]
 cases h
abbrev qpZ:=List (FuncId×List AV×AV)
def qGD (M:qpZ):qgt:=qHJ Tryz.prog 3000 mtT insC (orElse (memo M) qGw) pl01 40
def Good (M:qpZ):Prop:= ∀e∈M,zu Tryz.prog (.fn e.1) e.2.1 [] e.2.2 []
theorem qDO {M:qpZ} (h:Good M):qeA Tryz.prog (qGD M):=qHZ fol01 mt_ok qIx (qBJ (qII h) qGp) _
theorem qHw:Good []:=by intro e h;cases h
theorem qeu {M:qpZ} {f:FuncId} {args:List AV} {v:AV} (h:Good M) (hr:okM (qGD M (.fn f) args []) v=true):Good ((f,args,v)::M):=by
 intro e he
 rcases List.mem_cons.1 he with rfl|he
 ·exact qDO h _ _ _ _ _ (qHS hr)
 exact h e he
def M0:qpZ:=[]
theorem g0:Good M0:=qHw
def M1:qpZ:=(156,[.str [50,48]],.agg [.int .i64 (20),.nilslice])::M0
theorem g1:Good M1:=qeu g0 (by kernel_rfl)
def M2:qpZ:=(96,[.str [49,47,50,48]],.int .i64 (0))::M1
theorem g2:Good M2:=qeu g1 (by kernel_rfl)
def M3:qpZ:=(92,[.str [49,47,50,48]],.agg [.int .i64 (1),.nilslice,.int .i64 (20),.nilslice])::M2
theorem g3:Good M3:=qeu g2 (by kernel_rfl)
def M4:qpZ:=(96,[.str [49,48]],.int .i64 (0))::M3
theorem g4:Good M4:=qeu g3 (by kernel_rfl)
def M5:qpZ:=(96,[.str [48]],.int .i64 (0))::M4
theorem g5:Good M5:=qeu g4 (by kernel_rfl)
def M6:qpZ:=(92,[.str [48]],.agg [.int .i64 (0),.nilslice,.int .i64 (1),.nilslice])::M5
theorem g6:Good M6:=qeu g5 (by kernel_rfl)
def M7:qpZ:=(96,[.str [52]],.int .i64 (0))::M6
theorem g7:Good M7:=qeu g6 (by kernel_rfl)
def M8:qpZ:=(92,[.str [52]],.agg [.int .i64 (4),.nilslice,.int .i64 (1),.nilslice])::M7
theorem g8:Good M8:=qeu g7 (by kernel_rfl)
def M9:qpZ:=(96,[.str [53,48]],.int .i64 (0))::M8
theorem g9:Good M9:=qeu g8 (by kernel_rfl)
def M10:qpZ:=(156,[.str [53,48]],.agg [.int .i64 (50),.nilslice])::M9
theorem g10:Good M10:=qeu g9 (by kernel_rfl)
def M11:qpZ:=(96,[.str [55]],.int .i64 (0))::M10
theorem g11:Good M11:=qeu g10 (by kernel_rfl)
def M12:qpZ:=(92,[.str [55]],.agg [.int .i64 (7),.nilslice,.int .i64 (1),.nilslice])::M11
theorem g12:Good M12:=qeu g11 (by kernel_rfl)
def M13:qpZ:=(158,[.agg [.str [53,48],.str [55]],.fslice 1 [.str [48],.str [52]]],.int .i64 (0))::M12
theorem g13:Good M13:=qeu g12 (by kernel_rfl)
def M14:qpZ:=(96,[.str [52,47,53]],.int .i64 (0))::M13
theorem g14:Good M14:=qeu g13 (by kernel_rfl)
def M15:qpZ:=(92,[.str [52,47,53]],.agg [.int .i64 (4),.nilslice,.int .i64 (5),.nilslice])::M14
theorem g15:Good M15:=qeu g14 (by kernel_rfl)
def M16:qpZ:=(156,[.str [49,48]],.agg [.int .i64 (10),.nilslice])::M15
theorem g16:Good M16:=qeu g15 (by kernel_rfl)
def M17:qpZ:=(95,[.agg [.str [97],.str [49,47,50,48],.str [49,48],.fslice 2 [.str [48],.str [52],.str [53,48],.str [55]],.str []],.agg [.int .i64 (10),.nilslice,.int .i64 (1),.nilslice]],.tuple [.agg [.int .i64 (4),.nilslice,.int .i64 (1),.nilslice],.int .i64 (0)])::M16
theorem g17:Good M17:=qeu g16 (by kernel_rfl)
def M18:qpZ:=(95,[.agg [.str [98],.str [49,47,50,48],.str [49,48],.fslice 2 [.str [48],.str [52],.str [53,48],.str [55]],.str []],.agg [.int .i64 (10),.nilslice,.int .i64 (1),.nilslice]],.tuple [.agg [.int .i64 (4),.nilslice,.int .i64 (1),.nilslice],.int .i64 (0)])::M17
theorem g18:Good M18:=qeu g17 (by kernel_rfl)
def M19:qpZ:=(97,[.agg [.int .i64 (0),.nilslice,.int .i64 (1),.nilslice],.agg [.int .i64 (1),.nilslice,.int .i64 (20),.nilslice]],.agg [.int .i64 (1),.nilslice,.int .i64 (20),.nilslice])::M18
theorem g19:Good M19:=qeu g18 (by kernel_rfl)
def M20:qpZ:=(97,[.agg [.int .i64 (1),.nilslice,.int .i64 (20),.nilslice],.agg [.int .i64 (1),.nilslice,.int .i64 (20),.nilslice]],.agg [.int .i64 (1),.nilslice,.int .i64 (10),.nilslice])::M19
theorem g20:Good M20:=qeu g19 (by kernel_rfl)
def M21:qpZ:=(109,[.agg [.int .i64 (1),.nilslice,.int .i64 (10),.nilslice],.agg [.int .i64 (5),.nilslice,.int .i64 (4),.nilslice]],.agg [.int .i64 (1),.nilslice,.int .i64 (8),.nilslice])::M20
theorem g21:Good M21:=qeu g20 (by kernel_rfl)
def M22:qpZ:=(43,[.str [112],.fslice 2 [.str [97],.str [49,47,50,48],.str [49,48],.fslice 2 [.str [48],.str [52],.str [53,48],.str [55]],.str [],.str [98],.str [49,47,50,48],.str [49,48],.fslice 2 [.str [48],.str [52],.str [53,48],.str [55]],.str []],.str [48],.str [52,47,53]],.tuple [.agg [.str [112],.str [49,47,56],.str [48],.fslice 1 [.str [48],.str [56]],.str []],.int .i64 (0)])::M21
theorem g22:Good M22:=qeu g21 (by kernel_rfl)
def M23:qpZ:=(96,[.str [49,47,49,48]],.int .i64 (0))::M22
theorem g23:Good M23:=qeu g22 (by kernel_rfl)
def M24:qpZ:=(92,[.str [49,47,49,48]],.agg [.int .i64 (1),.nilslice,.int .i64 (10),.nilslice])::M23
theorem g24:Good M24:=qeu g23 (by kernel_rfl)
def M25:qpZ:=(149,[.str [49,47,49,48],.str [52,47,53],.func (.func 106) [] []],.tuple [.str [49,47,56],.int .i64 (0)])::M24
theorem g25:Good M25:=qeu g24 (by kernel_rfl)
def M26:qpZ:=(18,[.fslice 2 [.str [114,101,99,101,105,118,101],.int .i64 (1),.str [108],.int .i64 (100),.str [121],.str [],.str [],.str [116,97,107,101],.int .i64 (1),.str [108],.int .i64 (30),.str [],.str [],.str [111]]],.int .i64 (0))::M25
theorem g26:Good M26:=qeu g25 (by kernel_rfl)
def M27:qpZ:=(11,[.fslice 2 [.str [114,101,99,101,105,118,101],.int .i64 (1),.str [108],.int .i64 (100),.str [121],.str [],.str [],.str [116,97,107,101],.int .i64 (1),.str [108],.int .i64 (30),.str [],.str [],.str [111]]],.tuple [.agg [.int .i64 (1),.fslice 1 [.str [108],.str [121],.str [],.int .i64 (70)],.fslice 1 [.str [108],.str [111],.int .i64 (0),.int .i64 (30)]],.nilslice,.int .i64 (0)])::M26
theorem g27:Good M27:=qeu g26 (by kernel_rfl)
theorem qF7:okM (qGD M27 (.fn 37) [] []) (.bool true)=true:=by kernel_rfl
theorem qIG:zu Tryz.prog (.fn 37) [] [] (.bool true) []:=qDO g27 _ _ _ _ _ (qHS qF7)
end Go.Av
