/-
  The examples that every statement of the chapter checks: they hold. By running the evaluator in the kernel, call by call.
-/
import Derived.Test.YtmjcpcnaaolliaaGreatDoorAvMtM
noncomputable section
namespace Go.Av
open Go.Proofs
set_option maxRecDepth 100000
theorem fol01:Tryz.prog.follows .mixedOrders=true:=by kernel_rfl
def pl01 (f:FuncId):Bool:=Nat.beq (Nat.land (Nat.shiftRight 365202951899730343771425232866282925866583665533175459478879631700931255567684441816819762387029827428907220992 f) 1) 0
def okM (r:Option (AV×Heap)) (v:AV):Bool:=match r with
 |some (w,[])=>qaN 30 w v
 |_=>false
theorem qm7 {r:Option (AV×Heap)} {v:AV} (h:okM r v=true):r=some (v,[]):=by
 unfold okM at h
 split at h
 ·rw[qgy 30 _ _ h]
 cases h
abbrev qaa:=List (FuncId×List AV×AV)
def qnv (M:qaa):zb:=qn8 Tryz.prog 3000 mtT insC (orElse (memo M) qnE) pl01 40
def Good (M:qaa):Prop:= ∀e∈M,qb Tryz.prog (.fn e.1) e.2.1 [] e.2.2 []
theorem qjK {M:qaa} (h:Good M):qO Tryz.prog (qnv M):=qn3 fol01 mt_ok qot (qhE (qoH h) qlQ) _
theorem qmB:Good []:=by intro e h;cases h
theorem qN {M:qaa} {f:FuncId} {args:List AV} {v:AV} (h:Good M) (hr:okM (qnv M (.fn f) args []) v=true):Good ((f,args,v)::M):=by
 intro e he
 rcases List.mem_cons.1 he with rfl|he
 ·exact qjK h _ _ _ _ _ (qm7 hr)
 exact h e he
def M0:qaa:=[]
theorem g0:Good M0:=qmB
def M1:qaa:=(61,[.str [50,48]],.agg [.int .i64 (20),.nilslice])::M0
theorem g1:Good M1:=qN g0 (by kernel_rfl)
def M2:qaa:=(80,[.str [49,47,50,48]],.int .i64 (0))::M1
theorem g2:Good M2:=qN g1 (by kernel_rfl)
def M3:qaa:=(83,[.str [49,47,50,48]],.agg [.int .i64 (1),.nilslice,.int .i64 (20),.nilslice])::M2
theorem g3:Good M3:=qN g2 (by kernel_rfl)
def M4:qaa:=(80,[.str [49,48]],.int .i64 (0))::M3
theorem g4:Good M4:=qN g3 (by kernel_rfl)
def M5:qaa:=(80,[.str [48]],.int .i64 (0))::M4
theorem g5:Good M5:=qN g4 (by kernel_rfl)
def M6:qaa:=(83,[.str [48]],.agg [.int .i64 (0),.nilslice,.int .i64 (1),.nilslice])::M5
theorem g6:Good M6:=qN g5 (by kernel_rfl)
def M7:qaa:=(80,[.str [52]],.int .i64 (0))::M6
theorem g7:Good M7:=qN g6 (by kernel_rfl)
def M8:qaa:=(83,[.str [52]],.agg [.int .i64 (4),.nilslice,.int .i64 (1),.nilslice])::M7
theorem g8:Good M8:=qN g7 (by kernel_rfl)
def M9:qaa:=(80,[.str [53,48]],.int .i64 (0))::M8
theorem g9:Good M9:=qN g8 (by kernel_rfl)
def M10:qaa:=(61,[.str [53,48]],.agg [.int .i64 (50),.nilslice])::M9
theorem g10:Good M10:=qN g9 (by kernel_rfl)
def M11:qaa:=(80,[.str [55]],.int .i64 (0))::M10
theorem g11:Good M11:=qN g10 (by kernel_rfl)
def M12:qaa:=(83,[.str [55]],.agg [.int .i64 (7),.nilslice,.int .i64 (1),.nilslice])::M11
theorem g12:Good M12:=qN g11 (by kernel_rfl)
def M13:qaa:=(194,[.agg [.str [53,48],.str [55]],.fslice 1 [.str [48],.str [52]]],.int .i64 (0))::M12
theorem g13:Good M13:=qN g12 (by kernel_rfl)
def M14:qaa:=(80,[.str [52,47,53]],.int .i64 (0))::M13
theorem g14:Good M14:=qN g13 (by kernel_rfl)
def M15:qaa:=(83,[.str [52,47,53]],.agg [.int .i64 (4),.nilslice,.int .i64 (5),.nilslice])::M14
theorem g15:Good M15:=qN g14 (by kernel_rfl)
def M16:qaa:=(61,[.str [49,48]],.agg [.int .i64 (10),.nilslice])::M15
theorem g16:Good M16:=qN g15 (by kernel_rfl)
def M17:qaa:=(183,[.agg [.str [97],.str [49,47,50,48],.str [49,48],.fslice 2 [.str [48],.str [52],.str [53,48],.str [55]],.str []],.agg [.int .i64 (10),.nilslice,.int .i64 (1),.nilslice]],.tuple [.agg [.int .i64 (4),.nilslice,.int .i64 (1),.nilslice],.int .i64 (0)])::M16
theorem g17:Good M17:=qN g16 (by kernel_rfl)
def M18:qaa:=(183,[.agg [.str [98],.str [49,47,50,48],.str [49,48],.fslice 2 [.str [48],.str [52],.str [53,48],.str [55]],.str []],.agg [.int .i64 (10),.nilslice,.int .i64 (1),.nilslice]],.tuple [.agg [.int .i64 (4),.nilslice,.int .i64 (1),.nilslice],.int .i64 (0)])::M17
theorem g18:Good M18:=qN g17 (by kernel_rfl)
def M19:qaa:=(76,[.agg [.int .i64 (0),.nilslice,.int .i64 (1),.nilslice],.agg [.int .i64 (1),.nilslice,.int .i64 (20),.nilslice]],.agg [.int .i64 (1),.nilslice,.int .i64 (20),.nilslice])::M18
theorem g19:Good M19:=qN g18 (by kernel_rfl)
def M20:qaa:=(76,[.agg [.int .i64 (1),.nilslice,.int .i64 (20),.nilslice],.agg [.int .i64 (1),.nilslice,.int .i64 (20),.nilslice]],.agg [.int .i64 (1),.nilslice,.int .i64 (10),.nilslice])::M19
theorem g20:Good M20:=qN g19 (by kernel_rfl)
def M21:qaa:=(75,[.agg [.int .i64 (1),.nilslice,.int .i64 (10),.nilslice],.agg [.int .i64 (5),.nilslice,.int .i64 (4),.nilslice]],.agg [.int .i64 (1),.nilslice,.int .i64 (8),.nilslice])::M20
theorem g21:Good M21:=qN g20 (by kernel_rfl)
def M22:qaa:=(108,[.str [112],.fslice 2 [.str [97],.str [49,47,50,48],.str [49,48],.fslice 2 [.str [48],.str [52],.str [53,48],.str [55]],.str [],.str [98],.str [49,47,50,48],.str [49,48],.fslice 2 [.str [48],.str [52],.str [53,48],.str [55]],.str []],.str [48],.str [52,47,53]],.tuple [.agg [.str [112],.str [49,47,56],.str [48],.fslice 1 [.str [48],.str [56]],.str []],.int .i64 (0)])::M21
theorem g22:Good M22:=qN g21 (by kernel_rfl)
def M23:qaa:=(80,[.str [49,47,49,48]],.int .i64 (0))::M22
theorem g23:Good M23:=qN g22 (by kernel_rfl)
def M24:qaa:=(83,[.str [49,47,49,48]],.agg [.int .i64 (1),.nilslice,.int .i64 (10),.nilslice])::M23
theorem g24:Good M24:=qN g23 (by kernel_rfl)
def M25:qaa:=(117,[.str [49,47,49,48],.str [52,47,53],.func (.func 88) [] []],.tuple [.str [49,47,56],.int .i64 (0)])::M24
theorem g25:Good M25:=qN g24 (by kernel_rfl)
def M26:qaa:=(188,[.fslice 2 [.str [114,101,99,101,105,118,101],.int .i64 (1),.str [108],.int .i64 (100),.str [121],.str [],.str [],.str [116,97,107,101],.int .i64 (1),.str [108],.int .i64 (30),.str [],.str [],.str [111]]],.int .i64 (0))::M25
theorem g26:Good M26:=qN g25 (by kernel_rfl)
def M27:qaa:=(109,[.fslice 2 [.str [114,101,99,101,105,118,101],.int .i64 (1),.str [108],.int .i64 (100),.str [121],.str [],.str [],.str [116,97,107,101],.int .i64 (1),.str [108],.int .i64 (30),.str [],.str [],.str [111]]],.tuple [.agg [.int .i64 (1),.fslice 1 [.str [108],.str [121],.str [],.int .i64 (70)],.fslice 1 [.str [108],.str [111],.int .i64 (0),.int .i64 (30)]],.nilslice,.int .i64 (0)])::M26
theorem g27:Good M27:=qN g26 (by kernel_rfl)
theorem qlu:okM (qnv M27 (.fn 33) [] []) (.bool true)=true:=by kernel_rfl
theorem qpf:qb Tryz.prog (.fn 33) [] [] (.bool true) []:=qjK g27 _ _ _ _ _ (qm7 qlu)
end Go.Av
