/-
  The examples that every statement of the chapter checks: they hold. By running the evaluator in the kernel, call by call.
-/
import Derived.Test.YtjecjkbpopmhjaaGreatDoorAvMtV
noncomputable section
namespace Go.Av
open Go.Proofs
set_option maxRecDepth 100000
theorem fol01:Tryz.prog.follows .mixedOrders=true:=by kernel_rfl
def pl01 (f:FuncId):Bool:=Nat.beq (Nat.land (Nat.shiftRight 11150372671957467590255445935751129362071552 f) 1) 0
def okM (r:Option (AV×Heap)) (v:AV):Bool:=match r with
 |some (w,[])=>qba 30 w v
 |_=>false
theorem qm4 {r:Option (AV×Heap)} {v:AV} (h:okM r v=true):r=some (v,[]):=by
 unfold okM at h
 split at h
 ·rw[qgR 30 _ _ h]
 cases h
abbrev jN:=List (FuncId×List AV×AV)
def qoR (M:jN):zu:=qow Tryz.prog 3000 mtT insC (orElse (memo M) qpU) pl01 40
def Good (M:jN):Prop:= ∀e∈M,qb Tryz.prog (.fn e.1) e.2.1 [] e.2.2 []
theorem qj4 {M:jN} (h:Good M):qU Tryz.prog (qoR M):=qnI fol01 mt_ok qpx (qmE (qpa h) qn1) _
theorem qol:Good []:=by intro e h;cases h
theorem qo {M:jN} {f:FuncId} {args:List AV} {v:AV} (h:Good M) (hr:okM (qoR M (.fn f) args []) v=true):Good ((f,args,v)::M):=by
 intro e he
 rcases List.mem_cons.1 he with rfl|he
 ·exact qj4 h _ _ _ _ _ (qm4 hr)
 exact h e he
def M0:jN:=[]
theorem g0:Good M0:=qol
def M1:jN:=(59,[.str [51,49]],.agg [.int .i64 (31),.nilslice])::M0
theorem g1:Good M1:=qo g0 (by kernel_rfl)
def M2:jN:=(59,[.str [49,48]],.agg [.int .i64 (10),.nilslice])::M1
theorem g2:Good M2:=qo g1 (by kernel_rfl)
def M3:jN:=(61,[.agg [.int .i64 (31),.nilslice,.int .i64 (10),.nilslice],.agg [.int .i64 (16),.nilslice,.int .i64 (5),.nilslice]],.tuple [.agg [.str [51,49,47,49,48],.str [49,54,47,53]],.int .i64 (0)])::M2
theorem g3:Good M3:=qo g2 (by kernel_rfl)
def M4:jN:=(19,[.int .i64 (1)],.tuple [.agg [.str [51,49,47,49,48],.str [49,54,47,53]],.int .i64 (0)])::M3
theorem g4:Good M4:=qo g3 (by kernel_rfl)
def M5:jN:=(32,[.str [49,48]],.int .i64 (0))::M4
theorem g5:Good M5:=qo g4 (by kernel_rfl)
def M6:jN:=(67,[.agg [.str [49,48],.str [49,48]]],.int .i64 (0))::M5
theorem g6:Good M6:=qo g5 (by kernel_rfl)
def M7:jN:=(32,[.str [51,49,47,49,48]],.int .i64 (0))::M6
theorem g7:Good M7:=qo g6 (by kernel_rfl)
def M8:jN:=(59,[.str [49,54]],.agg [.int .i64 (16),.nilslice])::M7
theorem g8:Good M8:=qo g7 (by kernel_rfl)
def M9:jN:=(32,[.str [49,54,47,53]],.int .i64 (0))::M8
theorem g9:Good M9:=qo g8 (by kernel_rfl)
def M10:jN:=(35,[.str [49,54,47,53]],.agg [.int .i64 (16),.nilslice,.int .i64 (5),.nilslice])::M9
theorem g10:Good M10:=qo g9 (by kernel_rfl)
def M11:jN:=(66,[.agg [.int .i64 (10),.nilslice,.int .i64 (1),.nilslice],.agg [.int .i64 (31),.nilslice,.int .i64 (10),.nilslice]],.agg [.int .i64 (31),.nilslice,.int .i64 (1),.nilslice])::M10
theorem g11:Good M11:=qo g10 (by kernel_rfl)
def M12:jN:=(66,[.agg [.int .i64 (10),.nilslice,.int .i64 (1),.nilslice],.agg [.int .i64 (16),.nilslice,.int .i64 (5),.nilslice]],.agg [.int .i64 (32),.nilslice,.int .i64 (1),.nilslice])::M11
theorem g12:Good M12:=qo g11 (by kernel_rfl)
def M13:jN:=(61,[.agg [.int .i64 (31),.nilslice,.int .i64 (1),.nilslice],.agg [.int .i64 (32),.nilslice,.int .i64 (1),.nilslice]],.tuple [.agg [.str [51,49],.str [51,50]],.int .i64 (0)])::M12
theorem g13:Good M13:=qo g12 (by kernel_rfl)
def M14:jN:=(69,[.agg [.str [49,48],.str [49,48]],.agg [.str [51,49,47,49,48],.str [49,54,47,53]],.func (.func 66) [] []],.tuple [.agg [.str [51,49],.str [51,50]],.int .i64 (0)])::M13
theorem g14:Good M14:=qo g13 (by kernel_rfl)
def M15:jN:=(65,[.agg [.str [49,48],.str [49,48]],.agg [.str [51,49,47,49,48],.str [49,54,47,53]],.func (.func 66) [] []],.tuple [.agg [.str [51,49],.str [51,50]],.int .i64 (0)])::M14
theorem g15:Good M15:=qo g14 (by kernel_rfl)
def M16:jN:=(66,[.agg [.int .i64 (1),.nilslice,.int .i64 (1),.nilslice],.agg [.int .i64 (1),.nilslice,.int .i64 (2),.nilslice]],.agg [.int .i64 (1),.nilslice,.int .i64 (2),.nilslice])::M15
theorem g16:Good M16:=qo g15 (by kernel_rfl)
def M17:jN:=(62,[.agg [.int .i64 (2),.nilslice],.agg [.int .i64 (3),.nilslice]],.agg [.int .i64 (2),.nilslice,.int .i64 (3),.nilslice])::M16
theorem g17:Good M17:=qo g16 (by kernel_rfl)
def M18:jN:=(40,[.agg [.int .i64 (2),.nilslice,.int .i64 (1),.nilslice],.agg [.int .i64 (3),.nilslice,.int .i64 (1),.nilslice]],.agg [.int .i64 (2),.nilslice,.int .i64 (3),.nilslice])::M17
theorem g18:Good M18:=qo g17 (by kernel_rfl)
def M19:jN:=(66,[.agg [.int .i64 (6),.nilslice,.int .i64 (1),.nilslice],.agg [.int .i64 (1),.nilslice,.int .i64 (4),.nilslice]],.agg [.int .i64 (3),.nilslice,.int .i64 (2),.nilslice])::M18
theorem g19:Good M19:=qo g18 (by kernel_rfl)
def M20:jN:=(30,[.fslice 9 [.int .i64 (1),.int .i64 (0),.int .i64 (3),.int .i64 (4),.int .i64 (2),.int .i64 (6),.int .i64 (7),.int .i64 (8),.int .i64 (5)]],.tuple [.str [49,50],.int .i64 (0)])::M19
theorem g20:Good M20:=qo g19 (by kernel_rfl)
def M21:jN:=(98,[.agg [.int .i64 (10),.nilslice],.int .i64 (5)],.agg [.int .i64 (100000),.nilslice])::M20
theorem g21:Good M21:=qo g20 (by kernel_rfl)
def M22:jN:=(77,[.agg [.int .i64 (31415),.nilslice],.agg [.int .i64 (10000),.nilslice]],.agg [.int .i64 (5),.nilslice])::M21
theorem g22:Good M22:=qo g21 (by kernel_rfl)
def M23:jN:=(62,[.agg [.int .i64 (31416),.nilslice],.agg [.int .i64 (10000),.nilslice]],.agg [.int .i64 (3927),.nilslice,.int .i64 (1250),.nilslice])::M22
theorem g23:Good M23:=qo g22 (by kernel_rfl)
def M24:jN:=(61,[.agg [.int .i64 (6283),.nilslice,.int .i64 (2000),.nilslice],.agg [.int .i64 (3927),.nilslice,.int .i64 (1250),.nilslice]],.tuple [.agg [.str [54,50,56,51,47,50,48,48,48],.str [51,57,50,55,47,49,50,53,48]],.int .i64 (0)])::M23
theorem g24:Good M24:=qo g23 (by kernel_rfl)
def M25:jN:=(19,[.int .i64 (4)],.tuple [.agg [.str [54,50,56,51,47,50,48,48,48],.str [51,57,50,55,47,49,50,53,48]],.int .i64 (0)])::M24
theorem g25:Good M25:=qo g24 (by kernel_rfl)
def M26:jN:=(59,[.str [54,50,56,51]],.agg [.int .i64 (6283),.nilslice])::M25
theorem g26:Good M26:=qo g25 (by kernel_rfl)
def M27:jN:=(59,[.str [50,48,48,48]],.agg [.int .i64 (2000),.nilslice])::M26
theorem g27:Good M27:=qo g26 (by kernel_rfl)
def M28:jN:=(77,[.agg [.int .i64 (6283),.nilslice],.agg [.int .i64 (2000),.nilslice]],.agg [.int .i64 (1),.nilslice])::M27
theorem g28:Good M28:=qo g27 (by kernel_rfl)
def M29:jN:=(32,[.str [54,50,56,51,47,50,48,48,48]],.int .i64 (0))::M28
theorem g29:Good M29:=qo g28 (by kernel_rfl)
def M30:jN:=(37,[.agg [.int .i64 (1),.nilslice,.int .i64 (1),.nilslice,.int .i64 (0),.nilslice,.int .i64 (1),.nilslice],.agg [.int .i64 (3),.nilslice,.int .i64 (1),.nilslice],.agg [.int .i64 (0),.nilslice,.int .i64 (1),.nilslice,.int .i64 (1),.nilslice,.int .i64 (1),.nilslice]],.agg [.int .i64 (3),.nilslice,.int .i64 (1),.nilslice,.int .i64 (1),.nilslice,.int .i64 (1),.nilslice])::M29
theorem g30:Good M30:=qo g29 (by kernel_rfl)
def M31:jN:=(77,[.agg [.int .i64 (283),.nilslice],.agg [.int .i64 (2000),.nilslice]],.agg [.int .i64 (1),.nilslice])::M30
theorem g31:Good M31:=qo g30 (by kernel_rfl)
def M32:jN:=(80,[.agg [.int .i64 (6283),.nilslice,.int .i64 (2000),.nilslice],.agg [.int .i64 (-3),.nilslice,.int .i64 (1),.nilslice]],.agg [.int .i64 (283),.nilslice,.int .i64 (2000),.nilslice])::M31
theorem g32:Good M32:=qo g31 (by kernel_rfl)
def M33:jN:=(62,[.agg [.int .i64 (2000),.nilslice],.agg [.int .i64 (283),.nilslice]],.agg [.int .i64 (2000),.nilslice,.int .i64 (283),.nilslice])::M32
theorem g33:Good M33:=qo g32 (by kernel_rfl)
def M34:jN:=(37,[.agg [.int .i64 (3),.nilslice,.int .i64 (1),.nilslice,.int .i64 (1),.nilslice,.int .i64 (1),.nilslice],.agg [.int .i64 (7),.nilslice,.int .i64 (1),.nilslice],.agg [.int .i64 (1),.nilslice,.int .i64 (1),.nilslice,.int .i64 (0),.nilslice,.int .i64 (1),.nilslice]],.agg [.int .i64 (22),.nilslice,.int .i64 (1),.nilslice,.int .i64 (7),.nilslice,.int .i64 (1),.nilslice])::M33
theorem g34:Good M34:=qo g33 (by kernel_rfl)
def M35:jN:=(62,[.agg [.int .i64 (19),.nilslice],.agg [.int .i64 (283),.nilslice]],.agg [.int .i64 (19),.nilslice,.int .i64 (283),.nilslice])::M34
theorem g35:Good M35:=qo g34 (by kernel_rfl)
def M36:jN:=(80,[.agg [.int .i64 (2000),.nilslice,.int .i64 (283),.nilslice],.agg [.int .i64 (-7),.nilslice,.int .i64 (1),.nilslice]],.agg [.int .i64 (19),.nilslice,.int .i64 (283),.nilslice])::M35
theorem g36:Good M36:=qo g35 (by kernel_rfl)
def M37:jN:=(62,[.agg [.int .i64 (283),.nilslice],.agg [.int .i64 (19),.nilslice]],.agg [.int .i64 (283),.nilslice,.int .i64 (19),.nilslice])::M36
theorem g37:Good M37:=qo g36 (by kernel_rfl)
def M38:jN:=(37,[.agg [.int .i64 (22),.nilslice,.int .i64 (1),.nilslice,.int .i64 (7),.nilslice,.int .i64 (1),.nilslice],.agg [.int .i64 (14),.nilslice,.int .i64 (1),.nilslice],.agg [.int .i64 (3),.nilslice,.int .i64 (1),.nilslice,.int .i64 (1),.nilslice,.int .i64 (1),.nilslice]],.agg [.int .i64 (311),.nilslice,.int .i64 (1),.nilslice,.int .i64 (99),.nilslice,.int .i64 (1),.nilslice])::M37
theorem g38:Good M38:=qo g37 (by kernel_rfl)
def M39:jN:=(62,[.agg [.int .i64 (9),.nilslice],.agg [.int .i64 (7),.nilslice]],.agg [.int .i64 (9),.nilslice,.int .i64 (7),.nilslice])::M38
theorem g39:Good M39:=qo g38 (by kernel_rfl)
def M40:jN:=(40,[.agg [.int .i64 (9),.nilslice,.int .i64 (1),.nilslice],.agg [.int .i64 (7),.nilslice,.int .i64 (1),.nilslice]],.agg [.int .i64 (9),.nilslice,.int .i64 (7),.nilslice])::M39
theorem g40:Good M40:=qo g39 (by kernel_rfl)
def M41:jN:=(37,[.agg [.int .i64 (22),.nilslice,.int .i64 (1),.nilslice,.int .i64 (7),.nilslice,.int .i64 (1),.nilslice],.agg [.int .i64 (1),.nilslice,.int .i64 (1),.nilslice],.agg [.int .i64 (3),.nilslice,.int .i64 (1),.nilslice,.int .i64 (1),.nilslice,.int .i64 (1),.nilslice]],.agg [.int .i64 (25),.nilslice,.int .i64 (1),.nilslice,.int .i64 (8),.nilslice,.int .i64 (1),.nilslice])::M40
theorem g41:Good M41:=qo g40 (by kernel_rfl)
def M42:jN:=(66,[.agg [.int .i64 (22),.nilslice,.int .i64 (1),.nilslice],.agg [.int .i64 (1),.nilslice,.int .i64 (7),.nilslice]],.agg [.int .i64 (22),.nilslice,.int .i64 (7),.nilslice])::M41
theorem g42:Good M42:=qo g41 (by kernel_rfl)
def M43:jN:=(66,[.agg [.int .i64 (25),.nilslice,.int .i64 (1),.nilslice],.agg [.int .i64 (1),.nilslice,.int .i64 (8),.nilslice]],.agg [.int .i64 (25),.nilslice,.int .i64 (8),.nilslice])::M42
theorem g43:Good M43:=qo g42 (by kernel_rfl)
def M44:jN:=(62,[.agg [.int .i64 (19),.nilslice],.agg [.int .i64 (14000),.nilslice]],.agg [.int .i64 (19),.nilslice,.int .i64 (14000),.nilslice])::M43
theorem g44:Good M44:=qo g43 (by kernel_rfl)
def M45:jN:=(80,[.agg [.int .i64 (22),.nilslice,.int .i64 (7),.nilslice],.agg [.int .i64 (-6283),.nilslice,.int .i64 (2000),.nilslice]],.agg [.int .i64 (19),.nilslice,.int .i64 (14000),.nilslice])::M44
theorem g45:Good M45:=qo g44 (by kernel_rfl)
def M46:jN:=(77,[.agg [.int .i64 (-264),.nilslice],.agg [.int .i64 (16000),.nilslice]],.agg [.int .i64 (8),.nilslice])::M45
theorem g46:Good M46:=qo g45 (by kernel_rfl)
def M47:jN:=(80,[.agg [.int .i64 (25),.nilslice,.int .i64 (8),.nilslice],.agg [.int .i64 (-6283),.nilslice,.int .i64 (2000),.nilslice]],.agg [.int .i64 (-33),.nilslice,.int .i64 (2000),.nilslice])::M46
theorem g47:Good M47:=qo g46 (by kernel_rfl)
def M48:jN:=(77,[.agg [.int .i64 (264),.nilslice],.agg [.int .i64 (16000),.nilslice]],.agg [.int .i64 (8),.nilslice])::M47
theorem g48:Good M48:=qo g47 (by kernel_rfl)
def M49:jN:=(80,[.agg [.int .i64 (6283),.nilslice,.int .i64 (2000),.nilslice],.agg [.int .i64 (-25),.nilslice,.int .i64 (8),.nilslice]],.agg [.int .i64 (33),.nilslice,.int .i64 (2000),.nilslice])::M48
theorem g49:Good M49:=qo g48 (by kernel_rfl)
def M50:jN:=(7,[.str [54,50,56,51,47,50,48,48,48],.int .i64 (10)],.tuple [.str [50,50,47,55],.int .i64 (0)])::M49
theorem g50:Good M50:=qo g49 (by kernel_rfl)
theorem qmv:okM (qoR M50 (.fn 6) [] []) (.bool true)=true:=by kernel_rfl
theorem qqg:qb Tryz.prog (.fn 6) [] [] (.bool true) []:=qj4 g50 _ _ _ _ _ (qm4 qmv)
end Go.Av
