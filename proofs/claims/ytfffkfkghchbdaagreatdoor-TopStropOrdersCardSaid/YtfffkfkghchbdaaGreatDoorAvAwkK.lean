/-
  The examples that every statement of the chapter checks: they hold. By running the evaluator in the kernel, call by call.
-/
import Derived.Test.YtfffkfkghchbdaaGreatDoorAvMtL
noncomputable section
namespace Go.Av
open Go.Proofs
set_option maxRecDepth 100000
theorem fol01:Tryz.prog.follows .mixedOrders=true:=by kernel_rfl
def pl01 (f:FuncId):Bool:=Nat.beq (Nat.land (Nat.shiftRight 4286314820998475812917197464441153879354575585253895076948079299934241927855325088404025601163264 f) 1) 0
def okM (r:Option (AV×Heap)) (v:AV):Bool:=match r with
 |some (w,[])=>qad 30 w v
 |_=>false
theorem qkx {r:Option (AV×Heap)} {v:AV} (h:okM r v=true):r=some (v,[]):=by
 unfold okM at h
 split at h
 ·rw[qe9 30 _ _ h]
 cases h
abbrev jk:=List (FuncId×List AV×AV)
def qkH (M:jk):kz:=qmp Tryz.prog 3000 mtT insC (orElse (memo M) qlB) pl01 40
def Good (M:jk):Prop:= ∀e∈M,qc Tryz.prog (.fn e.1) e.2.1 [] e.2.2 []
theorem qhk {M:jk} (h:Good M):qK Tryz.prog (qkH M):=qlV fol01 mt_ok qm3 (qf7 (qmZ h) qkc) _
theorem qk7:Good []:=by intro e h;cases h
theorem ql {M:jk} {f:FuncId} {args:List AV} {v:AV} (h:Good M) (hr:okM (qkH M (.fn f) args []) v=true):Good ((f,args,v)::M):=by
 intro e he
 rcases List.mem_cons.1 he with rfl|he
 ·exact qhk h _ _ _ _ _ (qkx hr)
 exact h e he
def M0:jk:=[]
theorem g0:Good M0:=qk7
def M1:jk:=(121,[.str [51,49]],.agg [.int .i64 (31),.nilslice])::M0
theorem g1:Good M1:=ql g0 (by kernel_rfl)
def M2:jk:=(121,[.str [49,48]],.agg [.int .i64 (10),.nilslice])::M1
theorem g2:Good M2:=ql g1 (by kernel_rfl)
def M3:jk:=(123,[.agg [.int .i64 (31),.nilslice,.int .i64 (10),.nilslice],.agg [.int .i64 (16),.nilslice,.int .i64 (5),.nilslice]],.tuple [.agg [.str [51,49,47,49,48],.str [49,54,47,53]],.int .i64 (0)])::M2
theorem g3:Good M3:=ql g2 (by kernel_rfl)
def M4:jk:=(60,[.int .i64 (1)],.tuple [.agg [.str [51,49,47,49,48],.str [49,54,47,53]],.int .i64 (0)])::M3
theorem g4:Good M4:=ql g3 (by kernel_rfl)
def M5:jk:=(86,[.str [49,48]],.int .i64 (0))::M4
theorem g5:Good M5:=ql g4 (by kernel_rfl)
def M6:jk:=(188,[.agg [.str [49,48],.str [49,48]]],.int .i64 (0))::M5
theorem g6:Good M6:=ql g5 (by kernel_rfl)
def M7:jk:=(86,[.str [51,49,47,49,48]],.int .i64 (0))::M6
theorem g7:Good M7:=ql g6 (by kernel_rfl)
def M8:jk:=(121,[.str [49,54]],.agg [.int .i64 (16),.nilslice])::M7
theorem g8:Good M8:=ql g7 (by kernel_rfl)
def M9:jk:=(86,[.str [49,54,47,53]],.int .i64 (0))::M8
theorem g9:Good M9:=ql g8 (by kernel_rfl)
def M10:jk:=(82,[.str [49,54,47,53]],.agg [.int .i64 (16),.nilslice,.int .i64 (5),.nilslice])::M9
theorem g10:Good M10:=ql g9 (by kernel_rfl)
def M11:jk:=(68,[.agg [.int .i64 (10),.nilslice,.int .i64 (1),.nilslice],.agg [.int .i64 (31),.nilslice,.int .i64 (10),.nilslice]],.agg [.int .i64 (31),.nilslice,.int .i64 (1),.nilslice])::M10
theorem g11:Good M11:=ql g10 (by kernel_rfl)
def M12:jk:=(68,[.agg [.int .i64 (10),.nilslice,.int .i64 (1),.nilslice],.agg [.int .i64 (16),.nilslice,.int .i64 (5),.nilslice]],.agg [.int .i64 (32),.nilslice,.int .i64 (1),.nilslice])::M11
theorem g12:Good M12:=ql g11 (by kernel_rfl)
def M13:jk:=(123,[.agg [.int .i64 (31),.nilslice,.int .i64 (1),.nilslice],.agg [.int .i64 (32),.nilslice,.int .i64 (1),.nilslice]],.tuple [.agg [.str [51,49],.str [51,50]],.int .i64 (0)])::M12
theorem g13:Good M13:=ql g12 (by kernel_rfl)
def M14:jk:=(189,[.agg [.str [49,48],.str [49,48]],.agg [.str [51,49,47,49,48],.str [49,54,47,53]],.func (.func 68) [] []],.tuple [.agg [.str [51,49],.str [51,50]],.int .i64 (0)])::M13
theorem g14:Good M14:=ql g13 (by kernel_rfl)
def M15:jk:=(127,[.agg [.str [49,48],.str [49,48]],.agg [.str [51,49,47,49,48],.str [49,54,47,53]],.func (.func 68) [] []],.tuple [.agg [.str [51,49],.str [51,50]],.int .i64 (0)])::M14
theorem g15:Good M15:=ql g14 (by kernel_rfl)
def M16:jk:=(68,[.agg [.int .i64 (1),.nilslice,.int .i64 (1),.nilslice],.agg [.int .i64 (1),.nilslice,.int .i64 (2),.nilslice]],.agg [.int .i64 (1),.nilslice,.int .i64 (2),.nilslice])::M15
theorem g16:Good M16:=ql g15 (by kernel_rfl)
def M17:jk:=(124,[.agg [.int .i64 (2),.nilslice],.agg [.int .i64 (3),.nilslice]],.agg [.int .i64 (2),.nilslice,.int .i64 (3),.nilslice])::M16
theorem g17:Good M17:=ql g16 (by kernel_rfl)
def M18:jk:=(67,[.agg [.int .i64 (2),.nilslice,.int .i64 (1),.nilslice],.agg [.int .i64 (3),.nilslice,.int .i64 (1),.nilslice]],.agg [.int .i64 (2),.nilslice,.int .i64 (3),.nilslice])::M17
theorem g18:Good M18:=ql g17 (by kernel_rfl)
def M19:jk:=(68,[.agg [.int .i64 (6),.nilslice,.int .i64 (1),.nilslice],.agg [.int .i64 (1),.nilslice,.int .i64 (4),.nilslice]],.agg [.int .i64 (3),.nilslice,.int .i64 (2),.nilslice])::M18
theorem g19:Good M19:=ql g18 (by kernel_rfl)
def M20:jk:=(22,[.fslice 9 [.int .i64 (1),.int .i64 (0),.int .i64 (3),.int .i64 (4),.int .i64 (2),.int .i64 (6),.int .i64 (7),.int .i64 (8),.int .i64 (5)]],.tuple [.str [49,50],.int .i64 (0)])::M19
theorem g20:Good M20:=ql g19 (by kernel_rfl)
def M21:jk:=(175,[.agg [.int .i64 (10),.nilslice],.int .i64 (5)],.agg [.int .i64 (100000),.nilslice])::M20
theorem g21:Good M21:=ql g20 (by kernel_rfl)
def M22:jk:=(151,[.agg [.int .i64 (31415),.nilslice],.agg [.int .i64 (10000),.nilslice]],.agg [.int .i64 (5),.nilslice])::M21
theorem g22:Good M22:=ql g21 (by kernel_rfl)
def M23:jk:=(124,[.agg [.int .i64 (31416),.nilslice],.agg [.int .i64 (10000),.nilslice]],.agg [.int .i64 (3927),.nilslice,.int .i64 (1250),.nilslice])::M22
theorem g23:Good M23:=ql g22 (by kernel_rfl)
def M24:jk:=(123,[.agg [.int .i64 (6283),.nilslice,.int .i64 (2000),.nilslice],.agg [.int .i64 (3927),.nilslice,.int .i64 (1250),.nilslice]],.tuple [.agg [.str [54,50,56,51,47,50,48,48,48],.str [51,57,50,55,47,49,50,53,48]],.int .i64 (0)])::M23
theorem g24:Good M24:=ql g23 (by kernel_rfl)
def M25:jk:=(60,[.int .i64 (4)],.tuple [.agg [.str [54,50,56,51,47,50,48,48,48],.str [51,57,50,55,47,49,50,53,48]],.int .i64 (0)])::M24
theorem g25:Good M25:=ql g24 (by kernel_rfl)
def M26:jk:=(121,[.str [54,50,56,51]],.agg [.int .i64 (6283),.nilslice])::M25
theorem g26:Good M26:=ql g25 (by kernel_rfl)
def M27:jk:=(121,[.str [50,48,48,48]],.agg [.int .i64 (2000),.nilslice])::M26
theorem g27:Good M27:=ql g26 (by kernel_rfl)
def M28:jk:=(151,[.agg [.int .i64 (6283),.nilslice],.agg [.int .i64 (2000),.nilslice]],.agg [.int .i64 (1),.nilslice])::M27
theorem g28:Good M28:=ql g27 (by kernel_rfl)
def M29:jk:=(86,[.str [54,50,56,51,47,50,48,48,48]],.int .i64 (0))::M28
theorem g29:Good M29:=ql g28 (by kernel_rfl)
def M30:jk:=(129,[.agg [.int .i64 (1),.nilslice,.int .i64 (1),.nilslice,.int .i64 (0),.nilslice,.int .i64 (1),.nilslice],.agg [.int .i64 (3),.nilslice,.int .i64 (1),.nilslice],.agg [.int .i64 (0),.nilslice,.int .i64 (1),.nilslice,.int .i64 (1),.nilslice,.int .i64 (1),.nilslice]],.agg [.int .i64 (3),.nilslice,.int .i64 (1),.nilslice,.int .i64 (1),.nilslice,.int .i64 (1),.nilslice])::M29
theorem g30:Good M30:=ql g29 (by kernel_rfl)
def M31:jk:=(151,[.agg [.int .i64 (283),.nilslice],.agg [.int .i64 (2000),.nilslice]],.agg [.int .i64 (1),.nilslice])::M30
theorem g31:Good M31:=ql g30 (by kernel_rfl)
def M32:jk:=(87,[.agg [.int .i64 (6283),.nilslice,.int .i64 (2000),.nilslice],.agg [.int .i64 (-3),.nilslice,.int .i64 (1),.nilslice]],.agg [.int .i64 (283),.nilslice,.int .i64 (2000),.nilslice])::M31
theorem g32:Good M32:=ql g31 (by kernel_rfl)
def M33:jk:=(124,[.agg [.int .i64 (2000),.nilslice],.agg [.int .i64 (283),.nilslice]],.agg [.int .i64 (2000),.nilslice,.int .i64 (283),.nilslice])::M32
theorem g33:Good M33:=ql g32 (by kernel_rfl)
def M34:jk:=(129,[.agg [.int .i64 (3),.nilslice,.int .i64 (1),.nilslice,.int .i64 (1),.nilslice,.int .i64 (1),.nilslice],.agg [.int .i64 (7),.nilslice,.int .i64 (1),.nilslice],.agg [.int .i64 (1),.nilslice,.int .i64 (1),.nilslice,.int .i64 (0),.nilslice,.int .i64 (1),.nilslice]],.agg [.int .i64 (22),.nilslice,.int .i64 (1),.nilslice,.int .i64 (7),.nilslice,.int .i64 (1),.nilslice])::M33
theorem g34:Good M34:=ql g33 (by kernel_rfl)
def M35:jk:=(124,[.agg [.int .i64 (19),.nilslice],.agg [.int .i64 (283),.nilslice]],.agg [.int .i64 (19),.nilslice,.int .i64 (283),.nilslice])::M34
theorem g35:Good M35:=ql g34 (by kernel_rfl)
def M36:jk:=(87,[.agg [.int .i64 (2000),.nilslice,.int .i64 (283),.nilslice],.agg [.int .i64 (-7),.nilslice,.int .i64 (1),.nilslice]],.agg [.int .i64 (19),.nilslice,.int .i64 (283),.nilslice])::M35
theorem g36:Good M36:=ql g35 (by kernel_rfl)
def M37:jk:=(124,[.agg [.int .i64 (283),.nilslice],.agg [.int .i64 (19),.nilslice]],.agg [.int .i64 (283),.nilslice,.int .i64 (19),.nilslice])::M36
theorem g37:Good M37:=ql g36 (by kernel_rfl)
def M38:jk:=(129,[.agg [.int .i64 (22),.nilslice,.int .i64 (1),.nilslice,.int .i64 (7),.nilslice,.int .i64 (1),.nilslice],.agg [.int .i64 (14),.nilslice,.int .i64 (1),.nilslice],.agg [.int .i64 (3),.nilslice,.int .i64 (1),.nilslice,.int .i64 (1),.nilslice,.int .i64 (1),.nilslice]],.agg [.int .i64 (311),.nilslice,.int .i64 (1),.nilslice,.int .i64 (99),.nilslice,.int .i64 (1),.nilslice])::M37
theorem g38:Good M38:=ql g37 (by kernel_rfl)
def M39:jk:=(124,[.agg [.int .i64 (9),.nilslice],.agg [.int .i64 (7),.nilslice]],.agg [.int .i64 (9),.nilslice,.int .i64 (7),.nilslice])::M38
theorem g39:Good M39:=ql g38 (by kernel_rfl)
def M40:jk:=(67,[.agg [.int .i64 (9),.nilslice,.int .i64 (1),.nilslice],.agg [.int .i64 (7),.nilslice,.int .i64 (1),.nilslice]],.agg [.int .i64 (9),.nilslice,.int .i64 (7),.nilslice])::M39
theorem g40:Good M40:=ql g39 (by kernel_rfl)
def M41:jk:=(129,[.agg [.int .i64 (22),.nilslice,.int .i64 (1),.nilslice,.int .i64 (7),.nilslice,.int .i64 (1),.nilslice],.agg [.int .i64 (1),.nilslice,.int .i64 (1),.nilslice],.agg [.int .i64 (3),.nilslice,.int .i64 (1),.nilslice,.int .i64 (1),.nilslice,.int .i64 (1),.nilslice]],.agg [.int .i64 (25),.nilslice,.int .i64 (1),.nilslice,.int .i64 (8),.nilslice,.int .i64 (1),.nilslice])::M40
theorem g41:Good M41:=ql g40 (by kernel_rfl)
def M42:jk:=(68,[.agg [.int .i64 (22),.nilslice,.int .i64 (1),.nilslice],.agg [.int .i64 (1),.nilslice,.int .i64 (7),.nilslice]],.agg [.int .i64 (22),.nilslice,.int .i64 (7),.nilslice])::M41
theorem g42:Good M42:=ql g41 (by kernel_rfl)
def M43:jk:=(68,[.agg [.int .i64 (25),.nilslice,.int .i64 (1),.nilslice],.agg [.int .i64 (1),.nilslice,.int .i64 (8),.nilslice]],.agg [.int .i64 (25),.nilslice,.int .i64 (8),.nilslice])::M42
theorem g43:Good M43:=ql g42 (by kernel_rfl)
def M44:jk:=(124,[.agg [.int .i64 (19),.nilslice],.agg [.int .i64 (14000),.nilslice]],.agg [.int .i64 (19),.nilslice,.int .i64 (14000),.nilslice])::M43
theorem g44:Good M44:=ql g43 (by kernel_rfl)
def M45:jk:=(87,[.agg [.int .i64 (22),.nilslice,.int .i64 (7),.nilslice],.agg [.int .i64 (-6283),.nilslice,.int .i64 (2000),.nilslice]],.agg [.int .i64 (19),.nilslice,.int .i64 (14000),.nilslice])::M44
theorem g45:Good M45:=ql g44 (by kernel_rfl)
def M46:jk:=(151,[.agg [.int .i64 (-264),.nilslice],.agg [.int .i64 (16000),.nilslice]],.agg [.int .i64 (8),.nilslice])::M45
theorem g46:Good M46:=ql g45 (by kernel_rfl)
def M47:jk:=(87,[.agg [.int .i64 (25),.nilslice,.int .i64 (8),.nilslice],.agg [.int .i64 (-6283),.nilslice,.int .i64 (2000),.nilslice]],.agg [.int .i64 (-33),.nilslice,.int .i64 (2000),.nilslice])::M46
theorem g47:Good M47:=ql g46 (by kernel_rfl)
def M48:jk:=(151,[.agg [.int .i64 (264),.nilslice],.agg [.int .i64 (16000),.nilslice]],.agg [.int .i64 (8),.nilslice])::M47
theorem g48:Good M48:=ql g47 (by kernel_rfl)
def M49:jk:=(87,[.agg [.int .i64 (6283),.nilslice,.int .i64 (2000),.nilslice],.agg [.int .i64 (-25),.nilslice,.int .i64 (8),.nilslice]],.agg [.int .i64 (33),.nilslice,.int .i64 (2000),.nilslice])::M48
theorem g49:Good M49:=ql g48 (by kernel_rfl)
def M50:jk:=(62,[.str [54,50,56,51,47,50,48,48,48],.int .i64 (10)],.tuple [.str [50,50,47,55],.int .i64 (0)])::M49
theorem g50:Good M50:=ql g49 (by kernel_rfl)
theorem qj8:okM (qkH M50 (.fn 21) [] []) (.bool true)=true:=by kernel_rfl
theorem qon:qc Tryz.prog (.fn 21) [] [] (.bool true) []:=qhk g50 _ _ _ _ _ (qkx qj8)
end Go.Av
