/-
  The examples that every statement of the chapter checks: they hold. By running the evaluator in the kernel, call by call.
-/
import Derived.Test.YtjilgbgaeeielaaGreatAvMtW2
import Derived.Test.YtjilgbgaeeielaaGreatAvRp
noncomputable section
namespace Go.Av
open Go.Proofs
set_option maxRecDepth 100000
theorem fol01:Tryz.prog.follows .mixedOrders=true:=by kernel_rfl
def pl01 (f:FuncId):Bool:=Nat.beq (Nat.land (Nat.shiftRight 175237402438025384272398532208173374242816 f) 1) 0
def okM (r:Option (AV×Heap)) (v:AV):Bool:=match r with
 |some (w,[])=>qal 30 w v
 |_=>false
theorem qkX {r:Option (AV×Heap)} {v:AV} (h:okM r v=true):r=some (v,[]):=by
 unfold okM at h
 split at h
 ·rw[qfA 30 _ _ h]
 cases h
def qmw:zm:=fun c args A=>match c with
 | .fn 123=>qi3 args A
 | .fn 98=>repA args A
 |_=>none
theorem ql1:qL Tryz.prog qmw:=by
 intro c args A v A' h
 unfold qmw at h
 split at h
 ·exact qgC h
 ·exact qmZ h
 cases h
abbrev yY:=List (FuncId×List AV×AV)
def qlo (M:yY):zm:=ql5 Tryz.prog 3000 mtT qmw (orElse (memo M) qnj) pl01 40
def Good (M:yY):Prop:= ∀e∈M,qf Tryz.prog (.fn e.1) e.2.1 [] e.2.2 []
theorem qg7 {M:yY} (h:Good M):qL Tryz.prog (qlo M):=qlU fol01 mt_ok ql1 (qkk (qmW h) qlJ) _
theorem qmc:Good []:=by intro e h;cases h
theorem qB {M:yY} {f:FuncId} {args:List AV} {v:AV} (h:Good M) (hr:okM (qlo M (.fn f) args []) v=true):Good ((f,args,v)::M):=by
 intro e he
 rcases List.mem_cons.1 he with rfl|he
 ·exact qg7 h _ _ _ _ _ (qkX hr)
 exact h e he
def M0:yY:=[]
theorem g0:Good M0:=qmc
def M1:yY:=(32,[.int .i64 (3),.fslice 6 [.int .i64 (1),.int .i64 (-2),.int .i64 (1),.int .i64 (-2),.int .i64 (1),.int .i64 (-2)]],.fslice 3 [.int .i64 (0),.int .i64 (1),.int .i64 (2)])::M0
theorem g1:Good M1:=qB g0 (by kernel_rfl)
def M2:yY:=(85,[.int .i64 (3),.fslice 6 [.int .i64 (1),.int .i64 (-2),.int .i64 (1),.int .i64 (-2),.int .i64 (1),.int .i64 (-2)]],.fslice 3 [.fslice 3 [.int .i64 (0),.int .i64 (0),.int .i64 (0)],.fslice 3 [.int .i64 (0),.int .i64 (0),.int .i64 (0)],.fslice 3 [.int .i64 (0),.int .i64 (0),.int .i64 (0)]])::M1
theorem g2:Good M2:=qB g1 (by kernel_rfl)
def M3:yY:=(111,[.agg [.int .i64 (1),.nilslice,.int .i64 (1),.nilslice],.agg [.int .i64 (-1),.nilslice,.int .i64 (2),.nilslice]],.agg [.int .i64 (1),.nilslice,.int .i64 (2),.nilslice])::M2
theorem g3:Good M3:=qB g2 (by kernel_rfl)
def M4:yY:=(109,[.int .i64 (-2),.agg [.int .i64 (2),.nilslice,.int .i64 (1),.nilslice]],.agg [.int .i64 (0),.nilslice,.int .i64 (1),.nilslice,.int .i64 (1),.nilslice,.int .i64 (1),.nilslice,.int .i64 (1),.nilslice,.int .i64 (2),.nilslice,.int .i64 (1),.nilslice,.int .i64 (2),.nilslice])::M3
theorem g4:Good M4:=qB g3 (by kernel_rfl)
def M5:yY:=(110,[.agg [.int .i64 (0),.nilslice,.int .i64 (1),.nilslice],.agg [.int .i64 (1),.nilslice,.int .i64 (2),.nilslice]],.agg [.int .i64 (0),.nilslice,.int .i64 (1),.nilslice])::M4
theorem g5:Good M5:=qB g4 (by kernel_rfl)
def M6:yY:=(110,[.agg [.int .i64 (1),.nilslice,.int .i64 (1),.nilslice],.agg [.int .i64 (1),.nilslice,.int .i64 (2),.nilslice]],.agg [.int .i64 (1),.nilslice,.int .i64 (2),.nilslice])::M5
theorem g6:Good M6:=qB g5 (by kernel_rfl)
def M7:yY:=(111,[.agg [.int .i64 (0),.nilslice,.int .i64 (1),.nilslice],.agg [.int .i64 (1),.nilslice,.int .i64 (2),.nilslice]],.agg [.int .i64 (1),.nilslice,.int .i64 (2),.nilslice])::M6
theorem g7:Good M7:=qB g6 (by kernel_rfl)
def M8:yY:=(110,[.agg [.int .i64 (1),.nilslice,.int .i64 (2),.nilslice],.agg [.int .i64 (1),.nilslice,.int .i64 (1),.nilslice]],.agg [.int .i64 (1),.nilslice,.int .i64 (2),.nilslice])::M7
theorem g8:Good M8:=qB g7 (by kernel_rfl)
def M9:yY:=(110,[.agg [.int .i64 (1),.nilslice,.int .i64 (2),.nilslice],.agg [.int .i64 (0),.nilslice,.int .i64 (1),.nilslice]],.agg [.int .i64 (0),.nilslice,.int .i64 (1),.nilslice])::M8
theorem g9:Good M9:=qB g8 (by kernel_rfl)
def M10:yY:=(110,[.agg [.int .i64 (2),.nilslice,.int .i64 (1),.nilslice],.agg [.int .i64 (1),.nilslice,.int .i64 (2),.nilslice]],.agg [.int .i64 (1),.nilslice,.int .i64 (1),.nilslice])::M9
theorem g10:Good M10:=qB g9 (by kernel_rfl)
def M11:yY:=(110,[.agg [.int .i64 (1),.nilslice,.int .i64 (2),.nilslice],.agg [.int .i64 (1),.nilslice,.int .i64 (2),.nilslice]],.agg [.int .i64 (1),.nilslice,.int .i64 (4),.nilslice])::M10
theorem g11:Good M11:=qB g10 (by kernel_rfl)
def M12:yY:=(111,[.agg [.int .i64 (0),.nilslice,.int .i64 (1),.nilslice],.agg [.int .i64 (1),.nilslice,.int .i64 (4),.nilslice]],.agg [.int .i64 (1),.nilslice,.int .i64 (4),.nilslice])::M11
theorem g12:Good M12:=qB g11 (by kernel_rfl)
def M13:yY:=(110,[.agg [.int .i64 (1),.nilslice,.int .i64 (2),.nilslice],.agg [.int .i64 (-1),.nilslice,.int .i64 (1),.nilslice]],.agg [.int .i64 (-1),.nilslice,.int .i64 (2),.nilslice])::M12
theorem g13:Good M13:=qB g12 (by kernel_rfl)
def M14:yY:=(110,[.agg [.int .i64 (1),.nilslice,.int .i64 (4),.nilslice],.agg [.int .i64 (1),.nilslice,.int .i64 (1),.nilslice]],.agg [.int .i64 (1),.nilslice,.int .i64 (4),.nilslice])::M13
theorem g14:Good M14:=qB g13 (by kernel_rfl)
def M15:yY:=(111,[.agg [.int .i64 (-1),.nilslice,.int .i64 (2),.nilslice],.agg [.int .i64 (1),.nilslice,.int .i64 (4),.nilslice]],.agg [.int .i64 (-1),.nilslice,.int .i64 (4),.nilslice])::M14
theorem g15:Good M15:=qB g14 (by kernel_rfl)
def M16:yY:=(110,[.agg [.int .i64 (1),.nilslice,.int .i64 (2),.nilslice],.agg [.int .i64 (2),.nilslice,.int .i64 (1),.nilslice]],.agg [.int .i64 (1),.nilslice,.int .i64 (1),.nilslice])::M15
theorem g16:Good M16:=qB g15 (by kernel_rfl)
def M17:yY:=(110,[.agg [.int .i64 (1),.nilslice,.int .i64 (4),.nilslice],.agg [.int .i64 (0),.nilslice,.int .i64 (1),.nilslice]],.agg [.int .i64 (0),.nilslice,.int .i64 (1),.nilslice])::M16
theorem g17:Good M17:=qB g16 (by kernel_rfl)
def M18:yY:=(110,[.agg [.int .i64 (-1),.nilslice,.int .i64 (1),.nilslice],.agg [.int .i64 (1),.nilslice,.int .i64 (2),.nilslice]],.agg [.int .i64 (-1),.nilslice,.int .i64 (2),.nilslice])::M17
theorem g18:Good M18:=qB g17 (by kernel_rfl)
def M19:yY:=(111,[.agg [.int .i64 (0),.nilslice,.int .i64 (1),.nilslice],.agg [.int .i64 (-1),.nilslice,.int .i64 (2),.nilslice]],.agg [.int .i64 (-1),.nilslice,.int .i64 (2),.nilslice])::M18
theorem g19:Good M19:=qB g18 (by kernel_rfl)
def M20:yY:=(111,[.agg [.int .i64 (2),.nilslice,.int .i64 (1),.nilslice],.agg [.int .i64 (-1),.nilslice,.int .i64 (2),.nilslice]],.agg [.int .i64 (3),.nilslice,.int .i64 (2),.nilslice])::M19
theorem g20:Good M20:=qB g19 (by kernel_rfl)
def M21:yY:=(110,[.agg [.int .i64 (1),.nilslice,.int .i64 (4),.nilslice],.agg [.int .i64 (1),.nilslice,.int .i64 (2),.nilslice]],.agg [.int .i64 (1),.nilslice,.int .i64 (8),.nilslice])::M20
theorem g21:Good M21:=qB g20 (by kernel_rfl)
def M22:yY:=(111,[.agg [.int .i64 (0),.nilslice,.int .i64 (1),.nilslice],.agg [.int .i64 (1),.nilslice,.int .i64 (8),.nilslice]],.agg [.int .i64 (1),.nilslice,.int .i64 (8),.nilslice])::M21
theorem g22:Good M22:=qB g21 (by kernel_rfl)
def M23:yY:=(111,[.agg [.int .i64 (1),.nilslice,.int .i64 (1),.nilslice],.agg [.int .i64 (1),.nilslice,.int .i64 (8),.nilslice]],.agg [.int .i64 (9),.nilslice,.int .i64 (8),.nilslice])::M22
theorem g23:Good M23:=qB g22 (by kernel_rfl)
def M24:yY:=(87,[.int .i64 (3),.fslice 6 [.int .i64 (1),.int .i64 (-2),.int .i64 (1),.int .i64 (-2),.int .i64 (1),.int .i64 (-2)],.agg [.int .i64 (2),.nilslice,.int .i64 (1),.nilslice]],.fslice 3 [.fslice 3 [.int .i64 (0),.nilslice,.int .i64 (1),.nilslice,.int .i64 (-1),.nilslice,.int .i64 (2),.nilslice,.int .i64 (3),.nilslice,.int .i64 (2),.nilslice],.fslice 3 [.int .i64 (1),.nilslice,.int .i64 (1),.nilslice,.int .i64 (1),.nilslice,.int .i64 (1),.nilslice,.int .i64 (-1),.nilslice,.int .i64 (1),.nilslice],.fslice 3 [.int .i64 (-1),.nilslice,.int .i64 (4),.nilslice,.int .i64 (1),.nilslice,.int .i64 (8),.nilslice,.int .i64 (9),.nilslice,.int .i64 (8),.nilslice]])::M23
theorem g24:Good M24:=qB g23 (by kernel_rfl)
def M25:yY:=(87,[.int .i64 (3),.nilslice,.agg [.int .i64 (2),.nilslice,.int .i64 (1),.nilslice]],.fslice 3 [.fslice 3 [.int .i64 (1),.nilslice,.int .i64 (1),.nilslice,.int .i64 (0),.nilslice,.int .i64 (1),.nilslice,.int .i64 (0),.nilslice,.int .i64 (1),.nilslice],.fslice 3 [.int .i64 (0),.nilslice,.int .i64 (1),.nilslice,.int .i64 (1),.nilslice,.int .i64 (1),.nilslice,.int .i64 (0),.nilslice,.int .i64 (1),.nilslice],.fslice 3 [.int .i64 (0),.nilslice,.int .i64 (1),.nilslice,.int .i64 (0),.nilslice,.int .i64 (1),.nilslice,.int .i64 (1),.nilslice,.int .i64 (1),.nilslice]])::M24
theorem g25:Good M25:=qB g24 (by kernel_rfl)
def M26:yY:=(23,[.int .i64 (3),.fslice 6 [.int .i64 (1),.int .i64 (-2),.int .i64 (1),.int .i64 (-2),.int .i64 (1),.int .i64 (-2)],.nilslice],.tuple [.str [98,117,114,97,117],.int .i64 (0)])::M25
theorem g26:Good M26:=qB g25 (by kernel_rfl)
def M27:yY:=(37,[.int .i64 (3),.fslice 6 [.int .i64 (1),.int .i64 (2),.int .i64 (1),.int .i64 (2),.int .i64 (1),.int .i64 (2)],.fslice 6 [.int .i64 (2),.int .i64 (1),.int .i64 (2),.int .i64 (1),.int .i64 (2),.int .i64 (1)]],.int .i64 (0))::M26
theorem g27:Good M27:=qB g26 (by kernel_rfl)
def M28:yY:=(30,[.int .i64 (3),.fslice 6 [.int .i64 (1),.int .i64 (2),.int .i64 (1),.int .i64 (2),.int .i64 (1),.int .i64 (2)]],.agg [.int .i64 (2),.nilslice])::M27
theorem g28:Good M28:=qB g27 (by kernel_rfl)
def M29:yY:=(30,[.int .i64 (3),.fslice 6 [.int .i64 (2),.int .i64 (1),.int .i64 (2),.int .i64 (1),.int .i64 (2),.int .i64 (1)]],.agg [.int .i64 (2),.nilslice])::M28
theorem g29:Good M29:=qB g28 (by kernel_rfl)
def M30:yY:=(24,[.int .i64 (3),.fslice 6 [.int .i64 (1),.int .i64 (2),.int .i64 (1),.int .i64 (2),.int .i64 (1),.int .i64 (2)],.fslice 6 [.int .i64 (2),.int .i64 (1),.int .i64 (2),.int .i64 (1),.int .i64 (2),.int .i64 (1)]],.tuple [.fslice 18 [.str [105,110,115,101,114,116],.int .i64 (6),.int .i64 (-1),.str [105,110,115,101,114,116],.int .i64 (7),.int .i64 (-2),.str [105,110,115,101,114,116],.int .i64 (8),.int .i64 (-1),.str [105,110,115,101,114,116],.int .i64 (9),.int .i64 (-2),.str [105,110,115,101,114,116],.int .i64 (10),.int .i64 (-1),.str [105,110,115,101,114,116],.int .i64 (11),.int .i64 (-2),.str [105,110,115,101,114,116],.int .i64 (6),.int .i64 (-1),.str [116,117,114,110],.int .i64 (4),.int .i64 (0),.str [99,97,110,99,101,108],.int .i64 (7),.int .i64 (0),.str [99,97,110,99,101,108],.int .i64 (3),.int .i64 (0),.str [99,97,110,99,101,108],.int .i64 (4),.int .i64 (0),.str [99,97,110,99,101,108],.int .i64 (3),.int .i64 (0),.str [105,110,115,101,114,116],.int .i64 (4),.int .i64 (-1),.str [116,117,114,110],.int .i64 (2),.int .i64 (0),.str [99,97,110,99,101,108],.int .i64 (5),.int .i64 (0),.str [99,97,110,99,101,108],.int .i64 (1),.int .i64 (0),.str [99,97,110,99,101,108],.int .i64 (0),.int .i64 (0),.str [99,97,110,99,101,108],.int .i64 (0),.int .i64 (0)],.int .i64 (0)])::M29
theorem g30:Good M30:=qB g29 (by kernel_rfl)
def M31:yY:=(28,[.int .i64 (3),.fslice 6 [.int .i64 (1),.int .i64 (2),.int .i64 (1),.int .i64 (2),.int .i64 (1),.int .i64 (2)],.fslice 18 [.str [105,110,115,101,114,116],.int .i64 (6),.int .i64 (-1),.str [105,110,115,101,114,116],.int .i64 (7),.int .i64 (-2),.str [105,110,115,101,114,116],.int .i64 (8),.int .i64 (-1),.str [105,110,115,101,114,116],.int .i64 (9),.int .i64 (-2),.str [105,110,115,101,114,116],.int .i64 (10),.int .i64 (-1),.str [105,110,115,101,114,116],.int .i64 (11),.int .i64 (-2),.str [105,110,115,101,114,116],.int .i64 (6),.int .i64 (-1),.str [116,117,114,110],.int .i64 (4),.int .i64 (0),.str [99,97,110,99,101,108],.int .i64 (7),.int .i64 (0),.str [99,97,110,99,101,108],.int .i64 (3),.int .i64 (0),.str [99,97,110,99,101,108],.int .i64 (4),.int .i64 (0),.str [99,97,110,99,101,108],.int .i64 (3),.int .i64 (0),.str [105,110,115,101,114,116],.int .i64 (4),.int .i64 (-1),.str [116,117,114,110],.int .i64 (2),.int .i64 (0),.str [99,97,110,99,101,108],.int .i64 (5),.int .i64 (0),.str [99,97,110,99,101,108],.int .i64 (1),.int .i64 (0),.str [99,97,110,99,101,108],.int .i64 (0),.int .i64 (0),.str [99,97,110,99,101,108],.int .i64 (0),.int .i64 (0)]],.tuple [.fslice 6 [.int .i64 (2),.int .i64 (1),.int .i64 (2),.int .i64 (1),.int .i64 (2),.int .i64 (1)],.int .i64 (0)])::M30
theorem g31:Good M31:=qB g30 (by kernel_rfl)
theorem qke:okM (qlo M31 (.fn 7) [] []) (.bool true)=true:=by kernel_rfl
theorem qmX:qf Tryz.prog (.fn 7) [] [] (.bool true) []:=qg7 g31 _ _ _ _ _ (qkX qke)
end Go.Av
