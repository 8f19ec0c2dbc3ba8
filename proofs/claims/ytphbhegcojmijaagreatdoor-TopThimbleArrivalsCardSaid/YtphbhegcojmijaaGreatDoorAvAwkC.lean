/-
  The example that the statement checks: it holds. By running the evaluator in the kernel, call by call.
-/
import Derived.Test.YtphbhegcojmijaaGreatDoorAvPrimC
noncomputable section
namespace Go.Av
open Go.Proofs
set_option maxRecDepth 100000
theorem fol10:Tryz.prog.follows .mixedOrders=true:=by kernel_rfl
def pl10 (f:FuncId):Bool:=Nat.beq (Nat.land (Nat.shiftRight 1955554630772196222750395906555020207126584700762599968253867221520936427981777646169750503424 f) 1) 0
def okM (r:Option (AV×Heap)) (v:AV):Bool:=match r with
 |some (w,[])=>qfW 30 w v
 |_=>false
theorem qu2 {r:Option (AV×Heap)} {v:AV} (h:okM r v=true):r=some (v,[]):=by
 unfold okM at h
 split at h
 ·rw[qpg 30 _ _ h]
 ·cases h
abbrev qkx:=List (FuncId×List AV×AV)
def qwd (M:qkx):yQ:=quw Tryz.prog 3000 (fun _ _=>none) qkb (orElse (memo M) qw2) pl10 40
def Good (M:qkx):Prop:= ∀e∈M,qj Tryz.prog (.fn e.1) e.2.1 [] e.2.2 []
theorem qrq {M:qkx} (h:Good M):vz Tryz.prog (qwd M):=quZ fol10 (fun _ _ _ h=>by cases h) qk0 (qtN (qwC h) qu4) _
theorem quW:Good []:=by intro e h;cases h
theorem qcC {M:qkx} {f:FuncId} {args:List AV} {v:AV} (h:Good M) (hr:okM (qwd M (.fn f) args []) v=true):Good ((f,args,v)::M):=by
 intro e he
 rcases List.mem_cons.1 he with rfl|he
 ·exact qrq h _ _ _ _ _ (qu2 hr)
 ·exact h e he
def M0:qkx:=[]
theorem g0:Good M0:=quW
def M1:qkx:=(70,[.str [109,97,107,101,32,97,32,98,32,49,48,32,49,48,48,32,50]],.tuple [.agg [.int .i64 (0),.str [109,97,107,101],.fslice 2 [.str [97],.str [98]],.fslice 3 [.int .i64 (10),.int .i64 (100),.int .i64 (2)],.str []],.bool true])::M0
theorem g1:Good M1:=qcC g0 (by kernel_rfl)
def M2:qkx:=(70,[.str [116,101,115,116,32,97,32,49,48,32,52,48,49]],.tuple [.agg [.int .i64 (0),.str [116,101,115,116],.fslice 1 [.str [97]],.fslice 2 [.int .i64 (10),.int .i64 (401)],.str []],.bool true])::M1
theorem g2:Good M2:=qcC g1 (by kernel_rfl)
def M3:qkx:=(77,[.fslice 2 [.int .i64 (1),.str [109,97,107,101],.fslice 2 [.str [97],.str [98]],.fslice 3 [.int .i64 (10),.int .i64 (100),.int .i64 (2)],.str [],.int .i64 (2),.str [116,101,115,116],.fslice 1 [.str [97]],.fslice 2 [.int .i64 (10),.int .i64 (401)],.str []],.str [97],.int .i64 (0)],.tuple [.fptr [.fslice 2 [.int .i64 (1),.str [109,97,107,101],.fslice 2 [.str [97],.str [98]],.fslice 3 [.int .i64 (10),.int .i64 (100),.int .i64 (2)],.str [],.int .i64 (2),.str [116,101,115,116],.fslice 1 [.str [97]],.fslice 2 [.int .i64 (10),.int .i64 (401)],.str []],.fslice 2 [.int .i64 (1),.int .i64 (10),.fslice 1 [.str [97],.str [98],.int .i64 (10),.int .i64 (110),.int .i64 (2),.int .i64 (0),.int .i64 (0),.int .i64 (0),.bool false],.int .i64 (2),.int .i64 (10),.fslice 1 [.str [97],.str [98],.int .i64 (10),.int .i64 (110),.int .i64 (2),.int .i64 (0),.int .i64 (200),.int .i64 (110),.bool false]]] 0,.agg [.str [97],.str [98],.int .i64 (10),.int .i64 (110),.int .i64 (2),.int .i64 (0),.int .i64 (200),.int .i64 (110),.bool false],.int .i64 (0)])::M2
theorem g3:Good M3:=qcC g2 (by kernel_rfl)
def M4:qkx:=(85,[.str [50,48,48]],.int .i64 (0))::M3
theorem g4:Good M4:=qcC g3 (by kernel_rfl)
def M5:qkx:=(133,[.agg [.int .i64 (1),.int .i64 (1),.int .i64 (0)],.agg [.int .i64 (200),.nilslice,.int .i64 (1),.nilslice]],.agg [.int .i64 (40000),.nilslice,.int .i64 (1),.nilslice])::M4
theorem g5:Good M5:=qcC g4 (by kernel_rfl)
def M6:qkx:=(87,[.agg [.int .i64 (1),.int .i64 (1),.int .i64 (0)],.agg [.int .i64 (200),.nilslice,.int .i64 (1),.nilslice],.agg [.int .i64 (200),.nilslice,.int .i64 (1),.nilslice]],.bool true)::M5
theorem g6:Good M6:=qcC g5 (by kernel_rfl)
def M7:qkx:=(30,[.agg [.int .i64 (1),.int .i64 (1),.int .i64 (0)],.str [50,48,48],.str [50,48,48]],.int .i64 (0))::M6
theorem g7:Good M7:=qcC g6 (by kernel_rfl)
def M8:qkx:=(85,[.str [50,48,49]],.int .i64 (0))::M7
theorem g8:Good M8:=qcC g7 (by kernel_rfl)
def M9:qkx:=(133,[.agg [.int .i64 (1),.int .i64 (1),.int .i64 (0)],.agg [.int .i64 (201),.nilslice,.int .i64 (1),.nilslice]],.agg [.int .i64 (40401),.nilslice,.int .i64 (1),.nilslice])::M8
theorem g9:Good M9:=qcC g8 (by kernel_rfl)
def M10:qkx:=(87,[.agg [.int .i64 (1),.int .i64 (1),.int .i64 (0)],.agg [.int .i64 (201),.nilslice,.int .i64 (1),.nilslice],.agg [.int .i64 (200),.nilslice,.int .i64 (1),.nilslice]],.bool false)::M9
theorem g10:Good M10:=qcC g9 (by kernel_rfl)
def M11:qkx:=(30,[.agg [.int .i64 (1),.int .i64 (1),.int .i64 (0)],.str [50,48,49],.str [50,48,48]],.int .i64 (31))::M10
theorem g11:Good M11:=qcC g10 (by kernel_rfl)
theorem qtJ:okM (qwd M11 (.fn 6) [] []) (.bool true)=true:=by kernel_rfl
theorem qxH:qj Tryz.prog (.fn 6) [] [] (.bool true) []:=qrq g11 _ _ _ _ _ (qu2 qtJ)
end Go.Av
