/-
  The examples that every statement of the chapter checks: they hold. By running the evaluator in the kernel, call by call.
-/
import Derived.Test.YtjflombnfhlkaaaGreatDoorAvPrim
noncomputable section
namespace Go.Av
open Go.Proofs
set_option maxRecDepth 100000
theorem fol10:Tryz.prog.follows .mixedOrders=true:=by kernel_rfl
def pl10 (f:FuncId):Bool:=Nat.beq (Nat.land (Nat.shiftRight 89391597356041189548305700225304133519077959621477178928226777217481330743312384 f) 1) 0
def okM (r:Option (AV×Heap)) (v:AV):Bool:=match r with
 |some (w,[])=>qbf 30 w v
 |_=>false
theorem qm0 {r:Option (AV×Heap)} {v:AV} (h:okM r v=true):r=some (v,[]):=by
 unfold okM at h
 split at h
 ·rw[qhh 30 _ _ h]
 ·cases h
abbrev yU:=List (FuncId×List AV×AV)
def qmP (M:yU):zM:=qmb Tryz.prog 3000 (fun _ _=>none) qdS (orElse (memo M) qoR) pl10 40
def Good (M:yU):Prop:= ∀e∈M,qf Tryz.prog (.fn e.1) e.2.1 [] e.2.2 []
theorem qjp {M:yU} (h:Good M):zg Tryz.prog (qmP M):=qnj fol10 (fun _ _ _ h=>by cases h) qep (qlB (qoa h) qmR) _
theorem qm9:Good []:=by intro e h;cases h
theorem qL {M:yU} {f:FuncId} {args:List AV} {v:AV} (h:Good M) (hr:okM (qmP M (.fn f) args []) v=true):Good ((f,args,v)::M):=by
 intro e he
 rcases List.mem_cons.1 he with rfl|he
 ·exact qjp h _ _ _ _ _ (qm0 hr)
 ·exact h e he
def M0:yU:=[]
theorem g0:Good M0:=qm9
def M1:yU:=(76,[.str [109,97,107,101,32,97,32,98,32,49,48,32,49,48,48,32,50]],.tuple [.agg [.int .i64 (0),.str [109,97,107,101],.fslice 2 [.str [97],.str [98]],.fslice 3 [.int .i64 (10),.int .i64 (100),.int .i64 (2)],.str []],.bool true])::M0
theorem g1:Good M1:=qL g0 (by kernel_rfl)
def M2:yU:=(73,[.fslice 3 [.str [109,97,107,101,32,97,32,98,32,49,48,32,49,48,48,32,50],.str [116,101,115,116,32,97,32,49,48,32,52,48,49],.str [117,115,101,32,97,32,49,49,32,50,48,48]]],.fslice 3 [.int .i64 (1),.str [109,97,107,101],.fslice 2 [.str [97],.str [98]],.fslice 3 [.int .i64 (10),.int .i64 (100),.int .i64 (2)],.str [],.int .i64 (2),.str [116,101,115,116],.fslice 1 [.str [97]],.fslice 2 [.int .i64 (10),.int .i64 (401)],.str [],.int .i64 (3),.str [117,115,101],.fslice 1 [.str [97]],.fslice 2 [.int .i64 (11),.int .i64 (200)],.str []])::M1
theorem g2:Good M2:=qL g1 (by kernel_rfl)
def M3:yU:=(16,[.fslice 3 [.int .i64 (1),.str [109,97,107,101],.fslice 2 [.str [97],.str [98]],.fslice 3 [.int .i64 (10),.int .i64 (100),.int .i64 (2)],.str [],.int .i64 (2),.str [116,101,115,116],.fslice 1 [.str [97]],.fslice 2 [.int .i64 (10),.int .i64 (401)],.str [],.int .i64 (3),.str [117,115,101],.fslice 1 [.str [97]],.fslice 2 [.int .i64 (11),.int .i64 (200)],.str []]],.tuple [.agg [.int .i64 (11),.fslice 1 [.str [97],.str [98],.int .i64 (10),.int .i64 (110),.int .i64 (2),.int .i64 (1),.int .i64 (200),.int .i64 (110),.bool false]],.int .i64 (0),.int .i64 (0)])::M2
theorem g3:Good M3:=qL g2 (by kernel_rfl)
def M4:yU:=(76,[.str [109,97,107,101,32,97,32,98,32,49,32,57,57,57,57,32,53]],.tuple [.agg [.int .i64 (0),.str [109,97,107,101],.fslice 2 [.str [97],.str [98]],.fslice 3 [.int .i64 (1),.int .i64 (9999),.int .i64 (5)],.str []],.bool true])::M3
theorem g4:Good M4:=qL g3 (by kernel_rfl)
def M5:yU:=(73,[.fslice 2 [.str [109,97,107,101,32,97,32,98,32,49,32,57,57,57,57,32,53],.str [116,101,115,116,32,97,32,49,32,49,48]]],.fslice 2 [.int .i64 (1),.str [109,97,107,101],.fslice 2 [.str [97],.str [98]],.fslice 3 [.int .i64 (1),.int .i64 (9999),.int .i64 (5)],.str [],.int .i64 (2),.str [116,101,115,116],.fslice 1 [.str [97]],.fslice 2 [.int .i64 (1),.int .i64 (10)],.str []])::M4
theorem g5:Good M5:=qL g4 (by kernel_rfl)
def M6:yU:=(37,[.fslice 2 [.int .i64 (1),.str [109,97,107,101],.fslice 2 [.str [97],.str [98]],.fslice 3 [.int .i64 (1),.int .i64 (9999),.int .i64 (5)],.str [],.int .i64 (2),.str [116,101,115,116],.fslice 1 [.str [97]],.fslice 2 [.int .i64 (1),.int .i64 (10)],.str []],.int .i64 (367)],.tuple [.fslice 1 [.str [97]],.int .i64 (0)])::M5
theorem g6:Good M6:=qL g5 (by kernel_rfl)
def M7:yU:=(37,[.fslice 2 [.int .i64 (1),.str [109,97,107,101],.fslice 2 [.str [97],.str [98]],.fslice 3 [.int .i64 (1),.int .i64 (9999),.int .i64 (5)],.str [],.int .i64 (2),.str [116,101,115,116],.fslice 1 [.str [97]],.fslice 2 [.int .i64 (1),.int .i64 (10)],.str []],.int .i64 (366)],.tuple [.nilslice,.int .i64 (0)])::M6
theorem g7:Good M7:=qL g6 (by kernel_rfl)
def M8:yU:=(92,[.fslice 3 [.int .i64 (1),.str [109,97,107,101],.fslice 2 [.str [97],.str [98]],.fslice 3 [.int .i64 (10),.int .i64 (100),.int .i64 (2)],.str [],.int .i64 (2),.str [116,101,115,116],.fslice 1 [.str [97]],.fslice 2 [.int .i64 (10),.int .i64 (401)],.str [],.int .i64 (3),.str [117,115,101],.fslice 1 [.str [97]],.fslice 2 [.int .i64 (11),.int .i64 (200)],.str []],.str [97],.int .i64 (0)],.tuple [.fptr [.fslice 3 [.int .i64 (1),.str [109,97,107,101],.fslice 2 [.str [97],.str [98]],.fslice 3 [.int .i64 (10),.int .i64 (100),.int .i64 (2)],.str [],.int .i64 (2),.str [116,101,115,116],.fslice 1 [.str [97]],.fslice 2 [.int .i64 (10),.int .i64 (401)],.str [],.int .i64 (3),.str [117,115,101],.fslice 1 [.str [97]],.fslice 2 [.int .i64 (11),.int .i64 (200)],.str []],.fslice 3 [.int .i64 (1),.int .i64 (10),.fslice 1 [.str [97],.str [98],.int .i64 (10),.int .i64 (110),.int .i64 (2),.int .i64 (0),.int .i64 (0),.int .i64 (0),.bool false],.int .i64 (2),.int .i64 (10),.fslice 1 [.str [97],.str [98],.int .i64 (10),.int .i64 (110),.int .i64 (2),.int .i64 (0),.int .i64 (200),.int .i64 (110),.bool false],.int .i64 (3),.int .i64 (11),.fslice 1 [.str [97],.str [98],.int .i64 (10),.int .i64 (110),.int .i64 (2),.int .i64 (1),.int .i64 (200),.int .i64 (110),.bool false]]] 0,.agg [.str [97],.str [98],.int .i64 (10),.int .i64 (110),.int .i64 (2),.int .i64 (1),.int .i64 (200),.int .i64 (110),.bool false],.int .i64 (0)])::M7
theorem g8:Good M8:=qL g7 (by kernel_rfl)
def M9:yU:=(26,[.fslice 3 [.int .i64 (1),.str [109,97,107,101],.fslice 2 [.str [97],.str [98]],.fslice 3 [.int .i64 (10),.int .i64 (100),.int .i64 (2)],.str [],.int .i64 (2),.str [116,101,115,116],.fslice 1 [.str [97]],.fslice 2 [.int .i64 (10),.int .i64 (401)],.str [],.int .i64 (3),.str [117,115,101],.fslice 1 [.str [97]],.fslice 2 [.int .i64 (11),.int .i64 (200)],.str []],.str [97],.int .i64 (110)],.tuple [.int .i64 (200),.int .i64 (0)])::M8
theorem g9:Good M9:=qL g8 (by kernel_rfl)
def M10:yU:=(26,[.fslice 3 [.int .i64 (1),.str [109,97,107,101],.fslice 2 [.str [97],.str [98]],.fslice 3 [.int .i64 (10),.int .i64 (100),.int .i64 (2)],.str [],.int .i64 (2),.str [116,101,115,116],.fslice 1 [.str [97]],.fslice 2 [.int .i64 (10),.int .i64 (401)],.str [],.int .i64 (3),.str [117,115,101],.fslice 1 [.str [97]],.fslice 2 [.int .i64 (11),.int .i64 (200)],.str []],.str [97],.int .i64 (111)],.tuple [.int .i64 (0),.int .i64 (20)])::M9
theorem g10:Good M10:=qL g9 (by kernel_rfl)
def M11:yU:=(24,[.fslice 3 [.int .i64 (1),.str [109,97,107,101],.fslice 2 [.str [97],.str [98]],.fslice 3 [.int .i64 (10),.int .i64 (100),.int .i64 (2)],.str [],.int .i64 (2),.str [116,101,115,116],.fslice 1 [.str [97]],.fslice 2 [.int .i64 (10),.int .i64 (401)],.str [],.int .i64 (3),.str [117,115,101],.fslice 1 [.str [97]],.fslice 2 [.int .i64 (11),.int .i64 (200)],.str []],.str [97]],.tuple [.fslice 3 [.int .i64 (1),.int .i64 (2),.int .i64 (3)],.int .i64 (0)])::M10
theorem g11:Good M11:=qL g10 (by kernel_rfl)
def M12:yU:=(127,[.str [109,97,107,101,32,97,32,98,32,49,48,32,49,48,48,32,50]],.tuple [.agg [.int .i64 (0),.str [109,97,107,101],.fslice 2 [.str [97],.str [98]],.fslice 3 [.int .i64 (10),.int .i64 (100),.int .i64 (2)],.str []],.bool true])::M11
theorem g12:Good M12:=qL g11 (by kernel_rfl)
def M13:yU:=(132,[.agg [.str [120],.int .i64 (1),.int .i64 (1),.str [109,97,107,101,32,97,32,98,32,49,48,32,49,48,48,32,50]]],.int .i64 (0))::M12
theorem g13:Good M13:=qL g12 (by kernel_rfl)
def M14:yU:=(127,[.str [117,115,101,32,97,32,49,49,32,50,48,48]],.tuple [.agg [.int .i64 (0),.str [117,115,101],.fslice 1 [.str [97]],.fslice 2 [.int .i64 (11),.int .i64 (200)],.str []],.bool true])::M13
theorem g14:Good M14:=qL g13 (by kernel_rfl)
def M15:yU:=(132,[.agg [.str [120],.int .i64 (2),.int .i64 (3),.str [117,115,101,32,97,32,49,49,32,50,48,48]]],.int .i64 (0))::M14
theorem g15:Good M15:=qL g14 (by kernel_rfl)
def M16:yU:=(127,[.str [116,101,115,116,32,97,32,49,48,32,52,48,49]],.tuple [.agg [.int .i64 (0),.str [116,101,115,116],.fslice 1 [.str [97]],.fslice 2 [.int .i64 (10),.int .i64 (401)],.str []],.bool true])::M15
theorem g16:Good M16:=qL g15 (by kernel_rfl)
def M17:yU:=(132,[.agg [.str [121],.int .i64 (1),.int .i64 (2),.str [116,101,115,116,32,97,32,49,48,32,52,48,49]]],.int .i64 (0))::M16
theorem g17:Good M17:=qL g16 (by kernel_rfl)
def M18:yU:=(68,[.fslice 3 [.str [120],.int .i64 (1),.int .i64 (1),.str [109,97,107,101,32,97,32,98,32,49,48,32,49,48,48,32,50],.str [120],.int .i64 (2),.int .i64 (3),.str [117,115,101,32,97,32,49,49,32,50,48,48],.str [121],.int .i64 (1),.int .i64 (2),.str [116,101,115,116,32,97,32,49,48,32,52,48,49]]],.int .i64 (0))::M17
theorem g18:Good M18:=qL g17 (by kernel_rfl)
def M19:yU:=(59,[.fslice 3 [.str [120],.int .i64 (1),.int .i64 (1),.str [109,97,107,101,32,97,32,98,32,49,48,32,49,48,48,32,50],.str [120],.int .i64 (2),.int .i64 (3),.str [117,115,101,32,97,32,49,49,32,50,48,48],.str [121],.int .i64 (1),.int .i64 (2),.str [116,101,115,116,32,97,32,49,48,32,52,48,49]]],.tuple [.fslice 3 [.int .i64 (1),.str [109,97,107,101],.fslice 2 [.str [97],.str [98]],.fslice 3 [.int .i64 (10),.int .i64 (100),.int .i64 (2)],.str [],.int .i64 (2),.str [116,101,115,116],.fslice 1 [.str [97]],.fslice 2 [.int .i64 (10),.int .i64 (401)],.str [],.int .i64 (3),.str [117,115,101],.fslice 1 [.str [97]],.fslice 2 [.int .i64 (11),.int .i64 (200)],.str []],.nilslice,.int .i64 (0)])::M18
theorem g19:Good M19:=qL g18 (by kernel_rfl)
def M20:yU:=(68,[.fslice 2 [.str [120],.int .i64 (1),.int .i64 (1),.str [109,97,107,101,32,97,32,98,32,49,48,32,49,48,48,32,50],.str [120],.int .i64 (2),.int .i64 (3),.str [117,115,101,32,97,32,49,49,32,50,48,48]]],.int .i64 (0))::M19
theorem g20:Good M20:=qL g19 (by kernel_rfl)
def M21:yU:=(59,[.fslice 2 [.str [120],.int .i64 (1),.int .i64 (1),.str [109,97,107,101,32,97,32,98,32,49,48,32,49,48,48,32,50],.str [120],.int .i64 (2),.int .i64 (3),.str [117,115,101,32,97,32,49,49,32,50,48,48]]],.tuple [.fslice 1 [.int .i64 (1),.str [109,97,107,101],.fslice 2 [.str [97],.str [98]],.fslice 3 [.int .i64 (10),.int .i64 (100),.int .i64 (2)],.str []],.fslice 1 [.str [120],.int .i64 (2)],.int .i64 (0)])::M20
theorem g21:Good M21:=qL g20 (by kernel_rfl)
def M22:yU:=(68,[.fslice 2 [.str [120],.int .i64 (1),.int .i64 (1),.str [102,97,105,108,32,97,32,49],.str [120],.int .i64 (3),.int .i64 (2),.str [102,97,105,108,32,97,32,49]]],.int .i64 (0))::M21
theorem g22:Good M22:=qL g21 (by kernel_rfl)
def M23:yU:=(70,[.fslice 2 [.str [120],.int .i64 (1),.int .i64 (1),.str [102,97,105,108,32,97,32,49],.str [120],.int .i64 (3),.int .i64 (2),.str [102,97,105,108,32,97,32,49]]],.tuple [.fslice 1 [.str [120],.int .i64 (1)],.int .i64 (0)])::M22
theorem g23:Good M23:=qL g22 (by kernel_rfl)
def M24:yU:=(22,[.fslice 3 [.int .i64 (1),.str [109,97,107,101],.fslice 2 [.str [97],.str [98]],.fslice 3 [.int .i64 (10),.int .i64 (100),.int .i64 (2)],.str [],.int .i64 (2),.str [116,101,115,116],.fslice 1 [.str [97]],.fslice 2 [.int .i64 (10),.int .i64 (401)],.str [],.int .i64 (3),.str [117,115,101],.fslice 1 [.str [97]],.fslice 2 [.int .i64 (11),.int .i64 (200)],.str []],.agg [.int .i64 (4),.str [117,115,101],.fslice 1 [.str [97]],.fslice 2 [.int .i64 (11),.int .i64 (201)],.str []]],.int .i64 (31))::M23
theorem g24:Good M24:=qL g23 (by kernel_rfl)
def M25:yU:=(22,[.fslice 3 [.int .i64 (1),.str [109,97,107,101],.fslice 2 [.str [97],.str [98]],.fslice 3 [.int .i64 (10),.int .i64 (100),.int .i64 (2)],.str [],.int .i64 (2),.str [116,101,115,116],.fslice 1 [.str [97]],.fslice 2 [.int .i64 (10),.int .i64 (401)],.str [],.int .i64 (3),.str [117,115,101],.fslice 1 [.str [97]],.fslice 2 [.int .i64 (11),.int .i64 (200)],.str []],.agg [.int .i64 (4),.str [117,115,101],.fslice 1 [.str [97]],.fslice 2 [.int .i64 (111),.int .i64 (1)],.str []]],.int .i64 (20))::M24
theorem g25:Good M25:=qL g24 (by kernel_rfl)
def M26:yU:=(22,[.fslice 3 [.int .i64 (1),.str [109,97,107,101],.fslice 2 [.str [97],.str [98]],.fslice 3 [.int .i64 (10),.int .i64 (100),.int .i64 (2)],.str [],.int .i64 (2),.str [116,101,115,116],.fslice 1 [.str [97]],.fslice 2 [.int .i64 (10),.int .i64 (401)],.str [],.int .i64 (3),.str [117,115,101],.fslice 1 [.str [97]],.fslice 2 [.int .i64 (11),.int .i64 (200)],.str []],.agg [.int .i64 (4),.str [117,115,101],.fslice 1 [.str [97]],.fslice 2 [.int .i64 (9),.int .i64 (1)],.str []]],.int .i64 (19))::M25
theorem g26:Good M26:=qL g25 (by kernel_rfl)
def M27:yU:=(22,[.fslice 3 [.int .i64 (1),.str [109,97,107,101],.fslice 2 [.str [97],.str [98]],.fslice 3 [.int .i64 (10),.int .i64 (100),.int .i64 (2)],.str [],.int .i64 (2),.str [116,101,115,116],.fslice 1 [.str [97]],.fslice 2 [.int .i64 (10),.int .i64 (401)],.str [],.int .i64 (3),.str [117,115,101],.fslice 1 [.str [97]],.fslice 2 [.int .i64 (11),.int .i64 (200)],.str []],.agg [.int .i64 (4),.str [117,115,101],.fslice 1 [.str [97]],.fslice 2 [.int .i64 (11),.int .i64 (200)],.str []]],.int .i64 (0))::M26
theorem g27:Good M27:=qL g26 (by kernel_rfl)
def M28:yU:=(117,[.fslice 3 [.int .i64 (1),.str [109,97,107,101],.fslice 2 [.str [97],.str [98]],.fslice 3 [.int .i64 (10),.int .i64 (100),.int .i64 (2)],.str [],.int .i64 (2),.str [116,101,115,116],.fslice 1 [.str [97]],.fslice 2 [.int .i64 (10),.int .i64 (401)],.str [],.int .i64 (3),.str [117,115,101],.fslice 1 [.str [97]],.fslice 2 [.int .i64 (11),.int .i64 (200)],.str []],.func (.func 118) [] [],.func (.func 102) [] []],.fslice 3 [.str [49,32,109,97,107,101,32,97,32,98,32,49,48,32,49,48,48,32,50,59,56,51,53,56,56,54,56,10],.str [50,32,116,101,115,116,32,97,32,49,48,32,52,48,49,59,48,52,50,53,48,53,49,10],.str [51,32,117,115,101,32,97,32,49,49,32,50,48,48,59,52,52,52,52,49,56,52,10]])::M27
theorem g28:Good M28:=qL g27 (by kernel_rfl)
def M29:yU:=(156,[.str [49,32,109,97,107,101,32,97,32,98,32,49,48,32,49,48,48,32,50]],.tuple [.agg [.int .i64 (1),.str [109,97,107,101],.fslice 2 [.str [97],.str [98]],.fslice 3 [.int .i64 (10),.int .i64 (100),.int .i64 (2)],.str []],.bool true])::M28
theorem g29:Good M29:=qL g28 (by kernel_rfl)
def M30:yU:=(105,[.str [49,32,109,97,107,101,32,97,32,98,32,49,48,32,49,48,48,32,50,59,56,51,53,56,56,54,56],.int .i64 (1)],.tuple [.agg [.int .i64 (1),.str [109,97,107,101],.fslice 2 [.str [97],.str [98]],.fslice 3 [.int .i64 (10),.int .i64 (100),.int .i64 (2)],.str []],.int .i64 (0)])::M29
theorem g30:Good M30:=qL g29 (by kernel_rfl)
def M31:yU:=(156,[.str [50,32,116,101,115,116,32,97,32,49,48,32,52,48,49]],.tuple [.agg [.int .i64 (2),.str [116,101,115,116],.fslice 1 [.str [97]],.fslice 2 [.int .i64 (10),.int .i64 (401)],.str []],.bool true])::M30
theorem g31:Good M31:=qL g30 (by kernel_rfl)
def M32:yU:=(105,[.str [50,32,116,101,115,116,32,97,32,49,48,32,52,48,49,59,48,52,50,53,48,53,49],.int .i64 (2)],.tuple [.agg [.int .i64 (2),.str [116,101,115,116],.fslice 1 [.str [97]],.fslice 2 [.int .i64 (10),.int .i64 (401)],.str []],.int .i64 (0)])::M31
theorem g32:Good M32:=qL g31 (by kernel_rfl)
def M33:yU:=(156,[.str [51,32,117,115,101,32,97,32,49,49,32,50,48,48]],.tuple [.agg [.int .i64 (3),.str [117,115,101],.fslice 1 [.str [97]],.fslice 2 [.int .i64 (11),.int .i64 (200)],.str []],.bool true])::M32
theorem g33:Good M33:=qL g32 (by kernel_rfl)
def M34:yU:=(105,[.str [51,32,117,115,101,32,97,32,49,49,32,50,48,48,59,52,52,52,52,49,56,52],.int .i64 (3)],.tuple [.agg [.int .i64 (3),.str [117,115,101],.fslice 1 [.str [97]],.fslice 2 [.int .i64 (11),.int .i64 (200)],.str []],.int .i64 (0)])::M33
theorem g34:Good M34:=qL g33 (by kernel_rfl)
def M35:yU:=(43,[.str [49,32,109,97,107,101,32,97,32,98,32,49,48,32,49,48,48,32,50,59,56,51,53,56,56,54,56,10,50,32,116,101,115,116,32,97,32,49,48,32,52,48,49,59,48,52,50,53,48,53,49,10,51,32,117,115,101,32,97,32,49,49,32,50,48,48,59,52,52,52,52,49,56,52,10,52]],.tuple [.fslice 3 [.int .i64 (1),.str [109,97,107,101],.fslice 2 [.str [97],.str [98]],.fslice 3 [.int .i64 (10),.int .i64 (100),.int .i64 (2)],.str [],.int .i64 (2),.str [116,101,115,116],.fslice 1 [.str [97]],.fslice 2 [.int .i64 (10),.int .i64 (401)],.str [],.int .i64 (3),.str [117,115,101],.fslice 1 [.str [97]],.fslice 2 [.int .i64 (11),.int .i64 (200)],.str []],.int .i64 (75),.int .i64 (28)])::M34
theorem g35:Good M35:=qL g34 (by kernel_rfl)
theorem qlx:okM (qmP M35 (.fn 15) [] []) (.bool true)=true:=by kernel_rfl
theorem qot:qf Tryz.prog (.fn 15) [] [] (.bool true) []:=qjp g35 _ _ _ _ _ (qm0 qlx)
end Go.Av
