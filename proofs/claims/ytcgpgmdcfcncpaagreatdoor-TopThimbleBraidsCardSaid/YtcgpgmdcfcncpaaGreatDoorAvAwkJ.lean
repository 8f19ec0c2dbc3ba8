/-
  The examples that every statement of the chapter checks: they hold. By running the evaluator in the kernel, call by call.
-/
import Derived.Test.YtcgpgmdcfcncpaaGreatDoorAvMtJ
noncomputable section
namespace Go.Av
open Go.Proofs
set_option maxRecDepth 100000
theorem fol01:Tryz.prog.follows .mixedOrders=true:=by kernel_rfl
def pl01 (f:FuncId):Bool:=Nat.beq (Nat.land (Nat.shiftRight 3153682183113722341222163879041303962089043263488 f) 1) 0
def okM (r:Option (AV×Heap)) (v:AV):Bool:=match r with
 |some (w,[])=>qcf 30 w v
 |_=>false
theorem qoS {r:Option (AV×Heap)} {v:AV} (h:okM r v=true):r=some (v,[]):=by
 unfold okM at h
 split at h
 ·rw[qim 30 _ _ h]
 cases h
abbrev qje:=List (FuncId×List AV×AV)
def qpj (M:qje):zP:=qp1 Tryz.prog 3000 mtT insC (orElse (memo M) qrs) pl01 40
def Good (M:qje):Prop:= ∀e∈M,qb Tryz.prog (.fn e.1) e.2.1 [] e.2.2 []
theorem qlt {M:qje} (h:Good M):qZ Tryz.prog (qpj M):=qoT fol01 mt_ok qq8 (qn4 (qrd h) qp5) _
theorem qpN:Good []:=by intro e h;cases h
theorem qee {M:qje} {f:FuncId} {args:List AV} {v:AV} (h:Good M) (hr:okM (qpj M (.fn f) args []) v=true):Good ((f,args,v)::M):=by
 intro e he
 rcases List.mem_cons.1 he with rfl|he
 ·exact qlt h _ _ _ _ _ (qoS hr)
 exact h e he
def M0:qje:=[]
theorem g0:Good M0:=qpN
def M1:qje:=(176,[.agg [.bool false,.int .i64 (1),.int .i64 (1),.nilslice],.int .i64 (2),.int .i64 (0)],.tuple [.agg [.int .i64 (0),.int .i64 (0)],.bool false])::M0
theorem g1:Good M1:=qee g0 (by kernel_rfl)
def M2:qje:=(63,[.agg [.bool false,.int .i64 (1),.int .i64 (1),.nilslice],.fslice 2 [.int .i64 (0),.int .i64 (2)],.int .i64 (4)],.int .i64 (0))::M1
theorem g2:Good M2:=qee g1 (by kernel_rfl)
def M3:qje:=(22,[.agg [.bool false,.int .i64 (1),.int .i64 (1),.nilslice],.fslice 2 [.int .i64 (0),.int .i64 (2)],.int .i64 (4)],.tuple [.fslice 2 [.int .i64 (-1),.int .i64 (-1)],.int .i64 (0)])::M2
theorem g3:Good M3:=qee g2 (by kernel_rfl)
def M4:qje:=(17,[.int .i64 (2),.fslice 2 [.int .i64 (-1),.int .i64 (-1)],.int .i64 (1)],.tuple [.fslice 1 [.fslice 2 [.int .i64 (1),.int .i64 (0)]],.int .i64 (0)])::M3
theorem g4:Good M4:=qee g3 (by kernel_rfl)
def M5:qje:=(60,[.agg [.fslice 1 [.int .i64 (0)],.fslice 2 [.int .i64 (1),.int .i64 (0)]],.func (.func 61) [] [.fptr [.int .i64 (2)] 0]],.int .i64 (3))::M4
theorem g5:Good M5:=qee g4 (by kernel_rfl)
theorem qn8:okM (qpj M5 (.fn 6) [] []) (.bool true)=true:=by kernel_rfl
theorem qsn:qb Tryz.prog (.fn 6) [] [] (.bool true) []:=qlt g5 _ _ _ _ _ (qoS qn8)
end Go.Av
