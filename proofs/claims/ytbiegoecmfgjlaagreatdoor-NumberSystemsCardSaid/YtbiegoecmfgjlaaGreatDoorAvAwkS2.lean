/-
  The examples that every statement of the chapter checks: they hold. By running the evaluator in the kernel, call by call.
-/
import Derived.Test.YtbiegoecmfgjlaaGreatDoorAvD
set_option linter.all false
noncomputable section
namespace Go.Av
open Go.Proofs
set_option maxRecDepth 100000
def fol01:Tryz.prog.follows .mixedOrders=true:=by kernel_rfl
def pl01 (f:FuncId):Bool:=Nat.beq (Nat.land (Nat.shiftRight 1767008824459165594037253473727312195572099795689780932322026334554426368 f) 1) 0
def okM (r:Option (AV×Heap)) (v:AV):Bool:=match r with
 |some (w,[])=>qcw 30 w v
 |_=>false
def qrC {r:Option (AV×Heap)}{v:AV}(h:okM r v=true):r=some (v,[]):=by
 unfold okM at h;split at h
 ·rw[qjr 30 _ _ h]
 cases h
abbrev qpv:=List (FuncId×List AV×AV)
def qnT (M:qpv):zB:=qp5 Tryz.prog 3000 mtT insC (orElse (memo M) qtx) pl01 40
def Good (M:qpv):Prop:= ∀e∈M,qc Tryz.prog (.fn e.1) e.2.1 [] e.2.2 []
def qmI {M:qpv}(h:Good M):ky Tryz.prog (qnT M):=qrL fol01 qjj qsm (qo3 (qsH h) qpQ) _
def qry:Good []:=by intro e h;cases h
def qph {M:qpv}{f:FuncId}{args:List AV}{v:AV}(h:Good M) (hr:okM (qnT M (.fn f) args []) v=true):Good ((f,args,v)::M):=by
 intro e he;rcases bT.1 he with rfl|he
 ·exact qmI h _ _ _ _ _ (qrC hr)
 exact h e he
abbrev iA (n:Int):AV:= .int .i64 n
abbrev nA (n:Int):AV:= .agg [iA n,.nilslice]
abbrev fA (n d:Int):AV:= .agg [iA n,.nilslice,iA d,.nilslice]
abbrev sA (a b:AV):AV:= .agg [a,b]
abbrev tA (a:AV):AV:= .tuple [a,iA 0]
def mo {M:qpv}(h:Good M) (f:FuncId) (args:List AV) (v:AV) (hr:okM (qnT M (.fn f) args []) v=true:=by kernel_rfl):Good ((f,args,v)::M):=qph h hr
def qum {M:qpv}(h:Good M) (hr:okM (qnT M (.fn 4) [] []) (.bool true)=true:=by kernel_rfl):qc Tryz.prog (.fn 4) [] [] (.bool true) []:=qmI h _ _ _ _ _ (qrC hr)
def g0:Good []:=qry
def g1:=mo g0 20 [iA 15,(iA (-6))] (tA (.str [45,53,47,50]))
def g2:=mo g1 68 [.str [45,53,47,50]] (iA 0)
def g3:=mo g2 80 [.str [45,53]] (nA (-5))
def g4:=mo g3 43 [.str [45,53,47,50]] (fA (-5) 2)
def g5:=mo g4 68 [.str [45,49]] (iA 0)
def g6:=mo g5 68 [.str [50]] (iA 0)
def g7:=mo g6 80 [.str [45,49]] (nA (-1))
def g8:=mo g7 43 [.str [50]] (fA 2 1)
def g9:=mo g8 68 [.str [45,51]] (iA 0)
def g10:=mo g9 68 [.str [52]] (iA 0)
def g11:=mo g10 80 [.str [45,51]] (nA (-3))
def g12:=mo g11 43 [.str [52]] (fA 4 1)
def g13:=mo g12 77 [(fA (-6) 1),fA 8 1] (tA (sA (.str [45,54]) (.str [56])))
def g14:=mo g13 73 [(sA (.str [45,49]) (.str [50])),(sA (.str [45,51]) (.str [52])),.func (.func 54) [] []] (tA (sA (.str [45,54]) (.str [56])))
def g15:=mo g14 71 [(sA (.str [45,49]) (.str [50])),(sA (.str [45,51]) (.str [52])),.func (.func 54) [] []] (tA (sA (.str [45,54]) (.str [56])))
def g16:=mo g15 68 [.str [49]] (iA 0)
def g17:=mo g16 43 [.str [49]] (fA 1 1)
def g18:=mo g17 68 [.str [56]] (iA 0)
def g19:=mo g18 43 [.str [56]] (fA 8 1)
def g20:=mo g19 54 [fA 1 1,fA 1 4] (fA 1 4)
def g21:=mo g20 54 [fA 1 1,fA 1 8] (fA 1 8)
def g22:=mo g21 54 [fA 2 1,fA 1 4] (fA 1 2)
def g23:=mo g22 54 [fA 2 1,fA 1 8] (fA 1 4)
def g24:=mo g23 77 [fA 1 8,fA 1 2] (tA (sA (.str [49,47,56]) (.str [49,47,50])))
def g25:=mo g24 73 [(sA (.str [49]) (.str [50])),(sA (.str [52]) (.str [56])),.func (.func 74) [] []] (tA (sA (.str [49,47,56]) (.str [49,47,50])))
def g26:=mo g25 24 [(sA (.str [49]) (.str [50])),(sA (.str [52]) (.str [56]))] (tA (sA (.str [49,47,56]) (.str [49,47,50])))
def g27:=mo g26 68 [.str [51]] (iA 0)
def g28:=mo g27 43 [.str [51]] (fA 3 1)
def g29:=mo g28 25 [(sA (.str [49]) (.str [50])),(sA (.str [51]) (.str [52]))] (tA (iA (-1)))
def g30:=mo g29 25 [(sA (.str [49]) (.str [50])),(sA (.str [50]) (.str [51]))] (.tuple [(iA 0),(iA 24)])
def g31:=mo g30 78 [nA 2] (nA 1)
def g32:=mo g31 78 [nA 1] (nA 1)
def g33:=mo g32 132 [nA 2,iA 11] (nA 2048)
def g34:=mo g33 78 [nA 2000000] (nA 1414)
def g35:=mo g34 123 [nA 1414,nA 1000] (nA 2)
def g36:=mo g35 123 [nA 1415,nA 1000] (nA 5)
def g37:=mo g36 77 [fA 707 500,fA 283 200] (tA (sA (.str [55,48,55,47,53,48,48]) (.str [50,56,51,47,50,48,48])))
def g38:=mo g37 26 [.str [50]] (tA (sA (.str [55,48,55,47,53,48,48]) (.str [50,56,51,47,50,48,48])))
def g39:=mo g38 80 [.str [51,49,52]] (nA 314)
def g40:=mo g39 80 [.str [49,48,48]] (nA 100)
def g41:=mo g40 66 [nA 314,nA 100] (fA 157 50)
def g42:=mo g41 66 [nA 315,nA 100] (fA 63 20)
def g43:=mo g42 77 [fA 157 50,fA 63 20] (tA (sA (.str [49,53,55,47,53,48]) (.str [54,51,47,50,48])))
def g44:=mo g43 54 [fA 1 1,fA 1 3] (fA 1 3)
def g45:=mo g44 54 [fA 3 1,fA 1 2] (fA 3 2)
def g46:=mo g45 30 [.fslice 5 [iA 1,iA 2,iA 0,iA 4,iA 3]] (tA (.str [54]))
def g47:=mo g46 31 [.fslice 5 [iA 1,iA 2,iA 0,iA 4,iA 3],iA 5] (tA (.fslice 5 [(iA 2),(iA 0),(iA 1),(iA 4),(iA 3)]))
def g48:=mo g47 32 [.fslice 5 [iA 1,iA 2,iA 0,iA 4,iA 3],.fslice 5 [iA 1,iA 2,iA 0,iA 4,iA 3]] (tA (.fslice 5 [(iA 2),(iA 0),(iA 1),(iA 3),(iA 4)]))
def g49:=mo g48 68 [.str [48]] (iA 0)
def g50:=mo g49 68 [.str [49,48]] (iA 0)
def g51:=mo g50 68 [.str [53]] (iA 0)
def g52:=mo g51 68 [.str [50,48]] (iA 0)
def g53:=mo g52 43 [.str [53]] (fA 5 1)
def g54:=mo g53 43 [.str [48]] (fA 0 1)
def g55:=mo g54 84 [.fslice 2 [.str [48],.str [49,48],.str [53],.str [50,48]]] (iA 0)
def g56:=mo g55 68 [.str [57,47,50]] (iA 0)
def g57:=mo g56 43 [.str [57,47,50]] (fA 9 2)
def g58:=mo g57 33 [.fslice 2 [.str [48],.str [49,48],.str [53],.str [50,48]],.str [57,47,50]] (tA (.str [49,48]))
def g59:=mo g58 80 [.str [49,50]] (nA 12)
def g60:=mo g59 68 [.str [53,47,49,50]] (iA 0)
def g61:=mo g60 43 [.str [53,47,49,50]] (fA 5 12)
def g62:=mo g61 86 [.agg [iA 1,.nilslice,iA 1,.nilslice,iA 0,.nilslice,iA 1,.nilslice],fA 0 1,.agg [iA 0,.nilslice,iA 1,.nilslice,iA 1,.nilslice,iA 1,.nilslice]] (.agg [(iA 0),.nilslice,(iA 1),.nilslice,(iA 1),.nilslice,(iA 1),.nilslice])
def g63:=mo g62 66 [nA 5,nA 12] (fA 5 12)
def g64:=mo g63 53 [fA 5 12,fA 0 1] (fA 5 12)
def g65:=mo g64 66 [nA 12,nA 5] (fA 12 5)
def g66:=mo g65 86 [.agg [iA 0,.nilslice,iA 1,.nilslice,iA 1,.nilslice,iA 1,.nilslice],fA 2 1,.agg [iA 1,.nilslice,iA 1,.nilslice,iA 0,.nilslice,iA 1,.nilslice]] (.agg [(iA 1),.nilslice,(iA 1),.nilslice,(iA 2),.nilslice,(iA 1),.nilslice])
def g67:=mo g66 66 [nA 2,nA 5] (fA 2 5)
def g68:=mo g67 53 [fA 12 5,(fA (-2) 1)] (fA 2 5)
def g69:=mo g68 86 [.agg [iA 1,.nilslice,iA 1,.nilslice,iA 2,.nilslice,iA 1,.nilslice],fA 2 1,.agg [iA 0,.nilslice,iA 1,.nilslice,iA 1,.nilslice,iA 1,.nilslice]] (.agg [(iA 2),.nilslice,(iA 1),.nilslice,(iA 5),.nilslice,(iA 1),.nilslice])
def g70:=mo g69 54 [fA 2 1,fA 1 2] (fA 1 1)
def g71:=mo g70 86 [.agg [iA 1,.nilslice,iA 1,.nilslice,iA 2,.nilslice,iA 1,.nilslice],fA 1 1,.agg [iA 0,.nilslice,iA 1,.nilslice,iA 1,.nilslice,iA 1,.nilslice]] (.agg [(iA 1),.nilslice,(iA 1),.nilslice,(iA 3),.nilslice,(iA 1),.nilslice])
def g72:=mo g71 54 [fA 1 1,fA 1 2] (fA 1 2)
def g73:=mo g72 53 [fA 1 2,(fA (-5) 12)] (fA 1 12)
def g74:=mo g73 53 [fA 1 3,(fA (-5) 12)] (fA (-1) 12)
def g75:=mo g74 53 [fA 5 12,(fA (-1) 3)] (fA 1 12)
def g76:=mo g75 34 [.str [53,47,49,50],iA 3] (tA (.str [49,47,50]))
def g77:=mo g76 35 [iA 50,.fslice 3 [iA 1,iA 2,iA 4]] (tA (.fslice 3 [(iA 7),(iA 14),(iA 29)]))
def g78:=mo g77 68 [.str [45,50]] (iA 0)
def g79:=mo g78 68 [.str [57]] (iA 0)
def g80:=mo g79 68 [.str [45,52]] (iA 0)
def g81:=mo g80 43 [.str [57]] (fA 9 1)
def g82:=mo g81 80 [.str [45,50]] (nA (-2))
def g83:=mo g82 80 [.str [45,52]] (nA (-4))
def g84:=mo g83 54 [fA 3 1,fA 1 3] (fA 1 1)
def g85:=mo g84 54 [fA 9 1,fA 1 3] (fA 3 1)
def g86:=mo g85 53 [(fA (-2) 1),(fA (-1) 3)] (fA (-7) 3)
def g87:=mo g86 66 [nA 3,(nA (-7))] (fA (-3) 7)
def g88:=mo g87 54 [fA 0 1,(fA (-3) 7)] (fA 0 1)
def g89:=mo g88 54 [(fA (-7) 3),(fA (-3) 7)] (fA 1 1)
def g90:=mo g89 54 [(fA (-7) 1),(fA (-3) 7)] (fA 3 1)
def g91:=mo g90 54 [fA 1 3,fA 0 1] (fA 0 1)
def g92:=mo g91 54 [fA 1 3,fA 1 1] (fA 1 3)
def g93:=mo g92 53 [fA 1 3,(fA (-1) 3)] (fA 0 1)
def g94:=mo g93 54 [fA 1 3,fA 3 1] (fA 1 1)
def g95:=mo g94 46 [.fslice 2 [iA 2,.nilslice,iA 1,.nilslice,iA 3,.nilslice,iA 1,.nilslice]] (tA (.fslice 2 [.str [50],.str [51]]))
def g96:=mo g95 46 [.fslice 2 [(iA (-2)),.nilslice,iA 1,.nilslice,iA 1,.nilslice,iA 1,.nilslice]] (tA (.fslice 2 [.str [45,50],.str [49]]))
def g97:=mo g96 12 [.fslice 2 [.fslice 2 [.str [49],.str [49]],.fslice 2 [.str [50],.str [50]]],.fslice 2 [.str [49],.str [51]],.fslice 2 [.str [45,50],.str [49]]] (iA 0)
def g98:=mo g97 12 [.fslice 2 [.fslice 2 [.str [49],.str [49]],.fslice 2 [.str [50],.str [50]]],.fslice 2 [.str [49],.str [51]],.fslice 2 [.str [50],.str [45,49]]] (iA 0)
def qsS:qc Tryz.prog (.fn 4) [] [] (.bool true) []:=qum g98
end Go.Av
