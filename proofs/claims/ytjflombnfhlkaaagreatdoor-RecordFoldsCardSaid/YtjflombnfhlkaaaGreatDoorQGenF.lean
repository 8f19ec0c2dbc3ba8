/-
  The walk of the law.
-/
import Derived.Test.YtjflombnfhlkaaaGreatDoorQGenF5
import Derived.Test.YtjflombnfhlkaaaGreatDoorAvAwk10
noncomputable section
namespace Go.Av
open Go.Proofs Go.RowKit
set_option linter.unusedSectionVars false
set_option linter.unusedVariables false
set_option linter.unusedSimpArgs false
set_option maxRecDepth 100000
def awk:Option Bool:=some true
theorem qlk {res:Bool} (h:awk=some res):qw Tryz.prog (.fn 15) [] [] (.bool res) []:=by
 obtain rfl:=si h
 exact qmQ
def y8 (N:Nat) (l:List qm) (v:List qB):Option Bool:=
 (qan N l).bind fun r1=>
 (qaj N v).bind fun r2=>
 ((vB N r1 16).bind fun r3=>
 if(!r3)=true then
 some true
 else
 (yj N r2).bind fun r5=>
 some (!r5):Option Bool).bind fun b6=>
 if b6=true then
 (awk).bind fun r9=>
 some r9
 else
 (xn N l v).bind fun r10=>
 (qdc N l).bind fun r11=>
 (yh N r1).bind fun r12=>
 (vQ N r2).bind fun r13=>
 (qaX N ([r12,r13]:List Int)).bind fun r14=>
 ((if r14=0 then
 (yQ N r1 r2).bind fun r18=>
 some r18
 else
 some []:Option (List qm))).bind fun lacking_15=>
 ((if r12=0 then
 (qaO N r1).bind fun r23=>
 some (r23.1,r23.2)
 else
 some ([],[]):Option ((List ql)×(List qB)))).bind fun(fold_19,lost_20)=>
 (if r10.2=r14 then
 (qan N r10.1).bind fun r25=>
 (yO N r25 lacking_15).bind fun r26=>
 if r26=true then
 if r11.2.2=r12 then
 (yf N r11.1 fold_19).bind fun r29=>
 if r29=true then
 (qaj N r11.2.1).bind fun r31=>
 (yK N r31 lost_20).bind fun r32=>
 if r32=true then
 (awk).bind fun r34=>
 some r34
 else
 some false
 else
 some false
 else
 some false
 else
 some false
 else
 some false:Option Bool).bind fun b35=>
 some b35
theorem qcX (N:Nat) (l:List qm) (v:List qB) {res:Bool} (h:y8 N l v=some res):qw Tryz.prog (.fn 10) [vl qa l,vl qd v] [] (.bool res) []:=by
 unfold y8 at h
 refine Goes.fnW Tryz.func10 rfl rfl (m:=89) rfl (rs:=[.tmp 4]) rfl (l:=[(0,vl qa l),(1,vl qd v)]) rfl ?_
 refine sq (Goes.rg fol [(0,vl qa l),(1,vl qd v)] [] ?_)
 refine sq ?_
 obtain⟨r1,e_r1,h⟩:=bnd h
 obtain⟨r2,e_r2,h⟩:=bnd h
 refine Goes.rq fol [1,3] [(0,vl qa l),(1,vl qd v),(5,vl qa r1),(6,vl qd r2)] [] (ac (cv (yg N l e_r1)) (ac (cv (qbr N v e_r2)) az)) ?_
 refine sq ?_
 refine sq ?_
 obtain⟨b6,g_v7,h⟩:=bnd h
 refine Goes.cut (s':=(ofG 89 [(0,vl qa l),(1,vl qd v),(5,vl qa r1),(6,vl qd r2),(28,.bool b6)],[])) ?_ ?_
 ·obtain⟨r3,e_r3,g_v7⟩:=bnd g_v7
  rcases Bool.eq_false_or_eq_true (!r3)with c4|c4
  ·rw[if_pos (c4)]at g_v7
   obtain rfl:=si g_v7
   exact qp.rq fol [1,3] [(0,vl qa l),(1,vl qd v),(5,vl qa r1),(6,vl qd r2),(28,.bool true)] [] (ac (cv (qbc N r1 16 e_r3)) (ac (gw c4) az))
  ·rw[if_neg (nb c4)]at g_v7
   obtain⟨r5,e_r5,g_v7⟩:=bnd g_v7
   obtain rfl:=si g_v7
   exact qp.rq fol [1,3,5] [(0,vl qa l),(1,vl qd v),(5,vl qa r1),(6,vl qd r2),(28,.bool (!r5))] [] (ac (cv (qbc N r1 16 e_r3)) (ac (gw c4) (ac (cv (qdT N r2 e_r5)) az)))
 refine Goes.ifB (b:=b6) (by kernel_rfl) (fun c8=>?_) (fun c8=>?_)
 ·rw[if_pos (c8)]at h
  refine sq ?_
  obtain⟨r9,e_r9,h⟩:=bnd h
  refine Goes.rq fol [0] [(4,.bool r9)] [] (ac (cv (qlk e_r9)) az) ?_
  refine Goes.ret ?_
  obtain rfl:=si h
  exact(Goes.retW (xs:=[.bool r9]) (by kernel_rfl) (FzW.still tB))
 ·rw[if_neg (nb c8)]at h
  refine Goes.skip ?_
  refine sq ?_
  obtain⟨r10,e_r10,h⟩:=bnd h
  refine Goes.rq fol [2] [(0,vl qa l),(5,vl qa r1),(6,vl qd r2),(7,vl qa r10.1),(8,.i r10.2)] [] (ac (cv (qeQ N l v e_r10)) az) ?_
  refine sq ?_
  obtain⟨r11,e_r11,h⟩:=bnd h
  refine Goes.rq fol [1] [(5,vl qa r1),(6,vl qd r2),(7,vl qa r10.1),(8,.i r10.2),(9,vl qc r11.1),(10,vl qd r11.2.1),(11,.i r11.2.2)] [] (ac (cv (qgC N l e_r11)) az) ?_
  refine sq ?_
  obtain⟨r12,e_r12,h⟩:=bnd h
  refine Goes.rq fol [1] [(5,vl qa r1),(6,vl qd r2),(7,vl qa r10.1),(8,.i r10.2),(9,vl qc r11.1),(10,vl qd r11.2.1),(11,.i r11.2.2),(12,.i r12)] [] (ac (cv (qdP N r1 e_r12)) az) ?_
  refine sq ?_
  obtain⟨r13,e_r13,h⟩:=bnd h
  obtain⟨r14,e_r14,h⟩:=bnd h
  refine Goes.rq fol [2,4] [(5,vl qa r1),(6,vl qd r2),(7,vl qa r10.1),(8,.i r10.2),(9,vl qc r11.1),(10,vl qd r11.2.1),(11,.i r11.2.2),(12,.i r12),(13,.i r14)] [.cells [.i r12,.i r13]] (ac (cv (qdk N r2 e_r13)) (ac (hs (.call 28 [.slice 0 0 2 2 1] [.cells [.i r12,.i r13]] [0] [vl encI ([r12,r13]:List Int)] (.i r14)) (xw (FzL.cons (Fz.lit rfl rfl (FzL.still (AllST.cons tI (AllST.cons tI AllST.nil)))) FzL.nil) (qgz N ([r12,r13]:List Int) e_r14) tI rfl)) az)) ?_
  refine sq (Goes.rg fol [(5,vl qa r1),(6,vl qd r2),(7,vl qa r10.1),(8,.i r10.2),(9,vl qc r11.1),(10,vl qd r11.2.1),(11,.i r11.2.2),(12,.i r12),(13,.i r14),(14,.nilslice)] [.cells [.i r12,.i r13]] ?_)
  refine sq (Goes.rg fol [(5,vl qa r1),(6,vl qd r2),(7,vl qa r10.1),(8,.i r10.2),(9,vl qc r11.1),(10,vl qd r11.2.1),(11,.i r11.2.2),(12,.i r12),(13,.i r14),(14,.nilslice),(15,.nilslice)] [.cells [.i r12,.i r13]] ?_)
  refine sq (Goes.rg fol [(5,vl qa r1),(6,vl qd r2),(7,vl qa r10.1),(8,.i r10.2),(9,vl qc r11.1),(10,vl qd r11.2.1),(11,.i r11.2.2),(12,.i r12),(13,.i r14),(14,.nilslice),(15,.nilslice),(16,.nilslice)] [.cells [.i r12,.i r13]] ?_)
  refine sq ?_
  refine sq (Goes.rg fol [(5,vl qa r1),(6,vl qd r2),(7,vl qa r10.1),(8,.i r10.2),(9,vl qc r11.1),(10,vl qd r11.2.1),(11,.i r11.2.2),(12,.i r12),(13,.i r14),(14,.nilslice),(15,.nilslice),(16,.nilslice),(50,.bool (decide (r14=0)))] [.cells [.i r12,.i r13]] ?_)
  obtain⟨r16,g16,h⟩:=bnd h
  refine Goes.imp (Q:=fun x s'=>(x= .normal∧ ∃lacking_15,lacking_15=r16∧Sub s' (ofG 89 [(5,vl qa r1),(7,vl qa r10.1),(8,.i r10.2),(9,vl qc r11.1),(10,vl qd r11.2.1),(11,.i r11.2.2),(12,.i r12),(13,.i r14),(14,vl qa lacking_15),(15,.nilslice),(16,.nilslice)],[]))) ?_ ?_
  ·refine Goes.ifB (b:=decide (r14=0)) (by kernel_rfl) (fun c17=>?_) (fun c17=>?_)
   ·rw[if_pos (ot c17)]at g16
    obtain⟨r18,e_r18,g16⟩:=bnd g16
    refine Goes.rq fol [2] [(5,vl qa r1),(7,vl qa r10.1),(8,.i r10.2),(9,vl qc r11.1),(10,vl qd r11.2.1),(11,.i r11.2.2),(12,.i r12),(13,.i r14),(14,vl qa r18),(15,.nilslice),(16,.nilslice)] [.cells [.i r12,.i r13]] (ac (cv (qe7 N r1 r2 e_r18)) az) ?_
    obtain rfl:=si g16
    exact⟨rfl,_,rfl,(Sub.norm [] [] rfl rfl (.keep (.same (qh qa _)) (.keep (.same (qh qa _)) (.keep (.same nI) (.keep (.same (qh qc _)) (.keep (.same (qh qd _)) (.keep (.same nI) (.keep (.same nI) (.keep (.same nI) (.keep (.same (qh qa _)) (.keep (.same (qx.nilslice)) (.keep (.same (qx.nilslice)) .nil))))))))))) .nil)⟩
   ·rw[if_neg (of_ c17)]at g16
    refine Goes.skip ?_
    obtain rfl:=si g16
    exact⟨rfl,_,rfl,(Sub.norm [] [] rfl rfl (.keep (.same (qh qa _)) (.drop (.keep (.same (qh qa _)) (.keep (.same nI) (.keep (.same (qh qc _)) (.keep (.same (qh qd _)) (.keep (.same nI) (.keep (.same nI) (.keep (.same nI) (.keep .nilv (.keep (.same (qx.nilslice)) (.keep (.same (qx.nilslice)) .nil)))))))))))) .nil)⟩
  rintro x s' ⟨rfl,lacking_15,rfl,hsub⟩
  refine Goes.sub hsub ?_
  refine sq ?_
  refine sq (Goes.rg fol [(5,vl qa r1),(7,vl qa r10.1),(8,.i r10.2),(9,vl qc r11.1),(10,vl qd r11.2.1),(11,.i r11.2.2),(12,.i r12),(13,.i r14),(14,vl qa lacking_15),(15,.nilslice),(16,.nilslice),(55,.bool (decide (r12=0)))] [] ?_)
  obtain⟨r21,g21,h⟩:=bnd h
  refine Goes.imp (Q:=fun x s'=>(x= .normal∧ ∃fold_19 lost_20,(fold_19,lost_20)=r21∧Sub s' (ofG 89 [(7,vl qa r10.1),(8,.i r10.2),(9,vl qc r11.1),(10,vl qd r11.2.1),(11,.i r11.2.2),(12,.i r12),(13,.i r14),(14,vl qa lacking_15),(15,vl qc fold_19),(16,vl qd lost_20)],[]))) ?_ ?_
  ·refine Goes.ifB (b:=decide (r12=0)) (by kernel_rfl) (fun c22=>?_) (fun c22=>?_)
   ·rw[if_pos (ot c22)]at g21
    obtain⟨r23,e_r23,g21⟩:=bnd g21
    refine Goes.rq fol [1] [(7,vl qa r10.1),(8,.i r10.2),(9,vl qc r11.1),(10,vl qd r11.2.1),(11,.i r11.2.2),(12,.i r12),(13,.i r14),(14,vl qa lacking_15),(15,vl qc r23.1),(16,vl qd r23.2)] [] (ac (cv (qg7 N r1 e_r23)) az) ?_
    obtain rfl:=si g21
    exact⟨rfl,_,_,rfl,(Sub.refl _)⟩
   ·rw[if_neg (of_ c22)]at g21
    refine Goes.skip ?_
    obtain rfl:=si g21
    exact⟨rfl,_,_,rfl,(Sub.norm [] [] rfl rfl (.drop (.keep (.same (qh qa _)) (.keep (.same nI) (.keep (.same (qh qc _)) (.keep (.same (qh qd _)) (.keep (.same nI) (.keep (.same nI) (.keep (.same nI) (.keep (.same (qh qa _)) (.keep .nilv (.keep .nilv .nil))))))))))) .nil)⟩
  rintro x s' ⟨rfl,fold_19,lost_20,rfl,hsub⟩
  try dsimp only at h
  refine Goes.sub hsub ?_
  refine sq ?_
  obtain⟨b35,g_v36,h⟩:=bnd h
  refine Goes.cut (s':=(ofG 89 [(4,.bool b35)],[])) ?_ ?_
  ·rcases Bool.eq_false_or_eq_true (decide (r10.2=r14))with c24|c24
   ·rw[if_pos (ot c24)]at g_v36
    obtain⟨r25,e_r25,g_v36⟩:=bnd g_v36
    obtain⟨r26,e_r26,g_v36⟩:=bnd g_v36
    rcases Bool.eq_false_or_eq_true (r26)with c27|c27
    ·rw[if_pos (c27)]at g_v36
     rcases Bool.eq_false_or_eq_true (decide (r11.2.2=r12))with c28|c28
     ·rw[if_pos (ot c28)]at g_v36
      obtain⟨r29,e_r29,g_v36⟩:=bnd g_v36
      rcases Bool.eq_false_or_eq_true (r29)with c30|c30
      ·rw[if_pos (c30)]at g_v36
       obtain⟨r31,e_r31,g_v36⟩:=bnd g_v36
       obtain⟨r32,e_r32,g_v36⟩:=bnd g_v36
       rcases Bool.eq_false_or_eq_true (r32)with c33|c33
       ·rw[if_pos (c33)]at g_v36
        obtain⟨r34,e_r34,g_v36⟩:=bnd g_v36
        obtain rfl:=si g_v36
        exact qp.rq fol [3,5,7,9,14,17,19,21,23,25,26] [(4,.bool r34)] [] (ac (gw c24) (ac (cv (yg N r10.1 e_r25)) (ac (cv (vC N r25 lacking_15 e_r26)) (ac (gw c27) (ac (gw c28) (ac (cv (xO N r11.1 fold_19 e_r29)) (ac (gw c30) (ac (cv (qbr N r11.2.1 e_r31)) (ac (cv (qbx N r31 lost_20 e_r32)) (ac (gw c33) (ac (cv (qlk e_r34)) az)))))))))))
       ·rw[if_neg (nb c33)]at g_v36
        obtain rfl:=si g_v36
        exact qp.rq fol [3,5,7,9,14,17,19,21,23,25] [(4,.bool false)] [] (ac (gw c24) (ac (cv (yg N r10.1 e_r25)) (ac (cv (vC N r25 lacking_15 e_r26)) (ac (gw c27) (ac (gw c28) (ac (cv (xO N r11.1 fold_19 e_r29)) (ac (gw c30) (ac (cv (qbr N r11.2.1 e_r31)) (ac (cv (qbx N r31 lost_20 e_r32)) (ac (gw c33) az))))))))))
      ·rw[if_neg (nb c30)]at g_v36
       obtain rfl:=si g_v36
       exact qp.rq fol [3,5,7,9,14,17,19] [(4,.bool false)] [] (ac (gw c24) (ac (cv (yg N r10.1 e_r25)) (ac (cv (vC N r25 lacking_15 e_r26)) (ac (gw c27) (ac (gw c28) (ac (cv (xO N r11.1 fold_19 e_r29)) (ac (gw c30) az)))))))
     ·rw[if_neg (of_ c28)]at g_v36
      obtain rfl:=si g_v36
      exact qp.rq fol [3,5,7,9,14] [(4,.bool false)] [] (ac (gw c24) (ac (cv (yg N r10.1 e_r25)) (ac (cv (vC N r25 lacking_15 e_r26)) (ac (gw c27) (ac (gw c28) az)))))
    ·rw[if_neg (nb c27)]at g_v36
     obtain rfl:=si g_v36
     exact qp.rq fol [3,5,7,9] [(4,.bool false)] [] (ac (gw c24) (ac (cv (yg N r10.1 e_r25)) (ac (cv (vC N r25 lacking_15 e_r26)) (ac (gw c27) az))))
   ·rw[if_neg (of_ c24)]at g_v36
    obtain rfl:=si g_v36
    exact qp.rq fol [3] [(4,.bool false)] [] (ac (gw c24) az)
  refine Goes.ret ?_
  obtain rfl:=si h
  exact(Goes.retW (xs:=[.bool b35]) (by kernel_rfl) (FzW.still tB))
end Go.Av
