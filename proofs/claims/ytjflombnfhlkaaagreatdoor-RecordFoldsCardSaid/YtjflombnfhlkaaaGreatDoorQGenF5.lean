/-
  Walks of functions: what each computes, as a plain function.
-/
import Derived.Test.YtjflombnfhlkaaaGreatDoorQGenF4
noncomputable section
namespace Go.Av
open Go.Proofs Go.RowKit
set_option linter.unusedSectionVars false
set_option linter.unusedVariables false
set_option linter.unusedSimpArgs false
set_option maxRecDepth 100000
def vg (l:List qm) (order_1:List qm) (i_2:Int):Nat→Int→Option Int
 |0,_=>none
 |K+1,at__6=>
  (if at__6<(order_1.length:Int)then
  (idx order_1 at__6).bind fun x10=>
  (idx l i_2).bind fun x11=>
  some (decide (x10.Clock≤x11.Clock))
  else
  some false:Option Bool).bind fun b12=>
  if b12=true then
  vg l order_1 i_2 K (w64 (at__6+1))
  else
  some at__6
def vv (N:Nat) (l:List qm):Nat→(List qm)→Int→Option (List qm)
 |0,_,_=>none
 |K+1,order_1,i_2=>
  if i_2<(l.length:Int)then
  (vg l order_1 i_2 N 0).bind fun at__7=>
  (cut order_1 0 at__7).bind fun s15=>
  (app 48 ([]:List qm) s15).bind fun l16=>
  (idx l i_2).bind fun x17=>
  (app 48 l16 [x17]).bind fun l18=>
  (cut order_1 at__7 (order_1.length:Int)).bind fun s19=>
  (app 48 l18 s19).bind fun l20=>
  vv N l K l20 (w64 (i_2+1))
  else
  some order_1
def vw (N:Nat) (order_3:List qm):Nat→(List qB)→(List ql)→Int→Option ((List qB)×(List ql))
 |0,_,_,_=>none
 |K+1,l21,events_22,i_23=>
  if i_23<(order_3.length:Int)then
  (((idx order_3 i_23).bind fun x31=>
  (xI N x31.Line).bind fun r32=>
  (xX N events_22 (⟨w64 ((events_22.length:Int)+1),r32.1.Kind,r32.1.Names,r32.1.Values,r32.1.Text⟩:ql)).bind fun r33=>
  if(!decide (r33=0))=true then
  (app 24 l21 [(⟨x31.Desk,x31.Number⟩:qB)]).bind fun l35=>
  some (l35,events_22)
  else
  (app 88 ([]:List ql) events_22).bind fun l36=>
  (app 88 l36 [(⟨w64 ((events_22.length:Int)+1),r32.1.Kind,r32.1.Names,r32.1.Values,r32.1.Text⟩:ql)]).bind fun l37=>
  some (l21,l37):Option ((List qB)×(List ql)))).bind fun(l28,events_29)=>
  vw N order_3 K l28 events_29 (w64 (i_23+1))
  else
  some (l21,events_22)
def qaO (N:Nat) (l:List qm):Option ((List ql)×(List qB)):=
 (vv N l N ([]:List qm) 0).bind fun order_3=>
 (vw N order_3 N ([]:List qB) ([]:List ql) 0).bind fun(l24,events_25)=>
 some (events_25,l24)
theorem qg7 (N:Nat) (l:List qm) {res:(List ql)×(List qB)} (h:qaO N l=some res):qw Tryz.prog (.fn 63) [vl qa l] [] (.tuple [vl qc res.1,vl qd res.2]) []:=by
 unfold qaO at h
 refine Goes.fnW Tryz.func63 rfl rfl (m:=97) rfl (rs:=[.tmp 2,.tmp 3]) rfl (l:=[(0,vl qa l)]) rfl ?_
 refine sq (Goes.rg fol [(0,vl qa l)] [] ?_)
 refine sq (Goes.rg fol [(0,vl qa l),(4,.nilslice)] [] ?_)
 refine sq ?_
 refine sq (Goes.rg fol [(0,vl qa l),(4,.nilslice),(5,.i 0)] [] ?_)
 refine Goes.block ?_
 obtain⟨r4,g4,h⟩:=bnd h
 refine Goes.imp (Q:=fun x s'=>(x= .exit 0∧ ∃order_3,order_3=r4∧Sub s' (ofG 97 [(4,vl qa order_3)],[]))) ?_ ?_
 ·refine Goes.sub (s':=(ofG 97 [(0,vl qa l),(4,vl qa ([]:List qm)),(5,.i 0)],[])) (Sub.norm [] [] rfl rfl (.keep (.same (qh qa _)) (.keep .nilv (.keep (.same nI) .nil))) .nil) ?_
  refine Goes.loopS (fun M s=> ∃(order_1:List qm) (i_2:Int),s=(ofG 97 [(0,vl qa l),(4,vl qa order_1),(5,.i i_2)],[])∧vv N l M order_1 i_2=some r4) ?_ (m:=N) ⟨_,_,rfl,g4⟩
  rintro M s ⟨order_1,i_2,rfl,g4⟩
  cases M with
  |zero=>simp only[vv]at g4;cases g4
  |succ M=>
   rw[vv]at g4
   refine sq ?_
   refine sq (Goes.rg fol [(0,vl qa l),(4,vl qa order_1),(5,.i i_2),(15,.bool (decide (i_2<(l.length:Int))))] [] ?_)
   refine Goes.ifB (b:=decide (i_2<(l.length:Int))) (by kernel_rfl) (fun c5=>?_) (fun c5=>?_)
   ·rw[if_pos (ot c5)]at g4
    refine Goes.skip ?_
    refine sq (Goes.block ?_)
    refine sq (Goes.rg fol [(0,vl qa l),(4,vl qa order_1),(5,.i i_2),(6,.i 0)] [] ?_)
    refine sq (Goes.block ?_)
    obtain⟨r8,g8,g4⟩:=bnd g4
    refine Goes.imp (Q:=fun x s'=>(x= .exit 2∧ ∃at__7,at__7=r8∧Sub s' (ofG 97 [(0,vl qa l),(4,vl qa order_1),(5,.i i_2),(6,.i at__7)],[]))) ?_ ?_
    ·refine Goes.loopS (fun M s=> ∃(at__6:Int),s=(ofG 97 [(0,vl qa l),(4,vl qa order_1),(5,.i i_2),(6,.i at__6)],[])∧vg l order_1 i_2 M at__6=some r8) ?_ (m:=N) ⟨_,rfl,g8⟩
     rintro M s ⟨at__6,rfl,g8⟩
     cases M with
     |zero=>simp only[vg]at g8;cases g8
     |succ M=>
      rw[vg]at g8
      refine sq ?_
      refine sq ?_
      obtain⟨b12,g_v13,g8⟩:=bnd g8
      refine Goes.cut (s':=(ofG 97 [(0,vl qa l),(4,vl qa order_1),(5,.i i_2),(6,.i at__6),(34,.bool b12)],[])) ?_ ?_
      ·rcases Bool.eq_false_or_eq_true (decide (at__6<(order_1.length:Int)))with c9|c9
       ·rw[if_pos (ot c9)]at g_v13
        obtain⟨x10,e_x10,g_v13⟩:=bnd g_v13
        obtain⟨x11,e_x11,g_v13⟩:=bnd g_v13
        obtain rfl:=si g_v13
        exact qp.rq fol [4,7,9,12,14] [(0,vl qa l),(4,vl qa order_1),(5,.i i_2),(6,.i at__6),(34,.bool (decide (x10.Clock≤x11.Clock)))] [] (ac (gw c9) (ac (iv qbv qa e_x10) (ac (lv 2 ce3 qa e_x10 rfl) (ac (iv qbv qa e_x11) (ac (lv 2 ce3 qa e_x11 rfl) az)))))
       ·rw[if_neg (of_ c9)]at g_v13
        obtain rfl:=si g_v13
        exact qp.rq fol [4] [(0,vl qa l),(4,vl qa order_1),(5,.i i_2),(6,.i at__6),(34,.bool false)] [] (ac (gw c9) az)
      refine Goes.ifB (b:=b12) (by kernel_rfl) (fun c14=>?_) (fun c14=>?_)
      ·rw[if_pos (c14)]at g8
       refine Goes.skip ?_
       refine Goes.block ?_
       refine Goes.rg fol [(0,vl qa l),(4,vl qa order_1),(5,.i i_2),(6,.i (w64 (at__6+1)))] [] ?_
       exact⟨M,(ofG 97 [(0,vl qa l),(4,vl qa order_1),(5,.i i_2),(6,.i (w64 (at__6+1)))],[]),Nat.lt_succ_self _,(Sub.refl _),_,rfl,g8⟩
      ·rw[if_neg (nb c14)]at g8
       refine Goes.exit ?_
       obtain rfl:=si g8
       exact⟨rfl,_,rfl,(Sub.keep [0,4,5,6] rfl rfl)⟩
    rintro x s' ⟨rfl,at__7,rfl,hsub⟩
    refine Goes.sub hsub ?_
    obtain⟨s15,e_s15,g4⟩:=bnd g4
    obtain⟨l16,e_l16,g4⟩:=bnd g4
    obtain⟨x17,e_x17,g4⟩:=bnd g4
    obtain⟨l18,e_l18,g4⟩:=bnd g4
    obtain⟨s19,e_s19,g4⟩:=bnd g4
    obtain⟨l20,e_l20,g4⟩:=bnd g4
    refine Goes.rq fol [3,4,7,8,10,13,14] [(0,vl qa l),(4,.oslice 4 l20.length 4),(5,.i i_2)] [.dead,.dead,.cells [.str x17.Desk,.i x17.Number,.i x17.Clock,.str x17.Line],.dead,.cells (l20.flatMap qa.c)] (ac (hs (.done (.opt (kU Tryz.prog 98 (vl qa order_1) none (some (.i at__7)) none)) (vl qa s15)) (qft qbv (E:=qa) rfl none (some at__7) e_s15)) (ac (hs (.run [0] (qQ Tryz.prog [98,98] (.slice 0 0 0 0 4) (vl qa s15)) [.cells []] (.oslice 1 l16.length 4) [.dead,.cells (l16.flatMap qa.c)] true) (kN qbv (E:=qa) rfl (qa7 (E:=qa) rfl _) (qb2 (E:=qa) rfl rfl rfl e_l16 rfl))) (ac (iv qbv qa e_x17) (ac (la qhg qa e_x17) (ac (hs (.run [1,2] (qQ Tryz.prog [98,98] (.oslice 1 l16.length 4) (.slice 2 0 1 1 4)) [.dead,.cells (l16.flatMap qa.c),.cells [.str x17.Desk,.i x17.Number,.i x17.Clock,.str x17.Line]] (.oslice 3 l18.length 4) [.dead,.dead,.cells [.str x17.Desk,.i x17.Number,.i x17.Clock,.str x17.Line],.cells (l18.flatMap qa.c)] true) (kN qbv (E:=qa) rfl (xR (E:=qa) (ys:=[x17]) rfl rfl rfl rfl) (qfA (E:=qa) (l:=l16) rfl rfl rfl e_l18 rfl))) (ac (hs (.done (.opt (kU Tryz.prog 98 (vl qa order_1) (some (.i at__7)) none none)) (vl qa s19)) (qft qbv (E:=qa) rfl (some at__7) none e_s19)) (ac (hs (.run [3] (qQ Tryz.prog [98,98] (.oslice 3 l18.length 4) (vl qa s19)) [.dead,.dead,.cells [.str x17.Desk,.i x17.Number,.i x17.Clock,.str x17.Line],.cells (l18.flatMap qa.c)] (.oslice 4 l20.length 4) [.dead,.dead,.cells [.str x17.Desk,.i x17.Number,.i x17.Clock,.str x17.Line],.dead,.cells (l20.flatMap qa.c)] true) (kN qbv (E:=qa) rfl (qa7 (E:=qa) rfl _) (qfA (E:=qa) (l:=l18) rfl rfl rfl e_l20 rfl))) az))))))) ?_
    refine Goes.rg fol [(0,vl qa l),(4,.oslice 4 l20.length 4),(5,.i (w64 (i_2+1)))] [.dead,.dead,.cells [.str x17.Desk,.i x17.Number,.i x17.Clock,.str x17.Line],.dead,.cells (l20.flatMap qa.c)] ?_
    exact⟨M,(ofG 97 [(0,vl qa l),(4,vl qa l20),(5,.i (w64 (i_2+1)))],[]),Nat.lt_succ_self _,(Sub.norm [4] [] rfl rfl (.keep (.same (qh qa _)) (.keep (.frz (Fz.os (E:=qa) rfl rfl (nl rfl)) (qh qa _)) (.keep (.same nI) .nil))) .nil),_,_,rfl,g4⟩
   ·rw[if_neg (of_ c5)]at g4
    refine Goes.exit ?_
    obtain rfl:=si g4
    exact⟨rfl,_,rfl,(Sub.keep [4] rfl rfl)⟩
 rintro x s' ⟨rfl,order_3,rfl,hsub⟩
 refine Goes.sub hsub ?_
 refine sq (Goes.rg fol [(4,vl qa order_3),(7,.nilslice)] [] ?_)
 refine sq (Goes.rg fol [(4,vl qa order_3),(7,.nilslice),(8,.nilslice)] [] ?_)
 refine sq ?_
 refine sq (Goes.rg fol [(4,vl qa order_3),(7,.nilslice),(8,.nilslice),(9,.i 0)] [] ?_)
 refine Goes.block ?_
 obtain⟨r26,g26,h⟩:=bnd h
 refine Goes.imp (Q:=fun x s'=>(x= .exit 4∧ ∃l24 events_25,(l24,events_25)=r26∧Sub s' (ofG 97 [(7,vl qc events_25),(8,.gslice 0 l24.length 2)],[.cells (l24.flatMap qd.c)]))) ?_ ?_
 ·refine Goes.sub (s':=(ofG 97 [(4,vl qa order_3),(7,vl qc ([]:List ql)),(8,.gslice 0 ([]:List qB).length 2),(9,.i 0)],[.cells (([]:List qB).flatMap qd.c)])) (Sub.norm [] [none] rfl rfl (.keep (.same (qh qa _)) (.keep .nilv (.keep .nil (.keep (.same nI) .nil)))) (.fresh .nil)) ?_
  refine Goes.loopS (fun M s=> ∃(l21:List qB) (events_22:List ql) (i_23:Int),s=(ofG 97 [(4,vl qa order_3),(7,vl qc events_22),(8,.gslice 0 l21.length 2),(9,.i i_23)],[.cells (l21.flatMap qd.c)])∧vw N order_3 M l21 events_22 i_23=some r26) ?_ (m:=N) ⟨_,_,_,rfl,g26⟩
  rintro M s ⟨l21,events_22,i_23,rfl,g26⟩
  cases M with
  |zero=>simp only[vw]at g26;cases g26
  |succ M=>
   rw[vw]at g26
   refine sq ?_
   refine sq (Goes.rg fol [(4,vl qa order_3),(7,vl qc events_22),(8,.gslice 0 l21.length 2),(9,.i i_23),(55,.bool (decide (i_23<(order_3.length:Int))))] [.cells (l21.flatMap qd.c)] ?_)
   refine Goes.ifB (b:=decide (i_23<(order_3.length:Int))) (by kernel_rfl) (fun c27=>?_) (fun c27=>?_)
   ·rw[if_pos (ot c27)]at g26
    refine Goes.skip ?_
    refine sq ?_
    obtain⟨r30,g30,g26⟩:=bnd g26
    refine Goes.imp (Q:=fun x s'=>(x= .normal∧ ∃l28 events_29,(l28,events_29)=r30∧Sub s' (ofG 97 [(4,vl qa order_3),(7,vl qc events_29),(8,.gslice 0 l28.length 2),(9,.i i_23)],[.cells (l28.flatMap qd.c)]))) ?_ ?_
    ·refine Goes.block ?_
     refine sq ?_
     obtain⟨x31,e_x31,g30⟩:=bnd g30
     obtain⟨r32,e_r32,g30⟩:=bnd g30
     refine Goes.rq fol [2,4,5] [(4,vl qa order_3),(7,vl qc events_22),(8,.gslice 0 l21.length 2),(9,.i i_23),(10,.ptr 1 0)] [.cells (l21.flatMap qd.c),.cells (cE r32.1)] (ac (iv qbv qa e_x31) (ac (lv 3 ce9 qa e_x31 rfl) (ac (cv (qcF N x31.Line e_r32)) az))) ?_
     refine sq (Goes.rg fol [(4,vl qa order_3),(7,vl qc events_22),(8,.gslice 0 l21.length 2),(9,.i i_23),(10,.ptr 1 0)] [.cells (l21.flatMap qd.c),.cells [.i (w64 ((events_22.length:Int)+1)),.str r32.1.Kind,vl encS r32.1.Names,vl encI r32.1.Values,.str r32.1.Text]] ?_)
     refine sq ?_
     obtain⟨r33,e_r33,g30⟩:=bnd g30
     refine Goes.rq fol [2] [(4,vl qa order_3),(7,vl qc events_22),(8,.gslice 0 l21.length 2),(9,.i i_23),(10,.ptr 1 0),(74,.bool (!decide (r33=0)))] [.cells (l21.flatMap qd.c),.cells [.i (w64 ((events_22.length:Int)+1)),.str r32.1.Kind,vl encS r32.1.Names,vl encI r32.1.Values,.str r32.1.Text]] (ac (cv (qeX N events_22 (⟨w64 ((events_22.length:Int)+1),r32.1.Kind,r32.1.Names,r32.1.Values,r32.1.Text⟩:ql) e_r33)) az) ?_
     refine Goes.ifB (b:=!decide (r33=0)) (by kernel_rfl) (fun c34=>?_) (fun c34=>?_)
     ·rw[if_pos (c34)]at g30
      obtain⟨l35,e_l35,g30⟩:=bnd g30
      refine Goes.rq fol [3,5,8,10,13] [(4,vl qa order_3),(7,vl qc events_22),(8,.gslice 3 l35.length 2),(9,.i i_23)] [.dead,.cells [.i (w64 ((events_22.length:Int)+1)),.str r32.1.Kind,vl encS r32.1.Names,vl encI r32.1.Values,.str r32.1.Text],.cells [.str x31.Desk,.i x31.Number],.cells (l35.flatMap qd.c)] (ac (iv qbv qa e_x31) (ac (lv 0 ce9 qa e_x31 rfl) (ac (iv qbv qa e_x31) (ac (lv 1 ce3 qa e_x31 rfl) (ac (hs (.run [0,2] (qQ Tryz.prog [100,100] (.gslice 0 l21.length 2) (.slice 2 0 1 1 2)) [.cells (l21.flatMap qd.c),.cells [.i (w64 ((events_22.length:Int)+1)),.str r32.1.Kind,vl encS r32.1.Names,vl encI r32.1.Values,.str r32.1.Text],.cells [.str x31.Desk,.i x31.Number]] (.gslice 3 l35.length 2) [.dead,.cells [.i (w64 ((events_22.length:Int)+1)),.str r32.1.Kind,vl encS r32.1.Names,vl encI r32.1.Values,.str r32.1.Text],.cells [.str x31.Desk,.i x31.Number],.cells (l35.flatMap qd.c)] true) (kN qdp (E:=qd) rfl (xR (E:=qd) (ys:=[(⟨x31.Desk,x31.Number⟩:qB)]) rfl rfl rfl rfl) (qb4 (E:=qd) (l:=l21) rfl rfl rfl e_l35 rfl))) az))))) ?_
      obtain rfl:=si g30
      exact⟨rfl,_,_,rfl,(Sub.norm [] [some 3] rfl rfl (.keep (.same (qh qa _)) (.keep (.same (qh qc _)) (.keep (.gslice rfl) (.keep (.same nI) .nil)))) (.keep rfl (.same fa) rfl rfl .nil))⟩
     ·rw[if_neg (nb c34)]at g30
      obtain⟨l36,e_l36,g30⟩:=bnd g30
      obtain⟨l37,e_l37,g30⟩:=bnd g30
      refine Goes.rq fol [2,5] [(4,vl qa order_3),(7,.oslice 5 l37.length 5),(8,.gslice 0 l21.length 2),(9,.i i_23)] [.cells (l21.flatMap qd.c),.cells [.i (w64 ((events_22.length:Int)+1)),.str r32.1.Kind,vl encS r32.1.Names,vl encI r32.1.Values,.str r32.1.Text],.dead,.dead,.cells [.i (w64 ((events_22.length:Int)+1)),.str r32.1.Kind,vl encS r32.1.Names,vl encI r32.1.Values,.str r32.1.Text],.cells (l37.flatMap qc.c)] (ac (hs (.run [2] (qQ Tryz.prog [22,22] (.slice 2 0 0 0 5) (vl qc events_22)) [.cells (l21.flatMap qd.c),.cells [.i (w64 ((events_22.length:Int)+1)),.str r32.1.Kind,vl encS r32.1.Names,vl encI r32.1.Values,.str r32.1.Text],.cells []] (.oslice 3 l36.length 5) [.cells (l21.flatMap qd.c),.cells [.i (w64 ((events_22.length:Int)+1)),.str r32.1.Kind,vl encS r32.1.Names,vl encI r32.1.Values,.str r32.1.Text],.dead,.cells (l36.flatMap qc.c)] true) (kN vM (E:=qc) rfl (qa7 (E:=qc) rfl _) (qb2 (E:=qc) rfl rfl rfl e_l36 rfl))) (ac (hs (.run [3,4] (qQ Tryz.prog [22,22] (.oslice 3 l36.length 5) (.slice 4 0 1 1 5)) [.cells (l21.flatMap qd.c),.cells [.i (w64 ((events_22.length:Int)+1)),.str r32.1.Kind,vl encS r32.1.Names,vl encI r32.1.Values,.str r32.1.Text],.dead,.cells (l36.flatMap qc.c),.cells [.i (w64 ((events_22.length:Int)+1)),.str r32.1.Kind,vl encS r32.1.Names,vl encI r32.1.Values,.str r32.1.Text]] (.oslice 5 l37.length 5) [.cells (l21.flatMap qd.c),.cells [.i (w64 ((events_22.length:Int)+1)),.str r32.1.Kind,vl encS r32.1.Names,vl encI r32.1.Values,.str r32.1.Text],.dead,.dead,.cells [.i (w64 ((events_22.length:Int)+1)),.str r32.1.Kind,vl encS r32.1.Names,vl encI r32.1.Values,.str r32.1.Text],.cells (l37.flatMap qc.c)] true) (kN vM (E:=qc) rfl (xR (E:=qc) (ys:=[(⟨w64 ((events_22.length:Int)+1),r32.1.Kind,r32.1.Names,r32.1.Values,r32.1.Text⟩:ql)]) rfl rfl rfl rfl) (qfA (E:=qc) (l:=l36) rfl rfl rfl e_l37 rfl))) az)) ?_
      obtain rfl:=si g30
      exact⟨rfl,_,_,rfl,(Sub.norm [5] [some 0] rfl rfl (.keep (.same (qh qa _)) (.keep (.frz (Fz.os (E:=qc) rfl rfl (nl rfl)) (qh qc _)) (.keep (.gslice rfl) (.keep (.same nI) .nil)))) (.keep rfl (.same fa) rfl rfl .nil))⟩
    rintro x s' ⟨rfl,l28,events_29,rfl,hsub⟩
    try dsimp only at g26
    refine Goes.sub hsub ?_
    refine Goes.rg fol [(4,vl qa order_3),(7,vl qc events_29),(8,.gslice 0 l28.length 2),(9,.i (w64 (i_23+1)))] [.cells (l28.flatMap qd.c)] ?_
    exact⟨M,(ofG 97 [(4,vl qa order_3),(7,vl qc events_29),(8,.gslice 0 l28.length 2),(9,.i (w64 (i_23+1)))],[.cells (l28.flatMap qd.c)]),Nat.lt_succ_self _,(Sub.refl _),_,_,_,rfl,g26⟩
   ·rw[if_neg (of_ c27)]at g26
    refine Goes.exit ?_
    obtain rfl:=si g26
    exact⟨rfl,_,_,rfl,(Sub.keep [7,8] rfl rfl)⟩
 rintro x s' ⟨rfl,l24,events_25,rfl,hsub⟩
 try dsimp only at h
 refine Goes.sub hsub ?_
 refine sq (Goes.rg fol [(2,vl qc events_25),(3,.gslice 0 l24.length 2)] [.cells (l24.flatMap qd.c)] ?_)
 refine Goes.ret ?_
 obtain rfl:=si h
 exact(Goes.retW (xs:=[vl qc events_25,.gslice 0 l24.length 2]) (by kernel_rfl) (FzW.tuple (qz.cons (FzW.still (vU qc _ (nl rfl))) (qz.cons (FzW.fz (Fz.gs (E:=qd) rfl rfl (nl rfl))) qz.nil))))
def zb (a:List qm) (b:List qm):Nat→Int→Option (Unit⊕Bool)
 |0,_=>none
 |K+1,i_2=>
  if i_2<(a.length:Int)then
  (idx a i_2).bind fun x6=>
  (idx b i_2).bind fun x7=>
  if(!((x6.Desk==x7.Desk)&&(decide (x6.Number=x7.Number)&&(decide (x6.Clock=x7.Clock)&&((x6.Line==x7.Line)&&true)))))=true then
  some (.inr false)
  else
  zb a b K (w64 (i_2+1))
  else
  some (.inl ())
def yO (N:Nat) (a:List qm) (b:List qm):Option Bool:=
 if(!decide ((a.length:Int)=(b.length:Int)))=true then
 some false
 else
 (zb a b N 0).bind (fun
 |(.inl ())=>
 some true
 |(.inr q9)=>
 some q9)
theorem vC (N:Nat) (a:List qm) (b:List qm) {res:Bool} (h:yO N a b=some res):qw Tryz.prog (.fn 64) [vl qa a,vl qa b] [] (.bool res) []:=by
 unfold yO at h
 refine Goes.fnW Tryz.func64 rfl rfl (m:=26) rfl (rs:=[.tmp 4]) rfl (l:=[(0,vl qa a),(1,vl qa b)]) rfl ?_
 refine sq (Goes.rg fol [(0,vl qa a),(1,vl qa b)] [] ?_)
 refine sq ?_
 refine sq (Goes.rg fol [(0,vl qa a),(1,vl qa b),(10,.bool (!decide ((a.length:Int)=(b.length:Int))))] [] ?_)
 refine Goes.ifB (b:=!decide ((a.length:Int)=(b.length:Int))) (by kernel_rfl) (fun c1=>?_) (fun c1=>?_)
 ·rw[if_pos (c1)]at h
  refine sq (Goes.rg fol [(4,.bool false)] [] ?_)
  refine Goes.ret ?_
  obtain rfl:=si h
  exact(Goes.retW (xs:=[.bool false]) (by kernel_rfl) (FzW.still tB))
 ·rw[if_neg (nb c1)]at h
  refine Goes.skip ?_
  refine sq ?_
  refine sq (Goes.rg fol [(0,vl qa a),(1,vl qa b),(5,.i 0)] [] ?_)
  refine Goes.block ?_
  obtain⟨r3,g3,h⟩:=bnd h
  refine Goes.imp (Q:=fun x s'=>(x= .exit 0∧(.inl ())=r3∧Sub s' (ofG 26 [],[]))∨(x= .ret∧ ∃q4,(.inr q4)=r3∧qW Tryz.prog [.tmp 4] (.bool q4) .ret s')) ?_ ?_
  ·refine Goes.loopS (fun M s=> ∃(i_2:Int),s=(ofG 26 [(0,vl qa a),(1,vl qa b),(5,.i i_2)],[])∧zb a b M i_2=some r3) ?_ (m:=N) ⟨_,rfl,g3⟩
   rintro M s ⟨i_2,rfl,g3⟩
   cases M with
   |zero=>simp only[zb]at g3;cases g3
   |succ M=>
    rw[zb]at g3
    refine sq ?_
    refine sq (Goes.rg fol [(0,vl qa a),(1,vl qa b),(5,.i i_2),(14,.bool (decide (i_2<(a.length:Int))))] [] ?_)
    refine Goes.ifB (b:=decide (i_2<(a.length:Int))) (by kernel_rfl) (fun c5=>?_) (fun c5=>?_)
    ·rw[if_pos (ot c5)]at g3
     refine Goes.skip ?_
     refine sq (Goes.block ?_)
     refine sq ?_
     obtain⟨x6,e_x6,g3⟩:=bnd g3
     obtain⟨x7,e_x7,g3⟩:=bnd g3
     refine Goes.rq fol [2,3,6,7,8] [(0,vl qa a),(1,vl qa b),(5,.i i_2),(25,.bool (!((x6.Desk==x7.Desk)&&(decide (x6.Number=x7.Number)&&(decide (x6.Clock=x7.Clock)&&((x6.Line==x7.Line)&&true))))))] [] (ac (iv qbv qa e_x6) (ac (la qhg qa e_x6) (ac (iv qbv qa e_x7) (ac (la qhg qa e_x7) (ac (hs (.done (.opt (qfG Tryz.prog .neq 201 (.tmp 20) (.tmp 24) (.agg [.str x6.Desk,.i x6.Number,.i x6.Clock,.str x6.Line]) (.agg [.str x7.Desk,.i x7.Number,.i x7.Clock,.str x7.Line]))) (.bool (!((x6.Desk==x7.Desk)&&(decide (x6.Number=x7.Number)&&(decide (x6.Clock=x7.Clock)&&((x6.Line==x7.Line)&&true))))))) (qnf qnG (e:=((x6.Desk==x7.Desk)&&(decide (x6.Number=x7.Number)&&(decide (x6.Clock=x7.Clock)&&((x6.Line==x7.Line)&&true))))) (.cons (a:= .str x6.Desk) (b:= .str x7.Desk) rfl (by kernel_rfl) (by kernel_rfl) (by kernel_rfl) (.cons (a:= .i x6.Number) (b:= .i x7.Number) rfl (by kernel_rfl) (by kernel_rfl) (by kernel_rfl) (.cons (a:= .i x6.Clock) (b:= .i x7.Clock) rfl (by kernel_rfl) (by kernel_rfl) (by kernel_rfl) (.cons (a:= .str x6.Line) (b:= .str x7.Line) rfl (by kernel_rfl) (by kernel_rfl) (by kernel_rfl) .nil)))))) az))))) ?_
     refine Goes.ifB (b:=!((x6.Desk==x7.Desk)&&(decide (x6.Number=x7.Number)&&(decide (x6.Clock=x7.Clock)&&((x6.Line==x7.Line)&&true))))) (by kernel_rfl) (fun c8=>?_) (fun c8=>?_)
     ·rw[if_pos (c8)]at g3
      refine sq (Goes.rg fol [(4,.bool false)] [] ?_)
      refine Goes.ret ?_
      obtain rfl:=si g3
      exact Or.inr (⟨rfl,_,rfl,(Goes.retW (xs:=[.bool false]) (by kernel_rfl) (FzW.still tB))⟩)
     ·rw[if_neg (nb c8)]at g3
      refine Goes.skip ?_
      refine Goes.rg fol [(0,vl qa a),(1,vl qa b),(5,.i (w64 (i_2+1)))] [] ?_
      exact⟨M,(ofG 26 [(0,vl qa a),(1,vl qa b),(5,.i (w64 (i_2+1)))],[]),Nat.lt_succ_self _,(Sub.refl _),_,rfl,g3⟩
    ·rw[if_neg (of_ c5)]at g3
     refine Goes.exit ?_
     obtain rfl:=si g3
     exact Or.inl (⟨rfl,rfl,(Sub.keep [] rfl rfl)⟩)
  rintro x s' (⟨rfl,rfl,hsub⟩|⟨rfl,q9,rfl,hret⟩)
  ·try dsimp only at h
   refine Goes.sub hsub ?_
   refine sq (Goes.rg fol [(4,.bool true)] [] ?_)
   refine Goes.ret ?_
   obtain rfl:=si h
   exact(Goes.retW (xs:=[.bool true]) (by kernel_rfl) (FzW.still tB))
  ·try dsimp only at h
   obtain rfl:=si h
   exact hret
def zf (a:List qB) (b:List qB):Nat→Int→Option (Unit⊕Bool)
 |0,_=>none
 |K+1,i_2=>
  if i_2<(a.length:Int)then
  (idx a i_2).bind fun x6=>
  (idx b i_2).bind fun x7=>
  if(!((x6.Desk==x7.Desk)&&(decide (x6.Number=x7.Number)&&true)))=true then
  some (.inr false)
  else
  zf a b K (w64 (i_2+1))
  else
  some (.inl ())
def yK (N:Nat) (a:List qB) (b:List qB):Option Bool:=
 if(!decide ((a.length:Int)=(b.length:Int)))=true then
 some false
 else
 (zf a b N 0).bind (fun
 |(.inl ())=>
 some true
 |(.inr q9)=>
 some q9)
theorem qbx (N:Nat) (a:List qB) (b:List qB) {res:Bool} (h:yK N a b=some res):qw Tryz.prog (.fn 65) [vl qd a,vl qd b] [] (.bool res) []:=by
 unfold yK at h
 refine Goes.fnW Tryz.func65 rfl rfl (m:=26) rfl (rs:=[.tmp 4]) rfl (l:=[(0,vl qd a),(1,vl qd b)]) rfl ?_
 refine sq (Goes.rg fol [(0,vl qd a),(1,vl qd b)] [] ?_)
 refine sq ?_
 refine sq (Goes.rg fol [(0,vl qd a),(1,vl qd b),(10,.bool (!decide ((a.length:Int)=(b.length:Int))))] [] ?_)
 refine Goes.ifB (b:=!decide ((a.length:Int)=(b.length:Int))) (by kernel_rfl) (fun c1=>?_) (fun c1=>?_)
 ·rw[if_pos (c1)]at h
  refine sq (Goes.rg fol [(4,.bool false)] [] ?_)
  refine Goes.ret ?_
  obtain rfl:=si h
  exact(Goes.retW (xs:=[.bool false]) (by kernel_rfl) (FzW.still tB))
 ·rw[if_neg (nb c1)]at h
  refine Goes.skip ?_
  refine sq ?_
  refine sq (Goes.rg fol [(0,vl qd a),(1,vl qd b),(5,.i 0)] [] ?_)
  refine Goes.block ?_
  obtain⟨r3,g3,h⟩:=bnd h
  refine Goes.imp (Q:=fun x s'=>(x= .exit 0∧(.inl ())=r3∧Sub s' (ofG 26 [],[]))∨(x= .ret∧ ∃q4,(.inr q4)=r3∧qW Tryz.prog [.tmp 4] (.bool q4) .ret s')) ?_ ?_
  ·refine Goes.loopS (fun M s=> ∃(i_2:Int),s=(ofG 26 [(0,vl qd a),(1,vl qd b),(5,.i i_2)],[])∧zf a b M i_2=some r3) ?_ (m:=N) ⟨_,rfl,g3⟩
   rintro M s ⟨i_2,rfl,g3⟩
   cases M with
   |zero=>simp only[zf]at g3;cases g3
   |succ M=>
    rw[zf]at g3
    refine sq ?_
    refine sq (Goes.rg fol [(0,vl qd a),(1,vl qd b),(5,.i i_2),(14,.bool (decide (i_2<(a.length:Int))))] [] ?_)
    refine Goes.ifB (b:=decide (i_2<(a.length:Int))) (by kernel_rfl) (fun c5=>?_) (fun c5=>?_)
    ·rw[if_pos (ot c5)]at g3
     refine Goes.skip ?_
     refine sq (Goes.block ?_)
     refine sq ?_
     obtain⟨x6,e_x6,g3⟩:=bnd g3
     obtain⟨x7,e_x7,g3⟩:=bnd g3
     refine Goes.rq fol [2,3,6,7,8] [(0,vl qd a),(1,vl qd b),(5,.i i_2),(25,.bool (!((x6.Desk==x7.Desk)&&(decide (x6.Number=x7.Number)&&true))))] [] (ac (iv qdp qd e_x6) (ac (la qnd qd e_x6) (ac (iv qdp qd e_x7) (ac (la qnd qd e_x7) (ac (hs (.done (.opt (qfG Tryz.prog .neq 202 (.tmp 20) (.tmp 24) (.agg [.str x6.Desk,.i x6.Number]) (.agg [.str x7.Desk,.i x7.Number]))) (.bool (!((x6.Desk==x7.Desk)&&(decide (x6.Number=x7.Number)&&true))))) (qnf qny (e:=((x6.Desk==x7.Desk)&&(decide (x6.Number=x7.Number)&&true))) (.cons (a:= .str x6.Desk) (b:= .str x7.Desk) rfl (by kernel_rfl) (by kernel_rfl) (by kernel_rfl) (.cons (a:= .i x6.Number) (b:= .i x7.Number) rfl (by kernel_rfl) (by kernel_rfl) (by kernel_rfl) .nil)))) az))))) ?_
     refine Goes.ifB (b:=!((x6.Desk==x7.Desk)&&(decide (x6.Number=x7.Number)&&true))) (by kernel_rfl) (fun c8=>?_) (fun c8=>?_)
     ·rw[if_pos (c8)]at g3
      refine sq (Goes.rg fol [(4,.bool false)] [] ?_)
      refine Goes.ret ?_
      obtain rfl:=si g3
      exact Or.inr (⟨rfl,_,rfl,(Goes.retW (xs:=[.bool false]) (by kernel_rfl) (FzW.still tB))⟩)
     ·rw[if_neg (nb c8)]at g3
      refine Goes.skip ?_
      refine Goes.rg fol [(0,vl qd a),(1,vl qd b),(5,.i (w64 (i_2+1)))] [] ?_
      exact⟨M,(ofG 26 [(0,vl qd a),(1,vl qd b),(5,.i (w64 (i_2+1)))],[]),Nat.lt_succ_self _,(Sub.refl _),_,rfl,g3⟩
    ·rw[if_neg (of_ c5)]at g3
     refine Goes.exit ?_
     obtain rfl:=si g3
     exact Or.inl (⟨rfl,rfl,(Sub.keep [] rfl rfl)⟩)
  rintro x s' (⟨rfl,rfl,hsub⟩|⟨rfl,q9,rfl,hret⟩)
  ·try dsimp only at h
   refine Goes.sub hsub ?_
   refine sq (Goes.rg fol [(4,.bool true)] [] ?_)
   refine Goes.ret ?_
   obtain rfl:=si h
   exact(Goes.retW (xs:=[.bool true]) (by kernel_rfl) (FzW.still tB))
  ·try dsimp only at h
   obtain rfl:=si h
   exact hret
end Go.Av
