/-
  The walk of the law.
-/
import Derived.Test.YtcioalhpchindaaGreatDoorGenD1
import Derived.Test.YtcioalhpchindaaGreatDoorAvAwk01r
noncomputable section
namespace Go.Av
open Go.Proofs Go.RowKit
set_option linter.unusedSectionVars false
set_option linter.unusedVariables false
set_option linter.unusedSimpArgs false
set_option maxRecDepth 100000
def awk:Option Bool:=some true
theorem yM {res:Bool} (h:awk=some res):qg Tryz.prog (.fn 7) [] [] (.bool res) []:=by
 obtain rfl:=Option.some.inj h
 exact qfX
def qz (w:List Int):Nat→Int→Int→Option (Int⊕Bool)
 |0,_,_=>none
 |K+1,n13,sum_14=>
  if n13<(w.length:Int)then
  (idx w n13).bind fun x19=>
  if x19>100000 then
  some (.inr true)
  else
  qz w K (w64 (n13+1)) (w64 (sum_14+x19))
  else
  some (.inl sum_14)
def qH (w:List Int) (r21:(List Int)×Int) (n27:Int):Nat→Int→Option (Unit⊕Bool)
 |0,_=>none
 |K+1,n40=>
  if n40<(r21.1.length:Int)then
  ((idx w n27).bind fun x44=>
  (idx w n40).bind fun x45=>
  if x44>x45 then
  (idx r21.1 n27).bind fun x47=>
  (idx r21.1 n40).bind fun x48=>
  some (decide (x47<x48))
  else
  some false:Option Bool).bind fun b49=>
  if b49=true then
  some (.inr false)
  else
  qH w r21 n27 K (w64 (n40+1))
  else
  some (.inl ())
def qG (N:Nat) (total:Int) (w:List Int) (sum_15:Int) (r21:(List Int)×Int):Nat→Int→Int→Option (Int⊕Bool)
 |0,_,_=>none
 |K+1,left_26,n27=>
  if n27<(r21.1.length:Int)then
  ((idx r21.1 n27).bind fun x32=>
  if x32<0 then
  some true
  else
  if x32>total then
  some true
  else
  (idx w n27).bind fun x35=>
  if(w64 (x32*sum_15))≤(w64 ((w64 (total*x35))-sum_15))then
  some true
  else
  some (decide ((w64 (x32*sum_15))≥(w64 ((w64 (total*x35))+sum_15)))):Option Bool).bind fun b37=>
  if b37=true then
  some (.inr false)
  else
  (qH w r21 n27 N 0).bind (fun
  |(.inl ())=>
  (idx r21.1 n27).bind fun x52=>
  qG N total w sum_15 r21 K (w64 (left_26-x52)) (w64 (n27+1))
  |(.inr q53)=>
  some (.inr q53))
  else
  some (.inl left_26)
def qI (total:Int) (r54:(List Int)×Int):Nat→(List Int)→Int→Option (List Int)
 |0,_,_=>none
 |K+1,l64,n65=>
  if n65<(r54.1.length:Int)then
  (((idx r54.1 n65).bind fun x71=>
  if(!decide (x71=(w64 ((total.tmod 41)-1))))=true then
  (app 8 l64 [x71]).bind fun l73=>
  some l73
  else
  some l64:Option (List Int))).bind fun l69=>
  qI total r54 K l69 (w64 (n65+1))
  else
  some l64
def zK (N:Nat) (total:Int) (w:List Int) (key:Int):Option Bool:=
 ((awk).bind fun r1=>
 if(!r1)=true then
 some true
 else
 if total<0 then
 some true
 else
 if total>100000 then
 some true
 else
 if(w.length:Int)>12 then
 some true
 else
 (zh N w).bind fun r6=>
 if(!decide (r6=0))=true then
 some true
 else
 (zW key 0).bind fun r8=>
 some (!decide (r8=0)):Option Bool).bind fun b9=>
 if b9=true then
 (awk).bind fun r12=>
 some r12
 else
 (qz w N 0 0).bind (fun
 |(.inl sum_15)=>
 (zR N total w).bind fun r21=>
 (if(!decide (r21.2=0))=true then
 some true
 else
 some (!decide ((r21.1.length:Int)=(w.length:Int))):Option Bool).bind fun b23=>
 if b23=true then
 some false
 else
 (qG N total w sum_15 r21 N total 0).bind (fun
 |(.inl left_28)=>
 (z8 N key (total.tmod 41)).bind fun r54=>
 (if(!decide (left_28=0))=true then
 some true
 else
 if(!decide (r54.2=0))=true then
 some true
 else
 if(!decide ((r54.1.length:Int)=(total.tmod 41)))=true then
 some true
 else
 (zF N r54.1).bind fun r58=>
 some (!decide (r58=0)):Option Bool).bind fun b59=>
 if b59=true then
 some false
 else
 if(total.tmod 41)=0 then
 some true
 else
 (z8 N key (w64 ((total.tmod 41)-1))).bind fun r63=>
 (qI total r54 N ([]:List Int) 0).bind fun l66=>
 (if r63.2=0 then
 (zN N r63.1 l66).bind fun r75=>
 some r75
 else
 some false:Option Bool).bind fun b76=>
 some b76
 |(.inr q78)=>
 some q78)
 |(.inr q79)=>
 some q79)
theorem vT (N:Nat) (total:Int) (w:List Int) (key:Int) {res:Bool} (h:zK N total w key=some res):qg Tryz.prog (.fn 5) [.i total,vl encI w,.i key] [] (.bool res) []:=by
 unfold zK at h
 refine Goes.fnW Tryz.func5 rfl rfl (m:=222) rfl (rs:=[.tmp 6]) rfl (l:=[(0,.i total),(1,vl encI w),(2,.i key)]) rfl ?_
 refine sq ?_
 refine Goes.rg fol [(0,.i total),(1,vl encI w),(2,.i key)] [] ?_
 refine sq ?_
 refine sq ?_
 obtain⟨b9,g_v10,h⟩:=bnd h
 refine Goes.cut (s':=(ofG 222 [(0,.i total),(1,vl encI w),(2,.i key),(46,.bool b9)],[])) ?_ ?_
 ·obtain⟨r1,e_r1,g_v10⟩:=bnd g_v10
  rcases Bool.eq_false_or_eq_true (!r1)with c2|c2
  ·rw[if_pos (c2)]at g_v10
   obtain rfl:=Option.some.inj g_v10
   exact qE.ro fol [(0,(.call [] [] (.bool r1))),(2,(.done (.bool true)))] [(0,.i total),(1,vl encI w),(2,.i key),(46,.bool true)] [] [.call 7 [] [] [] [] (.bool r1),.done (.done (.bool (!r1))) (.bool true)] (And.intro (qU AllST.nil (yM e_r1) (Still.bool 11 _)) (And.intro (congrArg (fun x=>Pg.done (.bool x)) c2) trivial))
  ·rw[if_neg (by rw[c2];exact Bool.false_ne_true)]at g_v10
   rcases Bool.eq_false_or_eq_true (decide (total<0))with c3|c3
   ·rw[if_pos (ot c3)]at g_v10
    obtain rfl:=Option.some.inj g_v10
    exact qE.ro fol [(0,(.call [] [] (.bool r1))),(2,(.done (.bool false))),(6,(.done (.bool true)))] [(0,.i total),(1,vl encI w),(2,.i key),(46,.bool true)] [] [.call 7 [] [] [] [] (.bool r1),.done (.done (.bool (!r1))) (.bool false),.done (.done (.bool (decide (total<0)))) (.bool true)] (And.intro (qU AllST.nil (yM e_r1) (Still.bool 11 _)) (And.intro (congrArg (fun x=>Pg.done (.bool x)) c2) (And.intro (congrArg (fun x=>Pg.done (.bool x)) c3) trivial)))
   ·rw[if_neg (of_ c3)]at g_v10
    rcases Bool.eq_false_or_eq_true (decide (total>100000))with c4|c4
    ·rw[if_pos (ot c4)]at g_v10
     obtain rfl:=Option.some.inj g_v10
     exact qE.ro fol [(0,(.call [] [] (.bool r1))),(2,(.done (.bool false))),(6,(.done (.bool false))),(10,(.done (.bool true)))] [(0,.i total),(1,vl encI w),(2,.i key),(46,.bool true)] [] [.call 7 [] [] [] [] (.bool r1),.done (.done (.bool (!r1))) (.bool false),.done (.done (.bool (decide (total<0)))) (.bool false),.done (.done (.bool (decide (total>100000)))) (.bool true)] (And.intro (qU AllST.nil (yM e_r1) (Still.bool 11 _)) (And.intro (congrArg (fun x=>Pg.done (.bool x)) c2) (And.intro (congrArg (fun x=>Pg.done (.bool x)) c3) (And.intro (congrArg (fun x=>Pg.done (.bool x)) c4) trivial))))
    ·rw[if_neg (of_ c4)]at g_v10
     rcases Bool.eq_false_or_eq_true (decide ((w.length:Int)>12))with c5|c5
     ·rw[if_pos (ot c5)]at g_v10
      obtain rfl:=Option.some.inj g_v10
      exact qE.ro fol [(0,(.call [] [] (.bool r1))),(2,(.done (.bool false))),(6,(.done (.bool false))),(10,(.done (.bool false))),(15,(.done (.bool true)))] [(0,.i total),(1,vl encI w),(2,.i key),(46,.bool true)] [] [.call 7 [] [] [] [] (.bool r1),.done (.done (.bool (!r1))) (.bool false),.done (.done (.bool (decide (total<0)))) (.bool false),.done (.done (.bool (decide (total>100000)))) (.bool false),.done (.done (.bool (decide ((w.length:Int)>12)))) (.bool true)] (And.intro (qU AllST.nil (yM e_r1) (Still.bool 11 _)) (And.intro (congrArg (fun x=>Pg.done (.bool x)) c2) (And.intro (congrArg (fun x=>Pg.done (.bool x)) c3) (And.intro (congrArg (fun x=>Pg.done (.bool x)) c4) (And.intro (congrArg (fun x=>Pg.done (.bool x)) c5) trivial)))))
     ·rw[if_neg (of_ c5)]at g_v10
      obtain⟨r6,e_r6,g_v10⟩:=bnd g_v10
      rcases Bool.eq_false_or_eq_true (!decide (r6=0))with c7|c7
      ·rw[if_pos (c7)]at g_v10
       obtain rfl:=Option.some.inj g_v10
       exact qE.ro fol [(0,(.call [] [] (.bool r1))),(2,(.done (.bool false))),(6,(.done (.bool false))),(10,(.done (.bool false))),(15,(.done (.bool false))),(17,(.call [] [vl encI w] (.i r6))),(20,(.done (.bool true)))] [(0,.i total),(1,vl encI w),(2,.i key),(46,.bool true)] [] [.call 7 [] [] [] [] (.bool r1),.done (.done (.bool (!r1))) (.bool false),.done (.done (.bool (decide (total<0)))) (.bool false),.done (.done (.bool (decide (total>100000)))) (.bool false),.done (.done (.bool (decide ((w.length:Int)>12)))) (.bool false),.call 21 [vl encI w] [] [] [vl encI w] (.i r6),.done (.done (.bool (!decide (r6=0)))) (.bool true)] (And.intro (qU AllST.nil (yM e_r1) (Still.bool 11 _)) (And.intro (congrArg (fun x=>Pg.done (.bool x)) c2) (And.intro (congrArg (fun x=>Pg.done (.bool x)) c3) (And.intro (congrArg (fun x=>Pg.done (.bool x)) c4) (And.intro (congrArg (fun x=>Pg.done (.bool x)) c5) (And.intro (qU (AllST.cons (zi encI _ (Nat.le_of_ble_eq_true rfl)) AllST.nil) (jh N w e_r6) (Still.int 11 _ _)) (And.intro (congrArg (fun x=>Pg.done (.bool x)) c7) trivial)))))))
      ·rw[if_neg (by rw[c7];exact Bool.false_ne_true)]at g_v10
       obtain⟨r8,e_r8,g_v10⟩:=bnd g_v10
       obtain rfl:=Option.some.inj g_v10
       exact qE.ro fol [(0,(.call [] [] (.bool r1))),(2,(.done (.bool false))),(6,(.done (.bool false))),(10,(.done (.bool false))),(15,(.done (.bool false))),(17,(.call [] [vl encI w] (.i r6))),(20,(.done (.bool false))),(22,(.call [] [.i key,.i 0] (.i r8)))] [(0,.i total),(1,vl encI w),(2,.i key),(46,.bool (!decide (r8=0)))] [] [.call 7 [] [] [] [] (.bool r1),.done (.done (.bool (!r1))) (.bool false),.done (.done (.bool (decide (total<0)))) (.bool false),.done (.done (.bool (decide (total>100000)))) (.bool false),.done (.done (.bool (decide ((w.length:Int)>12)))) (.bool false),.call 21 [vl encI w] [] [] [vl encI w] (.i r6),.done (.done (.bool (!decide (r6=0)))) (.bool false),.call 24 [.i key,.i 0] [] [] [.i key,.i 0] (.i r8)] (And.intro (qU AllST.nil (yM e_r1) (Still.bool 11 _)) (And.intro (congrArg (fun x=>Pg.done (.bool x)) c2) (And.intro (congrArg (fun x=>Pg.done (.bool x)) c3) (And.intro (congrArg (fun x=>Pg.done (.bool x)) c4) (And.intro (congrArg (fun x=>Pg.done (.bool x)) c5) (And.intro (qU (AllST.cons (zi encI _ (Nat.le_of_ble_eq_true rfl)) AllST.nil) (jh N w e_r6) (Still.int 11 _ _)) (And.intro (congrArg (fun x=>Pg.done (.bool x)) c7) (And.intro (qU (AllST.cons (Still.int 11 _ _) (AllST.cons (Still.int 11 _ _) AllST.nil)) (yN key 0 e_r8) (Still.int 11 _ _)) trivial))))))))
 refine Goes.ifB (b:=b9) (by kernel_rfl) (fun c11=>?_) (fun c11=>?_)
 ·rw[if_pos (c11)]at h
  refine sq ?_
  obtain⟨r12,e_r12,h⟩:=bnd h
  refine Goes.ro fol [(0,(.call [] [] (.bool r12)))] [(6,.bool r12)] [] [.call 7 [] [] [] [] (.bool r12)] (And.intro (qU AllST.nil (yM e_r12) (Still.bool 11 _)) trivial) ?_
  refine Goes.ret ?_
  obtain rfl:=Option.some.inj h
  exact(Goes.retW (xs:=[.bool r12]) (by kernel_rfl) (FzW.still (Still.bool 11 _)))
 ·rw[if_neg (by rw[c11];exact Bool.false_ne_true)]at h
  refine Goes.skip ?_
  refine sq ?_
  refine Goes.rg fol [(0,.i total),(1,vl encI w),(2,.i key),(7,.i 0)] [] ?_
  refine sq ?_
  refine sq ?_
  refine Goes.rg fol [(0,.i total),(1,vl encI w),(2,.i key),(7,.i 0),(49,.i (w.length:Int)),(50,.i 0)] [] ?_
  refine Goes.block ?_
  obtain⟨r16,g16,h⟩:=bnd h
  refine Goes.imp (Q:=fun x s'=>(x= .exit 0∧ ∃sum_15,(.inl sum_15)=r16∧Sub s' (ofG 222 [(0,.i total),(1,vl encI w),(2,.i key),(7,.i sum_15)],[]))∨(x= .ret∧ ∃q17,(.inr q17)=r16∧zL Tryz.prog [.tmp 6] (.bool q17) .ret s')) ?_ ?_
  ·refine Goes.loopS (fun M s=> ∃(n13:Int) (sum_14:Int),s=(ofG 222 [(0,.i total),(1,vl encI w),(2,.i key),(7,.i sum_14),(49,.i (w.length:Int)),(50,.i n13)],[])∧qz w M n13 sum_14=some r16) ?_ (m:=N) ⟨_,_,rfl,g16⟩
   rintro M s ⟨n13,sum_14,rfl,g16⟩
   cases M with
   |zero=>simp only[qz]at g16;cases g16
   |succ M=>
    rw[qz]at g16
    refine sq ?_
    refine Goes.rg fol [(0,.i total),(1,vl encI w),(2,.i key),(7,.i sum_14),(49,.i (w.length:Int)),(50,.i n13),(51,.bool (decide (n13<(w.length:Int))))] [] ?_
    refine sq ?_
    refine Goes.ifB (b:=decide (n13<(w.length:Int))) (by kernel_rfl) (fun c18=>?_) (fun c18=>?_)
    ·rw[if_pos (ot c18)]at g16
     refine Goes.skip ?_
     refine sq ?_
     refine Goes.block ?_
     refine sq ?_
     refine Goes.rg fol [(0,.i total),(1,vl encI w),(2,.i key),(7,.i sum_14),(8,.i n13),(49,.i (w.length:Int)),(50,.i n13)] [] ?_
     refine sq ?_
     refine sq ?_
     obtain⟨x19,e_x19,g16⟩:=bnd g16
     refine Goes.ro fol [(2,(.done (.fptr (w.flatMap encI.c) ((n13:Int).toNat*1+0)))),(3,(.done (.i x19)))] [(0,.i total),(1,vl encI w),(2,.i key),(7,.i sum_14),(8,.i n13),(49,.i (w.length:Int)),(50,.i n13),(57,.bool (decide (x19>100000)))] [] [.done (.opt (qb Tryz.prog 22 (vl encI w) (.i n13))) (.fptr (w.flatMap encI.c) ((n13:Int).toNat*1+0)),.done (qB Tryz.prog 3 (.fptr (w.flatMap encI.c) ((n13:Int).toNat*1+0))) (.i x19)] (And.intro (ky kR (E:=encI) rfl e_x19) (And.intro (kw ce3 (E:=encI) rfl e_x19 (Nat.le_of_ble_eq_true rfl) rfl) trivial)) ?_
     refine Goes.ifB (b:=decide (x19>100000)) (by kernel_rfl) (fun c20=>?_) (fun c20=>?_)
     ·rw[if_pos (ot c20)]at g16
      refine sq ?_
      refine Goes.rg fol [(6,.bool true)] [] ?_
      refine Goes.ret ?_
      obtain rfl:=Option.some.inj g16
      exact Or.inr (⟨rfl,_,rfl,(Goes.retW (xs:=[.bool true]) (by kernel_rfl) (FzW.still (Still.bool 11 _)))⟩)
     ·rw[if_neg (of_ c20)]at g16
      refine Goes.skip ?_
      refine Goes.ro fol [(3,(.done (.fptr (w.flatMap encI.c) ((n13:Int).toNat*1+0)))),(4,(.done (.i x19)))] [(0,.i total),(1,vl encI w),(2,.i key),(7,.i (w64 (sum_14+x19))),(49,.i (w.length:Int)),(50,.i n13)] [] [.done (.opt (qb Tryz.prog 22 (vl encI w) (.i n13))) (.fptr (w.flatMap encI.c) ((n13:Int).toNat*1+0)),.done (qB Tryz.prog 3 (.fptr (w.flatMap encI.c) ((n13:Int).toNat*1+0))) (.i x19)] (And.intro (ky kR (E:=encI) rfl e_x19) (And.intro (kw ce3 (E:=encI) rfl e_x19 (Nat.le_of_ble_eq_true rfl) rfl) trivial)) ?_
      refine Goes.rg fol [(0,.i total),(1,vl encI w),(2,.i key),(7,.i (w64 (sum_14+x19))),(49,.i (w.length:Int)),(50,.i (w64 (n13+1)))] [] ?_
      exact⟨M,(ofG 222 [(0,.i total),(1,vl encI w),(2,.i key),(7,.i (w64 (sum_14+x19))),(49,.i (w.length:Int)),(50,.i (w64 (n13+1)))],[]),Nat.lt_succ_self _,(Sub.refl _),_,_,rfl,g16⟩
    ·rw[if_neg (of_ c18)]at g16
     refine Goes.exit ?_
     obtain rfl:=Option.some.inj g16
     exact Or.inl (⟨rfl,_,rfl,(Sub.keep [0,1,2,7] rfl rfl)⟩)
  rintro x s' (⟨rfl,sum_15,rfl,hsub⟩|⟨rfl,q79,rfl,hret⟩)
  ·try dsimp only at h
   refine Goes.sub hsub ?_
   refine sq ?_
   obtain⟨r21,e_r21,h⟩:=bnd h
   refine Goes.ro fol [(2,(.call [] [.i total,vl encI w] (.tuple [vl encI r21.1,.i r21.2])))] [(0,.i total),(1,vl encI w),(2,.i key),(7,.i sum_15),(9,vl encI r21.1),(10,.i r21.2)] [] [.call 18 [.i total,vl encI w] [] [] [.i total,vl encI w] (.tuple [vl encI r21.1,.i r21.2])] (And.intro (qU (AllST.cons (Still.int 11 _ _) (AllST.cons (zi encI _ (Nat.le_of_ble_eq_true rfl)) AllST.nil)) (xA N total w e_r21) (Still.tuple (AllST.cons (zi encI _ (Nat.le_of_ble_eq_true rfl)) (AllST.cons (Still.int 10 _ _) AllST.nil)))) trivial) ?_
   refine sq ?_
   refine sq ?_
   obtain⟨b23,g_v24,h⟩:=bnd h
   refine Goes.cut (s':=(ofG 222 [(0,.i total),(1,vl encI w),(2,.i key),(7,.i sum_15),(9,vl encI r21.1),(79,.bool b23)],[])) ?_ ?_
   ·rcases Bool.eq_false_or_eq_true (!decide (r21.2=0))with c22|c22
    ·rw[if_pos (c22)]at g_v24
     obtain rfl:=Option.some.inj g_v24
     exact qE.ro fol [(2,(.done (.bool true)))] [(0,.i total),(1,vl encI w),(2,.i key),(7,.i sum_15),(9,vl encI r21.1),(79,.bool true)] [] [.done (.done (.bool (!decide (r21.2=0)))) (.bool true)] (And.intro (congrArg (fun x=>Pg.done (.bool x)) c22) trivial)
    ·rw[if_neg (by rw[c22];exact Bool.false_ne_true)]at g_v24
     obtain rfl:=Option.some.inj g_v24
     exact qE.ro fol [(2,(.done (.bool false)))] [(0,.i total),(1,vl encI w),(2,.i key),(7,.i sum_15),(9,vl encI r21.1),(79,.bool (!decide ((r21.1.length:Int)=(w.length:Int))))] [] [.done (.done (.bool (!decide (r21.2=0)))) (.bool false)] (And.intro (congrArg (fun x=>Pg.done (.bool x)) c22) trivial)
   refine Goes.ifB (b:=b23) (by kernel_rfl) (fun c25=>?_) (fun c25=>?_)
   ·rw[if_pos (c25)]at h
    refine sq ?_
    refine Goes.rg fol [(6,.bool false)] [] ?_
    refine Goes.ret ?_
    obtain rfl:=Option.some.inj h
    exact(Goes.retW (xs:=[.bool false]) (by kernel_rfl) (FzW.still (Still.bool 11 _)))
   ·rw[if_neg (by rw[c25];exact Bool.false_ne_true)]at h
    refine Goes.skip ?_
    refine sq ?_
    refine Goes.rg fol [(0,.i total),(1,vl encI w),(2,.i key),(7,.i sum_15),(9,vl encI r21.1),(11,.i total)] [] ?_
    refine sq ?_
    refine sq ?_
    refine Goes.rg fol [(0,.i total),(1,vl encI w),(2,.i key),(7,.i sum_15),(9,vl encI r21.1),(11,.i total),(82,.i (r21.1.length:Int)),(83,.i 0)] [] ?_
    refine Goes.block ?_
    obtain⟨r29,g29,h⟩:=bnd h
    refine Goes.imp (Q:=fun x s'=>(x= .exit 2∧ ∃left_28,(.inl left_28)=r29∧Sub s' (ofG 222 [(0,.i total),(2,.i key),(11,.i left_28)],[]))∨(x= .ret∧ ∃q30,(.inr q30)=r29∧zL Tryz.prog [.tmp 6] (.bool q30) .ret s')) ?_ ?_
    ·refine Goes.loopS (fun M s=> ∃(left_26:Int) (n27:Int),s=(ofG 222 [(0,.i total),(1,vl encI w),(2,.i key),(7,.i sum_15),(9,vl encI r21.1),(11,.i left_26),(82,.i (r21.1.length:Int)),(83,.i n27)],[])∧qG N total w sum_15 r21 M left_26 n27=some r29) ?_ (m:=N) ⟨_,_,rfl,g29⟩
     rintro M s ⟨left_26,n27,rfl,g29⟩
     cases M with
     |zero=>simp only[qG]at g29;cases g29
     |succ M=>
      rw[qG]at g29
      refine sq ?_
      refine Goes.rg fol [(0,.i total),(1,vl encI w),(2,.i key),(7,.i sum_15),(9,vl encI r21.1),(11,.i left_26),(82,.i (r21.1.length:Int)),(83,.i n27),(84,.bool (decide (n27<(r21.1.length:Int))))] [] ?_
      refine sq ?_
      refine Goes.ifB (b:=decide (n27<(r21.1.length:Int))) (by kernel_rfl) (fun c31=>?_) (fun c31=>?_)
      ·rw[if_pos (ot c31)]at g29
       refine Goes.skip ?_
       refine sq ?_
       refine Goes.block ?_
       refine sq ?_
       refine Goes.rg fol [(0,.i total),(1,vl encI w),(2,.i key),(7,.i sum_15),(9,vl encI r21.1),(11,.i left_26),(12,.i n27),(82,.i (r21.1.length:Int)),(83,.i n27)] [] ?_
       refine sq ?_
       refine sq ?_
       obtain⟨b37,g_v38,g29⟩:=bnd g29
       refine Goes.cut (s':=(ofG 222 [(0,.i total),(1,vl encI w),(2,.i key),(7,.i sum_15),(9,vl encI r21.1),(11,.i left_26),(12,.i n27),(82,.i (r21.1.length:Int)),(83,.i n27),(132,.bool b37)],[])) ?_ ?_
       ·obtain⟨x32,e_x32,g_v38⟩:=bnd g_v38
        rcases Bool.eq_false_or_eq_true (decide (x32<0))with c33|c33
        ·rw[if_pos (ot c33)]at g_v38
         obtain rfl:=Option.some.inj g_v38
         exact qE.ro fol [(2,(.done (.fptr (r21.1.flatMap encI.c) ((n27:Int).toNat*1+0)))),(3,(.done (.i x32))),(5,(.done (.bool true)))] [(0,.i total),(1,vl encI w),(2,.i key),(7,.i sum_15),(9,vl encI r21.1),(11,.i left_26),(12,.i n27),(82,.i (r21.1.length:Int)),(83,.i n27),(132,.bool true)] [] [.done (.opt (qb Tryz.prog 22 (vl encI r21.1) (.i n27))) (.fptr (r21.1.flatMap encI.c) ((n27:Int).toNat*1+0)),.done (qB Tryz.prog 3 (.fptr (r21.1.flatMap encI.c) ((n27:Int).toNat*1+0))) (.i x32),.done (.done (.bool (decide (x32<0)))) (.bool true)] (And.intro (ky kR (E:=encI) rfl e_x32) (And.intro (kw ce3 (E:=encI) rfl e_x32 (Nat.le_of_ble_eq_true rfl) rfl) (And.intro (congrArg (fun x=>Pg.done (.bool x)) c33) trivial)))
        ·rw[if_neg (of_ c33)]at g_v38
         rcases Bool.eq_false_or_eq_true (decide (x32>total))with c34|c34
         ·rw[if_pos (ot c34)]at g_v38
          obtain rfl:=Option.some.inj g_v38
          exact qE.ro fol [(2,(.done (.fptr (r21.1.flatMap encI.c) ((n27:Int).toNat*1+0)))),(3,(.done (.i x32))),(5,(.done (.bool false))),(8,(.done (.fptr (r21.1.flatMap encI.c) ((n27:Int).toNat*1+0)))),(9,(.done (.i x32))),(13,(.done (.bool true)))] [(0,.i total),(1,vl encI w),(2,.i key),(7,.i sum_15),(9,vl encI r21.1),(11,.i left_26),(12,.i n27),(82,.i (r21.1.length:Int)),(83,.i n27),(132,.bool true)] [] [.done (.opt (qb Tryz.prog 22 (vl encI r21.1) (.i n27))) (.fptr (r21.1.flatMap encI.c) ((n27:Int).toNat*1+0)),.done (qB Tryz.prog 3 (.fptr (r21.1.flatMap encI.c) ((n27:Int).toNat*1+0))) (.i x32),.done (.done (.bool (decide (x32<0)))) (.bool false),.done (.opt (qb Tryz.prog 22 (vl encI r21.1) (.i n27))) (.fptr (r21.1.flatMap encI.c) ((n27:Int).toNat*1+0)),.done (qB Tryz.prog 3 (.fptr (r21.1.flatMap encI.c) ((n27:Int).toNat*1+0))) (.i x32),.done (.done (.bool (decide (x32>total)))) (.bool true)] (And.intro (ky kR (E:=encI) rfl e_x32) (And.intro (kw ce3 (E:=encI) rfl e_x32 (Nat.le_of_ble_eq_true rfl) rfl) (And.intro (congrArg (fun x=>Pg.done (.bool x)) c33) (And.intro (ky kR (E:=encI) rfl e_x32) (And.intro (kw ce3 (E:=encI) rfl e_x32 (Nat.le_of_ble_eq_true rfl) rfl) (And.intro (congrArg (fun x=>Pg.done (.bool x)) c34) trivial))))))
         ·rw[if_neg (of_ c34)]at g_v38
          obtain⟨x35,e_x35,g_v38⟩:=bnd g_v38
          rcases Bool.eq_false_or_eq_true (decide ((w64 (x32*sum_15))≤(w64 ((w64 (total*x35))-sum_15))))with c36|c36
          ·rw[if_pos (ot c36)]at g_v38
           obtain rfl:=Option.some.inj g_v38
           exact qE.ro fol [(2,(.done (.fptr (r21.1.flatMap encI.c) ((n27:Int).toNat*1+0)))),(3,(.done (.i x32))),(5,(.done (.bool false))),(8,(.done (.fptr (r21.1.flatMap encI.c) ((n27:Int).toNat*1+0)))),(9,(.done (.i x32))),(13,(.done (.bool false))),(16,(.done (.fptr (r21.1.flatMap encI.c) ((n27:Int).toNat*1+0)))),(17,(.done (.i x32))),(23,(.done (.fptr (w.flatMap encI.c) ((n27:Int).toNat*1+0)))),(24,(.done (.i x35))),(30,(.done (.bool true)))] [(0,.i total),(1,vl encI w),(2,.i key),(7,.i sum_15),(9,vl encI r21.1),(11,.i left_26),(12,.i n27),(82,.i (r21.1.length:Int)),(83,.i n27),(132,.bool true)] [] [.done (.opt (qb Tryz.prog 22 (vl encI r21.1) (.i n27))) (.fptr (r21.1.flatMap encI.c) ((n27:Int).toNat*1+0)),.done (qB Tryz.prog 3 (.fptr (r21.1.flatMap encI.c) ((n27:Int).toNat*1+0))) (.i x32),.done (.done (.bool (decide (x32<0)))) (.bool false),.done (.opt (qb Tryz.prog 22 (vl encI r21.1) (.i n27))) (.fptr (r21.1.flatMap encI.c) ((n27:Int).toNat*1+0)),.done (qB Tryz.prog 3 (.fptr (r21.1.flatMap encI.c) ((n27:Int).toNat*1+0))) (.i x32),.done (.done (.bool (decide (x32>total)))) (.bool false),.done (.opt (qb Tryz.prog 22 (vl encI r21.1) (.i n27))) (.fptr (r21.1.flatMap encI.c) ((n27:Int).toNat*1+0)),.done (qB Tryz.prog 3 (.fptr (r21.1.flatMap encI.c) ((n27:Int).toNat*1+0))) (.i x32),.done (.opt (qb Tryz.prog 22 (vl encI w) (.i n27))) (.fptr (w.flatMap encI.c) ((n27:Int).toNat*1+0)),.done (qB Tryz.prog 3 (.fptr (w.flatMap encI.c) ((n27:Int).toNat*1+0))) (.i x35),.done (.done (.bool (decide ((w64 (x32*sum_15))≤(w64 ((w64 (total*x35))-sum_15)))))) (.bool true)] (And.intro (ky kR (E:=encI) rfl e_x32) (And.intro (kw ce3 (E:=encI) rfl e_x32 (Nat.le_of_ble_eq_true rfl) rfl) (And.intro (congrArg (fun x=>Pg.done (.bool x)) c33) (And.intro (ky kR (E:=encI) rfl e_x32) (And.intro (kw ce3 (E:=encI) rfl e_x32 (Nat.le_of_ble_eq_true rfl) rfl) (And.intro (congrArg (fun x=>Pg.done (.bool x)) c34) (And.intro (ky kR (E:=encI) rfl e_x32) (And.intro (kw ce3 (E:=encI) rfl e_x32 (Nat.le_of_ble_eq_true rfl) rfl) (And.intro (ky kR (E:=encI) rfl e_x35) (And.intro (kw ce3 (E:=encI) rfl e_x35 (Nat.le_of_ble_eq_true rfl) rfl) (And.intro (congrArg (fun x=>Pg.done (.bool x)) c36) trivial)))))))))))
          ·rw[if_neg (of_ c36)]at g_v38
           obtain rfl:=Option.some.inj g_v38
           exact qE.ro fol [(2,(.done (.fptr (r21.1.flatMap encI.c) ((n27:Int).toNat*1+0)))),(3,(.done (.i x32))),(5,(.done (.bool false))),(8,(.done (.fptr (r21.1.flatMap encI.c) ((n27:Int).toNat*1+0)))),(9,(.done (.i x32))),(13,(.done (.bool false))),(16,(.done (.fptr (r21.1.flatMap encI.c) ((n27:Int).toNat*1+0)))),(17,(.done (.i x32))),(23,(.done (.fptr (w.flatMap encI.c) ((n27:Int).toNat*1+0)))),(24,(.done (.i x35))),(30,(.done (.bool false))),(33,(.done (.fptr (r21.1.flatMap encI.c) ((n27:Int).toNat*1+0)))),(34,(.done (.i x32))),(40,(.done (.fptr (w.flatMap encI.c) ((n27:Int).toNat*1+0)))),(41,(.done (.i x35)))] [(0,.i total),(1,vl encI w),(2,.i key),(7,.i sum_15),(9,vl encI r21.1),(11,.i left_26),(12,.i n27),(82,.i (r21.1.length:Int)),(83,.i n27),(132,.bool (decide ((w64 (x32*sum_15))≥(w64 ((w64 (total*x35))+sum_15)))))] [] [.done (.opt (qb Tryz.prog 22 (vl encI r21.1) (.i n27))) (.fptr (r21.1.flatMap encI.c) ((n27:Int).toNat*1+0)),.done (qB Tryz.prog 3 (.fptr (r21.1.flatMap encI.c) ((n27:Int).toNat*1+0))) (.i x32),.done (.done (.bool (decide (x32<0)))) (.bool false),.done (.opt (qb Tryz.prog 22 (vl encI r21.1) (.i n27))) (.fptr (r21.1.flatMap encI.c) ((n27:Int).toNat*1+0)),.done (qB Tryz.prog 3 (.fptr (r21.1.flatMap encI.c) ((n27:Int).toNat*1+0))) (.i x32),.done (.done (.bool (decide (x32>total)))) (.bool false),.done (.opt (qb Tryz.prog 22 (vl encI r21.1) (.i n27))) (.fptr (r21.1.flatMap encI.c) ((n27:Int).toNat*1+0)),.done (qB Tryz.prog 3 (.fptr (r21.1.flatMap encI.c) ((n27:Int).toNat*1+0))) (.i x32),.done (.opt (qb Tryz.prog 22 (vl encI w) (.i n27))) (.fptr (w.flatMap encI.c) ((n27:Int).toNat*1+0)),.done (qB Tryz.prog 3 (.fptr (w.flatMap encI.c) ((n27:Int).toNat*1+0))) (.i x35),.done (.done (.bool (decide ((w64 (x32*sum_15))≤(w64 ((w64 (total*x35))-sum_15)))))) (.bool false),.done (.opt (qb Tryz.prog 22 (vl encI r21.1) (.i n27))) (.fptr (r21.1.flatMap encI.c) ((n27:Int).toNat*1+0)),.done (qB Tryz.prog 3 (.fptr (r21.1.flatMap encI.c) ((n27:Int).toNat*1+0))) (.i x32),.done (.opt (qb Tryz.prog 22 (vl encI w) (.i n27))) (.fptr (w.flatMap encI.c) ((n27:Int).toNat*1+0)),.done (qB Tryz.prog 3 (.fptr (w.flatMap encI.c) ((n27:Int).toNat*1+0))) (.i x35)] (And.intro (ky kR (E:=encI) rfl e_x32) (And.intro (kw ce3 (E:=encI) rfl e_x32 (Nat.le_of_ble_eq_true rfl) rfl) (And.intro (congrArg (fun x=>Pg.done (.bool x)) c33) (And.intro (ky kR (E:=encI) rfl e_x32) (And.intro (kw ce3 (E:=encI) rfl e_x32 (Nat.le_of_ble_eq_true rfl) rfl) (And.intro (congrArg (fun x=>Pg.done (.bool x)) c34) (And.intro (ky kR (E:=encI) rfl e_x32) (And.intro (kw ce3 (E:=encI) rfl e_x32 (Nat.le_of_ble_eq_true rfl) rfl) (And.intro (ky kR (E:=encI) rfl e_x35) (And.intro (kw ce3 (E:=encI) rfl e_x35 (Nat.le_of_ble_eq_true rfl) rfl) (And.intro (congrArg (fun x=>Pg.done (.bool x)) c36) (And.intro (ky kR (E:=encI) rfl e_x32) (And.intro (kw ce3 (E:=encI) rfl e_x32 (Nat.le_of_ble_eq_true rfl) rfl) (And.intro (ky kR (E:=encI) rfl e_x35) (And.intro (kw ce3 (E:=encI) rfl e_x35 (Nat.le_of_ble_eq_true rfl) rfl) trivial)))))))))))))))
       refine Goes.ifB (b:=b37) (by kernel_rfl) (fun c39=>?_) (fun c39=>?_)
       ·rw[if_pos (c39)]at g29
        refine sq ?_
        refine Goes.rg fol [(6,.bool false)] [] ?_
        refine Goes.ret ?_
        obtain rfl:=Option.some.inj g29
        exact Or.inr (⟨rfl,_,rfl,(Goes.retW (xs:=[.bool false]) (by kernel_rfl) (FzW.still (Still.bool 11 _)))⟩)
       ·rw[if_neg (by rw[c39];exact Bool.false_ne_true)]at g29
        refine Goes.skip ?_
        refine sq ?_
        refine sq ?_
        refine Goes.rg fol [(0,.i total),(1,vl encI w),(2,.i key),(7,.i sum_15),(9,vl encI r21.1),(11,.i left_26),(12,.i n27),(82,.i (r21.1.length:Int)),(83,.i n27),(134,.i (r21.1.length:Int)),(135,.i 0)] [] ?_
        refine Goes.block ?_
        obtain⟨r41,g41,g29⟩:=bnd g29
        refine Goes.imp (Q:=fun x s'=>(x= .exit 4∧(.inl ())=r41∧Sub s' (ofG 222 [(0,.i total),(1,vl encI w),(2,.i key),(7,.i sum_15),(9,vl encI r21.1),(11,.i left_26),(12,.i n27),(82,.i (r21.1.length:Int)),(83,.i n27)],[]))∨(x= .ret∧ ∃q42,(.inr q42)=r41∧zL Tryz.prog [.tmp 6] (.bool q42) .ret s')) ?_ ?_
        ·refine Goes.loopS (fun M s=> ∃(n40:Int),s=(ofG 222 [(0,.i total),(1,vl encI w),(2,.i key),(7,.i sum_15),(9,vl encI r21.1),(11,.i left_26),(12,.i n27),(82,.i (r21.1.length:Int)),(83,.i n27),(134,.i (r21.1.length:Int)),(135,.i n40)],[])∧qH w r21 n27 M n40=some r41) ?_ (m:=N) ⟨_,rfl,g41⟩
         rintro M s ⟨n40,rfl,g41⟩
         cases M with
         |zero=>simp only[qH]at g41;cases g41
         |succ M=>
          rw[qH]at g41
          refine sq ?_
          refine Goes.rg fol [(0,.i total),(1,vl encI w),(2,.i key),(7,.i sum_15),(9,vl encI r21.1),(11,.i left_26),(12,.i n27),(82,.i (r21.1.length:Int)),(83,.i n27),(134,.i (r21.1.length:Int)),(135,.i n40),(136,.bool (decide (n40<(r21.1.length:Int))))] [] ?_
          refine sq ?_
          refine Goes.ifB (b:=decide (n40<(r21.1.length:Int))) (by kernel_rfl) (fun c43=>?_) (fun c43=>?_)
          ·rw[if_pos (ot c43)]at g41
           refine Goes.skip ?_
           refine sq ?_
           refine Goes.block ?_
           refine sq ?_
           refine Goes.rg fol [(0,.i total),(1,vl encI w),(2,.i key),(7,.i sum_15),(9,vl encI r21.1),(11,.i left_26),(12,.i n27),(13,.i n40),(82,.i (r21.1.length:Int)),(83,.i n27),(134,.i (r21.1.length:Int)),(135,.i n40)] [] ?_
           refine sq ?_
           obtain⟨b49,g_v50,g41⟩:=bnd g41
           refine Goes.cut (s':=(ofG 222 [(0,.i total),(1,vl encI w),(2,.i key),(7,.i sum_15),(9,vl encI r21.1),(11,.i left_26),(12,.i n27),(82,.i (r21.1.length:Int)),(83,.i n27),(134,.i (r21.1.length:Int)),(135,.i n40),(157,.bool b49)],[])) ?_ ?_
           ·obtain⟨x44,e_x44,g_v50⟩:=bnd g_v50
            obtain⟨x45,e_x45,g_v50⟩:=bnd g_v50
            rcases Bool.eq_false_or_eq_true (decide (x44>x45))with c46|c46
            ·rw[if_pos (ot c46)]at g_v50
             obtain⟨x47,e_x47,g_v50⟩:=bnd g_v50
             obtain⟨x48,e_x48,g_v50⟩:=bnd g_v50
             obtain rfl:=Option.some.inj g_v50
             exact qE.ro fol [(2,(.done (.fptr (w.flatMap encI.c) ((n27:Int).toNat*1+0)))),(3,(.done (.i x44))),(6,(.done (.fptr (w.flatMap encI.c) ((n40:Int).toNat*1+0)))),(7,(.done (.i x45))),(9,(.done (.bool true))),(12,(.done (.fptr (r21.1.flatMap encI.c) ((n27:Int).toNat*1+0)))),(13,(.done (.i x47))),(16,(.done (.fptr (r21.1.flatMap encI.c) ((n40:Int).toNat*1+0)))),(17,(.done (.i x48)))] [(0,.i total),(1,vl encI w),(2,.i key),(7,.i sum_15),(9,vl encI r21.1),(11,.i left_26),(12,.i n27),(82,.i (r21.1.length:Int)),(83,.i n27),(134,.i (r21.1.length:Int)),(135,.i n40),(157,.bool (decide (x47<x48)))] [] [.done (.opt (qb Tryz.prog 22 (vl encI w) (.i n27))) (.fptr (w.flatMap encI.c) ((n27:Int).toNat*1+0)),.done (qB Tryz.prog 3 (.fptr (w.flatMap encI.c) ((n27:Int).toNat*1+0))) (.i x44),.done (.opt (qb Tryz.prog 22 (vl encI w) (.i n40))) (.fptr (w.flatMap encI.c) ((n40:Int).toNat*1+0)),.done (qB Tryz.prog 3 (.fptr (w.flatMap encI.c) ((n40:Int).toNat*1+0))) (.i x45),.done (.done (.bool (decide (x44>x45)))) (.bool true),.done (.opt (qb Tryz.prog 22 (vl encI r21.1) (.i n27))) (.fptr (r21.1.flatMap encI.c) ((n27:Int).toNat*1+0)),.done (qB Tryz.prog 3 (.fptr (r21.1.flatMap encI.c) ((n27:Int).toNat*1+0))) (.i x47),.done (.opt (qb Tryz.prog 22 (vl encI r21.1) (.i n40))) (.fptr (r21.1.flatMap encI.c) ((n40:Int).toNat*1+0)),.done (qB Tryz.prog 3 (.fptr (r21.1.flatMap encI.c) ((n40:Int).toNat*1+0))) (.i x48)] (And.intro (ky kR (E:=encI) rfl e_x44) (And.intro (kw ce3 (E:=encI) rfl e_x44 (Nat.le_of_ble_eq_true rfl) rfl) (And.intro (ky kR (E:=encI) rfl e_x45) (And.intro (kw ce3 (E:=encI) rfl e_x45 (Nat.le_of_ble_eq_true rfl) rfl) (And.intro (congrArg (fun x=>Pg.done (.bool x)) c46) (And.intro (ky kR (E:=encI) rfl e_x47) (And.intro (kw ce3 (E:=encI) rfl e_x47 (Nat.le_of_ble_eq_true rfl) rfl) (And.intro (ky kR (E:=encI) rfl e_x48) (And.intro (kw ce3 (E:=encI) rfl e_x48 (Nat.le_of_ble_eq_true rfl) rfl) trivial)))))))))
            ·rw[if_neg (of_ c46)]at g_v50
             obtain rfl:=Option.some.inj g_v50
             exact qE.ro fol [(2,(.done (.fptr (w.flatMap encI.c) ((n27:Int).toNat*1+0)))),(3,(.done (.i x44))),(6,(.done (.fptr (w.flatMap encI.c) ((n40:Int).toNat*1+0)))),(7,(.done (.i x45))),(9,(.done (.bool false)))] [(0,.i total),(1,vl encI w),(2,.i key),(7,.i sum_15),(9,vl encI r21.1),(11,.i left_26),(12,.i n27),(82,.i (r21.1.length:Int)),(83,.i n27),(134,.i (r21.1.length:Int)),(135,.i n40),(157,.bool false)] [] [.done (.opt (qb Tryz.prog 22 (vl encI w) (.i n27))) (.fptr (w.flatMap encI.c) ((n27:Int).toNat*1+0)),.done (qB Tryz.prog 3 (.fptr (w.flatMap encI.c) ((n27:Int).toNat*1+0))) (.i x44),.done (.opt (qb Tryz.prog 22 (vl encI w) (.i n40))) (.fptr (w.flatMap encI.c) ((n40:Int).toNat*1+0)),.done (qB Tryz.prog 3 (.fptr (w.flatMap encI.c) ((n40:Int).toNat*1+0))) (.i x45),.done (.done (.bool (decide (x44>x45)))) (.bool false)] (And.intro (ky kR (E:=encI) rfl e_x44) (And.intro (kw ce3 (E:=encI) rfl e_x44 (Nat.le_of_ble_eq_true rfl) rfl) (And.intro (ky kR (E:=encI) rfl e_x45) (And.intro (kw ce3 (E:=encI) rfl e_x45 (Nat.le_of_ble_eq_true rfl) rfl) (And.intro (congrArg (fun x=>Pg.done (.bool x)) c46) trivial)))))
           refine Goes.ifB (b:=b49) (by kernel_rfl) (fun c51=>?_) (fun c51=>?_)
           ·rw[if_pos (c51)]at g41
            refine sq ?_
            refine Goes.rg fol [(6,.bool false)] [] ?_
            refine Goes.ret ?_
            obtain rfl:=Option.some.inj g41
            exact Or.inr (⟨rfl,_,rfl,(Goes.retW (xs:=[.bool false]) (by kernel_rfl) (FzW.still (Still.bool 11 _)))⟩)
           ·rw[if_neg (by rw[c51];exact Bool.false_ne_true)]at g41
            refine Goes.skip ?_
            refine Goes.rg fol [(0,.i total),(1,vl encI w),(2,.i key),(7,.i sum_15),(9,vl encI r21.1),(11,.i left_26),(12,.i n27),(82,.i (r21.1.length:Int)),(83,.i n27),(134,.i (r21.1.length:Int)),(135,.i (w64 (n40+1)))] [] ?_
            exact⟨M,(ofG 222 [(0,.i total),(1,vl encI w),(2,.i key),(7,.i sum_15),(9,vl encI r21.1),(11,.i left_26),(12,.i n27),(82,.i (r21.1.length:Int)),(83,.i n27),(134,.i (r21.1.length:Int)),(135,.i (w64 (n40+1)))],[]),Nat.lt_succ_self _,(Sub.refl _),_,rfl,g41⟩
          ·rw[if_neg (of_ c43)]at g41
           refine Goes.exit ?_
           obtain rfl:=Option.some.inj g41
           exact Or.inl (⟨rfl,rfl,(Sub.keep [0,1,2,7,9,11,12,82,83] rfl rfl)⟩)
        rintro x s' (⟨rfl,rfl,hsub⟩|⟨rfl,q53,rfl,hret⟩)
        ·try dsimp only at g29
         refine Goes.sub hsub ?_
         obtain⟨x52,e_x52,g29⟩:=bnd g29
         refine Goes.ro fol [(3,(.done (.fptr (r21.1.flatMap encI.c) ((n27:Int).toNat*1+0)))),(4,(.done (.i x52)))] [(0,.i total),(1,vl encI w),(2,.i key),(7,.i sum_15),(9,vl encI r21.1),(11,.i (w64 (left_26-x52))),(82,.i (r21.1.length:Int)),(83,.i n27)] [] [.done (.opt (qb Tryz.prog 22 (vl encI r21.1) (.i n27))) (.fptr (r21.1.flatMap encI.c) ((n27:Int).toNat*1+0)),.done (qB Tryz.prog 3 (.fptr (r21.1.flatMap encI.c) ((n27:Int).toNat*1+0))) (.i x52)] (And.intro (ky kR (E:=encI) rfl e_x52) (And.intro (kw ce3 (E:=encI) rfl e_x52 (Nat.le_of_ble_eq_true rfl) rfl) trivial)) ?_
         refine Goes.rg fol [(0,.i total),(1,vl encI w),(2,.i key),(7,.i sum_15),(9,vl encI r21.1),(11,.i (w64 (left_26-x52))),(82,.i (r21.1.length:Int)),(83,.i (w64 (n27+1)))] [] ?_
         exact⟨M,(ofG 222 [(0,.i total),(1,vl encI w),(2,.i key),(7,.i sum_15),(9,vl encI r21.1),(11,.i (w64 (left_26-x52))),(82,.i (r21.1.length:Int)),(83,.i (w64 (n27+1)))],[]),Nat.lt_succ_self _,(Sub.refl _),_,_,rfl,g29⟩
        ·try dsimp only at g29
         obtain rfl:=Option.some.inj g29
         exact Or.inr (⟨rfl,_,rfl,hret⟩)
      ·rw[if_neg (of_ c31)]at g29
       refine Goes.exit ?_
       obtain rfl:=Option.some.inj g29
       exact Or.inl (⟨rfl,_,rfl,(Sub.keep [0,2,11] rfl rfl)⟩)
    rintro x s' (⟨rfl,left_28,rfl,hsub⟩|⟨rfl,q78,rfl,hret⟩)
    ·try dsimp only at h
     refine Goes.sub hsub ?_
     refine sq ?_
     refine Goes.rg fol [(2,.i key),(11,.i left_28),(14,.i (total.tmod 41))] [] ?_
     refine sq ?_
     obtain⟨r54,e_r54,h⟩:=bnd h
     refine Goes.ro fol [(2,(.call [] [.i key,.i (total.tmod 41)] (.tuple [vl encI r54.1,.i r54.2])))] [(2,.i key),(11,.i left_28),(14,.i (total.tmod 41)),(15,vl encI r54.1),(16,.i r54.2)] [] [.call 23 [.i key,.i (total.tmod 41)] [] [] [.i key,.i (total.tmod 41)] (.tuple [vl encI r54.1,.i r54.2])] (And.intro (qU (AllST.cons (Still.int 11 _ _) (AllST.cons (Still.int 11 _ _) AllST.nil)) (vN N key (total.tmod 41) e_r54) (Still.tuple (AllST.cons (zi encI _ (Nat.le_of_ble_eq_true rfl)) (AllST.cons (Still.int 10 _ _) AllST.nil)))) trivial) ?_
     refine sq ?_
     refine sq ?_
     obtain⟨b59,g_v60,h⟩:=bnd h
     refine Goes.cut (s':=(ofG 222 [(2,.i key),(14,.i (total.tmod 41)),(15,vl encI r54.1),(190,.bool b59)],[])) ?_ ?_
     ·rcases Bool.eq_false_or_eq_true (!decide (left_28=0))with c55|c55
      ·rw[if_pos (c55)]at g_v60
       obtain rfl:=Option.some.inj g_v60
       exact qE.ro fol [(2,(.done (.bool true)))] [(2,.i key),(14,.i (total.tmod 41)),(15,vl encI r54.1),(190,.bool true)] [] [.done (.done (.bool (!decide (left_28=0)))) (.bool true)] (And.intro (congrArg (fun x=>Pg.done (.bool x)) c55) trivial)
      ·rw[if_neg (by rw[c55];exact Bool.false_ne_true)]at g_v60
       rcases Bool.eq_false_or_eq_true (!decide (r54.2=0))with c56|c56
       ·rw[if_pos (c56)]at g_v60
        obtain rfl:=Option.some.inj g_v60
        exact qE.ro fol [(2,(.done (.bool false))),(6,(.done (.bool true)))] [(2,.i key),(14,.i (total.tmod 41)),(15,vl encI r54.1),(190,.bool true)] [] [.done (.done (.bool (!decide (left_28=0)))) (.bool false),.done (.done (.bool (!decide (r54.2=0)))) (.bool true)] (And.intro (congrArg (fun x=>Pg.done (.bool x)) c55) (And.intro (congrArg (fun x=>Pg.done (.bool x)) c56) trivial))
       ·rw[if_neg (by rw[c56];exact Bool.false_ne_true)]at g_v60
        rcases Bool.eq_false_or_eq_true (!decide ((r54.1.length:Int)=(total.tmod 41)))with c57|c57
        ·rw[if_pos (c57)]at g_v60
         obtain rfl:=Option.some.inj g_v60
         exact qE.ro fol [(2,(.done (.bool false))),(6,(.done (.bool false))),(12,(.done (.bool true)))] [(2,.i key),(14,.i (total.tmod 41)),(15,vl encI r54.1),(190,.bool true)] [] [.done (.done (.bool (!decide (left_28=0)))) (.bool false),.done (.done (.bool (!decide (r54.2=0)))) (.bool false),.done (.done (.bool (!decide ((r54.1.length:Int)=(total.tmod 41))))) (.bool true)] (And.intro (congrArg (fun x=>Pg.done (.bool x)) c55) (And.intro (congrArg (fun x=>Pg.done (.bool x)) c56) (And.intro (congrArg (fun x=>Pg.done (.bool x)) c57) trivial)))
        ·rw[if_neg (by rw[c57];exact Bool.false_ne_true)]at g_v60
         obtain⟨r58,e_r58,g_v60⟩:=bnd g_v60
         obtain rfl:=Option.some.inj g_v60
         exact qE.ro fol [(2,(.done (.bool false))),(6,(.done (.bool false))),(12,(.done (.bool false))),(14,(.call [] [vl encI r54.1] (.i r58)))] [(2,.i key),(14,.i (total.tmod 41)),(15,vl encI r54.1),(190,.bool (!decide (r58=0)))] [] [.done (.done (.bool (!decide (left_28=0)))) (.bool false),.done (.done (.bool (!decide (r54.2=0)))) (.bool false),.done (.done (.bool (!decide ((r54.1.length:Int)=(total.tmod 41))))) (.bool false),.call 11 [vl encI r54.1] [] [] [vl encI r54.1] (.i r58)] (And.intro (congrArg (fun x=>Pg.done (.bool x)) c55) (And.intro (congrArg (fun x=>Pg.done (.bool x)) c56) (And.intro (congrArg (fun x=>Pg.done (.bool x)) c57) (And.intro (qU (AllST.cons (zi encI _ (Nat.le_of_ble_eq_true rfl)) AllST.nil) (yS N r54.1 e_r58) (Still.int 11 _ _)) trivial))))
     refine Goes.ifB (b:=b59) (by kernel_rfl) (fun c61=>?_) (fun c61=>?_)
     ·rw[if_pos (c61)]at h
      refine sq ?_
      refine Goes.rg fol [(6,.bool false)] [] ?_
      refine Goes.ret ?_
      obtain rfl:=Option.some.inj h
      exact(Goes.retW (xs:=[.bool false]) (by kernel_rfl) (FzW.still (Still.bool 11 _)))
     ·rw[if_neg (by rw[c61];exact Bool.false_ne_true)]at h
      refine Goes.skip ?_
      refine sq ?_
      refine sq ?_
      refine Goes.rg fol [(2,.i key),(14,.i (total.tmod 41)),(15,vl encI r54.1),(192,.bool (decide ((total.tmod 41)=0)))] [] ?_
      refine Goes.ifB (b:=decide ((total.tmod 41)=0)) (by kernel_rfl) (fun c62=>?_) (fun c62=>?_)
      ·rw[if_pos (ot c62)]at h
       refine sq ?_
       refine Goes.rg fol [(6,.bool true)] [] ?_
       refine Goes.ret ?_
       obtain rfl:=Option.some.inj h
       exact(Goes.retW (xs:=[.bool true]) (by kernel_rfl) (FzW.still (Still.bool 11 _)))
      ·rw[if_neg (of_ c62)]at h
       refine Goes.skip ?_
       refine sq ?_
       obtain⟨r63,e_r63,h⟩:=bnd h
       refine Goes.ro fol [(3,(.call [] [.i key,.i (w64 ((total.tmod 41)-1))] (.tuple [vl encI r63.1,.i r63.2])))] [(14,.i (total.tmod 41)),(15,vl encI r54.1),(17,vl encI r63.1),(18,.i r63.2)] [] [.call 23 [.i key,.i (w64 ((total.tmod 41)-1))] [] [] [.i key,.i (w64 ((total.tmod 41)-1))] (.tuple [vl encI r63.1,.i r63.2])] (And.intro (qU (AllST.cons (Still.int 11 _ _) (AllST.cons (Still.int 11 _ _) AllST.nil)) (vN N key (w64 ((total.tmod 41)-1)) e_r63) (Still.tuple (AllST.cons (zi encI _ (Nat.le_of_ble_eq_true rfl)) (AllST.cons (Still.int 10 _ _) AllST.nil)))) trivial) ?_
       refine sq ?_
       refine Goes.rg fol [(14,.i (total.tmod 41)),(15,vl encI r54.1),(17,vl encI r63.1),(18,.i r63.2),(19,.nilslice)] [] ?_
       refine sq ?_
       refine sq ?_
       refine Goes.rg fol [(14,.i (total.tmod 41)),(17,vl encI r63.1),(18,.i r63.2),(19,.nilslice),(200,vl encI r54.1),(201,.i (r54.1.length:Int)),(202,.i 0)] [] ?_
       refine Goes.block ?_
       obtain⟨r67,g67,h⟩:=bnd h
       refine Goes.imp (Q:=fun x s'=>(x= .exit 6∧ ∃l66,l66=r67∧Sub s' (ofG 222 [(17,vl encI r63.1),(18,.i r63.2),(19,.gslice 0 l66.length 1)],[.cells (l66.flatMap encI.c)]))) ?_ ?_
       ·refine Goes.sub (s':=(ofG 222 [(14,.i (total.tmod 41)),(17,vl encI r63.1),(18,.i r63.2),(19,.gslice 0 ([]:List Int).length 1),(200,vl encI r54.1),(201,.i (r54.1.length:Int)),(202,.i 0)],[.cells (([]:List Int).flatMap encI.c)])) (Sub.norm [] [none] rfl rfl (.keep (.same (qc.int _ _)) (.keep (.same (qM encI _)) (.keep (.same (qc.int _ _)) (.keep .nil (.keep (.same (qM encI _)) (.keep (.same (qc.int _ _)) (.keep (.same (qc.int _ _)) .nil))))))) (.fresh .nil)) ?_
        refine Goes.loopS (fun M s=> ∃(l64:List Int) (n65:Int),s=(ofG 222 [(14,.i (total.tmod 41)),(17,vl encI r63.1),(18,.i r63.2),(19,.gslice 0 l64.length 1),(200,vl encI r54.1),(201,.i (r54.1.length:Int)),(202,.i n65)],[.cells (l64.flatMap encI.c)])∧qI total r54 M l64 n65=some r67) ?_ (m:=N) ⟨_,_,rfl,g67⟩
        rintro M s ⟨l64,n65,rfl,g67⟩
        cases M with
        |zero=>simp only[qI]at g67;cases g67
        |succ M=>
         rw[qI]at g67
         refine sq ?_
         refine Goes.rg fol [(14,.i (total.tmod 41)),(17,vl encI r63.1),(18,.i r63.2),(19,.gslice 0 l64.length 1),(200,vl encI r54.1),(201,.i (r54.1.length:Int)),(202,.i n65),(203,.bool (decide (n65<(r54.1.length:Int))))] [.cells (l64.flatMap encI.c)] ?_
         refine sq ?_
         refine Goes.ifB (b:=decide (n65<(r54.1.length:Int))) (by kernel_rfl) (fun c68=>?_) (fun c68=>?_)
         ·rw[if_pos (ot c68)]at g67
          refine Goes.skip ?_
          refine sq ?_
          obtain⟨r70,g70,g67⟩:=bnd g67
          refine Goes.imp (Q:=fun x s'=>(x= .normal∧ ∃l69,l69=r70∧Sub s' (ofG 222 [(14,.i (total.tmod 41)),(17,vl encI r63.1),(18,.i r63.2),(19,.gslice 0 l69.length 1),(200,vl encI r54.1),(201,.i (r54.1.length:Int)),(202,.i n65)],[.cells (l69.flatMap encI.c)]))) ?_ ?_
          ·refine Goes.block ?_
           refine sq ?_
           obtain⟨x71,e_x71,g70⟩:=bnd g70
           refine Goes.ro fol [(0,(.done (.fptr (r54.1.flatMap encI.c) ((n65:Int).toNat*1+0)))),(1,(.done (.i x71)))] [(14,.i (total.tmod 41)),(17,vl encI r63.1),(18,.i r63.2),(19,.gslice 0 l64.length 1),(21,.i x71),(200,vl encI r54.1),(201,.i (r54.1.length:Int)),(202,.i n65)] [.cells (l64.flatMap encI.c)] [.done (.opt (qb Tryz.prog 22 (vl encI r54.1) (.i n65))) (.fptr (r54.1.flatMap encI.c) ((n65:Int).toNat*1+0)),.done (qB Tryz.prog 3 (.fptr (r54.1.flatMap encI.c) ((n65:Int).toNat*1+0))) (.i x71)] (And.intro (ky kR (E:=encI) rfl e_x71) (And.intro (kw ce3 (E:=encI) rfl e_x71 (Nat.le_of_ble_eq_true rfl) rfl) trivial)) ?_
           refine sq ?_
           refine Goes.rg fol [(14,.i (total.tmod 41)),(17,vl encI r63.1),(18,.i r63.2),(19,.gslice 0 l64.length 1),(21,.i x71),(200,vl encI r54.1),(201,.i (r54.1.length:Int)),(202,.i n65),(209,.bool (!decide (x71=(w64 ((total.tmod 41)-1)))))] [.cells (l64.flatMap encI.c)] ?_
           refine Goes.ifB (b:=!decide (x71=(w64 ((total.tmod 41)-1)))) (by kernel_rfl) (fun c72=>?_) (fun c72=>?_)
           ·rw[if_pos (c72)]at g70
            obtain⟨l73,e_l73,g70⟩:=bnd g70
            refine Goes.ro fol [(3,(.run (.gslice 2 l73.length 1) [.dead,.cells [.i x71],.cells (l73.flatMap encI.c)] true))] [(14,.i (total.tmod 41)),(17,vl encI r63.1),(18,.i r63.2),(19,.gslice 2 l73.length 1),(200,vl encI r54.1),(201,.i (r54.1.length:Int)),(202,.i n65)] [.dead,.cells [.i x71],.cells (l73.flatMap encI.c)] [.run [0,1] (jD Tryz.prog [22,22] (.gslice 0 l64.length 1) (.slice 1 0 1 1 1)) [.cells (l64.flatMap encI.c),.cells [.i x71]] (.gslice 2 l73.length 1) [.dead,.cells [.i x71],.cells (l73.flatMap encI.c)] true] (And.intro (qbk kR (E:=encI) rfl (qdM (E:=encI) (ys:=[x71]) rfl rfl rfl rfl) (qeT (E:=encI) (l:=l64) rfl rfl rfl e_l73 rfl)) trivial) ?_
            obtain rfl:=Option.some.inj g70
            exact⟨rfl,_,rfl,(Sub.norm [] [some 2] rfl rfl (.keep (.same (qc.int _ _)) (.keep (.same (qM encI _)) (.keep (.same (qc.int _ _)) (.keep (.gslice rfl) (.keep (.same (qM encI _)) (.keep (.same (qc.int _ _)) (.keep (.same (qc.int _ _)) .nil))))))) (.keep rfl (.same fa) rfl rfl .nil))⟩
           ·rw[if_neg (by rw[c72];exact Bool.false_ne_true)]at g70
            refine Goes.skip ?_
            obtain rfl:=Option.some.inj g70
            exact⟨rfl,_,rfl,(Sub.keep [14,17,18,19,200,201,202] rfl rfl)⟩
          rintro x s' ⟨rfl,l69,rfl,hsub⟩
          refine Goes.sub hsub ?_
          refine Goes.rg fol [(14,.i (total.tmod 41)),(17,vl encI r63.1),(18,.i r63.2),(19,.gslice 0 l69.length 1),(200,vl encI r54.1),(201,.i (r54.1.length:Int)),(202,.i (w64 (n65+1)))] [.cells (l69.flatMap encI.c)] ?_
          exact⟨M,(ofG 222 [(14,.i (total.tmod 41)),(17,vl encI r63.1),(18,.i r63.2),(19,.gslice 0 l69.length 1),(200,vl encI r54.1),(201,.i (r54.1.length:Int)),(202,.i (w64 (n65+1)))],[.cells (l69.flatMap encI.c)]),Nat.lt_succ_self _,(Sub.refl _),_,_,rfl,g67⟩
         ·rw[if_neg (of_ c68)]at g67
          refine Goes.exit ?_
          obtain rfl:=Option.some.inj g67
          exact⟨rfl,_,rfl,(Sub.keep [17,18,19] rfl rfl)⟩
       rintro x s' ⟨rfl,l66,rfl,hsub⟩
       refine Goes.sub hsub ?_
       refine sq ?_
       obtain⟨b76,g_v77,h⟩:=bnd h
       refine Goes.cut (s':=(ofG 222 [(6,.bool b76)],[.cells (l66.flatMap encI.c)])) ?_ ?_
       ·rcases Bool.eq_false_or_eq_true (decide (r63.2=0))with c74|c74
        ·rw[if_pos (ot c74)]at g_v77
         obtain⟨r75,e_r75,g_v77⟩:=bnd g_v77
         obtain rfl:=Option.some.inj g_v77
         exact qE.ro fol [(2,(.done (.bool true))),(5,(.call [0] [vl encI r63.1,vl encI l66] (.bool r75)))] [(6,.bool r75)] [.cells (l66.flatMap encI.c)] [.done (.done (.bool (decide (r63.2=0)))) (.bool true),.call 26 [vl encI r63.1,.gslice 0 l66.length 1] [.cells (l66.flatMap encI.c)] [0] [vl encI r63.1,vl encI l66] (.bool r75)] (And.intro (congrArg (fun x=>Pg.done (.bool x)) c74) (And.intro (xC (FzL.cons (Fz.still (zi encI _ (Nat.le_of_ble_eq_true rfl))) (FzL.cons (Fz.gs (E:=encI) rfl rfl (Nat.le_of_ble_eq_true rfl)) FzL.nil)) (xm N r63.1 l66 e_r75) (Still.bool 11 _) rfl) trivial))
        ·rw[if_neg (of_ c74)]at g_v77
         obtain rfl:=Option.some.inj g_v77
         exact qE.ro fol [(2,(.done (.bool false)))] [(6,.bool false)] [.cells (l66.flatMap encI.c)] [.done (.done (.bool (decide (r63.2=0)))) (.bool false)] (And.intro (congrArg (fun x=>Pg.done (.bool x)) c74) trivial)
       refine Goes.ret ?_
       obtain rfl:=Option.some.inj h
       exact(Goes.retW (xs:=[.bool b76]) (by kernel_rfl) (FzW.still (Still.bool 11 _)))
    ·try dsimp only at h
     obtain rfl:=Option.some.inj h
     exact hret
  ·try dsimp only at h
   obtain rfl:=Option.some.inj h
   exact hret
end Go.Av
