/-
  The walk of the law.
-/
import Derived.Test.YtbjpmhdicbgjkaaGreatDoorQGenE6
import Derived.Test.YtbjpmhdicbgjkaaGreatDoorAvAwkE
noncomputable section
namespace Go.Av
open Go.Proofs Go.RowKit
set_option linter.unusedSectionVars false
set_option linter.unusedVariables false
set_option linter.unusedSimpArgs false
set_option maxRecDepth 100000
def awk:Option Bool:=some true
theorem qh8 {res:Bool} (h:awk=some res):qb Tryz.prog (.fn 10) [] [] (.bool res) []:=by
 obtain rfl:=si h
 exact qo7
def xD (N:Nat) (a:Str) (b:Str):Option Bool:=
 ((awk).bind fun r1=>
 if(!r1)=true then
 some true
 else
 if(a.length:Int)>1300 then
 some true
 else
 some (decide ((b.length:Int)>1300)):Option Bool).bind fun b4=>
 if b4=true then
 (awk).bind fun r7=>
 some r7
 else
 (xq N a).bind fun r8=>
 (xq N b).bind fun r9=>
 (qa0 N ([r8,r9]:List Int)).bind fun r10=>
 (xJ N a).bind fun r11=>
 (xq N a).bind fun r12=>
 if(!decide (r11=r12))=true then
 some false
 else
 (qah N a b).bind fun r14=>
 (qaa N a b).bind fun r15=>
 (qae N a b).bind fun r16=>
 (yE N a b).bind fun r17=>
 (yL N a b).bind fun r18=>
 if(!decide (r10=0))=true then
 ((jc N r14.1 r14.2 r10 []).bind fun r20=>
 if r20=true then
 (jc N r15.1 r15.2 r10 []).bind fun r22=>
 if r22=true then
 (jc N r16.1 r16.2 r10 []).bind fun r24=>
 if r24=true then
 (jc N r17.1 r17.2 r10 []).bind fun r26=>
 if r26=true then
 (jS r18.1 r18.2 r10 0).bind fun r28=>
 some r28
 else
 some false
 else
 some false
 else
 some false
 else
 some false:Option Bool).bind fun b29=>
 some b29
 else
 ((qbq N a b).bind fun r31=>
 (jc N r14.1 r14.2 0 r31).bind fun r32=>
 if(!r32)=true then
 some true
 else
 (qbo N a b).bind fun r34=>
 (jc N r15.1 r15.2 0 r34).bind fun r35=>
 if(!r35)=true then
 some true
 else
 (qbu N a b).bind fun r37=>
 (jc N r16.1 r16.2 0 r37).bind fun r38=>
 if(!r38)=true then
 some true
 else
 (qcv N a b).bind fun r40=>
 (jS r18.1 r18.2 0 r40).bind fun r41=>
 some (!r41):Option Bool).bind fun b42=>
 if b42=true then
 some false
 else
 (qas b).bind fun r45=>
 if r45=true then
 (jc N r17.1 r17.2 6 []).bind fun r47=>
 some r47
 else
 (qcn N a b).bind fun r48=>
 (jc N r17.1 r17.2 0 r48).bind fun r49=>
 some r49
theorem qd4 (N:Nat) (a:Str) (b:Str) {res:Bool} (h:xD N a b=some res):qb Tryz.prog (.fn 9) (kAR a b) [] (.bool res) []:=by
 unfold xD at h
 refine Goes.fnW Tryz.func9 rfl rfl (m:=145) rfl (rs:=[.tmp 4]) rfl (l:=(kJ a b [])) rfl ?_
 refine sh fol (kJ a b []) ?_
 refine sq ?_
 refine sq ?_
 obtain⟨b4,g_v5,h⟩:=bnd h
 refine Goes.cut (s':=(ofG 145 (kJ a b [(27,.bool b4)]),[])) ?_ ?_
 ·obtain⟨r1,e_r1,g_v5⟩:=bnd g_v5
  rcases wyB g_v5 with⟨c2,g_v5⟩|⟨c2,g_v5⟩
  ·obtain rfl:=si g_v5
   exact tr fol [0,2] (kJ a b [(27,.bool true)]) (ac (cv (qh8 e_r1)) (ac (gw c2) az))
  ·rcases wyD g_v5 with⟨c3,g_v5⟩|⟨c3,g_v5⟩
   ·obtain rfl:=si g_v5
    exact tr fol [0,2,7] (kJ a b [(27,.bool true)]) (ac (cv (qh8 e_r1)) (ac (gw c2) (ac (gw c3) az)))
   ·obtain rfl:=si g_v5
    exact tr fol [0,2,7] (kJ a b [(27,.bool (decide ((b.length:Int)>1300)))]) (ac (cv (qh8 e_r1)) (ac (gw c2) (ac (gw c3) az)))
 refine ihB h (fun c6 h=>?_) (fun c6 h=>?_)
 ·obtain⟨r7,e_r7,h⟩:=bnd h
  refine sq (gr fol [0] (kAl r7) (ac (cv (qh8 e_r7)) az) ?_)
  refine Goes.ret ?_
  obtain rfl:=si h
  exact(gw2 [.bool r7] (FzW.still tB))
 ·refine Goes.skip ?_
  obtain⟨r8,e_r8,h⟩:=bnd h
  obtain⟨r9,e_r9,h⟩:=bnd h
  obtain⟨r10,e_r10,h⟩:=bnd h
  refine sq (gq fol [1,3,5] (kJ a b (kA5 r10)) (kAE r8 r9) (ac (cv (qbA N a e_r8)) (ac (cv (qbA N b e_r9)) (ac (hs (.call 16 [.slice 0 0 2 2 1] (kAE r8 r9) [0] [vl encI ([r8,r9]:List Int)] (.i r10)) (qbE (FzL.cons (Fz.lit rfl rfl (FzL.still (AllST.cons tI (AllST.cons tI AllST.nil)))) FzL.nil) (qgX N ([r8,r9]:List Int) e_r10) tI rfl)) az))) ?_)
  refine sq ?_
  obtain⟨r11,e_r11,h⟩:=bnd h
  obtain⟨r12,e_r12,h⟩:=bnd h
  refine sq (gr fol [1,3] (kJ a b [(5,.i r10),(39,.bool (!decide (r11=r12)))]) (ac (cv (qc7 N a e_r11)) (ac (cv (qbA N a e_r12)) az)) ?_)
  refine ihB h (fun c13 h=>?_) (fun c13 h=>?_)
  ·refine sh fol kAT ?_
   refine Goes.ret ?_
   obtain rfl:=si h
   exact(gw2 [.bool false] (FzW.still tB))
  ·refine Goes.skip ?_
   obtain⟨r14,e_r14,h⟩:=bnd h
   refine sq (gr fol [2] (kJ a b ((5,.i r10)::(kBi r14.1 r14.2 []))) (ac (cv (qhg N a b e_r14)) az) ?_)
   obtain⟨r15,e_r15,h⟩:=bnd h
   refine sq (gr fol [2] (kJ a b ((5,.i r10)::(kBi r14.1 r14.2 [(8,.str r15.1),(9,.i r15.2)]))) (ac (cv (qhd N a b e_r15)) az) ?_)
   obtain⟨r16,e_r16,h⟩:=bnd h
   refine sq (gr fol [2] (kJ a b ((5,.i r10)::(kBi r14.1 r14.2 [(8,.str r15.1),(9,.i r15.2),(10,.str r16.1),(11,.i r16.2)]))) (ac (cv (qhn N a b e_r16)) az) ?_)
   obtain⟨r17,e_r17,h⟩:=bnd h
   refine sq (gr fol [2] (kJ a b ((5,.i r10)::(kBi r14.1 r14.2 ((8,.str r15.1)::(9,.i r15.2)::(10,.str r16.1)::(11,.i r16.2)::(kB9 r17.1 r17.2 []))))) (ac (cv (qhl N a b e_r17)) az) ?_)
   obtain⟨r18,e_r18,h⟩:=bnd h
   refine sq (gr fol [2] (kJ a b ((5,.i r10)::(kBi r14.1 r14.2 ((8,.str r15.1)::(9,.i r15.2)::(10,.str r16.1)::(11,.i r16.2)::(kB9 r17.1 r17.2 [(14,.i r18.1),(15,.i r18.2)]))))) (ac (cv (qfG N a b e_r18)) az) ?_)
   refine sq ?_
   refine sh fol (kJ a b ((5,.i r10)::(kBi r14.1 r14.2 ((8,.str r15.1)::(9,.i r15.2)::(10,.str r16.1)::(11,.i r16.2)::(kB9 r17.1 r17.2 [(14,.i r18.1),(15,.i r18.2),(71,.bool (!decide (r10=0)))]))))) ?_
   refine ihB h (fun c19 h=>?_) (fun c19 h=>?_)
   ·refine sq ?_
    obtain⟨b29,g_v30,h⟩:=bnd h
    refine Goes.cut (s':=(ofG 145 (kAl b29),(kAE r8 r9))) ?_ ?_
    ·obtain⟨r20,e_r20,g_v30⟩:=bnd g_v30
     rcases wyB g_v30 with⟨c21,g_v30⟩|⟨c21,g_v30⟩
     ·obtain⟨r22,e_r22,g_v30⟩:=bnd g_v30
      rcases wyB g_v30 with⟨c23,g_v30⟩|⟨c23,g_v30⟩
      ·obtain⟨r24,e_r24,g_v30⟩:=bnd g_v30
       rcases wyB g_v30 with⟨c25,g_v30⟩|⟨c25,g_v30⟩
       ·obtain⟨r26,e_r26,g_v30⟩:=bnd g_v30
        rcases wyB g_v30 with⟨c27,g_v30⟩|⟨c27,g_v30⟩
        ·obtain⟨r28,e_r28,g_v30⟩:=bnd g_v30
         obtain rfl:=si g_v30
         exact tr fol [3,4,8,10,14,16,20,22,26] (kAl r28) (ac (cv (qz N r14.1 r14.2 r10 [] e_r20)) (ac (gw c21) (ac (cv (qz N r15.1 r15.2 r10 [] e_r22)) (ac (gw c23) (ac (cv (qz N r16.1 r16.2 r10 [] e_r24)) (ac (gw c25) (ac (cv (qz N r17.1 r17.2 r10 [] e_r26)) (ac (gw c27) (ac (cv (qcp r18.1 r18.2 r10 0 e_r28)) az)))))))))
        ·obtain rfl:=si g_v30
         exact tr fol [3,4,8,10,14,16,20,22] kAT (ac (cv (qz N r14.1 r14.2 r10 [] e_r20)) (ac (gw c21) (ac (cv (qz N r15.1 r15.2 r10 [] e_r22)) (ac (gw c23) (ac (cv (qz N r16.1 r16.2 r10 [] e_r24)) (ac (gw c25) (ac (cv (qz N r17.1 r17.2 r10 [] e_r26)) (ac (gw c27) az))))))))
       ·obtain rfl:=si g_v30
        exact tr fol [3,4,8,10,14,16] kAT (ac (cv (qz N r14.1 r14.2 r10 [] e_r20)) (ac (gw c21) (ac (cv (qz N r15.1 r15.2 r10 [] e_r22)) (ac (gw c23) (ac (cv (qz N r16.1 r16.2 r10 [] e_r24)) (ac (gw c25) az))))))
      ·obtain rfl:=si g_v30
       exact tr fol [3,4,8,10] kAT (ac (cv (qz N r14.1 r14.2 r10 [] e_r20)) (ac (gw c21) (ac (cv (qz N r15.1 r15.2 r10 [] e_r22)) (ac (gw c23) az))))
     ·obtain rfl:=si g_v30
      exact tr fol [3,4] kAT (ac (cv (qz N r14.1 r14.2 r10 [] e_r20)) (ac (gw c21) az))
    refine Goes.ret ?_
    obtain rfl:=si h
    exact(gw2 [.bool b29] (FzW.still tB))
   ·refine Goes.skip ?_
    refine sq ?_
    refine sq ?_
    obtain⟨b42,g_v43,h⟩:=bnd h
    refine Goes.cut (s':=(ofG 145 (kJ a b (kB9 r17.1 r17.2 [(133,.bool b42)])),(kAE r8 r9))) ?_ ?_
    ·obtain⟨r31,e_r31,g_v43⟩:=bnd g_v43
     obtain⟨r32,e_r32,g_v43⟩:=bnd g_v43
     rcases wyB g_v43 with⟨c33,g_v43⟩|⟨c33,g_v43⟩
     ·obtain rfl:=si g_v43
      exact tr fol [4,5,7] (kJ a b (kB9 r17.1 r17.2 [(133,.bool true)])) (ac (cv (qal N a b e_r31)) (ac (cv (qz N r14.1 r14.2 0 r31 e_r32)) (ac (gw c33) az)))
     ·obtain⟨r34,e_r34,g_v43⟩:=bnd g_v43
      obtain⟨r35,e_r35,g_v43⟩:=bnd g_v43
      rcases wyB g_v43 with⟨c36,g_v43⟩|⟨c36,g_v43⟩
      ·obtain rfl:=si g_v43
       exact tr fol [4,5,7,12,13,16] (kJ a b (kB9 r17.1 r17.2 [(133,.bool true)])) (ac (cv (qal N a b e_r31)) (ac (cv (qz N r14.1 r14.2 0 r31 e_r32)) (ac (gw c33) (ac (cv (qbm N a b e_r34)) (ac (cv (qz N r15.1 r15.2 0 r34 e_r35)) (ac (gw c36) az))))))
      ·obtain⟨r37,e_r37,g_v43⟩:=bnd g_v43
       obtain⟨r38,e_r38,g_v43⟩:=bnd g_v43
       rcases wyB g_v43 with⟨c39,g_v43⟩|⟨c39,g_v43⟩
       ·obtain rfl:=si g_v43
        exact tr fol [4,5,7,12,13,16,21,22,25] (kJ a b (kB9 r17.1 r17.2 [(133,.bool true)])) (ac (cv (qal N a b e_r31)) (ac (cv (qz N r14.1 r14.2 0 r31 e_r32)) (ac (gw c33) (ac (cv (qbm N a b e_r34)) (ac (cv (qz N r15.1 r15.2 0 r34 e_r35)) (ac (gw c36) (ac (cv (qcL N a b e_r37)) (ac (cv (qz N r16.1 r16.2 0 r37 e_r38)) (ac (gw c39) az)))))))))
       ·obtain⟨r40,e_r40,g_v43⟩:=bnd g_v43
        obtain⟨r41,e_r41,g_v43⟩:=bnd g_v43
        obtain rfl:=si g_v43
        exact tr fol [4,5,7,12,13,16,21,22,25,30,31] (kJ a b (kB9 r17.1 r17.2 [(133,.bool (!r41))])) (ac (cv (qal N a b e_r31)) (ac (cv (qz N r14.1 r14.2 0 r31 e_r32)) (ac (gw c33) (ac (cv (qbm N a b e_r34)) (ac (cv (qz N r15.1 r15.2 0 r34 e_r35)) (ac (gw c36) (ac (cv (qcL N a b e_r37)) (ac (cv (qz N r16.1 r16.2 0 r37 e_r38)) (ac (gw c39) (ac (cv (qiv N a b e_r40)) (ac (cv (qcp r18.1 r18.2 0 r40 e_r41)) az)))))))))))
    refine ihB h (fun c44 h=>?_) (fun c44 h=>?_)
    ·refine sh fol kAT ?_
     refine Goes.ret ?_
     obtain rfl:=si h
     exact(gw2 [.bool false] (FzW.still tB))
    ·refine Goes.skip ?_
     refine sq ?_
     obtain⟨r45,e_r45,h⟩:=bnd h
     refine sq (gr fol [1] (kJ a b (kB9 r17.1 r17.2 [(135,.bool r45)])) (ac (cv (qfy b e_r45)) az) ?_)
     refine ihB h (fun c46 h=>?_) (fun c46 h=>?_)
     ·obtain⟨r47,e_r47,h⟩:=bnd h
      refine sq (gr fol [2] (kAl r47) (ac (cv (qz N r17.1 r17.2 6 [] e_r47)) az) ?_)
      refine Goes.ret ?_
      obtain rfl:=si h
      exact(gw2 [.bool r47] (FzW.still tB))
     ·refine Goes.skip ?_
      obtain⟨r48,e_r48,h⟩:=bnd h
      obtain⟨r49,e_r49,h⟩:=bnd h
      refine sq (gr fol [4,5] (kAl r49) (ac (cv (qiy N a b e_r48)) (ac (cv (qz N r17.1 r17.2 0 r48 e_r49)) az)) ?_)
      refine Goes.ret ?_
      obtain rfl:=si h
      exact(gw2 [.bool r49] (FzW.still tB))
end Go.Av
