/-
  The walk of the law.
-/
import Derived.Test.YtjflombnfhlkaaaGreatDoorQGenO2
import Derived.Test.YtjflombnfhlkaaaGreatDoorAvAwk10
noncomputable section
namespace Go.Av
open Go.Proofs Go.RowKit
set_option linter.unusedSectionVars false
set_option linter.unusedVariables false
set_option linter.unusedSimpArgs false
set_option maxRecDepth 100000
def awk:Option Bool:=some true
theorem qiM {res:Bool} (h:awk=some res):qc Tryz.prog (.fn 15) [] [] (.bool res) []:=by
 obtain rfl:=si h
 exact qj5
def j3 (N:Nat) (a:List qb) (b:List qb):Option Bool:=
 (vv N a).bind fun r1=>
 (vv N b).bind fun r2=>
 ((zx N r1 16).bind fun r3=>
 if(!r3)=true then
 some true
 else
 (zx N r2 16).bind fun r5=>
 some (!r5):Option Bool).bind fun b6=>
 if b6=true then
 (awk).bind fun r9=>
 some r9
 else
 (zH N r1).bind fun r10=>
 (qA N a).bind fun r11=>
 if(!decide (r11=r10))=true then
 some false
 else
 (vK N a b).bind fun r13=>
 (jm N a).bind fun r14=>
 (zH N r2).bind fun r15=>
 (yP N ([r10,r15]:List Int)).bind fun r16=>
 ((if r16=0 then
 (vB N r1 r2).bind fun r21=>
 some (r21.2,r21.1)
 else
 some (r16,[]):Option (Int×(List qb)))).bind fun(n17,l18)=>
 ((if r10=0 then
 (vE N r1).bind fun r25=>
 some r25
 else
 some []:Option (List qj))).bind fun l22=>
 (if r13.2=n17 then
 (vv N r13.1).bind fun r27=>
 (jP N r27 l18).bind fun r28=>
 if r28=true then
 if r14.2=r10 then
 (yI N r14.1).bind fun r31=>
 (jQ N r31 l22).bind fun r32=>
 if r32=true then
 (awk).bind fun r34=>
 some r34
 else
 some false
 else
 some false
 else
 some false
 else
 some false:Option Bool).bind fun b35=>
 some b35
theorem qaC (N:Nat) (a:List qb) (b:List qb) {res:Bool} (h:j3 N a b=some res):qc Tryz.prog (.fn 12) [vl qa a,vl qa b] [] (.bool res) []:=by
 unfold j3 at h
 refine Goes.fnW Tryz.func12 rfl rfl (m:=85) rfl (rs:=[.tmp 4]) rfl (l:=(kC a (kT b []))) rfl ?_
 refine sh fol (kC a (kT b [])) ?_
 obtain⟨r1,e_r1,h⟩:=bnd h
 obtain⟨r2,e_r2,h⟩:=bnd h
 refine sq (gr fol [1,3] (kC a (kT b (kV r1 r2 []))) (ac (cv (jA N a e_r1)) (ac (cv (jA N b e_r2)) az)) ?_)
 refine sq ?_
 refine sq ?_
 obtain⟨b6,g_v7,h⟩:=bnd h
 refine Goes.cut (s':=(ofG 85 (kC a (kT b (kV r1 r2 [(26,.bool b6)]))),[])) ?_ ?_
 ·obtain⟨r3,e_r3,g_v7⟩:=bnd g_v7
  rcases wyB g_v7 with⟨c4,g_v7⟩|⟨c4,g_v7⟩
  ·obtain rfl:=si g_v7
   exact tr fol [1,3] (kC a (kT b (kV r1 r2 [(26,.bool true)]))) (ac (cv (vI N r1 16 e_r3)) (ac (gw c4) az))
  ·obtain⟨r5,e_r5,g_v7⟩:=bnd g_v7
   obtain rfl:=si g_v7
   exact tr fol [1,3,5] (kC a (kT b (kV r1 r2 [(26,.bool (!r5))]))) (ac (cv (vI N r1 16 e_r3)) (ac (gw c4) (ac (cv (vI N r2 16 e_r5)) az)))
 refine ihB h (fun c8 h=>?_) (fun c8 h=>?_)
 ·obtain⟨r9,e_r9,h⟩:=bnd h
  refine sq (gr fol [0] [(4,.bool r9)] (ac (cv (qiM e_r9)) az) ?_)
  refine Goes.ret ?_
  obtain rfl:=si h
  exact(gw2 [.bool r9] (FzW.still tB))
 ·refine Goes.skip ?_
  obtain⟨r10,e_r10,h⟩:=bnd h
  refine sq (gr fol [1] (kC a (kT b (kV r1 r2 [(7,.i r10)]))) (ac (cv (vJ N r1 e_r10)) az) ?_)
  refine sq ?_
  obtain⟨r11,e_r11,h⟩:=bnd h
  refine sq (gr fol [1] (kC a (kT b (kV r1 r2 [(7,.i r10),(33,.bool (!decide (r11=r10)))]))) (ac (cv (qM N a e_r11)) az) ?_)
  refine ihB h (fun c12 h=>?_) (fun c12 h=>?_)
  ·refine sh fol kAF ?_
   refine Goes.ret ?_
   obtain rfl:=si h
   exact(gw2 [.bool false] (FzW.still tB))
  ·refine Goes.skip ?_
   obtain⟨r13,e_r13,h⟩:=bnd h
   refine sq (gr fol [2] (kC a (kV r1 r2 [(7,.i r10),(8,vl qa r13.1),(9,.i r13.2)])) (ac (cv (qcl N a b e_r13)) az) ?_)
   obtain⟨r14,e_r14,h⟩:=bnd h
   refine sq (gr fol [1] (kV r1 r2 [(7,.i r10),(8,vl qa r13.1),(9,.i r13.2),(10,vl qf r14.1),(11,.i r14.2)]) (ac (cv (qb7 N a e_r14)) az) ?_)
   obtain⟨r15,e_r15,h⟩:=bnd h
   obtain⟨r16,e_r16,h⟩:=bnd h
   refine sq (gq fol [2,4] (kV r1 r2 (kN r10 r13.1 r13.2 r14.1 r14.2 r16 [])) (kAB r10 r15) (ac (cv (vJ N r2 e_r15)) (ac (hs (.call 28 [.slice 0 0 2 2 1] (kAB r10 r15) [0] [vl encI ([r10,r15]:List Int)] (.i r16)) (vH (FzL.cons (Fz.lit rfl rfl (FzL.still (AllST.cons tI (AllST.cons tI AllST.nil)))) FzL.nil) (qdM N ([r10,r15]:List Int) e_r16) tI rfl)) az)) ?_)
   refine sh fol (kV r1 r2 (kN r10 r13.1 r13.2 r14.1 r14.2 r16 [(13,.nilslice)])) ?_
   refine sh fol (kV r1 r2 (kN r10 r13.1 r13.2 r14.1 r14.2 r16 [(13,.nilslice),(14,.nilslice)])) ?_
   refine sq ?_
   refine sh fol (kV r1 r2 (kN r10 r13.1 r13.2 r14.1 r14.2 r16 [(13,.nilslice),(14,.nilslice),(51,.bool (decide (r16=0)))])) ?_
   obtain⟨r19,g19,h⟩:=bnd h
   refine Goes.imp (Q:=fun x s'=>(x= .normal∧ ∃n17 l18,(n17,l18)=r19∧Sub s' (ofG 85 ((5,vl qa r1)::(kN r10 r13.1 r13.2 r14.1 r14.2 n17 [(13,vl qa l18),(14,.nilslice)])),[]))) ?_ ?_
   ·refine ihD g19 (fun c20 g19=>?_) (fun c20 g19=>?_)
    ·obtain⟨r21,e_r21,g19⟩:=bnd g19
     refine gr fol [2] ((5,vl qa r1)::(kN r10 r13.1 r13.2 r14.1 r14.2 r21.2 [(13,vl qa r21.1),(14,.nilslice)])) (ac (cv (qcz N r1 r2 e_r21)) az) ?_
     obtain rfl:=si g19
     exact⟨rfl,_,_,rfl,(Sub.norm [] [] rfl rfl (.keep (.same (qd qa _)) (.keep (.same nI) (.keep (.same (qd qa _)) (.keep (.same nI) (.keep (.same (qd qf _)) (.keep (.same nI) (.keep (.same nI) (.keep (.same (qd qa _)) (.keep (.same (qo.nilslice)) .nil))))))))) .nil)⟩
    ·refine Goes.skip ?_
     obtain rfl:=si g19
     exact⟨rfl,_,_,rfl,(Sub.norm [] [] rfl rfl (.keep (.same (qd qa _)) (.drop (.keep (.same nI) (.keep (.same (qd qa _)) (.keep (.same nI) (.keep (.same (qd qf _)) (.keep (.same nI) (.keep (.same nI) (.keep .nilv (.keep (.same (qo.nilslice)) .nil)))))))))) .nil)⟩
   rintro x s' ⟨rfl,n17,l18,rfl,hsub⟩
   try dsimp only at h
   refine Goes.sub hsub ?_
   refine sq ?_
   refine sh fol ((5,vl qa r1)::(kN r10 r13.1 r13.2 r14.1 r14.2 n17 [(13,vl qa l18),(14,.nilslice),(59,.bool (decide (r10=0)))])) ?_
   obtain⟨r23,g23,h⟩:=bnd h
   refine Goes.imp (Q:=fun x s'=>(x= .normal∧ ∃l22,l22=r23∧Sub s' (ofG 85 (kN r10 r13.1 r13.2 r14.1 r14.2 n17 [(13,vl qa l18),(14,vl qf l22)]),[]))) ?_ ?_
   ·refine ihD g23 (fun c24 g23=>?_) (fun c24 g23=>?_)
    ·obtain⟨r25,e_r25,g23⟩:=bnd g23
     refine gr fol [1] (kN r10 r13.1 r13.2 r14.1 r14.2 n17 [(13,vl qa l18),(14,vl qf r25)]) (ac (cv (qcy N r1 e_r25)) az) ?_
     obtain rfl:=si g23
     exact⟨rfl,_,rfl,(Sub.refl _)⟩
    ·refine Goes.skip ?_
     obtain rfl:=si g23
     exact⟨rfl,_,rfl,(Sub.norm [] [] rfl rfl (.drop (.keep (.same nI) (.keep (.same (qd qa _)) (.keep (.same nI) (.keep (.same (qd qf _)) (.keep (.same nI) (.keep (.same nI) (.keep (.same (qd qa _)) (.keep .nilv .nil))))))))) .nil)⟩
   rintro x s' ⟨rfl,l22,rfl,hsub⟩
   refine Goes.sub hsub ?_
   refine sq ?_
   obtain⟨b35,g_v36,h⟩:=bnd h
   refine Goes.cut (s':=(ofG 85 [(4,.bool b35)],[])) ?_ ?_
   ·rcases wyD g_v36 with⟨c26,g_v36⟩|⟨c26,g_v36⟩
    ·obtain⟨r27,e_r27,g_v36⟩:=bnd g_v36
     obtain⟨r28,e_r28,g_v36⟩:=bnd g_v36
     rcases wyB g_v36 with⟨c29,g_v36⟩|⟨c29,g_v36⟩
     ·rcases wyD g_v36 with⟨c30,g_v36⟩|⟨c30,g_v36⟩
      ·obtain⟨r31,e_r31,g_v36⟩:=bnd g_v36
       obtain⟨r32,e_r32,g_v36⟩:=bnd g_v36
       rcases wyB g_v36 with⟨c33,g_v36⟩|⟨c33,g_v36⟩
       ·obtain⟨r34,e_r34,g_v36⟩:=bnd g_v36
        obtain rfl:=si g_v36
        exact tr fol [3,5,7,9,14,16,18,20,21] [(4,.bool r34)] (ac (gw c26) (ac (cv (jA N r13.1 e_r27)) (ac (cv (jM N r27 l18 e_r28)) (ac (gw c29) (ac (gw c30) (ac (cv (qaX N r14.1 e_r31)) (ac (cv (xB N r31 l22 e_r32)) (ac (gw c33) (ac (cv (qiM e_r34)) az)))))))))
       ·obtain rfl:=si g_v36
        exact tr fol [3,5,7,9,14,16,18,20] kAF (ac (gw c26) (ac (cv (jA N r13.1 e_r27)) (ac (cv (jM N r27 l18 e_r28)) (ac (gw c29) (ac (gw c30) (ac (cv (qaX N r14.1 e_r31)) (ac (cv (xB N r31 l22 e_r32)) (ac (gw c33) az))))))))
      ·obtain rfl:=si g_v36
       exact tr fol [3,5,7,9,14] kAF (ac (gw c26) (ac (cv (jA N r13.1 e_r27)) (ac (cv (jM N r27 l18 e_r28)) (ac (gw c29) (ac (gw c30) az)))))
     ·obtain rfl:=si g_v36
      exact tr fol [3,5,7,9] kAF (ac (gw c26) (ac (cv (jA N r13.1 e_r27)) (ac (cv (jM N r27 l18 e_r28)) (ac (gw c29) az))))
    ·obtain rfl:=si g_v36
     exact tr fol [3] kAF (ac (gw c26) az)
   refine Goes.ret ?_
   obtain rfl:=si h
   exact(gw2 [.bool b35] (FzW.still tB))
end Go.Av
