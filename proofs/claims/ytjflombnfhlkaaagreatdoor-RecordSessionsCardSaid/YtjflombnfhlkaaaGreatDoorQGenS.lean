/-
  The walk of the law.
-/
import Derived.Test.YtjflombnfhlkaaaGreatDoorQGenS5
import Derived.Test.YtjflombnfhlkaaaGreatDoorAvAwk10
noncomputable section
namespace Go.Av
open Go.Proofs Go.RowKit
set_option linter.unusedSectionVars false
set_option linter.unusedVariables false
set_option linter.unusedSimpArgs false
set_option maxRecDepth 100000
def awk:Option Bool:=some true
theorem qhx {res:Bool} (h:awk=some res):qg Tryz.prog (.fn 15) [] [] (.bool res) []:=by
 obtain rfl:=si h
 exact qpk
def qK (N:Nat) (l:List Str):Nat→(List qb)→(Option (List StateT))→(List qb)→Int→Option (((List qb)×(Option (List StateT))×(List qb))⊕Bool)
 |0,_,_,_,_=>none
 |K+1,l26,o27,l28,n29=>
  if n29<(l.length:Int)then
  (idx l n29).bind fun x36=>
  if(x36.length:Int)>200 then
  (awk).bind fun r38=>
  some (.inr r38)
  else
  (qdx N l28 x36).bind fun r39=>
  (zw N l26 o27 x36).bind fun(l41,o42,s43,n44)=>
  (if(!decide (n44=r39.2.1))=true then
  some true
  else
  some (!(s43==r39.1)):Option Bool).bind fun b46=>
  if b46=true then
  some (.inr false)
  else
  qK N l K l41 o42 r39.2.2 (w64 (n29+1))
  else
  some (.inl (l26,o27,l28))
def yZ (N:Nat) (log:Str) (l:List Str):Option Bool:=
 (if(log.length:Int)>1500 then
 some true
 else
 some (decide ((l.length:Int)>8)):Option Bool).bind fun b2=>
 if b2=true then
 (awk).bind fun r5=>
 some r5
 else
 (qaR N log).bind fun r6=>
 (vZ N r6.1 30).bind fun r7=>
 if(!r7)=true then
 (awk).bind fun r9=>
 some r9
 else
 (qaw N log).bind fun(l11,o12,ok13,n14)=>
 ((if r6.2.2=28 then
 some 0
 else
 some r6.2.2:Option Int)).bind fun n15=>
 ((if n15=0 then
 (vH N r6.1).bind fun r21=>
 some r21.2.2
 else
 some n15:Option Int)).bind fun n18=>
 if(!decide (n18=0))=true then
 (match ok13 with
 |false=>
 if n14=n18 then
 (awk).bind fun r24=>
 some r24
 else
 some false
 |true=>
 some false)
 else
 if(!decide (n14=0))=true then
 some false
 else
 (match ok13 with
 |false=>
 some false
 |true=>
 (qK N l N l11 o12 r6.1 0).bind (fun
 |(.inl (l30,o31,l32))=>
 (yX [117,110,100,111]).bind fun _=>
 ((jB N l30 o31).bind fun l51=>
 (yC N l51 l32).bind fun r52=>
 if r52=true then
 (j3 N l30 o31).bind fun s55=>
 (qcf N l32).bind fun r56=>
 if(s55==r56)=true then
 if 19=19 then
 (vE).bind fun _=>
 if 0=0 then
 (yN).bind fun _=>
 (awk).bind fun r62=>
 some (l51,r62)
 else
 some (l51,false)
 else
 some (l51,false)
 else
 some (l51,false)
 else
 some (l51,false):Option ((List qb)×Bool)).bind fun(l63,b64)=>
 some b64
 |(.inr q66)=>
 some q66))
theorem qdm (N:Nat) (log:Str) (l:List Str) {res:Bool} (h:yZ N log l=some res):qg Tryz.prog (.fn 9) [.str log,vl encS l] [] (.bool res) []:=by
 unfold yZ at h
 refine Goes.fnW Tryz.func9 rfl rfl (m:=139) rfl (rs:=[.tmp 4]) rfl (l:=(kAJ log (kA8 l []))) rfl ?_
 refine sh fol (kAJ log (kA8 l [])) ?_
 refine sq ?_
 refine sq ?_
 obtain⟨b2,g_v3,h⟩:=bnd h
 refine Goes.cut (s':=(ofG 139 (kAJ log (kA8 l [(27,.bool b2)])),[])) ?_ ?_
 ·rcases wyD g_v3 with⟨c1,g_v3⟩|⟨c1,g_v3⟩
  ·obtain rfl:=si g_v3
   exact tr fol [3] (kAJ log (kA8 l [(27,.bool true)])) (ac (gw c1) az)
  ·obtain rfl:=si g_v3
   exact tr fol [3] (kAJ log (kA8 l [(27,.bool (decide ((l.length:Int)>8)))])) (ac (gw c1) az)
 refine ihB h (fun c4 h=>?_) (fun c4 h=>?_)
 ·obtain⟨r5,e_r5,h⟩:=bnd h
  refine sq (gr fol [0] (kAy r5) (ac (cv (qhx e_r5)) az) ?_)
  refine Goes.ret ?_
  obtain rfl:=si h
  exact(gw2 [.bool r5] (FzW.still tB))
 ·refine Goes.skip ?_
  obtain⟨r6,e_r6,h⟩:=bnd h
  refine sq (gr fol [1] (kAJ log (kA8 l (kW r6.1 [(7,.i r6.2.2)]))) (ac (cv (qgD N log e_r6)) az) ?_)
  refine sq ?_
  obtain⟨r7,e_r7,h⟩:=bnd h
  refine sq (gr fol [1] (kAJ log (kA8 l (kW r6.1 [(7,.i r6.2.2),(37,.bool (!r7))]))) (ac (cv (qek N r6.1 30 e_r7)) az) ?_)
  refine ihB h (fun c8 h=>?_) (fun c8 h=>?_)
  ·obtain⟨r9,e_r9,h⟩:=bnd h
   refine sq (gr fol [0] (kAy r9) (ac (cv (qhx e_r9)) az) ?_)
   refine Goes.ret ?_
   obtain rfl:=si h
   exact(gw2 [.bool r9] (FzW.still tB))
  ·refine Goes.skip ?_
   obtain⟨⟨l11,o12,ok13,n14⟩,e_r10,h⟩:=bnd h
   try dsimp only at h
   refine sq (gq fol [1] (kA8 l (kW r6.1 ((7,.i r6.2.2)::(8,pz ok13 0 0)::(kBi n14)))) (kA l11 o12 []) (ac (hs (.callH 49 [.str log] [] [] (.tuple [pz ok13 0 0,.i n14]) (kA l11 o12 [])) (qZ [] [some 0,some 1,some 2] (qf6 N log e_r10) .nil rfl rfl (.new rfl rfl (.cells (rc (.gslice rfl) (rc (.hs rfl) rn))) rfl (.new rfl rfl (.same fa) rfl (.new rfl rfl (.same fa) rfl .nil))) (rc (.same nS) rn) (.tupleL (rc ((kg.pz rfl)) (rc (.same nI) rn))) rfl)) az) ?_)
   refine sq ?_
   refine sh fol (kA8 l (kW r6.1 [(7,.i r6.2.2),(8,pz ok13 0 0),(9,.i n14),(45,.bool (decide (r6.2.2=28)))])) ?_
   obtain⟨r16,g16,h⟩:=bnd h
   refine Goes.imp (Q:=fun x s'=>(x= .normal∧ ∃n15,n15=r16∧Sub s' (ofG 139 (kA8 l (kW r6.1 ((7,.i n15)::(8,pz ok13 0 0)::(kBi n14)))),(kA l11 o12 [])))) ?_ ?_
   ·refine ihD g16 (fun c17 g16=>?_) (fun c17 g16=>?_)
    ·refine gh fol (kA8 l (kW r6.1 ((7,.i 0)::(8,pz ok13 0 0)::(kBi n14)))) ?_
     obtain rfl:=si g16
     exact⟨rfl,_,rfl,(Sub.refl _)⟩
    ·refine Goes.skip ?_
     obtain rfl:=si g16
     exact⟨rfl,_,rfl,(Sub.keep [1,5,7,8,9] rfl rfl)⟩
   rintro x s' ⟨rfl,n15,rfl,hsub⟩
   refine Goes.sub hsub ?_
   refine sq ?_
   refine sh fol (kA8 l (kW r6.1 [(7,.i n15),(8,pz ok13 0 0),(9,.i n14),(47,.bool (decide (n15=0)))])) ?_
   obtain⟨r19,g19,h⟩:=bnd h
   refine Goes.imp (Q:=fun x s'=>(x= .normal∧ ∃n18,n18=r19∧Sub s' (ofG 139 (kA8 l (kW r6.1 ((7,.i n18)::(8,pz ok13 0 0)::(kBi n14)))),(kA l11 o12 [])))) ?_ ?_
   ·refine ihD g19 (fun c20 g19=>?_) (fun c20 g19=>?_)
    ·obtain⟨r21,e_r21,g19⟩:=bnd g19
     refine gr fol [1] (kA8 l (kW r6.1 ((7,.i r21.2.2)::(8,pz ok13 0 0)::(kBi n14)))) (ac (cv (qaV N r6.1 e_r21)) az) ?_
     obtain rfl:=si g19
     exact⟨rfl,_,rfl,(Sub.refl _)⟩
    ·refine Goes.skip ?_
     obtain rfl:=si g19
     exact⟨rfl,_,rfl,(Sub.keep [1,5,7,8,9] rfl rfl)⟩
   rintro x s' ⟨rfl,n18,rfl,hsub⟩
   refine Goes.sub hsub ?_
   refine sq ?_
   refine sh fol (kA8 l (kW r6.1 [(7,.i n18),(8,pz ok13 0 0),(9,.i n14),(55,.bool (!decide (n18=0)))])) ?_
   refine ihB h (fun c22 h=>?_) (fun c22 h=>?_)
   ·refine sq ?_
    rcases ok13 with _|_
    ·try dsimp only at h
     rcases wyD h with⟨c23,h⟩|⟨c23,h⟩
     ·obtain⟨r24,e_r24,h⟩:=bnd h
      refine gr fol [7,8] (kAy r24) (ac (gw c23) (ac (cv (qhx e_r24)) az)) ?_
      refine Goes.ret ?_
      obtain rfl:=si h
      exact(gw2 [.bool r24] (FzW.still tB))
     ·refine gr fol [7] kAN (ac (gw c23) az) ?_
      refine Goes.ret ?_
      obtain rfl:=si h
      exact(gw2 [.bool false] (FzW.still tB))
    ·try dsimp only at h
     refine gh fol kAN ?_
     refine Goes.ret ?_
     obtain rfl:=si h
     exact(gw2 [.bool false] (FzW.still tB))
   ·refine Goes.skip ?_
    refine sq ?_
    refine sq ?_
    rcases wyB h with⟨c25,h⟩|⟨c25,h⟩
    ·refine gr fol [2] (kA8 l (kW r6.1 [(8,pz ok13 0 0),(71,.bool true)])) (ac (gw c25) az) ?_
     refine Goes.ifB (b:=true) (by kernel_rfl) (fun _=>?_) (fun c=>(by cases c))
     refine sh fol kAN ?_
     refine Goes.ret ?_
     obtain rfl:=si h
     exact(gw2 [.bool false] (FzW.still tB))
    ·rcases ok13 with _|_
     ·try dsimp only at h
      refine gr fol [2] (kA8 l (kW r6.1 [(8,.nilptr),(71,.bool true)])) (ac (gw c25) az) ?_
      refine Goes.ifB (b:=true) (by kernel_rfl) (fun _=>?_) (fun c=>(by cases c))
      refine sh fol kAN ?_
      refine Goes.ret ?_
      obtain rfl:=si h
      exact(gw2 [.bool false] (FzW.still tB))
     ·try dsimp only at h
      refine gr fol [2] (kA8 l (kW r6.1 (kBq [(71,.bool false)]))) (ac (gw c25) az) ?_
      refine Goes.ifB (b:=false) (by kernel_rfl) (fun c=>(by cases c)) (fun _=>?_)
      refine Goes.skip ?_
      refine sq ?_
      refine sh fol (kW r6.1 (kBq [(72,vl encS l),(73,.i (l.length:Int)),(74,.i 0)])) ?_
      refine Goes.block ?_
      obtain⟨r33,g33,h⟩:=bnd h
      refine Goes.imp (Q:=fun x s'=>(x= .exit 0∧ ∃l30 o31 l32,(.inl (l30,o31,l32))=r33∧Sub s' (ofG 139 (kW l32 (kBq [])),(kA l30 o31 [])))∨(x= .ret∧ ∃q34,(.inr q34)=r33∧qW Tryz.prog [.tmp 4] (.bool q34) .ret s')) ?_ ?_
      ·refine Goes.loopS (fun M s=> ∃(l26:List qb) (o27:Option (List StateT)) (l28:List qb) (n29:Int),s=(ofG 139 (kW l28 (kBq (kAj l (l.length:Int) n29 []))),(kA l26 o27 []))∧qK N l M l26 o27 l28 n29=some r33) ?_ (m:=N) ⟨_,_,_,_,rfl,g33⟩
       rintro M s ⟨l26,o27,l28,n29,rfl,g33⟩
       cases M with
       |zero=>simp only[qK]at g33;cases g33
       |succ M=>
        rw[qK]at g33
        refine sh fol (kW l28 (kBq (kAj l (l.length:Int) n29 [(75,.bool (decide (n29<(l.length:Int))))]))) ?_
        refine sq ?_
        refine ihD g33 (fun c35 g33=>?_) (fun c35 g33=>?_)
        ·refine Goes.skip ?_
         refine sq (Goes.block ?_)
         obtain⟨x36,e_x36,g33⟩:=bnd g33
         refine sq (gr fol [0,1] (kW l28 (kBq ((11,.str x36)::(kAj l (l.length:Int) n29 [])))) (ac (iv zi encS e_x36) (ac (lv 0 ce9 encS e_x36 rfl) az)) ?_)
         refine sq ?_
         refine sh fol (kW l28 (kBq ((11,.str x36)::(kAj l (l.length:Int) n29 [(80,.bool (decide ((x36.length:Int)>200)))])))) ?_
         refine ihD g33 (fun c37 g33=>?_) (fun c37 g33=>?_)
         ·obtain⟨r38,e_r38,g33⟩:=bnd g33
          refine sq (gr fol [0] (kAy r38) (ac (cv (qhx e_r38)) az) ?_)
          refine Goes.ret ?_
          obtain rfl:=si g33
          exact Or.inr (⟨rfl,_,rfl,(gw2 [.bool r38] (FzW.still tB))⟩)
         ·refine Goes.skip ?_
          obtain⟨r39,e_r39,g33⟩:=bnd g33
          refine sq (gr fol [2] (kBq ((11,.str x36)::(12,.str r39.1)::(13,.i r39.2.1)::(14,vl qa r39.2.2)::(kAj l (l.length:Int) n29 []))) (ac (cv (qjG N l28 x36 e_r39)) az) ?_)
          refine sq ?_
          obtain⟨⟨l41,o42,s43,n44⟩,e_r40,g33⟩:=bnd g33
          try dsimp only at g33
          refine sq (gq fol [2] (kBq ((12,.str r39.1)::(13,.i r39.2.1)::(14,vl qa r39.2.2)::(15,.str s43)::(16,.i n44)::(kAj l (l.length:Int) n29 []))) (kAT l41 o42 (kB l41 (kAC o42 []))) (ac (hs (.callH 51 [.ptr 0 0,.str x36] (kA l26 o27 []) [0,1,2] (.tuple [.str s43,.i n44]) (kAT l41 o42 (kB l41 (kAC o42 [])))) (qZ [some 0,some 1,some 2] [some 0,none,none,some 3,some 4] (qdD N l26 o27 x36 e_r40) (.kb rfl (.cells (rc (.gslice rfl) (rc (.hs rfl) rn))) (.ks (.ks .nil))) rfl rfl (.back rfl rfl (.cells (rc (.gslice rfl) (rc (.hs rfl) rn))) rfl (.dead (.dead (.new rfl rfl (.same fa) rfl (.new rfl rfl (.same fa) rfl .nil))))) (rc (.ptr rfl) (rc (.same nS) rn)) (.same (qm.tuple sn)) rfl)) az) ?_)
          refine sq ?_
          obtain⟨b46,g_v47,g33⟩:=bnd g33
          refine Goes.cut (s':=(ofG 139 (kBq ((14,vl qa r39.2.2)::(kAj l (l.length:Int) n29 [(102,.bool b46)]))),(kAT l41 o42 (kB l41 (kAC o42 []))))) ?_ ?_
          ·rcases wyB g_v47 with⟨c45,g_v47⟩|⟨c45,g_v47⟩
           ·obtain rfl:=si g_v47
            exact tr fol [3] (kBq ((14,vl qa r39.2.2)::(kAj l (l.length:Int) n29 [(102,.bool true)]))) (ac (gw c45) az)
           ·obtain rfl:=si g_v47
            exact tr fol [3] (kBq ((14,vl qa r39.2.2)::(kAj l (l.length:Int) n29 [(102,.bool (!(s43==r39.1)))]))) (ac (gw c45) az)
          refine ihB g33 (fun c48 g33=>?_) (fun c48 g33=>?_)
          ·refine sh fol kAN ?_
           refine Goes.ret ?_
           obtain rfl:=si g33
           exact Or.inr (⟨rfl,_,rfl,(gw2 [.bool false] (FzW.still tB))⟩)
          ·refine Goes.skip ?_
           refine gh fol (kW r39.2.2 (kBq (kAj l (l.length:Int) n29 []))) ?_
           refine gh fol (kW r39.2.2 (kBq (kAj l (l.length:Int) (w64 (n29+1)) []))) ?_
           exact⟨M,(ofG 139 (kW r39.2.2 (kBq (kAj l (l.length:Int) (w64 (n29+1)) []))),(kA l41 o42 [])),Nat.lt_succ_self _,(Sub.norm [] [some 0,some 3,some 4] rfl rfl (.keep (.same (qo qa _)) (.kp (.keep (.same (qo encS _)) (.keep (.same nI) (.keep (.same nI) .nil))))) (.kb rfl (.cells (rc (.gslice rfl) (rc (.hs rfl) rn))) (.ks (.ks .nil)))),_,_,_,_,rfl,g33⟩
        ·refine Goes.exit ?_
         obtain rfl:=si g33
         exact Or.inl (⟨rfl,_,_,_,rfl,(Sub.keep [5,8] rfl rfl)⟩)
      rintro x s' (⟨rfl,l30,o31,l32,rfl,hsub⟩|⟨rfl,q66,rfl,hret⟩)
      ·try dsimp only at h
       refine Goes.sub hsub ?_
       refine sh fol (kW l32 (kBq [(17,.nilptr)])) ?_
       obtain⟨_,e_r49,h⟩:=bnd h
       refine sq (gr fol [1] (kW l32 (kBq [(17,.nilptr),(19,.i 19)])) (ac (hs (.callH 51 [.nilptr,.str [117,110,100,111]] (kA l30 o31 []) [] (.tuple [.str [],.i 19]) (kA l30 o31 [])) (qZ [] [none,none,none] (qdi [117,110,100,111] e_r49) .nil rfl rfl (.old rfl rfl (.old rfl rfl (.old rfl rfl .nil))) (rc (.same (qm.nilptr)) (rc (.same nS) rn)) (.same (qm.tuple sn)) rfl)) az) ?_)
       refine sq ?_
       obtain⟨⟨l63,b64⟩,g_v65,h⟩:=bnd h
       refine Goes.cut (s':=(ofG 139 (kAy b64),(kA l30 o31 (kB l63 [])))) ?_ ?_
       ·obtain⟨l51,e_r50,g_v65⟩:=bnd g_v65
        obtain⟨r52,e_r52,g_v65⟩:=bnd g_v65
        rcases wyB g_v65 with⟨c53,g_v65⟩|⟨c53,g_v65⟩
        ·obtain⟨s55,e_r54,g_v65⟩:=bnd g_v65
         obtain⟨r56,e_r56,g_v65⟩:=bnd g_v65
         rcases wyB g_v65 with⟨c57,g_v65⟩|⟨c57,g_v65⟩
         ·rcases wyD g_v65 with⟨c58,g_v65⟩|⟨c58,g_v65⟩
          ·obtain⟨_,e_r59,g_v65⟩:=bnd g_v65
           rcases wyD g_v65 with⟨c60,g_v65⟩|⟨c60,g_v65⟩
           ·obtain⟨_,e_r61,g_v65⟩:=bnd g_v65
            obtain⟨r62,e_r62,g_v65⟩:=bnd g_v65
            simp only[Option.some.injEq,Prod.mk.injEq]at g_v65
            obtain⟨rfl,rfl⟩:=g_v65
            exact ql.rq fol [1,3,4,6,8,11,15,17,21,23,27] (kAy r62) (kA l30 o31 (kB l51 [])) (ac (hs (.callH 52 [.ptr 0 0] (kA l30 o31 []) [0,1,2] (.gslice 3 l51.length 5) (kA l30 o31 (kB l51 []))) (qZ [some 0,some 1,some 2] [some 0,some 1,some 2,some 3] (zN N l30 o31 e_r50) (.kb rfl (.cells (rc (.gslice rfl) (rc (.hs rfl) rn))) (.ks (.ks .nil))) rfl rfl (.back rfl rfl (.cells (rc (.gslice rfl) (rc (.hs rfl) rn))) rfl (.back rfl rfl (.same fa) rfl (.back rfl rfl (.same fa) rfl (.new rfl rfl (.same fa) rfl .nil)))) (rc (.ptr rfl) rn) (.gslice rfl) rfl)) (ac (hs (.call 46 (.gslice 3 l51.length 5::(kA5 l32 [])) (kA l30 o31 (kB l51 [])) [3] (kA5 l51 (kA5 l32 [])) (.bool r52)) (yQ (FzL.cons (Fz.gs (E:=qa) rfl rfl (nl rfl)) (FzL.cons (Fz.still (qF qa _ (nl rfl))) FzL.nil)) (ym N l51 l32 e_r52) tB rfl)) (ac (gw c53) (ac (hs (.callH 53 [.ptr 0 0] (kA l30 o31 (kB l51 [])) [0,1,2] (.str s55) (kA l30 o31 (kB l51 []))) (qZ [some 0,some 1,some 2] [some 0,some 1,some 2,none] (vG N l30 o31 e_r54) (.kb rfl (.cells (rc (.gslice rfl) (rc (.hs rfl) rn))) (.ks (.ks .nil))) rfl rfl (.back rfl rfl (.cells (rc (.gslice rfl) (rc (.hs rfl) rn))) rfl (.back rfl rfl (.same fa) rfl (.back rfl rfl (.same fa) rfl (.old rfl rfl .nil)))) (rc (.ptr rfl) rn) (.same nS) rfl)) (ac (cv (qb7 N l32 e_r56)) (ac (gw c57) (ac (gw c58) (ac (hs (.callH 52 [.nilptr] (kA l30 o31 (kB l51 [])) [] .nilslice (kA l30 o31 (kB l51 []))) (qZ [] [none,none,none,none] (qak e_r59) .nil rfl rfl (.old rfl rfl (.old rfl rfl (.old rfl rfl (.old rfl rfl .nil)))) (rc (.same (qm.nilptr)) rn) (.same (qm.nilslice)) rfl)) (ac (gw c60) (ac (hs (.callH 53 [.nilptr] (kA l30 o31 (kB l51 [])) [] (.str []) (kA l30 o31 (kB l51 []))) (qZ [] [none,none,none,none] (qc9 e_r61) .nil rfl rfl (.old rfl rfl (.old rfl rfl (.old rfl rfl (.old rfl rfl .nil)))) (rc (.same (qm.nilptr)) rn) (.same nS) rfl)) (ac (cv (qhx e_r62)) az)))))))))))
           ·simp only[Option.some.injEq,Prod.mk.injEq]at g_v65
            obtain⟨rfl,rfl⟩:=g_v65
            exact ql.rq fol [1,3,4,6,8,11,15,17,21] kAN (kA l30 o31 (kB l51 [])) (ac (hs (.callH 52 [.ptr 0 0] (kA l30 o31 []) [0,1,2] (.gslice 3 l51.length 5) (kA l30 o31 (kB l51 []))) (qZ [some 0,some 1,some 2] [some 0,some 1,some 2,some 3] (zN N l30 o31 e_r50) (.kb rfl (.cells (rc (.gslice rfl) (rc (.hs rfl) rn))) (.ks (.ks .nil))) rfl rfl (.back rfl rfl (.cells (rc (.gslice rfl) (rc (.hs rfl) rn))) rfl (.back rfl rfl (.same fa) rfl (.back rfl rfl (.same fa) rfl (.new rfl rfl (.same fa) rfl .nil)))) (rc (.ptr rfl) rn) (.gslice rfl) rfl)) (ac (hs (.call 46 (.gslice 3 l51.length 5::(kA5 l32 [])) (kA l30 o31 (kB l51 [])) [3] (kA5 l51 (kA5 l32 [])) (.bool r52)) (yQ (FzL.cons (Fz.gs (E:=qa) rfl rfl (nl rfl)) (FzL.cons (Fz.still (qF qa _ (nl rfl))) FzL.nil)) (ym N l51 l32 e_r52) tB rfl)) (ac (gw c53) (ac (hs (.callH 53 [.ptr 0 0] (kA l30 o31 (kB l51 [])) [0,1,2] (.str s55) (kA l30 o31 (kB l51 []))) (qZ [some 0,some 1,some 2] [some 0,some 1,some 2,none] (vG N l30 o31 e_r54) (.kb rfl (.cells (rc (.gslice rfl) (rc (.hs rfl) rn))) (.ks (.ks .nil))) rfl rfl (.back rfl rfl (.cells (rc (.gslice rfl) (rc (.hs rfl) rn))) rfl (.back rfl rfl (.same fa) rfl (.back rfl rfl (.same fa) rfl (.old rfl rfl .nil)))) (rc (.ptr rfl) rn) (.same nS) rfl)) (ac (cv (qb7 N l32 e_r56)) (ac (gw c57) (ac (gw c58) (ac (hs (.callH 52 [.nilptr] (kA l30 o31 (kB l51 [])) [] .nilslice (kA l30 o31 (kB l51 []))) (qZ [] [none,none,none,none] (qak e_r59) .nil rfl rfl (.old rfl rfl (.old rfl rfl (.old rfl rfl (.old rfl rfl .nil)))) (rc (.same (qm.nilptr)) rn) (.same (qm.nilslice)) rfl)) (ac (gw c60) az)))))))))
          ·simp only[Option.some.injEq,Prod.mk.injEq]at g_v65
           obtain⟨rfl,rfl⟩:=g_v65
           exact ql.rq fol [1,3,4,6,8,11,15] kAN (kA l30 o31 (kB l51 [])) (ac (hs (.callH 52 [.ptr 0 0] (kA l30 o31 []) [0,1,2] (.gslice 3 l51.length 5) (kA l30 o31 (kB l51 []))) (qZ [some 0,some 1,some 2] [some 0,some 1,some 2,some 3] (zN N l30 o31 e_r50) (.kb rfl (.cells (rc (.gslice rfl) (rc (.hs rfl) rn))) (.ks (.ks .nil))) rfl rfl (.back rfl rfl (.cells (rc (.gslice rfl) (rc (.hs rfl) rn))) rfl (.back rfl rfl (.same fa) rfl (.back rfl rfl (.same fa) rfl (.new rfl rfl (.same fa) rfl .nil)))) (rc (.ptr rfl) rn) (.gslice rfl) rfl)) (ac (hs (.call 46 (.gslice 3 l51.length 5::(kA5 l32 [])) (kA l30 o31 (kB l51 [])) [3] (kA5 l51 (kA5 l32 [])) (.bool r52)) (yQ (FzL.cons (Fz.gs (E:=qa) rfl rfl (nl rfl)) (FzL.cons (Fz.still (qF qa _ (nl rfl))) FzL.nil)) (ym N l51 l32 e_r52) tB rfl)) (ac (gw c53) (ac (hs (.callH 53 [.ptr 0 0] (kA l30 o31 (kB l51 [])) [0,1,2] (.str s55) (kA l30 o31 (kB l51 []))) (qZ [some 0,some 1,some 2] [some 0,some 1,some 2,none] (vG N l30 o31 e_r54) (.kb rfl (.cells (rc (.gslice rfl) (rc (.hs rfl) rn))) (.ks (.ks .nil))) rfl rfl (.back rfl rfl (.cells (rc (.gslice rfl) (rc (.hs rfl) rn))) rfl (.back rfl rfl (.same fa) rfl (.back rfl rfl (.same fa) rfl (.old rfl rfl .nil)))) (rc (.ptr rfl) rn) (.same nS) rfl)) (ac (cv (qb7 N l32 e_r56)) (ac (gw c57) (ac (gw c58) az)))))))
         ·simp only[Option.some.injEq,Prod.mk.injEq]at g_v65
          obtain⟨rfl,rfl⟩:=g_v65
          exact ql.rq fol [1,3,4,6,8,11] kAN (kA l30 o31 (kB l51 [])) (ac (hs (.callH 52 [.ptr 0 0] (kA l30 o31 []) [0,1,2] (.gslice 3 l51.length 5) (kA l30 o31 (kB l51 []))) (qZ [some 0,some 1,some 2] [some 0,some 1,some 2,some 3] (zN N l30 o31 e_r50) (.kb rfl (.cells (rc (.gslice rfl) (rc (.hs rfl) rn))) (.ks (.ks .nil))) rfl rfl (.back rfl rfl (.cells (rc (.gslice rfl) (rc (.hs rfl) rn))) rfl (.back rfl rfl (.same fa) rfl (.back rfl rfl (.same fa) rfl (.new rfl rfl (.same fa) rfl .nil)))) (rc (.ptr rfl) rn) (.gslice rfl) rfl)) (ac (hs (.call 46 (.gslice 3 l51.length 5::(kA5 l32 [])) (kA l30 o31 (kB l51 [])) [3] (kA5 l51 (kA5 l32 [])) (.bool r52)) (yQ (FzL.cons (Fz.gs (E:=qa) rfl rfl (nl rfl)) (FzL.cons (Fz.still (qF qa _ (nl rfl))) FzL.nil)) (ym N l51 l32 e_r52) tB rfl)) (ac (gw c53) (ac (hs (.callH 53 [.ptr 0 0] (kA l30 o31 (kB l51 [])) [0,1,2] (.str s55) (kA l30 o31 (kB l51 []))) (qZ [some 0,some 1,some 2] [some 0,some 1,some 2,none] (vG N l30 o31 e_r54) (.kb rfl (.cells (rc (.gslice rfl) (rc (.hs rfl) rn))) (.ks (.ks .nil))) rfl rfl (.back rfl rfl (.cells (rc (.gslice rfl) (rc (.hs rfl) rn))) rfl (.back rfl rfl (.same fa) rfl (.back rfl rfl (.same fa) rfl (.old rfl rfl .nil)))) (rc (.ptr rfl) rn) (.same nS) rfl)) (ac (cv (qb7 N l32 e_r56)) (ac (gw c57) az))))))
        ·simp only[Option.some.injEq,Prod.mk.injEq]at g_v65
         obtain⟨rfl,rfl⟩:=g_v65
         exact ql.rq fol [1,3,4] kAN (kA l30 o31 (kB l51 [])) (ac (hs (.callH 52 [.ptr 0 0] (kA l30 o31 []) [0,1,2] (.gslice 3 l51.length 5) (kA l30 o31 (kB l51 []))) (qZ [some 0,some 1,some 2] [some 0,some 1,some 2,some 3] (zN N l30 o31 e_r50) (.kb rfl (.cells (rc (.gslice rfl) (rc (.hs rfl) rn))) (.ks (.ks .nil))) rfl rfl (.back rfl rfl (.cells (rc (.gslice rfl) (rc (.hs rfl) rn))) rfl (.back rfl rfl (.same fa) rfl (.back rfl rfl (.same fa) rfl (.new rfl rfl (.same fa) rfl .nil)))) (rc (.ptr rfl) rn) (.gslice rfl) rfl)) (ac (hs (.call 46 (.gslice 3 l51.length 5::(kA5 l32 [])) (kA l30 o31 (kB l51 [])) [3] (kA5 l51 (kA5 l32 [])) (.bool r52)) (yQ (FzL.cons (Fz.gs (E:=qa) rfl rfl (nl rfl)) (FzL.cons (Fz.still (qF qa _ (nl rfl))) FzL.nil)) (ym N l51 l32 e_r52) tB rfl)) (ac (gw c53) az)))
       try dsimp only at h
       refine Goes.ret ?_
       obtain rfl:=si h
       exact(gw2 [.bool b64] (FzW.still tB))
      ·try dsimp only at h
       obtain rfl:=si h
       exact hret
end Go.Av
