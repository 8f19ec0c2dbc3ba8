/-
  Walks of functions: what each computes, as a plain function.
-/
import Derived.Test.YtjflombnfhlkaaaGreatDoorQGenO1
noncomputable section
namespace Go.Av
open Go.Proofs Go.RowKit
set_option linter.unusedSectionVars false
set_option linter.unusedVariables false
set_option linter.unusedSimpArgs false
set_option maxRecDepth 100000
def qD (N:Nat) (l:List qb):Nat→Int→Option (Unit⊕Int)
 |0,_=>none
 |K+1,n2=>
  if n2<(l.length:Int)then
  (idx l n2).bind fun x6=>
  (if n2>0 then
  (idx l (w64 (n2-1))).bind fun x8=>
  (qK x8).bind fun r9=>
  (qK x6).bind fun r10=>
  (zh N r9 r10).bind fun r11=>
  if r11≥0 then
  some true
  else
  if(x8.Desk==x6.Desk)=true then
  some (decide (x8.Clock≥x6.Clock))
  else
  some false
  else
  some false:Option Bool).bind fun b14=>
  (jC N x6).bind fun r16=>
  (ku b14 11).bind fun r17=>
  (kw N ([r16,r17]:List Int)).bind fun r18=>
  if(!decide (r18=0))=true then
  some (.inr r18)
  else
  qD N l K (w64 (n2+1))
  else
  some (.inl ())
def qA (N:Nat) (l:List qb):Option Int:=
 if(l.length:Int)>1000 then
 some 5
 else
 (qD N l N 0).bind (fun
 |(.inl ())=>
 some 0
 |(.inr q20)=>
 some q20)
theorem qM (N:Nat) (l:List qb) {res:Int} (h:qA N l=some res):qc Tryz.prog (.fn 68) [vl qa l] [] (.i res) []:=by
 unfold qA at h
 refine Goes.fnW Tryz.func68 rfl rfl (m:=63) rfl (rs:=[.tmp 2]) rfl (l:=(kC l [])) rfl ?_
 refine sh fol (kC l []) ?_
 refine sq ?_
 refine sh fol (kC l [(9,.bool (decide ((l.length:Int)>1000)))]) ?_
 refine ihD h (fun c1 h=>?_) (fun c1 h=>?_)
 ·refine sh fol [(2,.i 5)] ?_
  refine Goes.ret ?_
  obtain rfl:=si h
  exact(gw2 [.i 5] (FzW.still tI))
 ·refine Goes.skip ?_
  refine sq ?_
  refine sh fol (kC l [(10,vl qa l),(11,.i (l.length:Int)),(12,.i 0)]) ?_
  refine Goes.block ?_
  obtain⟨r3,g3,h⟩:=bnd h
  refine Goes.imp (Q:=fun x s'=>(x= .exit 0∧(.inl ())=r3∧Sub s' (ofG 63 [],[]))∨(x= .ret∧ ∃q4,(.inr q4)=r3∧qJ Tryz.prog [.tmp 2] (.i q4) .ret s')) ?_ ?_
  ·refine Goes.loopS (fun M s=> ∃(n2:Int),s=(ofG 63 (kC l (kS l (l.length:Int) n2 [])),[])∧qD N l M n2=some r3) ?_ (m:=N) ⟨_,rfl,g3⟩
   rintro M s ⟨n2,rfl,g3⟩
   cases M with
   |zero=>simp only[qD]at g3;cases g3
   |succ M=>
    rw[qD]at g3
    refine sh fol (kC l (kS l (l.length:Int) n2 [(13,.bool (decide (n2<(l.length:Int))))])) ?_
    refine sq ?_
    refine ihD g3 (fun c5 g3=>?_) (fun c5 g3=>?_)
    ·refine Goes.skip ?_
     refine sq (Goes.block ?_)
     obtain⟨x6,e_x6,g3⟩:=bnd g3
     refine sq (gq fol [1,2] (kC l (kAM n2 (kS l (l.length:Int) n2 []))) (kD x6.Desk x6.Number x6.Clock x6.Line []) (ac (iv xX qa e_x6) (ac (la qaD qa e_x6) az)) ?_)
     refine sq ?_
     obtain⟨b14,g_v15,g3⟩:=bnd g3
     refine Goes.cut (s':=(ofG 63 (kC l ((4,.ptr 0 0)::(5,.bool b14)::(kS l (l.length:Int) n2 []))),(kD x6.Desk x6.Number x6.Clock x6.Line []))) ?_ ?_
     ·rcases wyD g_v15 with⟨c7,g_v15⟩|⟨c7,g_v15⟩
      ·obtain⟨x8,e_x8,g_v15⟩:=bnd g_v15
       obtain⟨r9,e_r9,g_v15⟩:=bnd g_v15
       obtain⟨r10,e_r10,g_v15⟩:=bnd g_v15
       obtain⟨r11,e_r11,g_v15⟩:=bnd g_v15
       rcases wyD g_v15 with⟨c12,g_v15⟩|⟨c12,g_v15⟩
       ·obtain rfl:=si g_v15
        exact tr fol [2,6,7,8,10,11,13] (kC l ((4,.ptr 0 0)::(5,.bool true)::(kS l (l.length:Int) n2 []))) (ac (gw c7) (ac (iv xX qa e_x8) (ac (la qaD qa e_x8) (ac (cv (kg x8 e_r9)) (ac (cv (kg x6 e_r10)) (ac (cv (jJ N r9 r10 e_r11)) (ac (gw c12) az)))))))
       ·rcases wyB g_v15 with⟨c13,g_v15⟩|⟨c13,g_v15⟩
        ·obtain rfl:=si g_v15
         exact tr fol [2,6,7,8,10,11,13,17,19,23,27,29] (kC l ((4,.ptr 0 0)::(5,.bool (decide (x8.Clock≥x6.Clock)))::(kS l (l.length:Int) n2 []))) (ac (gw c7) (ac (iv xX qa e_x8) (ac (la qaD qa e_x8) (ac (cv (kg x8 e_r9)) (ac (cv (kg x6 e_r10)) (ac (cv (jJ N r9 r10 e_r11)) (ac (gw c12) (ac (iv xX qa e_x8) (ac (lv 0 ce9 qa e_x8 rfl) (ac (gw c13) (ac (iv xX qa e_x8) (ac (lv 2 ce3 qa e_x8 rfl) az))))))))))))
        ·obtain rfl:=si g_v15
         exact tr fol [2,6,7,8,10,11,13,17,19,23] (kC l ((4,.ptr 0 0)::(5,.bool false)::(kS l (l.length:Int) n2 []))) (ac (gw c7) (ac (iv xX qa e_x8) (ac (la qaD qa e_x8) (ac (cv (kg x8 e_r9)) (ac (cv (kg x6 e_r10)) (ac (cv (jJ N r9 r10 e_r11)) (ac (gw c12) (ac (iv xX qa e_x8) (ac (lv 0 ce9 qa e_x8 rfl) (ac (gw c13) az))))))))))
      ·obtain rfl:=si g_v15
       exact tr fol [2] (kC l ((4,.ptr 0 0)::(5,.bool false)::(kS l (l.length:Int) n2 []))) (ac (gw c7) az)
     obtain⟨r16,e_r16,g3⟩:=bnd g3
     obtain⟨r17,e_r17,g3⟩:=bnd g3
     obtain⟨r18,e_r18,g3⟩:=bnd g3
     refine sq (gq fol [1,3,5] (kC l ((6,.i r18)::(kS l (l.length:Int) n2 []))) (kD x6.Desk x6.Number x6.Clock x6.Line (kAB r16 r17)) (ac (cv (qa5 N x6 e_r16)) (ac (cv (qF b14 11 e_r17)) (ac (hs (.call 86 [.slice 1 0 2 2 1] (kD x6.Desk x6.Number x6.Clock x6.Line (kAB r16 r17)) [1] [vl encI ([r16,r17]:List Int)] (.i r18)) (vH (FzL.cons (Fz.lit rfl rfl (FzL.still (AllST.cons tI (AllST.cons tI AllST.nil)))) FzL.nil) (zo N ([r16,r17]:List Int) e_r18) tI rfl)) az))) ?_)
     refine sh fol (kC l ((6,.i r18)::(kS l (l.length:Int) n2 [(60,.bool (!decide (r18=0)))]))) ?_
     refine ihB g3 (fun c19 g3=>?_) (fun c19 g3=>?_)
     ·refine sh fol [(2,.i r18)] ?_
      refine Goes.ret ?_
      obtain rfl:=si g3
      exact Or.inr (⟨rfl,_,rfl,(gw2 [.i r18] (FzW.still tI))⟩)
     ·refine Goes.skip ?_
      refine gh fol (kC l (kS l (l.length:Int) (w64 (n2+1)) [])) ?_
      exact⟨M,(ofG 63 (kC l (kS l (l.length:Int) (w64 (n2+1)) [])),[]),Nat.lt_succ_self _,(Sub.norm [] [] rfl rfl (.keep (.same (qd qa _)) (.keep (.same (qd qa _)) (.keep (.same nI) (.keep (.same nI) .nil)))) .nil),_,rfl,g3⟩
    ·refine Goes.exit ?_
     obtain rfl:=si g3
     exact Or.inl (⟨rfl,rfl,(Sub.keep [] rfl rfl)⟩)
  rintro x s' (⟨rfl,rfl,hsub⟩|⟨rfl,q20,rfl,hret⟩)
  ·try dsimp only at h
   refine Goes.sub hsub ?_
   refine sh fol [(2,.i 0)] ?_
   refine Goes.ret ?_
   obtain rfl:=si h
   exact(gw2 [.i 0] (FzW.still tI))
  ·try dsimp only at h
   obtain rfl:=si h
   exact hret
def qa9:Option (List qb):=
 qfI (some []) ((app 48 ([]:List qb) ([]:List qb)).bind fun l1=>
 some l1)
def qa8 (hd:qb) (tl:List qb):Option (List qb):=
 (app 48 ([]:List qb) (hd::tl)).bind fun l1=>
 some l1
def qg3:(List qb)→Option (List qb)
 |[]=>qa9
 |hd::tl=>qa8 hd tl
def qhy (N:Nat) (n:qb) (o:qb):Option Int:=
 (qK n).bind fun r1=>
 (qK o).bind fun r2=>
 (zh N r1 r2).bind fun r3=>
 some r3
def jw (a0_:qb) (a1_:Str) (a2_:Int) (a3_:Int) (a4_:Str):Option Bool:=
 (qK a0_).bind fun r1=>
 (qK (⟨a1_,a2_,a3_,a4_⟩:qb)).bind fun r2=>
 some ((r1.Desk==r2.Desk)&&(decide (r1.Number=r2.Number)&&true))
theorem qab (a0_:qb) (a1_:Str) (a2_:Int) (a3_:Int) (a4_:Str) {res:Bool} (h:jw a0_ a1_ a2_ a3_ a4_=some res):qc Tryz.prog (.fn 134) [.agg [.str a0_.Desk,.i a0_.Number,.i a0_.Clock,.str a0_.Line],.fptr [.str a1_,.i a2_,.i a3_,.str a4_] 0] [] (.bool res) []:=by
 unfold jw at h
 refine Goes.fnW Tryz.func134 rfl rfl (m:=9) rfl (rs:=[.tmp 3]) rfl (l:=[(0,.agg [.str a0_.Desk,.i a0_.Number,.i a0_.Clock,.str a0_.Line]),(1,.fptr [.str a1_,.i a2_,.i a3_,.str a4_] 0)]) rfl ?_
 refine sg fol ((1,.fptr [.str a1_,.i a2_,.i a3_,.str a4_] 0)::(kAO [])) (kD a0_.Desk a0_.Number a0_.Clock a0_.Line []) ?_
 obtain⟨r1,e_r1,h⟩:=bnd h
 obtain⟨r2,e_r2,h⟩:=bnd h
 refine sq (gr fol [1,3,4] [(3,.bool ((r1.Desk==r2.Desk)&&(decide (r1.Number=r2.Number)&&true)))] (ac (cv (kg a0_ e_r1)) (ac (cv (kg (⟨a1_,a2_,a3_,a4_⟩:qb) e_r2)) (ac (hs (.done (.opt (qaz Tryz.prog .eql 141 (.tmp 5) (.tmp 7) (.agg [.str r1.Desk,.i r1.Number]) (.agg [.str r2.Desk,.i r2.Number]))) (.bool ((r1.Desk==r2.Desk)&&(decide (r1.Number=r2.Number)&&true)))) (eq_ag qkS (e:=((r1.Desk==r2.Desk)&&(decide (r1.Number=r2.Number)&&true))) (.cons (a:= .str r1.Desk) (b:= .str r2.Desk) rfl (by kernel_rfl) (by kernel_rfl) (by kernel_rfl) (.cons (a:= .i r1.Number) (b:= .i r2.Number) rfl (by kernel_rfl) (by kernel_rfl) (by kernel_rfl) .nil)))) az))) ?_)
 refine Goes.ret ?_
 obtain rfl:=si h
 exact(gw2 [.bool ((r1.Desk==r2.Desk)&&(decide (r1.Number=r2.Number)&&true))] (FzW.still tB))
def qm (a0_:List qb) (a1_:Str) (a2_:Int) (a3_:Int) (a4_:Str):Nat→Int→Option (Unit⊕Int)
 |0,_=>none
 |K+1,n1=>
  if n1<(a0_.length:Int)then
  (idx a0_ n1).bind fun x5=>
  (jw x5 a1_ a2_ a3_ a4_).bind fun r6=>
  if r6=true then
  some (.inr n1)
  else
  qm a0_ a1_ a2_ a3_ a4_ K (w64 (n1+1))
  else
  some (.inl ())
def qw (N:Nat) (a0_:List qb) (a1_:Str) (a2_:Int) (a3_:Int) (a4_:Str):Option Int:=
 (qm a0_ a1_ a2_ a3_ a4_ N 0).bind (fun
 |(.inl ())=>
 some (-1)
 |(.inr q8)=>
 some q8)
theorem jY (N:Nat) (a0_:List qb) (a1_:Str) (a2_:Int) (a3_:Int) (a4_:Str) {res:Int} (h:qw N a0_ a1_ a2_ a3_ a4_=some res):qc Tryz.prog (.fn 133) [vl qa a0_,.func (.func 134) [] [.fptr [.str a1_,.i a2_,.i a3_,.str a4_] 0]] [] (.i res) []:=by
 unfold qw at h
 refine Goes.fnW Tryz.func133 rfl rfl (m:=19) rfl (rs:=[.tmp 4]) rfl (l:=(kC a0_ [(1,.func (.func 134) [] [.fptr [.str a1_,.i a2_,.i a3_,.str a4_] 0])])) rfl ?_
 refine sh fol (kC a0_ [(1,.func (.func 134) [] [.fptr [.str a1_,.i a2_,.i a3_,.str a4_] 0])]) ?_
 refine sq ?_
 refine sh fol (kC a0_ ((1,.func (.func 134) [] [.fptr [.str a1_,.i a2_,.i a3_,.str a4_] 0])::(kAU (a0_.length:Int)))) ?_
 refine Goes.block ?_
 obtain⟨r2,g2,h⟩:=bnd h
 refine Goes.imp (Q:=fun x s'=>(x= .exit 0∧(.inl ())=r2∧Sub s' (ofG 19 [],[]))∨(x= .ret∧ ∃q3,(.inr q3)=r2∧qJ Tryz.prog [.tmp 4] (.i q3) .ret s')) ?_ ?_
 ·refine Goes.loopS (fun M s=> ∃(n1:Int),s=(ofG 19 (kC a0_ ((1,.func (.func 134) [] [.fptr [.str a1_,.i a2_,.i a3_,.str a4_] 0])::(kP (a0_.length:Int) n1))),[])∧qm a0_ a1_ a2_ a3_ a4_ M n1=some r2) ?_ (m:=N) ⟨_,rfl,g2⟩
  rintro M s ⟨n1,rfl,g2⟩
  cases M with
  |zero=>simp only[qm]at g2;cases g2
  |succ M=>
   rw[qm]at g2
   refine sh fol (kC a0_ ((1,.func (.func 134) [] [.fptr [.str a1_,.i a2_,.i a3_,.str a4_] 0])::(kAa (a0_.length:Int) n1 (decide (n1<(a0_.length:Int)))))) ?_
   refine sq ?_
   refine ihD g2 (fun c4 g2=>?_) (fun c4 g2=>?_)
   ·refine Goes.skip ?_
    refine sq (Goes.block ?_)
    refine sh fol (kC a0_ ((1,.func (.func 134) [] [.fptr [.str a1_,.i a2_,.i a3_,.str a4_] 0])::(5,.i n1)::(kP (a0_.length:Int) n1))) ?_
    obtain⟨x5,e_x5,g2⟩:=bnd g2
    obtain⟨r6,e_r6,g2⟩:=bnd g2
    refine sq (gr fol [3,4,5] (kC a0_ [(1,.func (.func 134) [] [.fptr [.str a1_,.i a2_,.i a3_,.str a4_] 0]),(5,.i n1),(7,.i (a0_.length:Int)),(8,.i n1),(16,.bool r6)]) (ac (iv xX qa e_x5) (ac (la qaD qa e_x5) (ac (hs (.call 134 [.agg [.str x5.Desk,.i x5.Number,.i x5.Clock,.str x5.Line],.fptr [.str a1_,.i a2_,.i a3_,.str a4_] 0] [] [] [.agg [.str x5.Desk,.i x5.Number,.i x5.Clock,.str x5.Line],.fptr [.str a1_,.i a2_,.i a3_,.str a4_] 0] (.bool r6)) (qkp (FzL.cons (Fz.still (Still.agg (AllST.cons tS (AllST.cons tI (AllST.cons tI (AllST.cons tS AllST.nil)))))) (FzL.cons (Fz.still (Still.fptr (AllST.cons tS (AllST.cons tI (AllST.cons tI (AllST.cons tS AllST.nil)))))) FzL.nil)) (qab x5 a1_ a2_ a3_ a4_ e_r6) tB)) az))) ?_)
    refine ihB g2 (fun c7 g2=>?_) (fun c7 g2=>?_)
    ·refine sh fol [(4,.i n1)] ?_
     refine Goes.ret ?_
     obtain rfl:=si g2
     exact Or.inr (⟨rfl,_,rfl,(gw2 [.i n1] (FzW.still tI))⟩)
    ·refine Goes.skip ?_
     refine gh fol (kC a0_ ((1,.func (.func 134) [] [.fptr [.str a1_,.i a2_,.i a3_,.str a4_] 0])::(kP (a0_.length:Int) (w64 (n1+1))))) ?_
     exact⟨M,(ofG 19 (kC a0_ ((1,.func (.func 134) [] [.fptr [.str a1_,.i a2_,.i a3_,.str a4_] 0])::(kP (a0_.length:Int) (w64 (n1+1))))),[]),Nat.lt_succ_self _,(Sub.refl _),_,rfl,g2⟩
   ·refine Goes.exit ?_
    obtain rfl:=si g2
    exact Or.inl (⟨rfl,rfl,(Sub.keep [] rfl rfl)⟩)
 rintro x s' (⟨rfl,rfl,hsub⟩|⟨rfl,q8,rfl,hret⟩)
 ·try dsimp only at h
  refine Goes.sub hsub ?_
  refine sh fol [(4,.i (-1))] ?_
  refine Goes.ret ?_
  obtain rfl:=si h
  exact(gw2 [.i (-1)] (FzW.still tI))
 ·try dsimp only at h
  obtain rfl:=si h
  exact hret
def jl (a0_:qb) (a1_:List qb):Option (List qb):=
 (app 48 ([]:List qb) (a0_::a1_)).bind fun l2=>
 some l2
theorem xV (a0_:qb) (a1_:List qb) {l1:List qb} (h:jl a0_ a1_=some l1):qc Tryz.prog (.fn 123) [vl qa (a0_::a1_)] [] (.oslice 0 l1.length 4) (kA l1 []):=by
 unfold jl at h
 refine Goes.fnH Tryz.func123 rfl rfl (m:=8) rfl (rs:=[.tmp 2]) rfl (l:=(kC (a0_::a1_) [])) rfl ?_
 intro B hB
 refine sh fol (kC (a0_::a1_) []) ?_
 refine sq ?_
 refine sh fol (kC (a0_::a1_) kAF) ?_
 refine Goes.ifB (b:=false) (by kernel_rfl) (fun c=>(by cases c)) (fun _=>?_)
 refine Goes.skip ?_
 obtain⟨l2,e_l2,h⟩:=bnd h
 refine sq (gq fol [2] [(2,.oslice 1 l2.length 4)] (.dead::(kA l2 [])) (ac (hs (.run [0] (zA Tryz.prog [96,96] (.slice 0 0 0 0 4) (vl qa (a0_::a1_))) [.cells []] (.oslice 1 l2.length 4) (.dead::(kA l2 [])) true) (ji xX (E:=qa) rfl (qec (E:=qa) rfl _) (qfm (E:=qa) rfl rfl rfl e_l2 rfl))) az) ?_)
 refine Goes.ret ?_
 obtain rfl:=si h
 exact(gh2 [.oslice 1 l2.length 4] (Sub.norm [] [some 1] (by rw[hB];rfl) rfl (.keep (.oslice rfl) .nil) (.ks .nil)))
def kz (N:Nat) (b:List qb):Nat→(List qb)→Int→Option ((List qb)⊕((List qb)×Int))
 |0,_,_=>none
 |K+1,l6,n7=>
  if n7<(b.length:Int)then
  (((idx b n7).bind fun x15=>
  (qw N ([]:List qb) x15.Desk x15.Number x15.Clock x15.Line).bind fun r16=>
  if r16<0 then
  (app 48 l6 [x15]).bind fun l18=>
  some (.inl l18)
  else
  (idx ([]:List qb) r16).bind fun x19=>
  if(!((x19.Desk==x15.Desk)&&(decide (x19.Number=x15.Number)&&(decide (x19.Clock=x15.Clock)&&((x19.Line==x15.Line)&&true)))))=true then
  some (.inr ([],29))
  else
  some (.inl l6):Option ((List qb)⊕((List qb)×Int)))).bind (fun
  |(.inl l12)=>
  kz N b K l12 (w64 (n7+1))
  |(.inr q21)=>
  some (.inr q21))
  else
  some (.inl l6)
def zR (N:Nat) (b:List qb):Option ((List qb)×Int):=
 (qA N ([]:List qb)).bind fun r1=>
 (qA N b).bind fun r2=>
 (kw N ([r1,r2]:List Int)).bind fun r3=>
 if(!decide (r3=0))=true then
 some ([],r3)
 else
 (qgM).bind fun _=>
 (kz N b N ([]:List qb) 0).bind (fun
 |(.inl l8)=>
 (qg2 l8).bind fun l23=>
 ((if l8.length=l23.length then some ()else none:Option Unit)).bind fun u24=>
 ((ku (decide ((l23.length:Int)>1000)) 5).bind fun r25=>
 if(l23.length:Int)≤1000 then
 (qA N l23).bind fun r27=>
 (ku (!decide (r27=0)) 29).bind fun r28=>
 (kw N ([r25,r28]:List Int)).bind fun r29=>
 some (r25,r28,r29)
 else
 (ku false 29).bind fun r30=>
 (kw N ([r25,r30]:List Int)).bind fun r31=>
 some (r25,r30,r31):Option (Int×Int×Int)).bind fun(n32,n33,n34)=>
 if(!decide (n34=0))=true then
 some ([],n34)
 else
 some (l23,0)
 |(.inr q37)=>
 some q37)
theorem qbr (N:Nat) (b:List qb) {res:(List qb)×Int} (h:zR N b=some res):qc Tryz.prog (.fn 69) [vl qa ([]:List qb),vl qa b] [] (.tuple (kAV res.1 res.2)) []:=by
 unfold zR at h
 refine Goes.fnW Tryz.func69 rfl rfl (m:=66) rfl (rs:=[.tmp 4,.tmp 5]) rfl (l:=(kK (kT b []))) rfl ?_
 refine sh fol (kK (kT b [])) ?_
 refine sq ?_
 obtain⟨r1,e_r1,h⟩:=bnd h
 obtain⟨r2,e_r2,h⟩:=bnd h
 obtain⟨r3,e_r3,h⟩:=bnd h
 refine sq (gq fol [1,3,5] (kK (kT b [(6,.i r3)])) (kAB r1 r2) (ac (cv (qM N ([]:List qb) e_r1)) (ac (cv (qM N b e_r2)) (ac (hs (.call 86 [.slice 0 0 2 2 1] (kAB r1 r2) [0] [vl encI ([r1,r2]:List Int)] (.i r3)) (vH (FzL.cons (Fz.lit rfl rfl (FzL.still (AllST.cons tI (AllST.cons tI AllST.nil)))) FzL.nil) (zo N ([r1,r2]:List Int) e_r3) tI rfl)) az))) ?_)
 refine sh fol (kK (kT b [(6,.i r3),(19,.bool (!decide (r3=0)))])) ?_
 refine ihB h (fun c4 h=>?_) (fun c4 h=>?_)
 ·refine sh fol ((4,.nilslice)::(kAY r3)) ?_
  refine Goes.ret ?_
  obtain rfl:=si h
  exact(gw2 [.nilslice,.i r3] (FzW.tuple (qg.cons (FzW.nilv (E:=qa)) (qg.cons (FzW.still tI) qg.nil))))
 ·refine Goes.skip ?_
  obtain⟨_,e_r5,h⟩:=bnd h
  refine sq (gq fol [1] (kK (kT b [(7,.gslice 1 ([]:List qb).length 4)])) (.cells [.i r1,.i r2]::kAK) (ac (hs (.callH 123 [vl qa ([]:List qb)] (kAB r1 r2) [] (.gslice 1 ([]:List qb).length 4) (.cells [.i r1,.i r2]::kAK)) (qeL [] [none,some 0] (qhJ e_r5) .nil rfl rfl (.old rfl rfl (.new rfl rfl (.same fa) rfl .nil)) (rc (.same (qd qa _)) rn) (.gslice rfl) rfl)) az) ?_)
  refine sq ?_
  refine sh fol (kK ((7,.gslice 1 ([]:List qb).length 4)::(kAb b (b.length:Int)))) ?_
  refine Goes.block ?_
  obtain⟨r9,g9,h⟩:=bnd h
  refine Goes.imp (Q:=fun x s'=>(x= .exit 0∧ ∃l8,(.inl l8)=r9∧Sub s' (ofG 66 (kZ l8 []),(kA l8 [])))∨(x= .ret∧ ∃q10,(.inr q10)=r9∧qJ Tryz.prog [.tmp 4,.tmp 5] (.tuple (kAV q10.1 q10.2)) .ret s')) ?_ ?_
  ·refine Goes.sub (s':=(ofG 66 (kK ((7,.gslice 0 ([]:List qb).length 4)::(kAb b (b.length:Int)))),kAK)) (Sub.norm [] [some 1] rfl rfl (.keep (.same (qd qa _)) (.keep (.gslice rfl) (.keep (.same (qd qa _)) (.keep (.same nI) (.keep (.same nI) .nil))))) (.ks .nil)) ?_
   refine Goes.loopS (fun M s=> ∃(l6:List qb) (n7:Int),s=(ofG 66 (kK (kZ l6 (kJ b (b.length:Int) n7 []))),(kA l6 []))∧kz N b M l6 n7=some r9) ?_ (m:=N) ⟨_,_,rfl,g9⟩
   rintro M s ⟨l6,n7,rfl,g9⟩
   cases M with
   |zero=>simp only[kz]at g9;cases g9
   |succ M=>
    rw[kz]at g9
    refine sh fol (kK (kZ l6 (kJ b (b.length:Int) n7 [(26,.bool (decide (n7<(b.length:Int))))]))) ?_
    refine sq ?_
    refine ihD g9 (fun c11 g9=>?_) (fun c11 g9=>?_)
    ·refine Goes.skip ?_
     refine sq ?_
     obtain⟨r13,g13,g9⟩:=bnd g9
     refine Goes.imp (Q:=fun x s'=>(x= .normal∧ ∃l12,(.inl l12)=r13∧Sub s' (ofG 66 (kK (kZ l12 (kJ b (b.length:Int) n7 []))),(kA l12 [])))∨(x= .ret∧ ∃q14,(.inr q14)=r13∧qJ Tryz.prog [.tmp 4,.tmp 5] (.tuple (kAV q14.1 q14.2)) .ret s')) ?_ ?_
     ·refine Goes.block ?_
      obtain⟨x15,e_x15,g13⟩:=bnd g13
      refine sq (gq fol [0,1] (kK (kZ l6 ((9,.ptr 1 0)::(kJ b (b.length:Int) n7 [])))) (kA l6 (kD x15.Desk x15.Number x15.Clock x15.Line [])) (ac (iv xX qa e_x15) (ac (la qaD qa e_x15) az)) ?_)
      obtain⟨r16,e_r16,g13⟩:=bnd g13
      refine sq (gr fol [2] (kK (kZ l6 ((9,.ptr 1 0)::(10,.i r16)::(kJ b (b.length:Int) n7 [])))) (ac (hs (.call 133 [vl qa ([]:List qb),.func (.func 134) [] [.ptr 1 0]] (kA l6 (kD x15.Desk x15.Number x15.Clock x15.Line [])) [1] [vl qa ([]:List qb),.func (.func 134) [] [.fptr [.str x15.Desk,.i x15.Number,.i x15.Clock,.str x15.Line] 0]] (.i r16)) (vH (FzL.cons (Fz.still (yK qa _ (nl rfl))) (FzL.cons (Fz.func FzL.nil (FzL.cons (Fz.ptr rfl rfl (FzL.cons (Fz.still tS) (FzL.cons (Fz.still tI) (FzL.cons (Fz.still tI) (FzL.cons (Fz.still tS) FzL.nil))))) FzL.nil)) FzL.nil)) (jY N ([]:List qb) x15.Desk x15.Number x15.Clock x15.Line e_r16) tI rfl)) az) ?_)
      refine sh fol (kK (kZ l6 ((9,.ptr 1 0)::(10,.i r16)::(kJ b (b.length:Int) n7 [(33,.bool (decide (r16<0)))])))) ?_
      refine ihD g13 (fun c17 g13=>?_) (fun c17 g13=>?_)
      ·obtain⟨l18,e_l18,g13⟩:=bnd g13
       refine gq fol [3] (kK ((7,.gslice 3 l18.length 4)::(kJ b (b.length:Int) n7 []))) (.dead::(kD x15.Desk x15.Number x15.Clock x15.Line (kD x15.Desk x15.Number x15.Clock x15.Line (kA l18 [])))) (ac (hs (.run [0,2] (zA Tryz.prog [96,96] (.gslice 0 l6.length 4) (.slice 2 0 1 1 4)) (kA l6 (kD x15.Desk x15.Number x15.Clock x15.Line (kD x15.Desk x15.Number x15.Clock x15.Line []))) (.gslice 3 l18.length 4) (.dead::(kD x15.Desk x15.Number x15.Clock x15.Line (kD x15.Desk x15.Number x15.Clock x15.Line (kA l18 [])))) true) (ji xX (E:=qa) rfl (qaV (E:=qa) (ys:=[x15]) rfl rfl rfl rfl) (qbI (E:=qa) (l:=l6) rfl rfl rfl e_l18 rfl))) az) ?_
       obtain rfl:=si g13
       exact Or.inl (⟨rfl,_,rfl,(Sub.norm [] [some 3] rfl rfl (.keep (.same (qd qa _)) (.keep (.gslice rfl) (.keep (.same (qd qa _)) (.keep (.same nI) (.keep (.same nI) .nil))))) (.ks .nil))⟩)
      ·obtain⟨x19,e_x19,g13⟩:=bnd g13
       refine sq (gr fol [2,3,5] (kK (kZ l6 (kJ b (b.length:Int) n7 [(43,.bool (!((x19.Desk==x15.Desk)&&(decide (x19.Number=x15.Number)&&(decide (x19.Clock=x15.Clock)&&((x19.Line==x15.Line)&&true))))))]))) (ac (iv xX qa e_x19) (ac (la qaD qa e_x19) (ac (hs (.done (.opt (qaz Tryz.prog .neq 132 (.tmp 41) (.tmp 42) (.agg (kAW x19.Desk x19.Number x19.Clock x19.Line)) (.agg (kAW x15.Desk x15.Number x15.Clock x15.Line)))) (.bool (!((x19.Desk==x15.Desk)&&(decide (x19.Number=x15.Number)&&(decide (x19.Clock=x15.Clock)&&((x19.Line==x15.Line)&&true))))))) (qe9 qib (e:=((x19.Desk==x15.Desk)&&(decide (x19.Number=x15.Number)&&(decide (x19.Clock=x15.Clock)&&((x19.Line==x15.Line)&&true))))) (.cons (a:= .str x19.Desk) (b:= .str x15.Desk) rfl (by kernel_rfl) (by kernel_rfl) (by kernel_rfl) (.cons (a:= .i x19.Number) (b:= .i x15.Number) rfl (by kernel_rfl) (by kernel_rfl) (by kernel_rfl) (.cons (a:= .i x19.Clock) (b:= .i x15.Clock) rfl (by kernel_rfl) (by kernel_rfl) (by kernel_rfl) (.cons (a:= .str x19.Line) (b:= .str x15.Line) rfl (by kernel_rfl) (by kernel_rfl) (by kernel_rfl) .nil)))))) az))) ?_)
       refine ihB g13 (fun c20 g13=>?_) (fun c20 g13=>?_)
       ·refine sh fol kAc ?_
        refine Goes.ret ?_
        obtain rfl:=si g13
        exact Or.inr (⟨rfl,_,rfl,(gw2 [.nilslice,.i 29] (FzW.tuple (qg.cons (FzW.nilv (E:=qa)) (qg.cons (FzW.still tI) qg.nil))))⟩)
       ·refine Goes.skip ?_
        obtain rfl:=si g13
        exact Or.inl (⟨rfl,_,rfl,(Sub.norm [] [some 0] rfl rfl (.keep (.same (qd qa _)) (.keep (.gslice rfl) (.keep (.same (qd qa _)) (.keep (.same nI) (.keep (.same nI) .nil))))) (.ks .nil))⟩)
     rintro x s' (⟨rfl,l12,rfl,hsub⟩|⟨rfl,q21,rfl,hret⟩)
     ·try dsimp only at g9
      refine Goes.sub hsub ?_
      refine gh fol (kK (kZ l12 (kJ b (b.length:Int) (w64 (n7+1)) []))) ?_
      exact⟨M,(ofG 66 (kK (kZ l12 (kJ b (b.length:Int) (w64 (n7+1)) []))),(kA l12 [])),Nat.lt_succ_self _,(Sub.refl _),_,_,rfl,g9⟩
     ·try dsimp only at g9
      obtain rfl:=si g9
      exact Or.inr (⟨rfl,_,rfl,hret⟩)
    ·refine Goes.exit ?_
     obtain rfl:=si g9
     exact Or.inl (⟨rfl,_,rfl,(Sub.keep [7] rfl rfl)⟩)
  rintro x s' (⟨rfl,l8,rfl,hsub⟩|⟨rfl,q37,rfl,hret⟩)
  ·try dsimp only at h
   refine Goes.sub hsub ?_
   obtain⟨l23,e_r22,h⟩:=bnd h
   obtain⟨u24,e_u24,h⟩:=bnd h
   refine sq (gq fol [1] (kZ l8 []) (kA l23 []) (ac (hs (.callH 135 [.gslice 0 l8.length 4,.func (.func 136) [] []] (kA l8 []) [0] (.tuple []) (kA l23 [])) (qeL [some 0] [some 0] (qiB l8 e_r22) (.ks .nil) rfl rfl (.back rfl rfl (.same fa) rfl .nil) (rc (.gslice rfl) (rc (.same (qo.func sn sn)) rn)) (.same (qo.tuple sn)) rfl)) az) ?_)
   refine Goes.sub (show Sub (ofG 66 (kZ l8 []),(kA l23 [])) (ofG 66 (kZ l23 []),(kA l23 []))from(Sub.norm [] [some 0] rfl rfl (.keep (.gsliceE rfl (qgZ e_u24)) .nil) (.ks .nil))) ?_
   refine sq ?_
   refine sq ?_
   obtain⟨⟨n32,n33,n34⟩,g_v35,h⟩:=bnd h
   refine Goes.cut (s':=(ofG 66 (kZ l23 [(11,.i n34)]),(kA l23 (kAB n32 n33)))) ?_ ?_
   ·obtain⟨r25,e_r25,g_v35⟩:=bnd g_v35
    rcases wyD g_v35 with⟨c26,g_v35⟩|⟨c26,g_v35⟩
    ·obtain⟨r27,e_r27,g_v35⟩:=bnd g_v35
     obtain⟨r28,e_r28,g_v35⟩:=bnd g_v35
     obtain⟨r29,e_r29,g_v35⟩:=bnd g_v35
     simp only[Option.some.injEq,Prod.mk.injEq]at g_v35
     obtain⟨rfl,rfl,rfl⟩:=g_v35
     exact zq.rq fol [3,7,9,12,14] (kZ l23 [(11,.i r29)]) (kA l23 (kAB r25 r28)) (ac (cv (qF (decide ((l23.length:Int)>1000)) 5 e_r25)) (ac (gw c26) (ac (hs (.call 68 [.gslice 0 l23.length 4] (kA l23 []) [0] [vl qa l23] (.i r27)) (vH (FzL.cons (Fz.gs (E:=qa) rfl rfl (nl rfl)) FzL.nil) (qM N l23 e_r27) tI rfl)) (ac (cv (qF (!decide (r27=0)) 29 e_r28)) (ac (hs (.call 86 [.slice 1 0 2 2 1] (kA l23 (kAB r25 r28)) [1] [vl encI ([r25,r28]:List Int)] (.i r29)) (vH (FzL.cons (Fz.lit rfl rfl (FzL.still (AllST.cons tI (AllST.cons tI AllST.nil)))) FzL.nil) (zo N ([r25,r28]:List Int) e_r29) tI rfl)) az)))))
    ·obtain⟨r30,e_r30,g_v35⟩:=bnd g_v35
     obtain⟨r31,e_r31,g_v35⟩:=bnd g_v35
     simp only[Option.some.injEq,Prod.mk.injEq]at g_v35
     obtain⟨rfl,rfl,rfl⟩:=g_v35
     exact zq.rq fol [3,7,12,14] (kZ l23 [(11,.i r31)]) (kA l23 (kAB r25 r30)) (ac (cv (qF (decide ((l23.length:Int)>1000)) 5 e_r25)) (ac (gw c26) (ac (cv (qF false 29 e_r30)) (ac (hs (.call 86 [.slice 1 0 2 2 1] (kA l23 (kAB r25 r30)) [1] [vl encI ([r25,r30]:List Int)] (.i r31)) (vH (FzL.cons (Fz.lit rfl rfl (FzL.still (AllST.cons tI (AllST.cons tI AllST.nil)))) FzL.nil) (zo N ([r25,r30]:List Int) e_r31) tI rfl)) az))))
   try dsimp only at h
   refine sh fol (kZ l23 [(11,.i n34),(63,.bool (!decide (n34=0)))]) ?_
   refine ihB h (fun c36 h=>?_) (fun c36 h=>?_)
   ·refine sh fol ((4,.nilslice)::(kAY n34)) ?_
    refine Goes.ret ?_
    obtain rfl:=si h
    exact(gw2 [.nilslice,.i n34] (FzW.tuple (qg.cons (FzW.nilv (E:=qa)) (qg.cons (FzW.still tI) qg.nil))))
   ·refine Goes.skip ?_
    refine sh fol [(4,.gslice 0 l23.length 4),(5,.i 0)] ?_
    refine Goes.ret ?_
    obtain rfl:=si h
    exact(gw2 [.gslice 0 l23.length 4,.i 0] (FzW.tuple (qg.cons (FzW.fz (Fz.gs (E:=qa) rfl rfl (nl rfl))) (qg.cons (FzW.still tI) qg.nil))))
  ·try dsimp only at h
   obtain rfl:=si h
   exact hret
def zb (N:Nat) (hd:qb) (tl:List qb) (b:List qb):Nat→(List qb)→Int→Option ((List qb)⊕((List qb)×Int))
 |0,_,_=>none
 |K+1,l7,n8=>
  if n8<(b.length:Int)then
  (((idx b n8).bind fun x16=>
  (qw N (hd::tl) x16.Desk x16.Number x16.Clock x16.Line).bind fun r17=>
  if r17<0 then
  (app 48 l7 [x16]).bind fun l19=>
  some (.inl l19)
  else
  (idx (hd::tl) r17).bind fun x20=>
  if(!((x20.Desk==x16.Desk)&&(decide (x20.Number=x16.Number)&&(decide (x20.Clock=x16.Clock)&&((x20.Line==x16.Line)&&true)))))=true then
  some (.inr ([],29))
  else
  some (.inl l7):Option ((List qb)⊕((List qb)×Int)))).bind (fun
  |(.inl l13)=>
  zb N hd tl b K l13 (w64 (n8+1))
  |(.inr q22)=>
  some (.inr q22))
  else
  some (.inl l7)
def zU (N:Nat) (hd:qb) (tl:List qb) (b:List qb):Option ((List qb)×Int):=
 (qA N (hd::tl)).bind fun r1=>
 (qA N b).bind fun r2=>
 (kw N ([r1,r2]:List Int)).bind fun r3=>
 if(!decide (r3=0))=true then
 some ([],r3)
 else
 (jl hd tl).bind fun l6=>
 (zb N hd tl b N l6 0).bind (fun
 |(.inl l9)=>
 (qgU l9).bind fun l24=>
 ((if l9.length=l24.length then some ()else none:Option Unit)).bind fun u25=>
 ((ku (decide ((l24.length:Int)>1000)) 5).bind fun r26=>
 if(l24.length:Int)≤1000 then
 (qA N l24).bind fun r28=>
 (ku (!decide (r28=0)) 29).bind fun r29=>
 (kw N ([r26,r29]:List Int)).bind fun r30=>
 some (r26,r29,r30)
 else
 (ku false 29).bind fun r31=>
 (kw N ([r26,r31]:List Int)).bind fun r32=>
 some (r26,r31,r32):Option (Int×Int×Int)).bind fun(n33,n34,n35)=>
 if(!decide (n35=0))=true then
 some ([],n35)
 else
 some (l24,0)
 |(.inr q38)=>
 some q38)
theorem qbB (N:Nat) (hd:qb) (tl:List qb) (b:List qb) {res:(List qb)×Int} (h:zU N hd tl b=some res):qc Tryz.prog (.fn 69) [vl qa (hd::tl),vl qa b] [] (.tuple (kAV res.1 res.2)) []:=by
 unfold zU at h
 refine Goes.fnW Tryz.func69 rfl rfl (m:=66) rfl (rs:=[.tmp 4,.tmp 5]) rfl (l:=(kC (hd::tl) (kT b []))) rfl ?_
 refine sh fol (kC (hd::tl) (kT b [])) ?_
 refine sq ?_
 obtain⟨r1,e_r1,h⟩:=bnd h
 obtain⟨r2,e_r2,h⟩:=bnd h
 obtain⟨r3,e_r3,h⟩:=bnd h
 refine sq (gq fol [1,3,5] (kC (hd::tl) (kT b [(6,.i r3)])) (kAB r1 r2) (ac (cv (qM N (hd::tl) e_r1)) (ac (cv (qM N b e_r2)) (ac (hs (.call 86 [.slice 0 0 2 2 1] (kAB r1 r2) [0] [vl encI ([r1,r2]:List Int)] (.i r3)) (vH (FzL.cons (Fz.lit rfl rfl (FzL.still (AllST.cons tI (AllST.cons tI AllST.nil)))) FzL.nil) (zo N ([r1,r2]:List Int) e_r3) tI rfl)) az))) ?_)
 refine sh fol (kC (hd::tl) (kT b [(6,.i r3),(19,.bool (!decide (r3=0)))])) ?_
 refine ihB h (fun c4 h=>?_) (fun c4 h=>?_)
 ·refine sh fol ((4,.nilslice)::(kAY r3)) ?_
  refine Goes.ret ?_
  obtain rfl:=si h
  exact(gw2 [.nilslice,.i r3] (FzW.tuple (qg.cons (FzW.nilv (E:=qa)) (qg.cons (FzW.still tI) qg.nil))))
 ·refine Goes.skip ?_
  obtain⟨l6,e_r5,h⟩:=bnd h
  refine sq (gq fol [1] (kC (hd::tl) (kT b [(7,.oslice 1 l6.length 4)])) (.cells [.i r1,.i r2]::(kA l6 [])) (ac (hs (.callH 123 [vl qa (hd::tl)] (kAB r1 r2) [] (.oslice 1 l6.length 4) (.cells [.i r1,.i r2]::(kA l6 []))) (qeL [] [none,some 0] (xV hd tl e_r5) .nil rfl rfl (.old rfl rfl (.new rfl rfl (.same fa) rfl .nil)) (rc (.same (qd qa _)) rn) (.oslice rfl) rfl)) az) ?_)
  refine sq ?_
  refine sh fol (kC (hd::tl) ((7,.oslice 1 l6.length 4)::(kAb b (b.length:Int)))) ?_
  refine Goes.block ?_
  obtain⟨r10,g10,h⟩:=bnd h
  refine Goes.imp (Q:=fun x s'=>(x= .exit 0∧ ∃l9,(.inl l9)=r10∧Sub s' (ofG 66 (kW l9 []),(kA l9 [])))∨(x= .ret∧ ∃q11,(.inr q11)=r10∧qJ Tryz.prog [.tmp 4,.tmp 5] (.tuple (kAV q11.1 q11.2)) .ret s')) ?_ ?_
  ·refine Goes.sub (s':=(ofG 66 (kC (hd::tl) (kW l6 (kAb b (b.length:Int)))),(kA l6 []))) (Sub.norm [] [some 1] rfl rfl (.keep (.same (qd qa _)) (.keep (.oslice rfl) (.keep (.same (qd qa _)) (.keep (.same nI) (.keep (.same nI) .nil))))) (.ks .nil)) ?_
   refine Goes.loopS (fun M s=> ∃(l7:List qb) (n8:Int),s=(ofG 66 (kC (hd::tl) (kW l7 (kJ b (b.length:Int) n8 []))),(kA l7 []))∧zb N hd tl b M l7 n8=some r10) ?_ (m:=N) ⟨_,_,rfl,g10⟩
   rintro M s ⟨l7,n8,rfl,g10⟩
   cases M with
   |zero=>simp only[zb]at g10;cases g10
   |succ M=>
    rw[zb]at g10
    refine sh fol (kC (hd::tl) (kW l7 (kJ b (b.length:Int) n8 [(26,.bool (decide (n8<(b.length:Int))))]))) ?_
    refine sq ?_
    refine ihD g10 (fun c12 g10=>?_) (fun c12 g10=>?_)
    ·refine Goes.skip ?_
     refine sq ?_
     obtain⟨r14,g14,g10⟩:=bnd g10
     refine Goes.imp (Q:=fun x s'=>(x= .normal∧ ∃l13,(.inl l13)=r14∧Sub s' (ofG 66 (kC (hd::tl) (kW l13 (kJ b (b.length:Int) n8 []))),(kA l13 [])))∨(x= .ret∧ ∃q15,(.inr q15)=r14∧qJ Tryz.prog [.tmp 4,.tmp 5] (.tuple (kAV q15.1 q15.2)) .ret s')) ?_ ?_
     ·refine Goes.block ?_
      obtain⟨x16,e_x16,g14⟩:=bnd g14
      refine sq (gq fol [0,1] (kC (hd::tl) (kW l7 ((9,.ptr 1 0)::(kJ b (b.length:Int) n8 [])))) (kA l7 (kD x16.Desk x16.Number x16.Clock x16.Line [])) (ac (iv xX qa e_x16) (ac (la qaD qa e_x16) az)) ?_)
      obtain⟨r17,e_r17,g14⟩:=bnd g14
      refine sq (gr fol [2] (kC (hd::tl) (kW l7 ((9,.ptr 1 0)::(10,.i r17)::(kJ b (b.length:Int) n8 [])))) (ac (hs (.call 133 [vl qa (hd::tl),.func (.func 134) [] [.ptr 1 0]] (kA l7 (kD x16.Desk x16.Number x16.Clock x16.Line [])) [1] [vl qa (hd::tl),.func (.func 134) [] [.fptr [.str x16.Desk,.i x16.Number,.i x16.Clock,.str x16.Line] 0]] (.i r17)) (vH (FzL.cons (Fz.still (yK qa _ (nl rfl))) (FzL.cons (Fz.func FzL.nil (FzL.cons (Fz.ptr rfl rfl (FzL.cons (Fz.still tS) (FzL.cons (Fz.still tI) (FzL.cons (Fz.still tI) (FzL.cons (Fz.still tS) FzL.nil))))) FzL.nil)) FzL.nil)) (jY N (hd::tl) x16.Desk x16.Number x16.Clock x16.Line e_r17) tI rfl)) az) ?_)
      refine sh fol (kC (hd::tl) (kW l7 ((9,.ptr 1 0)::(10,.i r17)::(kJ b (b.length:Int) n8 [(33,.bool (decide (r17<0)))])))) ?_
      refine ihD g14 (fun c18 g14=>?_) (fun c18 g14=>?_)
      ·obtain⟨l19,e_l19,g14⟩:=bnd g14
       refine gq fol [3] (kC (hd::tl) ((7,.oslice 3 l19.length 4)::(kJ b (b.length:Int) n8 []))) (.dead::(kD x16.Desk x16.Number x16.Clock x16.Line (kD x16.Desk x16.Number x16.Clock x16.Line (kA l19 [])))) (ac (hs (.run [0,2] (zA Tryz.prog [96,96] (.oslice 0 l7.length 4) (.slice 2 0 1 1 4)) (kA l7 (kD x16.Desk x16.Number x16.Clock x16.Line (kD x16.Desk x16.Number x16.Clock x16.Line []))) (.oslice 3 l19.length 4) (.dead::(kD x16.Desk x16.Number x16.Clock x16.Line (kD x16.Desk x16.Number x16.Clock x16.Line (kA l19 [])))) true) (ji xX (E:=qa) rfl (qaV (E:=qa) (ys:=[x16]) rfl rfl rfl rfl) (qix (E:=qa) (l:=l7) rfl rfl rfl e_l19 rfl))) az) ?_
       obtain rfl:=si g14
       exact Or.inl (⟨rfl,_,rfl,(Sub.norm [] [some 3] rfl rfl (.keep (.same (qd qa _)) (.keep (.oslice rfl) (.keep (.same (qd qa _)) (.keep (.same nI) (.keep (.same nI) .nil))))) (.ks .nil))⟩)
      ·obtain⟨x20,e_x20,g14⟩:=bnd g14
       refine sq (gr fol [2,3,5] (kC (hd::tl) (kW l7 (kJ b (b.length:Int) n8 [(43,.bool (!((x20.Desk==x16.Desk)&&(decide (x20.Number=x16.Number)&&(decide (x20.Clock=x16.Clock)&&((x20.Line==x16.Line)&&true))))))]))) (ac (iv xX qa e_x20) (ac (la qaD qa e_x20) (ac (hs (.done (.opt (qaz Tryz.prog .neq 132 (.tmp 41) (.tmp 42) (.agg (kAW x20.Desk x20.Number x20.Clock x20.Line)) (.agg (kAW x16.Desk x16.Number x16.Clock x16.Line)))) (.bool (!((x20.Desk==x16.Desk)&&(decide (x20.Number=x16.Number)&&(decide (x20.Clock=x16.Clock)&&((x20.Line==x16.Line)&&true))))))) (qe9 qib (e:=((x20.Desk==x16.Desk)&&(decide (x20.Number=x16.Number)&&(decide (x20.Clock=x16.Clock)&&((x20.Line==x16.Line)&&true))))) (.cons (a:= .str x20.Desk) (b:= .str x16.Desk) rfl (by kernel_rfl) (by kernel_rfl) (by kernel_rfl) (.cons (a:= .i x20.Number) (b:= .i x16.Number) rfl (by kernel_rfl) (by kernel_rfl) (by kernel_rfl) (.cons (a:= .i x20.Clock) (b:= .i x16.Clock) rfl (by kernel_rfl) (by kernel_rfl) (by kernel_rfl) (.cons (a:= .str x20.Line) (b:= .str x16.Line) rfl (by kernel_rfl) (by kernel_rfl) (by kernel_rfl) .nil)))))) az))) ?_)
       refine ihB g14 (fun c21 g14=>?_) (fun c21 g14=>?_)
       ·refine sh fol kAc ?_
        refine Goes.ret ?_
        obtain rfl:=si g14
        exact Or.inr (⟨rfl,_,rfl,(gw2 [.nilslice,.i 29] (FzW.tuple (qg.cons (FzW.nilv (E:=qa)) (qg.cons (FzW.still tI) qg.nil))))⟩)
       ·refine Goes.skip ?_
        obtain rfl:=si g14
        exact Or.inl (⟨rfl,_,rfl,(Sub.norm [] [some 0] rfl rfl (.keep (.same (qd qa _)) (.keep (.oslice rfl) (.keep (.same (qd qa _)) (.keep (.same nI) (.keep (.same nI) .nil))))) (.ks .nil))⟩)
     rintro x s' (⟨rfl,l13,rfl,hsub⟩|⟨rfl,q22,rfl,hret⟩)
     ·try dsimp only at g10
      refine Goes.sub hsub ?_
      refine gh fol (kC (hd::tl) (kW l13 (kJ b (b.length:Int) (w64 (n8+1)) []))) ?_
      exact⟨M,(ofG 66 (kC (hd::tl) (kW l13 (kJ b (b.length:Int) (w64 (n8+1)) []))),(kA l13 [])),Nat.lt_succ_self _,(Sub.refl _),_,_,rfl,g10⟩
     ·try dsimp only at g10
      obtain rfl:=si g10
      exact Or.inr (⟨rfl,_,rfl,hret⟩)
    ·refine Goes.exit ?_
     obtain rfl:=si g10
     exact Or.inl (⟨rfl,_,rfl,(Sub.keep [7] rfl rfl)⟩)
  rintro x s' (⟨rfl,l9,rfl,hsub⟩|⟨rfl,q38,rfl,hret⟩)
  ·try dsimp only at h
   refine Goes.sub hsub ?_
   obtain⟨l24,e_r23,h⟩:=bnd h
   obtain⟨u25,e_u25,h⟩:=bnd h
   refine sq (gq fol [1] (kW l9 []) (kA l24 []) (ac (hs (.callH 135 [.oslice 0 l9.length 4,.func (.func 136) [] []] (kA l9 []) [0] (.tuple []) (kA l24 [])) (qeL [some 0] [some 0] (qi9 l9 e_r23) (.ks .nil) rfl rfl (.back rfl rfl (.same fa) rfl .nil) (rc (.oslice rfl) (rc (.same (qo.func sn sn)) rn)) (.same (qo.tuple sn)) rfl)) az) ?_)
   refine Goes.sub (show Sub (ofG 66 (kW l9 []),(kA l24 [])) (ofG 66 (kW l24 []),(kA l24 []))from(Sub.norm [] [some 0] rfl rfl (.keep (.osliceE rfl (qgZ e_u25)) .nil) (.ks .nil))) ?_
   refine sq ?_
   refine sq ?_
   obtain⟨⟨n33,n34,n35⟩,g_v36,h⟩:=bnd h
   refine Goes.cut (s':=(ofG 66 (kW l24 [(11,.i n35)]),(kA l24 (kAB n33 n34)))) ?_ ?_
   ·obtain⟨r26,e_r26,g_v36⟩:=bnd g_v36
    rcases wyD g_v36 with⟨c27,g_v36⟩|⟨c27,g_v36⟩
    ·obtain⟨r28,e_r28,g_v36⟩:=bnd g_v36
     obtain⟨r29,e_r29,g_v36⟩:=bnd g_v36
     obtain⟨r30,e_r30,g_v36⟩:=bnd g_v36
     simp only[Option.some.injEq,Prod.mk.injEq]at g_v36
     obtain⟨rfl,rfl,rfl⟩:=g_v36
     exact zq.rq fol [3,7,9,12,14] (kW l24 [(11,.i r30)]) (kA l24 (kAB r26 r29)) (ac (cv (qF (decide ((l24.length:Int)>1000)) 5 e_r26)) (ac (gw c27) (ac (hs (.call 68 [.oslice 0 l24.length 4] (kA l24 []) [0] [vl qa l24] (.i r28)) (vH (FzL.cons (Fz.os (E:=qa) rfl rfl (nl rfl)) FzL.nil) (qM N l24 e_r28) tI rfl)) (ac (cv (qF (!decide (r28=0)) 29 e_r29)) (ac (hs (.call 86 [.slice 1 0 2 2 1] (kA l24 (kAB r26 r29)) [1] [vl encI ([r26,r29]:List Int)] (.i r30)) (vH (FzL.cons (Fz.lit rfl rfl (FzL.still (AllST.cons tI (AllST.cons tI AllST.nil)))) FzL.nil) (zo N ([r26,r29]:List Int) e_r30) tI rfl)) az)))))
    ·obtain⟨r31,e_r31,g_v36⟩:=bnd g_v36
     obtain⟨r32,e_r32,g_v36⟩:=bnd g_v36
     simp only[Option.some.injEq,Prod.mk.injEq]at g_v36
     obtain⟨rfl,rfl,rfl⟩:=g_v36
     exact zq.rq fol [3,7,12,14] (kW l24 [(11,.i r32)]) (kA l24 (kAB r26 r31)) (ac (cv (qF (decide ((l24.length:Int)>1000)) 5 e_r26)) (ac (gw c27) (ac (cv (qF false 29 e_r31)) (ac (hs (.call 86 [.slice 1 0 2 2 1] (kA l24 (kAB r26 r31)) [1] [vl encI ([r26,r31]:List Int)] (.i r32)) (vH (FzL.cons (Fz.lit rfl rfl (FzL.still (AllST.cons tI (AllST.cons tI AllST.nil)))) FzL.nil) (zo N ([r26,r31]:List Int) e_r32) tI rfl)) az))))
   try dsimp only at h
   refine sh fol (kW l24 [(11,.i n35),(63,.bool (!decide (n35=0)))]) ?_
   refine ihB h (fun c37 h=>?_) (fun c37 h=>?_)
   ·refine sh fol ((4,.nilslice)::(kAY n35)) ?_
    refine Goes.ret ?_
    obtain rfl:=si h
    exact(gw2 [.nilslice,.i n35] (FzW.tuple (qg.cons (FzW.nilv (E:=qa)) (qg.cons (FzW.still tI) qg.nil))))
   ·refine Goes.skip ?_
    refine sh fol [(4,.oslice 0 l24.length 4),(5,.i 0)] ?_
    refine Goes.ret ?_
    obtain rfl:=si h
    exact(gw2 [.oslice 0 l24.length 4,.i 0] (FzW.tuple (qg.cons (FzW.fz (Fz.os (E:=qa) rfl rfl (nl rfl))) (qg.cons (FzW.still tI) qg.nil))))
  ·try dsimp only at h
   obtain rfl:=si h
   exact hret
def vK (N:Nat):(List qb)→(List qb)→Option ((List qb)×Int)
 |[],b=>zR N b
 |hd::tl,b=>zU N hd tl b
theorem qcl (N:Nat) (l:List qb) (b:List qb) {res:(List qb)×Int} (h:vK N l b=some res):qc Tryz.prog (.fn 69) [vl qa l,vl qa b] [] (.tuple (kAV res.1 res.2)) []:=by
 cases l with
 |nil=>exact qbr N b h
 |cons hd tl=>exact qbB N hd tl b h
def zK (l:List qb) (x8:qb):Nat→Int→Option Int
 |0,_=>none
 |K+1,n9=>
  (if n9<(l.length:Int)then
  (idx l n9).bind fun x13=>
  some (x13.Desk==x8.Desk)
  else
  some false:Option Bool).bind fun b14=>
  if b14=true then
  zK l x8 K (w64 (n9+1))
  else
  some n9
def zw (s17:List qb):Nat→Int→Int→Option Int
 |0,_,_=>none
 |K+1,n18,n19=>
  if n19<(s17.length:Int)then
  (idx s17 n19).bind fun x23=>
  if(!decide (x23.Number=(w64 (n18+1))))=true then
  some n18
  else
  zw s17 K (w64 (n18+1)) (w64 (n19+1))
  else
  some n18
def zf (N:Nat) (l:List qb):Nat→(List qj)→Int→Option (List qj)
 |0,_,_=>none
 |K+1,l3,n4=>
  if n4<(l.length:Int)then
  (idx l n4).bind fun x8=>
  (zK l x8 N n4).bind fun n10=>
  (cut l n4 n10).bind fun s17=>
  (zw s17 N 0 0).bind fun n20=>
  (app 24 l3 [(⟨x8.Desk,n20⟩:qj)]).bind fun l25=>
  zf N l K l25 n10
  else
  some l3
def jm (N:Nat) (l:List qb):Option ((List qj)×Int):=
 (qA N l).bind fun r1=>
 if(!decide (r1=0))=true then
 some ([],r1)
 else
 (zf N l N ([]:List qj) 0).bind fun l5=>
 some (l5,0)
theorem qb7 (N:Nat) (l:List qb) {res:(List qj)×Int} (h:jm N l=some res):qc Tryz.prog (.fn 70) [vl qa l] [] (.tuple [vl qf res.1,.i res.2]) []:=by
 unfold jm at h
 refine Goes.fnW Tryz.func70 rfl rfl (m:=69) rfl (rs:=[.tmp 2,.tmp 3]) rfl (l:=(kC l [])) rfl ?_
 refine sh fol (kC l []) ?_
 refine sq ?_
 obtain⟨r1,e_r1,h⟩:=bnd h
 refine sq (gr fol [1] (kC l [(4,.i r1)]) (ac (cv (qM N l e_r1)) az) ?_)
 refine sh fol (kC l [(4,.i r1),(14,.bool (!decide (r1=0)))]) ?_
 refine ihB h (fun c2 h=>?_) (fun c2 h=>?_)
 ·refine sh fol [(2,.nilslice),(3,.i r1)] ?_
  refine Goes.ret ?_
  obtain rfl:=si h
  exact(gw2 [.nilslice,.i r1] (FzW.tuple (qg.cons (FzW.nilv (E:=qf)) (qg.cons (FzW.still tI) qg.nil))))
 ·refine Goes.skip ?_
  refine sh fol (kC l [(5,.nilslice)]) ?_
  refine sq ?_
  refine sh fol (kC l [(5,.nilslice),(6,.i 0)]) ?_
  refine Goes.block ?_
  obtain⟨r6,g6,h⟩:=bnd h
  refine Goes.imp (Q:=fun x s'=>(x= .exit 0∧ ∃l5,l5=r6∧Sub s' (ofG 69 [(5,.gslice 0 l5.length 2)],(kE l5 [])))) ?_ ?_
  ·refine Goes.sub (s':=(ofG 69 (kC l [(5,.gslice 0 ([]:List qj).length 2),(6,.i 0)]),kAX)) (Sub.norm [] [none] rfl rfl (.keep (.same (qd qa _)) (.keep .nil (.keep (.same nI) .nil))) (.fresh .nil)) ?_
   refine Goes.loopS (fun M s=> ∃(l3:List qj) (n4:Int),s=(ofG 69 (kC l [(5,.gslice 0 l3.length 2),(6,.i n4)]),(kE l3 []))∧zf N l M l3 n4=some r6) ?_ (m:=N) ⟨_,_,rfl,g6⟩
   rintro M s ⟨l3,n4,rfl,g6⟩
   cases M with
   |zero=>simp only[zf]at g6;cases g6
   |succ M=>
    rw[zf]at g6
    refine sq ?_
    refine sh fol (kC l [(5,.gslice 0 l3.length 2),(6,.i n4),(19,.bool (decide (n4<(l.length:Int))))]) ?_
    refine ihD g6 (fun c7 g6=>?_) (fun c7 g6=>?_)
    ·refine Goes.skip ?_
     refine Goes.block ?_
     refine Goes.scope ?_
     obtain⟨x8,e_x8,g6⟩:=bnd g6
     refine sq (gq fol [2,4] (kC l (kR l3 n4 [])) (kE l3 [.cells [.str x8.Desk,.i 0]]) (ac (iv xX qa e_x8) (ac (lv 0 ce9 qa e_x8 rfl) az)) ?_)
     refine sh fol (kC l (kR l3 n4 [(8,.i n4)])) ?_
     refine sq (Goes.block ?_)
     obtain⟨r11,g11,g6⟩:=bnd g6
     refine Goes.imp (Q:=fun x s'=>(x= .exit 2∧ ∃n10,n10=r11∧Sub s' (ofG 69 (kC l (kR l3 n4 [(8,.i n10)])),(kE l3 [.cells [.str x8.Desk,.i 0]])))) ?_ ?_
     ·refine Goes.loopS (fun M s=> ∃(n9:Int),s=(ofG 69 (kC l (kR l3 n4 [(8,.i n9)])),(kE l3 [.cells [.str x8.Desk,.i 0]]))∧zK l x8 M n9=some r11) ?_ (m:=N) ⟨_,rfl,g11⟩
      rintro M s ⟨n9,rfl,g11⟩
      cases M with
      |zero=>simp only[zK]at g11;cases g11
      |succ M=>
       rw[zK]at g11
       refine sq ?_
       refine sq ?_
       obtain⟨b14,g_v15,g11⟩:=bnd g11
       refine Goes.cut (s':=(ofG 69 (kC l (kR l3 n4 [(8,.i n9),(40,.bool b14)])),(kE l3 [.cells [.str x8.Desk,.i 0]]))) ?_ ?_
       ·rcases wyD g_v15 with⟨c12,g_v15⟩|⟨c12,g_v15⟩
        ·obtain⟨x13,e_x13,g_v15⟩:=bnd g_v15
         obtain rfl:=si g_v15
         exact tr fol [4,7,9] (kC l (kR l3 n4 [(8,.i n9),(40,.bool (x13.Desk==x8.Desk))])) (ac (gw c12) (ac (iv xX qa e_x13) (ac (lv 0 ce9 qa e_x13 rfl) az)))
        ·obtain rfl:=si g_v15
         exact tr fol [4] (kC l (kR l3 n4 [(8,.i n9),(40,.bool false)])) (ac (gw c12) az)
       refine ihB g11 (fun c16 g11=>?_) (fun c16 g11=>?_)
       ·refine Goes.skip ?_
        refine Goes.block ?_
        refine gh fol (kC l (kR l3 n4 [(8,.i (w64 (n9+1)))])) ?_
        exact⟨M,(ofG 69 (kC l (kR l3 n4 [(8,.i (w64 (n9+1)))])),(kE l3 [.cells [.str x8.Desk,.i 0]])),Nat.lt_succ_self _,(Sub.refl _),_,rfl,g11⟩
       ·refine Goes.exit ?_
        obtain rfl:=si g11
        exact⟨rfl,_,rfl,(Sub.keep [0,5,6,7,8] rfl rfl)⟩
     rintro x s' ⟨rfl,n10,rfl,hsub⟩
     refine Goes.sub hsub ?_
     refine sq (Goes.label ?_)
     refine sq ?_
     obtain⟨s17,e_s17,g6⟩:=bnd g6
     refine sq (gr fol [3] (kC l (kO l3 n10 s17 (s17.length:Int) [(48,.i 0)])) (ac (hs (.done (.opt (vo Tryz.prog 96 (vl qa l) (some (.i n4)) (some (.i n10)) none)) (vl qa s17)) (qd6 xX (E:=qa) rfl (some n4) (some n10) e_s17)) az) ?_)
     refine Goes.block ?_
     obtain⟨r21,g21,g6⟩:=bnd g6
     refine Goes.imp (Q:=fun x s'=>(x= .exit 4∧ ∃n20,n20=r21∧Sub s' (ofG 69 (kC l [(5,.gslice 0 l3.length 2),(7,.ptr 1 0),(8,.i n10)]),(kE l3 (kAC x8.Desk n20 []))))) ?_ ?_
     ·refine Goes.loopS (fun M s=> ∃(n18:Int) (n19:Int),s=(ofG 69 (kC l (kO l3 n10 s17 (s17.length:Int) [(48,.i n19)])),(kE l3 (kAC x8.Desk n18 [])))∧zw s17 M n18 n19=some r21) ?_ (m:=N) ⟨_,_,rfl,g21⟩
      rintro M s ⟨n18,n19,rfl,g21⟩
      cases M with
      |zero=>simp only[zw]at g21;cases g21
      |succ M=>
       rw[zw]at g21
       refine sh fol (kC l (kO l3 n10 s17 (s17.length:Int) [(48,.i n19),(49,.bool (decide (n19<(s17.length:Int))))])) ?_
       refine sq ?_
       refine ihD g21 (fun c22 g21=>?_) (fun c22 g21=>?_)
       ·refine Goes.skip ?_
        refine sq (Goes.block ?_)
        obtain⟨x23,e_x23,g21⟩:=bnd g21
        refine sq (gq fol [0,1] (kC l [(5,.gslice 0 l3.length 2),(7,.ptr 1 0),(8,.i n10),(10,.ptr 2 0),(46,vl qa s17),(47,.i (s17.length:Int)),(48,.i n19)]) (kE l3 (kAC x8.Desk n18 (kD x23.Desk x23.Number x23.Clock x23.Line []))) (ac (iv xX qa e_x23) (ac (la qaD qa e_x23) az)) ?_)
        refine sq ?_
        refine sh fol (kC l (kO l3 n10 s17 (s17.length:Int) [(48,.i n19),(57,.bool (!decide (x23.Number=(w64 (n18+1)))))])) ?_
        refine ihB g21 (fun c24 g21=>?_) (fun c24 g21=>?_)
        ·refine Goes.exit ?_
         obtain rfl:=si g21
         exact⟨rfl,_,rfl,(Sub.norm [] [some 0,some 1] rfl rfl (.keep (.same (qd qa _)) (.keep (.gslice rfl) (.kp (.keep (.same nI) .nil)))) (.ks (.kb rfl (.same sn) .nil)))⟩
        ·refine Goes.skip ?_
         refine Goes.rg fol (kC l (kO l3 n10 s17 (s17.length:Int) [(48,.i n19)])) (kE l3 (kAC x8.Desk (w64 (n18+1)) (kD x23.Desk x23.Number x23.Clock x23.Line []))) ?_
         refine gh fol (kC l (kO l3 n10 s17 (s17.length:Int) [(48,.i (w64 (n19+1)))])) ?_
         exact⟨M,(ofG 69 (kC l (kO l3 n10 s17 (s17.length:Int) [(48,.i (w64 (n19+1)))])),(kE l3 (kAC x8.Desk (w64 (n18+1)) []))),Nat.lt_succ_self _,(Sub.norm [] [some 0,some 1] rfl rfl (.keep (.same (qd qa _)) (.keep (.gslice rfl) (.kp (.keep (.same nI) (.keep (.same (qd qa _)) (.keep (.same nI) (.keep (.same nI) .nil))))))) (.ks (.kb rfl (.same sn) .nil))),_,_,rfl,g21⟩
       ·refine Goes.exit ?_
        obtain rfl:=si g21
        exact⟨rfl,_,rfl,(Sub.keep [0,5,7,8] rfl rfl)⟩
     rintro x s' ⟨rfl,n20,rfl,hsub⟩
     refine Goes.sub hsub ?_
     obtain⟨l25,e_l25,g6⟩:=bnd g6
     refine sq (gq fol [3] (kC l [(5,.gslice 3 l25.length 2),(8,.i n10)]) (.dead::(kAC x8.Desk n20 (kAC x8.Desk n20 (kE l25 [])))) (ac (hs (.run [0,2] (zA Tryz.prog [97,97] (.gslice 0 l3.length 2) (.slice 2 0 1 1 2)) (kE l3 (kAC x8.Desk n20 (kAC x8.Desk n20 []))) (.gslice 3 l25.length 2) (.dead::(kAC x8.Desk n20 (kAC x8.Desk n20 (kE l25 [])))) true) (ji sl97 (E:=qf) rfl (qaV (E:=qf) (ys:=[(⟨x8.Desk,n20⟩:qj)]) rfl rfl rfl rfl) (qbI (E:=qf) (l:=l3) rfl rfl rfl e_l25 rfl))) az) ?_)
     refine gh fol (kC l [(5,.gslice 3 l25.length 2),(6,.i n10)]) ?_
     exact⟨M,(ofG 69 (kC l [(5,.gslice 0 l25.length 2),(6,.i n10)]),(kE l25 [])),Nat.lt_succ_self _,(Sub.norm [] [some 3] rfl rfl (.keep (.same (qd qa _)) (.keep (.gslice rfl) (.keep (.same nI) .nil))) (.ks .nil)),_,_,rfl,g6⟩
    ·refine Goes.exit ?_
     obtain rfl:=si g6
     exact⟨rfl,_,rfl,(Sub.keep [5] rfl rfl)⟩
  rintro x s' ⟨rfl,l5,rfl,hsub⟩
  refine Goes.sub hsub ?_
  refine sh fol [(2,.gslice 0 l5.length 2),(3,.i 0)] ?_
  refine Goes.ret ?_
  obtain rfl:=si h
  exact(gw2 [.gslice 0 l5.length 2,.i 0] (FzW.tuple (qg.cons (FzW.fz (Fz.gs (E:=qf) rfl rfl (nl rfl))) (qg.cons (FzW.still tI) qg.nil))))
def zn (b:List qb) (n3:Int) (l2:List qb):Nat→Int→Option Int
 |0,_=>none
 |K+1,n11=>
  (if n11<(l2.length:Int)then
  (idx l2 n11).bind fun x15=>
  (idx b n3).bind fun x16=>
  if(ltL x15.Desk x16.Desk)=true then
  some true
  else
  if(x15.Desk==x16.Desk)=true then
  some (decide (x15.Number<x16.Number))
  else
  some false
  else
  some false:Option Bool).bind fun b19=>
  if b19=true then
  zn b n3 l2 K (w64 (n11+1))
  else
  some n11
def zC (N:Nat) (b:List qb):Nat→(List qb)→Int→Option ((List qb)⊕((List qb)×Int))
 |0,_,_=>none
 |K+1,l2,n3=>
  if n3<(b.length:Int)then
  (((zn b n3 l2 N 0).bind fun n12=>
  (if n12<(l2.length:Int)then
  (idx l2 n12).bind fun x23=>
  (idx b n3).bind fun x24=>
  if(x23.Desk==x24.Desk)=true then
  some (decide (x23.Number=x24.Number))
  else
  some false
  else
  some false:Option Bool).bind fun b26=>
  if b26=true then
  (idx l2 n12).bind fun x29=>
  (idx b n3).bind fun x30=>
  if(!((x29.Desk==x30.Desk)&&(decide (x29.Number=x30.Number)&&(decide (x29.Clock=x30.Clock)&&((x29.Line==x30.Line)&&true)))))=true then
  some (.inr ([],29))
  else
  some (.inl l2)
  else
  (cut l2 0 n12).bind fun s32=>
  (app 48 ([]:List qb) s32).bind fun l33=>
  (idx b n3).bind fun x34=>
  (app 48 l33 [x34]).bind fun l35=>
  (cut l2 n12 (l2.length:Int)).bind fun s36=>
  (app 48 l35 s36).bind fun l37=>
  some (.inl l37):Option ((List qb)⊕((List qb)×Int)))).bind (fun
  |(.inl l8)=>
  zC N b K l8 (w64 (n3+1))
  |(.inr q38)=>
  some (.inr q38))
  else
  some (.inl l2)
def vB (N:Nat) (a:List qb) (b:List qb):Option ((List qb)×Int):=
 (app 48 ([]:List qb) a).bind fun l1=>
 (zC N b N l1 0).bind (fun
 |(.inl l4)=>
 if(l4.length:Int)>1000 then
 some ([],5)
 else
 (zH N l4).bind fun r40=>
 if(!decide (r40=0))=true then
 some ([],29)
 else
 some (l4,0)
 |(.inr q42)=>
 some q42)
theorem qcz (N:Nat) (a:List qb) (b:List qb) {res:(List qb)×Int} (h:vB N a b=some res):qc Tryz.prog (.fn 71) [vl qa a,vl qa b] [] (.tuple (kAV res.1 res.2)) []:=by
 unfold vB at h
 refine Goes.fnW Tryz.func71 rfl rfl (m:=124) rfl (rs:=[.tmp 4,.tmp 5]) rfl (l:=(kC a (kT b []))) rfl ?_
 refine sh fol (kC a (kT b [])) ?_
 obtain⟨l1,e_l1,h⟩:=bnd h
 refine sq (gq fol [2] (kT b [(6,.oslice 1 l1.length 4)]) (.dead::(kA l1 [])) (ac (hs (.run [0] (zA Tryz.prog [98,98] (.slice 0 0 0 0 4) (vl qa a)) [.cells []] (.oslice 1 l1.length 4) (.dead::(kA l1 [])) true) (ji jI (E:=qa) rfl (qec (E:=qa) rfl _) (qfm (E:=qa) rfl rfl rfl e_l1 rfl))) az) ?_)
 refine sq ?_
 refine sh fol (kT b [(6,.oslice 1 l1.length 4),(7,.i 0)]) ?_
 refine Goes.block ?_
 obtain⟨r5,g5,h⟩:=bnd h
 refine Goes.imp (Q:=fun x s'=>(x= .exit 0∧ ∃l4,(.inl l4)=r5∧Sub s' (ofG 124 [(6,.oslice 0 l4.length 4)],(kA l4 [])))∨(x= .ret∧ ∃q6,(.inr q6)=r5∧qJ Tryz.prog [.tmp 4,.tmp 5] (.tuple (kAV q6.1 q6.2)) .ret s')) ?_ ?_
 ·refine Goes.sub (s':=(ofG 124 (kT b [(6,.oslice 0 l1.length 4),(7,.i 0)]),(kA l1 []))) (Sub.norm [] [some 1] rfl rfl (.keep (.same (qd qa _)) (.keep (.oslice rfl) (.keep (.same nI) .nil))) (.ks .nil)) ?_
  refine Goes.loopS (fun M s=> ∃(l2:List qb) (n3:Int),s=(ofG 124 (kF b l2 n3 []),(kA l2 []))∧zC N b M l2 n3=some r5) ?_ (m:=N) ⟨_,_,rfl,g5⟩
  rintro M s ⟨l2,n3,rfl,g5⟩
  cases M with
  |zero=>simp only[zC]at g5;cases g5
  |succ M=>
   rw[zC]at g5
   refine sq ?_
   refine sh fol (kF b l2 n3 [(15,.bool (decide (n3<(b.length:Int))))]) ?_
   refine ihD g5 (fun c7 g5=>?_) (fun c7 g5=>?_)
   ·refine Goes.skip ?_
    refine sq ?_
    obtain⟨r9,g9,g5⟩:=bnd g5
    refine Goes.imp (Q:=fun x s'=>(x= .normal∧ ∃l8,(.inl l8)=r9∧Sub s' (ofG 124 (kF b l8 n3 []),(kA l8 [])))∨(x= .ret∧ ∃q10,(.inr q10)=r9∧qJ Tryz.prog [.tmp 4,.tmp 5] (.tuple (kAV q10.1 q10.2)) .ret s')) ?_ ?_
    ·refine Goes.block ?_
     refine sh fol (kF b l2 n3 [(8,.i 0)]) ?_
     refine sq (Goes.block ?_)
     obtain⟨r13,g13,g9⟩:=bnd g9
     refine Goes.imp (Q:=fun x s'=>(x= .exit 2∧ ∃n12,n12=r13∧Sub s' (ofG 124 (kF b l2 n3 [(8,.i n12)]),(kA l2 [])))) ?_ ?_
     ·refine Goes.loopS (fun M s=> ∃(n11:Int),s=(ofG 124 (kF b l2 n3 [(8,.i n11)]),(kA l2 []))∧zn b n3 l2 M n11=some r13) ?_ (m:=N) ⟨_,rfl,g13⟩
      rintro M s ⟨n11,rfl,g13⟩
      cases M with
      |zero=>simp only[zn]at g13;cases g13
      |succ M=>
       rw[zn]at g13
       refine sq ?_
       refine sq ?_
       obtain⟨b19,g_v20,g13⟩:=bnd g13
       refine Goes.cut (s':=(ofG 124 (kF b l2 n3 [(8,.i n11),(60,.bool b19)]),(kA l2 []))) ?_ ?_
       ·rcases wyD g_v20 with⟨c14,g_v20⟩|⟨c14,g_v20⟩
        ·obtain⟨x15,e_x15,g_v20⟩:=bnd g_v20
         obtain⟨x16,e_x16,g_v20⟩:=bnd g_v20
         rcases wyB g_v20 with⟨c17,g_v20⟩|⟨c17,g_v20⟩
         ·obtain rfl:=si g_v20
          exact tr fol [4,7,9,12,14,16] (kF b l2 n3 [(8,.i n11),(60,.bool true)]) (ac (gw c14) (ac (hs (.done (.opt (ql Tryz.prog 98 (.oslice 0 l2.length 4) (.i n11))) (.ptr 0 ((n11:Int).toNat*4+0))) (qbi jI e_x15)) (ac (hs (.run [0] (jc Tryz.prog 9 (.ptr 0 ((n11:Int).toNat*4+0))) (kA l2 []) (.str x15.Desk) (kA l2 []) false) (qda ce9 (E:=qa) (l:=l2) rfl rfl e_x15 (nl rfl) rfl)) (ac (iv jI qa e_x16) (ac (lv 0 ce9 qa e_x16 rfl) (ac (gw c17) az))))))
         ·rcases wyB g_v20 with⟨c18,g_v20⟩|⟨c18,g_v20⟩
          ·obtain rfl:=si g_v20
           exact tr fol [4,7,9,12,14,16,19,21,24,26,28,31,33,36,38] (kF b l2 n3 [(8,.i n11),(60,.bool (decide (x15.Number<x16.Number)))]) (ac (gw c14) (ac (hs (.done (.opt (ql Tryz.prog 98 (.oslice 0 l2.length 4) (.i n11))) (.ptr 0 ((n11:Int).toNat*4+0))) (qbi jI e_x15)) (ac (hs (.run [0] (jc Tryz.prog 9 (.ptr 0 ((n11:Int).toNat*4+0))) (kA l2 []) (.str x15.Desk) (kA l2 []) false) (qda ce9 (E:=qa) (l:=l2) rfl rfl e_x15 (nl rfl) rfl)) (ac (iv jI qa e_x16) (ac (lv 0 ce9 qa e_x16 rfl) (ac (gw c17) (ac (hs (.done (.opt (ql Tryz.prog 98 (.oslice 0 l2.length 4) (.i n11))) (.ptr 0 ((n11:Int).toNat*4+0))) (qbi jI e_x15)) (ac (hs (.run [0] (jc Tryz.prog 9 (.ptr 0 ((n11:Int).toNat*4+0))) (kA l2 []) (.str x15.Desk) (kA l2 []) false) (qda ce9 (E:=qa) (l:=l2) rfl rfl e_x15 (nl rfl) rfl)) (ac (iv jI qa e_x16) (ac (lv 0 ce9 qa e_x16 rfl) (ac (gw c18) (ac (hs (.done (.opt (ql Tryz.prog 98 (.oslice 0 l2.length 4) (.i n11))) (.ptr 0 ((n11:Int).toNat*4+0))) (qbi jI e_x15)) (ac (hs (.run [0] (jc Tryz.prog 3 (.ptr 0 ((n11:Int).toNat*4+1))) (kA l2 []) (.i x15.Number) (kA l2 []) false) (qda ce3 (E:=qa) (l:=l2) rfl rfl e_x15 (nl rfl) rfl)) (ac (iv jI qa e_x16) (ac (lv 1 ce3 qa e_x16 rfl) az)))))))))))))))
          ·obtain rfl:=si g_v20
           exact tr fol [4,7,9,12,14,16,19,21,24,26,28] (kF b l2 n3 [(8,.i n11),(60,.bool false)]) (ac (gw c14) (ac (hs (.done (.opt (ql Tryz.prog 98 (.oslice 0 l2.length 4) (.i n11))) (.ptr 0 ((n11:Int).toNat*4+0))) (qbi jI e_x15)) (ac (hs (.run [0] (jc Tryz.prog 9 (.ptr 0 ((n11:Int).toNat*4+0))) (kA l2 []) (.str x15.Desk) (kA l2 []) false) (qda ce9 (E:=qa) (l:=l2) rfl rfl e_x15 (nl rfl) rfl)) (ac (iv jI qa e_x16) (ac (lv 0 ce9 qa e_x16 rfl) (ac (gw c17) (ac (hs (.done (.opt (ql Tryz.prog 98 (.oslice 0 l2.length 4) (.i n11))) (.ptr 0 ((n11:Int).toNat*4+0))) (qbi jI e_x15)) (ac (hs (.run [0] (jc Tryz.prog 9 (.ptr 0 ((n11:Int).toNat*4+0))) (kA l2 []) (.str x15.Desk) (kA l2 []) false) (qda ce9 (E:=qa) (l:=l2) rfl rfl e_x15 (nl rfl) rfl)) (ac (iv jI qa e_x16) (ac (lv 0 ce9 qa e_x16 rfl) (ac (gw c18) az)))))))))))
        ·obtain rfl:=si g_v20
         exact tr fol [4] (kF b l2 n3 [(8,.i n11),(60,.bool false)]) (ac (gw c14) az)
       refine ihB g13 (fun c21 g13=>?_) (fun c21 g13=>?_)
       ·refine Goes.skip ?_
        refine Goes.block ?_
        refine gh fol (kF b l2 n3 [(8,.i (w64 (n11+1)))]) ?_
        exact⟨M,(ofG 124 (kF b l2 n3 [(8,.i (w64 (n11+1)))]),(kA l2 [])),Nat.lt_succ_self _,(Sub.refl _),_,rfl,g13⟩
       ·refine Goes.exit ?_
        obtain rfl:=si g13
        exact⟨rfl,_,rfl,(Sub.keep [1,6,7,8] rfl rfl)⟩
     rintro x s' ⟨rfl,n12,rfl,hsub⟩
     refine Goes.sub hsub ?_
     refine sq ?_
     refine sq ?_
     obtain⟨b26,g_v27,g9⟩:=bnd g9
     refine Goes.cut (s':=(ofG 124 (kF b l2 n3 [(8,.i n12),(92,.bool b26)]),(kA l2 []))) ?_ ?_
     ·rcases wyD g_v27 with⟨c22,g_v27⟩|⟨c22,g_v27⟩
      ·obtain⟨x23,e_x23,g_v27⟩:=bnd g_v27
       obtain⟨x24,e_x24,g_v27⟩:=bnd g_v27
       rcases wyB g_v27 with⟨c25,g_v27⟩|⟨c25,g_v27⟩
       ·obtain rfl:=si g_v27
        exact tr fol [4,7,9,12,14,17,20,22,25,27] (kF b l2 n3 [(8,.i n12),(92,.bool (decide (x23.Number=x24.Number)))]) (ac (gw c22) (ac (hs (.done (.opt (ql Tryz.prog 98 (.oslice 0 l2.length 4) (.i n12))) (.ptr 0 ((n12:Int).toNat*4+0))) (qbi jI e_x23)) (ac (hs (.run [0] (jc Tryz.prog 9 (.ptr 0 ((n12:Int).toNat*4+0))) (kA l2 []) (.str x23.Desk) (kA l2 []) false) (qda ce9 (E:=qa) (l:=l2) rfl rfl e_x23 (nl rfl) rfl)) (ac (iv jI qa e_x24) (ac (lv 0 ce9 qa e_x24 rfl) (ac (gw c25) (ac (hs (.done (.opt (ql Tryz.prog 98 (.oslice 0 l2.length 4) (.i n12))) (.ptr 0 ((n12:Int).toNat*4+0))) (qbi jI e_x23)) (ac (hs (.run [0] (jc Tryz.prog 3 (.ptr 0 ((n12:Int).toNat*4+1))) (kA l2 []) (.i x23.Number) (kA l2 []) false) (qda ce3 (E:=qa) (l:=l2) rfl rfl e_x23 (nl rfl) rfl)) (ac (iv jI qa e_x24) (ac (lv 1 ce3 qa e_x24 rfl) az))))))))))
       ·obtain rfl:=si g_v27
        exact tr fol [4,7,9,12,14,17] (kF b l2 n3 [(8,.i n12),(92,.bool false)]) (ac (gw c22) (ac (hs (.done (.opt (ql Tryz.prog 98 (.oslice 0 l2.length 4) (.i n12))) (.ptr 0 ((n12:Int).toNat*4+0))) (qbi jI e_x23)) (ac (hs (.run [0] (jc Tryz.prog 9 (.ptr 0 ((n12:Int).toNat*4+0))) (kA l2 []) (.str x23.Desk) (kA l2 []) false) (qda ce9 (E:=qa) (l:=l2) rfl rfl e_x23 (nl rfl) rfl)) (ac (iv jI qa e_x24) (ac (lv 0 ce9 qa e_x24 rfl) (ac (gw c25) az))))))
      ·obtain rfl:=si g_v27
       exact tr fol [4] (kF b l2 n3 [(8,.i n12),(92,.bool false)]) (ac (gw c22) az)
     refine ihB g9 (fun c28 g9=>?_) (fun c28 g9=>?_)
     ·refine sq ?_
      obtain⟨x29,e_x29,g9⟩:=bnd g9
      obtain⟨x30,e_x30,g9⟩:=bnd g9
      refine sq (gr fol [2,3,6,7,8] (kF b l2 n3 [(101,.bool (!((x29.Desk==x30.Desk)&&(decide (x29.Number=x30.Number)&&(decide (x29.Clock=x30.Clock)&&((x29.Line==x30.Line)&&true))))))]) (ac (hs (.done (.opt (ql Tryz.prog 98 (.oslice 0 l2.length 4) (.i n12))) (.ptr 0 ((n12:Int).toNat*4+0))) (qbi jI e_x29)) (ac (hs (.run [0] (jc Tryz.prog 201 (.ptr 0 ((n12:Int).toNat*4+0))) (kA l2 []) (.agg (kAW x29.Desk x29.Number x29.Clock x29.Line)) (kA l2 []) false) (ld_pa qcZ (E:=qa) (l:=l2) rfl rfl e_x29)) (ac (iv jI qa e_x30) (ac (la qcZ qa e_x30) (ac (hs (.done (.opt (qaz Tryz.prog .neq 201 (.tmp 96) (.tmp 100) (.agg (kAW x29.Desk x29.Number x29.Clock x29.Line)) (.agg (kAW x30.Desk x30.Number x30.Clock x30.Line)))) (.bool (!((x29.Desk==x30.Desk)&&(decide (x29.Number=x30.Number)&&(decide (x29.Clock=x30.Clock)&&((x29.Line==x30.Line)&&true))))))) (qe9 qjq (e:=((x29.Desk==x30.Desk)&&(decide (x29.Number=x30.Number)&&(decide (x29.Clock=x30.Clock)&&((x29.Line==x30.Line)&&true))))) (.cons (a:= .str x29.Desk) (b:= .str x30.Desk) rfl (by kernel_rfl) (by kernel_rfl) (by kernel_rfl) (.cons (a:= .i x29.Number) (b:= .i x30.Number) rfl (by kernel_rfl) (by kernel_rfl) (by kernel_rfl) (.cons (a:= .i x29.Clock) (b:= .i x30.Clock) rfl (by kernel_rfl) (by kernel_rfl) (by kernel_rfl) (.cons (a:= .str x29.Line) (b:= .str x30.Line) rfl (by kernel_rfl) (by kernel_rfl) (by kernel_rfl) .nil)))))) az))))) ?_)
      refine ihB g9 (fun c31 g9=>?_) (fun c31 g9=>?_)
      ·refine sh fol kAc ?_
       refine Goes.ret ?_
       obtain rfl:=si g9
       exact Or.inr (⟨rfl,_,rfl,(gw2 [.nilslice,.i 29] (FzW.tuple (qg.cons (FzW.nilv (E:=qa)) (qg.cons (FzW.still tI) qg.nil))))⟩)
      ·refine Goes.skip ?_
       refine Goes.exit ?_
       obtain rfl:=si g9
       exact Or.inl (⟨rfl,_,rfl,(Sub.keep [1,6,7] rfl rfl)⟩)
     ·refine Goes.skip ?_
      refine Goes.sub (s':=(ofG 124 (kT b [(6,vl qa l2),(7,.i n3),(8,.i n12),(92,.bool b26)]),[])) (Sub.norm [0] [] rfl rfl (.keep (.same (qd qa _)) (.keep (.frz (Fz.os (E:=qa) rfl rfl (nl rfl)) (qd qa _)) (.keep (.same nI) (.keep (.same nI) (.keep (.same nB) .nil))))) .nil) ?_
      obtain⟨s32,e_s32,g9⟩:=bnd g9
      obtain⟨l33,e_l33,g9⟩:=bnd g9
      obtain⟨x34,e_x34,g9⟩:=bnd g9
      obtain⟨l35,e_l35,g9⟩:=bnd g9
      obtain⟨s36,e_s36,g9⟩:=bnd g9
      obtain⟨l37,e_l37,g9⟩:=bnd g9
      refine gq fol [3,4,7,8,10,13,14] (kT b [(6,.oslice 4 l37.length 4),(7,.i n3)]) (.dead:: .dead::(kD x34.Desk x34.Number x34.Clock x34.Line (.dead::(kA l37 [])))) (ac (hs (.done (.opt (vo Tryz.prog 98 (vl qa l2) none (some (.i n12)) none)) (vl qa s32)) (qd6 jI (E:=qa) rfl none (some n12) e_s32)) (ac (hs (.run [0] (zA Tryz.prog [98,98] (.slice 0 0 0 0 4) (vl qa s32)) [.cells []] (.oslice 1 l33.length 4) (.dead::(kA l33 [])) true) (ji jI (E:=qa) rfl (qec (E:=qa) rfl _) (qfm (E:=qa) rfl rfl rfl e_l33 rfl))) (ac (iv jI qa e_x34) (ac (la qcZ qa e_x34) (ac (hs (.run [1,2] (zA Tryz.prog [98,98] (.oslice 1 l33.length 4) (.slice 2 0 1 1 4)) (.dead::(kA l33 (kD x34.Desk x34.Number x34.Clock x34.Line []))) (.oslice 3 l35.length 4) (.dead:: .dead::(kD x34.Desk x34.Number x34.Clock x34.Line (kA l35 []))) true) (ji jI (E:=qa) rfl (qaV (E:=qa) (ys:=[x34]) rfl rfl rfl rfl) (qix (E:=qa) (l:=l33) rfl rfl rfl e_l35 rfl))) (ac (hs (.done (.opt (vo Tryz.prog 98 (vl qa l2) (some (.i n12)) none none)) (vl qa s36)) (qd6 jI (E:=qa) rfl (some n12) none e_s36)) (ac (hs (.run [3] (zA Tryz.prog [98,98] (.oslice 3 l35.length 4) (vl qa s36)) (.dead:: .dead::(kD x34.Desk x34.Number x34.Clock x34.Line (kA l35 []))) (.oslice 4 l37.length 4) (.dead:: .dead::(kD x34.Desk x34.Number x34.Clock x34.Line (.dead::(kA l37 [])))) true) (ji jI (E:=qa) rfl (qec (E:=qa) rfl _) (qix (E:=qa) (l:=l35) rfl rfl rfl e_l37 rfl))) az))))))) ?_
      obtain rfl:=si g9
      exact Or.inl (⟨rfl,_,rfl,(Sub.norm [] [some 4] rfl rfl (.keep (.same (qd qa _)) (.keep (.oslice rfl) (.keep (.same nI) .nil))) (.ks .nil))⟩)
    rintro x s' (⟨rfl,l8,rfl,hsub⟩|⟨rfl,q38,rfl,hret⟩)
    ·try dsimp only at g5
     refine Goes.sub hsub ?_
     refine gh fol (kF b l8 (w64 (n3+1)) []) ?_
     exact⟨M,(ofG 124 (kF b l8 (w64 (n3+1)) []),(kA l8 [])),Nat.lt_succ_self _,(Sub.refl _),_,_,rfl,g5⟩
    ·try dsimp only at g5
     obtain rfl:=si g5
     exact Or.inr (⟨rfl,_,rfl,hret⟩)
   ·refine Goes.exit ?_
    obtain rfl:=si g5
    exact Or.inl (⟨rfl,_,rfl,(Sub.keep [6] rfl rfl)⟩)
 rintro x s' (⟨rfl,l4,rfl,hsub⟩|⟨rfl,q42,rfl,hret⟩)
 ·try dsimp only at h
  refine Goes.sub hsub ?_
  refine sq ?_
  refine sh fol [(6,.oslice 0 l4.length 4),(119,.bool (decide ((l4.length:Int)>1000)))] ?_
  refine ihD h (fun c39 h=>?_) (fun c39 h=>?_)
  ·refine sh fol [(4,.nilslice),(5,.i 5)] ?_
   refine Goes.ret ?_
   obtain rfl:=si h
   exact(gw2 [.nilslice,.i 5] (FzW.tuple (qg.cons (FzW.nilv (E:=qa)) (qg.cons (FzW.still tI) qg.nil))))
  ·refine Goes.skip ?_
   refine sq ?_
   obtain⟨r40,e_r40,h⟩:=bnd h
   refine sq (gr fol [1] [(6,.oslice 0 l4.length 4),(122,.bool (!decide (r40=0)))] (ac (hs (.call 60 [.oslice 0 l4.length 4] (kA l4 []) [0] [vl qa l4] (.i r40)) (vH (FzL.cons (Fz.os (E:=qa) rfl rfl (nl rfl)) FzL.nil) (vJ N l4 e_r40) tI rfl)) az) ?_)
   refine ihB h (fun c41 h=>?_) (fun c41 h=>?_)
   ·refine sh fol kAc ?_
    refine Goes.ret ?_
    obtain rfl:=si h
    exact(gw2 [.nilslice,.i 29] (FzW.tuple (qg.cons (FzW.nilv (E:=qa)) (qg.cons (FzW.still tI) qg.nil))))
   ·refine Goes.skip ?_
    refine sh fol [(4,.oslice 0 l4.length 4),(5,.i 0)] ?_
    refine Goes.ret ?_
    obtain rfl:=si h
    exact(gw2 [.oslice 0 l4.length 4,.i 0] (FzW.tuple (qg.cons (FzW.fz (Fz.os (E:=qa) rfl rfl (nl rfl))) (qg.cons (FzW.still tI) qg.nil))))
 ·try dsimp only at h
  obtain rfl:=si h
  exact hret
def qz (l:List qb):Nat→(List qj)→Int→Option (List qj)
 |0,_,_=>none
 |K+1,l1,n2=>
  if n2<(l.length:Int)then
  (((if n2=0 then
  some true
  else
  (idx l n2).bind fun x9=>
  (idx l (w64 (n2-1))).bind fun x10=>
  some (!(x9.Desk==x10.Desk)):Option Bool).bind fun b11=>
  ((if b11=true then
  (idx l n2).bind fun x16=>
  (app 24 l1 [(⟨x16.Desk,0⟩:qj)]).bind fun l17=>
  some l17
  else
  some l1:Option (List qj))).bind fun l13=>
  (idx l n2).bind fun x18=>
  (idx l13 (w64 ((l13.length:Int)-1))).bind fun x19=>
  if x18.Number=(w64 (x19.Number+1))then
  (put l13 (w64 ((l13.length:Int)-1)) (⟨x19.Desk,w64 (x19.Number+1)⟩:qj)).bind fun l21=>
  some l21
  else
  some l13:Option (List qj))).bind fun l6=>
  qz l K l6 (w64 (n2+1))
  else
  some l1
def vE (N:Nat) (l:List qb):Option (List qj):=
 (qz l N ([]:List qj) 0).bind fun l3=>
 some l3
theorem qcy (N:Nat) (l:List qb) {res:List qj} (h:vE N l=some res):qc Tryz.prog (.fn 72) [vl qa l] [] (vl qf res) []:=by
 unfold vE at h
 refine Goes.fnW Tryz.func72 rfl rfl (m:=61) rfl (rs:=[.tmp 2]) rfl (l:=(kC l [])) rfl ?_
 refine sh fol (kC l []) ?_
 refine sh fol (kC l [(3,.nilslice)]) ?_
 refine sq ?_
 refine sh fol (kC l [(3,.nilslice),(4,.i 0)]) ?_
 refine Goes.block ?_
 obtain⟨r4,g4,h⟩:=bnd h
 refine Goes.imp (Q:=fun x s'=>(x= .exit 0∧ ∃l3,l3=r4∧Sub s' (ofG 61 [(3,.gslice 0 l3.length 2)],(kE l3 [])))) ?_ ?_
 ·refine Goes.sub (s':=(ofG 61 (kC l [(3,.gslice 0 ([]:List qj).length 2),(4,.i 0)]),kAX)) (Sub.norm [] [none] rfl rfl (.keep (.same (qd qa _)) (.keep .nil (.keep (.same nI) .nil))) (.fresh .nil)) ?_
  refine Goes.loopS (fun M s=> ∃(l1:List qj) (n2:Int),s=(ofG 61 (kC l (kQ l1 n2 [])),(kE l1 []))∧qz l M l1 n2=some r4) ?_ (m:=N) ⟨_,_,rfl,g4⟩
  rintro M s ⟨l1,n2,rfl,g4⟩
  cases M with
  |zero=>simp only[qz]at g4;cases g4
  |succ M=>
   rw[qz]at g4
   refine sq ?_
   refine sh fol (kC l (kQ l1 n2 [(9,.bool (decide (n2<(l.length:Int))))])) ?_
   refine ihD g4 (fun c5 g4=>?_) (fun c5 g4=>?_)
   ·refine Goes.skip ?_
    refine sq ?_
    obtain⟨r7,g7,g4⟩:=bnd g4
    refine Goes.imp (Q:=fun x s'=>(x= .normal∧ ∃l6,l6=r7∧Sub s' (ofG 61 (kC l (kQ l6 n2 [])),(kE l6 [])))) ?_ ?_
    ·refine Goes.block ?_
     refine sq ?_
     refine sq ?_
     obtain⟨b11,g_v12,g7⟩:=bnd g7
     refine Goes.cut (s':=(ofG 61 (kC l (kQ l1 n2 [(27,.bool b11)])),(kE l1 []))) ?_ ?_
     ·rcases wyD g_v12 with⟨c8,g_v12⟩|⟨c8,g_v12⟩
      ·obtain rfl:=si g_v12
       exact tr fol [2] (kC l (kQ l1 n2 [(27,.bool true)])) (ac (gw c8) az)
      ·obtain⟨x9,e_x9,g_v12⟩:=bnd g_v12
       obtain⟨x10,e_x10,g_v12⟩:=bnd g_v12
       obtain rfl:=si g_v12
       exact tr fol [2,5,7,11,13] (kC l (kQ l1 n2 [(27,.bool (!(x9.Desk==x10.Desk)))])) (ac (gw c8) (ac (iv jI qa e_x9) (ac (lv 0 ce9 qa e_x9 rfl) (ac (iv jI qa e_x10) (ac (lv 0 ce9 qa e_x10 rfl) az)))))
     obtain⟨r14,g14,g7⟩:=bnd g7
     refine Goes.imp (Q:=fun x s'=>(x= .normal∧ ∃l13,l13=r14∧Sub s' (ofG 61 (kC l (kQ l13 n2 [])),(kE l13 [])))) ?_ ?_
     ·refine ihB g14 (fun c15 g14=>?_) (fun c15 g14=>?_)
      ·obtain⟨x16,e_x16,g14⟩:=bnd g14
       obtain⟨l17,e_l17,g14⟩:=bnd g14
       refine gq fol [3,5,8] (kC l [(3,.gslice 2 l17.length 2),(4,.i n2)]) (.dead:: .cells [.str x16.Desk,.i 0]::(kE l17 [])) (ac (iv jI qa e_x16) (ac (lv 0 ce9 qa e_x16 rfl) (ac (hs (.run [0,1] (zA Tryz.prog [100,100] (.gslice 0 l1.length 2) (.slice 1 0 1 1 2)) (kE l1 [.cells [.str x16.Desk,.i 0]]) (.gslice 2 l17.length 2) (.dead:: .cells [.str x16.Desk,.i 0]::(kE l17 [])) true) (ji qdN (E:=qf) rfl (qaV (E:=qf) (ys:=[(⟨x16.Desk,0⟩:qj)]) rfl rfl rfl rfl) (qbI (E:=qf) (l:=l1) rfl rfl rfl e_l17 rfl))) az))) ?_
       obtain rfl:=si g14
       exact⟨rfl,_,rfl,(Sub.norm [] [some 2] rfl rfl (.keep (.same (qd qa _)) (.keep (.gslice rfl) (.keep (.same nI) .nil))) (.ks .nil))⟩
      ·refine Goes.skip ?_
       obtain rfl:=si g14
       exact⟨rfl,_,rfl,(Sub.keep [0,3,4] rfl rfl)⟩
     rintro x s' ⟨rfl,l13,rfl,hsub⟩
     refine Goes.sub hsub ?_
     refine sh fol (kC l (kQ l13 n2 (kAY (w64 ((l13.length:Int)-1))))) ?_
     obtain⟨x18,e_x18,g7⟩:=bnd g7
     obtain⟨x19,e_x19,g7⟩:=bnd g7
     refine sq (gr fol [2,4,7,9] (kC l (kQ l13 n2 [(5,.i (w64 ((l13.length:Int)-1))),(51,.bool (decide (x18.Number=(w64 (x19.Number+1)))))])) (ac (iv jI qa e_x18) (ac (lv 1 ce3 qa e_x18 rfl) (ac (hs (.done (.opt (ql Tryz.prog 100 (.gslice 0 l13.length 2) (.i (w64 ((l13.length:Int)-1))))) (.ptr 0 ((w64 ((l13.length:Int)-1):Int).toNat*2+0))) (qi8 qdN e_x19)) (ac (hs (.run [0] (jc Tryz.prog 3 (.ptr 0 ((w64 ((l13.length:Int)-1):Int).toNat*2+1))) (kE l13 []) (.i x19.Number) (kE l13 []) false) (qda ce3 (E:=qf) (l:=l13) rfl rfl e_x19 (nl rfl) rfl)) az)))) ?_)
     refine ihD g7 (fun c20 g7=>?_) (fun c20 g7=>?_)
     ·obtain⟨l21,e_l21,g7⟩:=bnd g7
      refine gq fol [2,4,6,8] (kC l (kQ l13 n2 [])) (kE l21 []) (ac (hs (.done (.opt (ql Tryz.prog 100 (.gslice 0 l13.length 2) (.i (w64 ((l13.length:Int)-1))))) (.ptr 0 ((w64 ((l13.length:Int)-1):Int).toNat*2+0))) (qi8 qdN e_x19)) (ac (hs (.run [0] (jc Tryz.prog 3 (.ptr 0 ((w64 ((l13.length:Int)-1):Int).toNat*2+1))) (kE l13 []) (.i x19.Number) (kE l13 []) false) (qda ce3 (E:=qf) (l:=l13) rfl rfl e_x19 (nl rfl) rfl)) (ac (hs (.done (.opt (ql Tryz.prog 100 (.gslice 0 l13.length 2) (.i (w64 ((l13.length:Int)-1))))) (.ptr 0 ((w64 ((l13.length:Int)-1):Int).toNat*2+0))) (qi8 qdN e_x19)) (ac (hs (.run [0] (qau Tryz.prog 3 (.ptr 0 ((w64 ((l13.length:Int)-1):Int).toNat*2+1)) (.i (w64 (x19.Number+1)))) (kE l13 []) .undef (kE l21 []) true) (qhe (E:=qf) (l:=l13) (y:=(⟨x19.Desk,w64 (x19.Number+1)⟩:qj)) rfl (show _=some 1 by kernel_rfl) rfl e_x19 rfl rfl rfl rfl rfl e_l21 rfl)) az)))) ?_
      obtain rfl:=si g7
      exact⟨rfl,_,rfl,((show Sub (ofG 61 (kC l (kQ l13 n2 [])),(kE l21 [])) (ofG 61 (kC l (kQ l21 n2 [])),(kE l21 []))from(Sub.norm [] [some 0] rfl rfl (.keep (.same (qd qa _)) (.keep (.gsliceE rfl (qcQ e_l21)) (.keep (.same nI) .nil))) (.ks .nil))).trans (Sub.refl _))⟩
     ·refine Goes.skip ?_
      obtain rfl:=si g7
      exact⟨rfl,_,rfl,(Sub.keep [0,3,4] rfl rfl)⟩
    rintro x s' ⟨rfl,l6,rfl,hsub⟩
    refine Goes.sub hsub ?_
    refine gh fol (kC l (kQ l6 (w64 (n2+1)) [])) ?_
    exact⟨M,(ofG 61 (kC l (kQ l6 (w64 (n2+1)) [])),(kE l6 [])),Nat.lt_succ_self _,(Sub.refl _),_,_,rfl,g4⟩
   ·refine Goes.exit ?_
    obtain rfl:=si g4
    exact⟨rfl,_,rfl,(Sub.keep [3] rfl rfl)⟩
 rintro x s' ⟨rfl,l3,rfl,hsub⟩
 refine Goes.sub hsub ?_
 refine sh fol [(2,.gslice 0 l3.length 2)] ?_
 refine Goes.ret ?_
 obtain rfl:=si h
 exact(gw2 [.gslice 0 l3.length 2] (FzW.fz (Fz.gs (E:=qf) rfl rfl (nl rfl))))
end Go.Av
